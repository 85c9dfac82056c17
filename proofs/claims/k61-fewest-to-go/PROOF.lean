import PyProof.Rows.All
import Wide.All
import OpenK.AllK
import Wide.FinOn
import HandS.ForMost
import HandS.Evl
import HandS.Walk
import HandS.IsInst
import HandS.TupAny
import HandS.TupMul
import HandS.Zip
import HandS.Wide
import HandS.WideBits
import HandS.Deep
import HandS.Flow
import HandS.Sort
import HandS.SortOrd
import HandS.Gcd
import HandS.Records
import HandS.Conv
import KE.DatumOrd
import KE.SortData
import HandS.Comp
import HandS.TryOnly
import HandS.Style
import PySem.Challenge.RW_saltbysteps_k61_fewest_that_must_go
set_option Elab.async false
set_option linter.all false
set_option maxRecDepth 100000
set_option maxHeartbeats 16000000
-- Gw0
/-! Gw0: what a slot holds, owned lists, judgements on readings. -/
namespace Gw
open PySem PySem.Spec PyProof.Rows L2
abbrev Ex := Evl.Ex
abbrev FR := PySem.W.Frag

/-- no list, no tuple is longer -/
abbrev LIM : Nat := 100000
theorem lim_sz {n : Nat} (h : n ≤ LIM) : n ≤ sizeLine := Nat.le_trans h (by decide)
theorem lim_lt {n : Nat} (h : n < LIM) : n < sizeLine := Nat.lt_of_lt_of_le h (by decide)
/-! ### data over the abstract heap -/
mutual
inductive Dq (K : FR) (H : Hp) : V → PyData → Prop
  | non : Dq K H .non .none
  | bl (b : Bool) : Dq K H (.bl b) (.bool b)
  | int (i : Int) : Dq K H (.int i) (.int i)
  | str (x : Str) : Dq K H (.str x) (.str x)
  | lst {a : Addr} {xs : List V} {ds : List PyData} : H a = some (.lst xs) → xs.length ≤ LIM → DqAll K H xs ds → Dq K H (.ref a) (.list ds)
  | tup {a : Addr} {xs : List V} {ds : List PyData} : SqT K H a xs → xs.length ≤ LIM → DqAll K H xs ds → Dq K H (.ref a) (.tuple ds)
inductive DqAll (K : FR) (H : Hp) : List V → List PyData → Prop
  | nil : DqAll K H [] []
  | cons {v : V} {vs : List V} {d : PyData} {ds : List PyData} : Dq K H v d → DqAll K H vs ds → DqAll K H (v :: vs) (d :: ds)
end

section
variable {K : FR} {F F' F1 F2 H H' H1 H2 : Hp} {v : V} {vs ws : List V} {d : PyData} {ds es : List PyData}
mutual
theorem Dq.mono (e : Ex F F') : ∀ (d : PyData) (v : V), Dq K F v d → Dq K F' v d
  | .none, _, h => by cases h; exact .non
  | .bool b, _, h => by cases h; exact .bl b
  | .int i, _, h => by cases h; exact .int i
  | .str x, _, h => by cases h; exact .str x
  | .list ds, _, h => by
    cases h with
    | lst hs hl ha => exact .lst (e _ _ hs) hl (DqAll.mono e ds _ ha)
  | .tuple ds, _, h => by
    cases h with
    | tup hs hl ha => exact .tup (Evl.ex_t e hs) hl (DqAll.mono e ds _ ha)
  | .dict _, _, h => by cases h
theorem DqAll.mono (e : Ex F F') : ∀ (ds : List PyData) (vs : List V), DqAll K F vs ds → DqAll K F' vs ds
  | [], _, h => by cases h; exact .nil
  | d :: ds, _, h => by
    cases h with
    | cons h1 h2 => exact .cons (Dq.mono e d _ h1) (DqAll.mono e ds _ h2)
end
theorem Dq.up (h : Dq K F v d) (e : Ex F F') : Dq K F' v d := Dq.mono e d v h
theorem DqAll.up (h : DqAll K F vs ds) (e : Ex F F') : DqAll K F' vs ds := DqAll.mono e ds vs h
mutual
theorem Dq.dpM : ∀ (d : PyData) (v : V), Dq K F v d → Dp K F v d
  | .none, _, h => by cases h; exact .non
  | .bool b, _, h => by cases h; exact .bl b
  | .int i, _, h => by cases h; exact .int i
  | .str x, _, h => by cases h; exact .str x
  | .list ds, _, h => by
    cases h with
    | lst hs hl ha => exact .lst (.inl (.inl hs)) (DqAll.dpM ds _ ha)
  | .tuple ds, _, h => by
    cases h with
    | tup hs hl ha => exact .tup hs (DqAll.dpM ds _ ha)
  | .dict _, _, h => by cases h
theorem DqAll.dpM : ∀ (ds : List PyData) (vs : List V), DqAll K F vs ds → DpAll K F vs ds
  | [], _, h => by cases h; exact .nil
  | d :: ds, _, h => by
    cases h with
    | cons h1 h2 => exact .cons (Dq.dpM d _ h1) (DqAll.dpM ds _ h2)
end
theorem Dq.dp (h : Dq K F v d) : Dp K F v d := Dq.dpM d v h
theorem DqAll.length : ∀ {vs : List V} {ds : List PyData}, DqAll K F vs ds → vs.length = ds.length
  | _, _, .nil => rfl
  | _, _, .cons _ t => by simp [DqAll.length t]
theorem DqAll.get : ∀ {vs : List V} {ds : List PyData} {i : Nat} {d : PyData}, DqAll K F vs ds → ds[i]? = some d → ∃ v, vs[i]? = some v ∧ Dq K F v d
  | _, _, _, _, .nil, h => by simp at h
  | _, _, 0, _, .cons r _, h => by simp at h; subst h; exact ⟨_, rfl, r⟩
  | _, _, i + 1, _, .cons _ t, h => by
    obtain ⟨v, h1, h2⟩ := DqAll.get (i := i) t (by simpa using h)
    exact ⟨v, by simpa using h1, h2⟩
theorem DqAll.get' : ∀ {vs : List V} {ds : List PyData} {i : Nat} {v : V}, DqAll K F vs ds → vs[i]? = some v → ∃ d, ds[i]? = some d ∧ Dq K F v d
  | _, _, _, _, .nil, h => by simp at h
  | _, _, 0, _, .cons r _, h => by simp at h; subst h; exact ⟨_, rfl, r⟩
  | _, _, i + 1, _, .cons _ t, h => by
    obtain ⟨v, h1, h2⟩ := DqAll.get' (i := i) t (by simpa using h)
    exact ⟨v, by simpa using h1, h2⟩
theorem DqAll.app : ∀ {vs ws : List V} {ds es : List PyData}, DqAll K F vs ds → DqAll K F ws es → DqAll K F (vs ++ ws) (ds ++ es)
  | _, _, _, _, .nil, h => h
  | _, _, _, _, .cons r t, h => .cons r (DqAll.app t h)
theorem DqAll.one (h : Dq K F v d) : DqAll K F [v] [d] := .cons h .nil
theorem DqAll.take : ∀ {vs : List V} {ds : List PyData} (n : Nat), DqAll K F vs ds → DqAll K F (vs.take n) (ds.take n)
  | _, _, 0, _ => .nil
  | _, _, _ + 1, .nil => .nil
  | _, _, n + 1, .cons r t => .cons r (DqAll.take n t)
theorem DqAll.drop : ∀ {vs : List V} {ds : List PyData} (n : Nat), DqAll K F vs ds → DqAll K F (vs.drop n) (ds.drop n)
  | _, _, 0, h => h
  | _, _, _ + 1, .nil => .nil
  | _, _, n + 1, .cons _ t => DqAll.drop n t
theorem DqAll.set : ∀ {vs : List V} {ds : List PyData} (n : Nat), DqAll K F vs ds → Dq K F v d → DqAll K F (vs.set n v) (ds.set n d)
  | _, _, _, .nil, _ => .nil
  | _, _, 0, .cons _ t, h => .cons h t
  | _, _, n + 1, .cons r t, h => .cons r (DqAll.set n t h)
theorem DqAll.rev : ∀ {vs : List V} {ds : List PyData}, DqAll K F vs ds → DqAll K F vs.reverse ds.reverse
  | _, _, .nil => .nil
  | _, _, .cons r t => by
    rw [List.reverse_cons, List.reverse_cons]
    exact DqAll.app (DqAll.rev t) (.one r)
theorem DqAll.dropLast : ∀ {vs : List V} {ds : List PyData}, DqAll K F vs ds → DqAll K F vs.dropLast ds.dropLast := fun {vs ds} h => by
  rw [List.dropLast_eq_take, List.dropLast_eq_take, h.length]
  exact h.take _
theorem dq_ints : ∀ {vs : List V} {ns : List Int}, DqAll K F vs (ns.map PyData.int) → vs = ns.map V.int
  | _, [], .nil => rfl
  | _, _ :: _, .cons r t => by cases r; rw [dq_ints t]; rfl
theorem ints_dq : ∀ (ns : List Int), DqAll K F (ns.map V.int) (ns.map PyData.int)
  | [] => .nil
  | n :: ns => .cons (.int n) (ints_dq ns)
theorem dq_bls : ∀ {vs : List V} {ns : List Bool}, DqAll K F vs (ns.map PyData.bool) → vs = ns.map V.bl
  | _, [], .nil => rfl
  | _, _ :: _, .cons r t => by cases r; rw [dq_bls t]; rfl
end

/-! ### slots -/
inductive Slot where
  /-- nothing is known -/
  | u
  /-- data -/
  | d (x : PyData)
  /-- a list of its own, at q (where that is told) -/
  | l (q : Option Addr) (ds : List PyData)
  /-- the script -/
  | s (ns : List Int)
  /-- a range -/
  | g (lo hi : Int)

/-- what a slot that is no list of its own says of a value -/
def SV (K : FR) (F : Hp) (v : V) : Slot → Prop
  | .u => True
  | .d x => Dq K F v x
  | .l _ _ => False
  | .s ns => ∃ a, v = .ref a ∧ SqL K F a (ns.map V.int)
  | .g lo hi => ∃ a, v = .ref a ∧ F a = some (.rng lo hi)

structure Own (K : FR) (F : Hp) (σ : L2.St) (H : Hp) (env : List Slot) : Prop where
  len : σ.length = env.length
  ex : Ex F H
  dat : ∀ (i : Nat) (x : PyData), env[i]? = some (.d x) → ∃ v, σ[i]? = some (some v) ∧ Dq K F v x
  scr : ∀ (i : Nat) (ns : List Int), env[i]? = some (.s ns) → ∃ a, σ[i]? = some (some (.ref a)) ∧ SqL K F a (ns.map V.int)
  rng : ∀ (i : Nat) (lo hi : Int), env[i]? = some (.g lo hi) → ∃ a, σ[i]? = some (some (.ref a)) ∧ F a = some (.rng lo hi)
  lst : ∀ (i : Nat) (q : Option Addr) (ds : List PyData), env[i]? = some (.l q ds) → ∃ p vs, σ[i]? = some (some (.ref p)) ∧ (∀ a, q = some a → a = p) ∧ F p = none ∧ H p = some (.lst vs) ∧ vs.length ≤ LIM ∧ DqAll K F vs ds
  inj : ∀ (i j : Nat) (q q' : Option Addr) (ds es : List PyData) (p : Addr), env[i]? = some (.l q ds) → env[j]? = some (.l q' es) → σ[i]? = some (some (.ref p)) → σ[j]? = some (some (.ref p)) → i = j

/-- the addresses of the lists of its own -/
def ow (σ : L2.St) (env : List Slot) (a : Addr) : Prop := ∃ (i : Nat) (q : Option Addr) (ds : List PyData), env[i]? = some (.l q ds) ∧ σ[i]? = some (some (.ref a))

structure Rn (K : FR) (σ : L2.St) (env : List Slot) (F H : Hp) (σ' : L2.St) (env' : List Slot) (F' H' : Hp) : Prop where
  exF : Ex F F'
  new : ∀ a o, F' a = some o → F a = some o ∨ ow σ env a ∨ H a = none
  keep : ∀ a o, H a = some o → ¬ ow σ env a → H' a = some o
  dom : ∀ a o, H a = some o → ∃ o', H' a = some o'
  ows : ∀ a, ow σ' env' a → ow σ env a ∨ H a = none
  own : Own K F' σ' H' env'

section
variable {K : FR} {σ σ1 σ2 : L2.St} {env env1 env2 : List Slot} {F F1 F2 H H1 H2 : Hp}
theorem Rn.refl (o : Own K F σ H env) : Rn K σ env F H σ env F H :=
  ⟨Evl.Ex.refl F, fun _ _ h => .inl h, fun _ _ h _ => h, fun _ o h => ⟨o, h⟩, fun _ h => .inl h, o⟩
theorem Rn.trans (r : Rn K σ env F H σ1 env1 F1 H1) (t : Rn K σ1 env1 F1 H1 σ2 env2 F2 H2) : Rn K σ env F H σ2 env2 F2 H2 where
  exF := r.exF.trans t.exF
  new := fun a o h => by
    rcases t.new a o h with h1 | h1 | h1
    · exact r.new a o h1
    · exact .inr (r.ows a h1)
    · right; right
      cases h2 : H a with
      | none => rfl
      | some u =>
        obtain ⟨w, hw⟩ := r.dom a u h2
        rw [hw] at h1; cases h1
  keep := fun a o h n => by
    refine t.keep a o (r.keep a o h n) fun q => ?_
    rcases r.ows a q with q | q
    · exact n q
    · rw [h] at q; cases q
  dom := fun a o h => by
    obtain ⟨w, hw⟩ := r.dom a o h
    exact t.dom a w hw
  ows := fun a q => by
    rcases t.ows a q with q | q
    · exact r.ows a q
    · right
      cases h2 : H a with
      | none => rfl
      | some u =>
        obtain ⟨w, hw⟩ := r.dom a u h2
        rw [hw] at q; cases q
  own := t.own
end

/-! ### judgements -/
variable (K : FR)
def EV (te : TE) (env : List Slot) (d : PyData) (env' : List Slot) : Prop :=
  ∀ F σ H, Own K F σ H env → ∀ Q : VK, (∀ F' v H', Rn K σ env F H σ env' F' H' → Dq K F' v d → Q v H') → te σ H Q
/-- a new list -/
def EF (te : TE) (env : List Slot) (ds : List PyData) (env' : List Slot) : Prop :=
  ∀ F σ H, Own K F σ H env → ∀ Q : VK, (∀ F' p vs H', Rn K σ env F H σ env' F' H' → F' p = none → H p = none → H' p = some (.lst vs) → vs.length ≤ LIM → DqAll K F' vs ds → ¬ ow σ env' p → Q (.ref p) H') → te σ H Q
def ET (tt : TT) (env : List Slot) (b : Bool) (env' : List Slot) : Prop :=
  ∀ F σ H, Own K F σ H env → ∀ Q : Bool → Hp → Prop, (∀ F' H', Rn K σ env F H σ env' F' H' → Q b H') → tt σ H Q
def SVs (F : Hp) : List V → List Slot → Prop := Paired fun v s => SV K F v s
def EA (ta : TA) (env : List Slot) (ss : List Slot) (env' : List Slot) : Prop :=
  ∀ F σ H, Own K F σ H env → ∀ Q : List V → Hp → Prop, (∀ F' vs H', Rn K σ env F H σ env' F' H' → SVs K F' vs ss → Q vs H') → ta σ H Q
def EO (to : TO) (env : List Slot) (o : Option Int) (env' : List Slot) : Prop :=
  ∀ F σ H, Own K F σ H env → ∀ Q : Option Int → Hp → Prop, (∀ F' H', Rn K σ env F H σ env' F' H' → Q o H') → to σ H Q
/-- a target takes data -/
def EG (tg : TG) (env : List Slot) (d : PyData) (env' : List Slot) (js : List Nat) : Prop :=
  ∀ F σ H v, Own K F σ H env → Dq K F v d → ∀ Q : L2.St → Hp → Prop, (∀ σ', Rn K σ env F H σ' env' F H → ((∀ (i : Nat), i ∉ js → σ'[i]? = σ[i]?) ∧ σ'.length = σ.length) → Q σ' H) → tg v σ H Q
def EGs (tg : TGs) (env : List Slot) (ds : List PyData) (env' : List Slot) (js : List Nat) : Prop :=
  ∀ F σ H vs, Own K F σ H env → DqAll K F vs ds → ∀ Q : L2.St → Hp → Prop, (∀ σ', Rn K σ env F H σ' env' F H → ((∀ (i : Nat), i ∉ js → σ'[i]? = σ[i]?) ∧ σ'.length = σ.length) → Q σ' H) → tg vs σ H Q

/-- what a def hands back -/
inductive Rs where
  | d (x : PyData)
  | l (ds : List PyData)
def RVl (σ : L2.St) (env : List Slot) (H : Hp) (σ' : L2.St) (env' : List Slot) (F' H' : Hp) (v : V) : Rs → Prop
  | .d x => Dq K F' v x
  | .l ds => ∃ p vs, v = .ref p ∧ F' p = none ∧ (ow σ env p ∨ H p = none) ∧ ¬ ow σ' env' p ∧ H' p = some (.lst vs) ∧ vs.length ≤ LIM ∧ DqAll K F' vs ds

structure Po where
  nx : List Slot → Prop
  rt : Rs → List Slot → Prop
  bk : List Slot → Prop := fun _ => False
  ct : List Slot → Prop := fun _ => False
structure Ends' (σ : L2.St) (env : List Slot) (F H : Hp) (P : Po) (D : Ends) : Prop where
  nx : ∀ env' F' σ' H', P.nx env' → Rn K σ env F H σ' env' F' H' → D.nx σ' H'
  bk : ∀ env' F' σ' H', P.bk env' → Rn K σ env F H σ' env' F' H' → D.bk σ' H'
  ct : ∀ env' F' σ' H', P.ct env' → Rn K σ env F H σ' env' F' H' → D.ct σ' H'
  rt : ∀ r env' F' v σ' H', P.rt r env' → Rn K σ env F H σ' env' F' H' → RVl K σ env H σ' env' F' H' v r → D.rt v H'
def BV (ts : TS) (env : List Slot) (P : Po) : Prop :=
  ∀ F σ H, Own K F σ H env → ∀ D, Ends' K σ env F H P D → ts D σ H
end Gw

-- Gw1
/-! Gw1: expressions. -/
namespace Gw
open PySem PySem.Spec PyProof.Rows L2

/-! ### typed data -/
class Enc (α : Type) where
  enc : α → PyData
open Enc (enc)
instance : Enc Int := ⟨PyData.int⟩
instance : Enc Bool := ⟨PyData.bool⟩
instance : Enc Unit := ⟨fun _ => .none⟩
instance : Enc Str := ⟨PyData.str⟩
instance {α : Type} [Enc α] : Enc (Option α) := ⟨fun o => o.elim .none enc⟩
instance {α β : Type} [Enc α] [Enc β] : Enc (α × β) := ⟨fun p => .tuple [enc p.1, enc p.2]⟩
structure T3 (α β γ : Type) where
  a : α
  b : β
  c : γ
  deriving DecidableEq
structure T4 (α β γ δ : Type) where
  a : α
  b : β
  c : γ
  d : δ
  deriving DecidableEq
/-- a list that is not changed any more -/
structure Ls (α : Type) where
  l : List α
  deriving DecidableEq
/-- a list of two, of three parts -/
structure L2' (α β : Type) where
  a : α
  b : β
  deriving DecidableEq
structure L3' (α β γ : Type) where
  a : α
  b : β
  c : γ
  deriving DecidableEq
instance {α β γ : Type} [Enc α] [Enc β] [Enc γ] : Enc (T3 α β γ) := ⟨fun p => .tuple [enc p.a, enc p.b, enc p.c]⟩
instance {α β γ δ : Type} [Enc α] [Enc β] [Enc γ] [Enc δ] : Enc (T4 α β γ δ) := ⟨fun p => .tuple [enc p.a, enc p.b, enc p.c, enc p.d]⟩
instance {α : Type} [Enc α] : Enc (List α) := ⟨fun l => .tuple (l.map enc)⟩
instance {α : Type} [Enc α] : Enc (Ls α) := ⟨fun l => .list (l.l.map enc)⟩
instance {α β : Type} [Enc α] [Enc β] : Enc (L2' α β) := ⟨fun p => .list [enc p.a, enc p.b]⟩
instance {α β γ : Type} [Enc α] [Enc β] [Enc γ] : Enc (L3' α β γ) := ⟨fun p => .list [enc p.a, enc p.b, enc p.c]⟩
abbrev encs {α : Type} [Enc α] (l : List α) : List PyData := l.map enc

/-- equality of data of one type, never None, shallow -/
class EncEq (α : Type) [Enc α] [DecidableEq α] : Prop where
  eqv : ∀ a b : α, PyData.eqv (enc a) (enc b) = decide (a = b)
  lay : ∀ a : α, PyData.canLay0 (enc a) = true
class EncDep (α : Type) [Enc α] (n : outParam Nat) : Prop where
  dep : ∀ a : α, PyData.depth (enc a) ≤ n
class EncSome (α : Type) [Enc α] : Prop where
  som : ∀ a : α, enc a ≠ PyData.none
instance : EncEq Int := ⟨fun a b => by simp [enc, PyData.eqv, BEq.beq], fun _ => by simp [enc, PyData.canLay0]⟩
instance : EncEq Bool := ⟨fun a b => by cases a <;> cases b <;> rfl, fun _ => by simp [enc, PyData.canLay0]⟩
instance : EncEq Unit := ⟨fun a b => by cases a; cases b; simp [enc, PyData.eqv], fun _ => by simp [enc, PyData.canLay0]⟩
instance : EncDep Int 0 := ⟨fun _ => by simp [enc, PyData.depth]⟩
instance : EncDep Bool 0 := ⟨fun _ => by simp [enc, PyData.depth]⟩
instance : EncDep Unit 0 := ⟨fun _ => by simp [enc, PyData.depth]⟩
instance : EncDep Str 0 := ⟨fun _ => by simp [enc, PyData.depth]⟩
instance : EncSome Int := ⟨fun _ h => by cases h⟩
instance : EncSome Bool := ⟨fun _ h => by cases h⟩
instance : EncSome Str := ⟨fun _ h => by cases h⟩
theorem dec_and {p q r : Prop} [Decidable p] [Decidable q] [Decidable r] (h : r ↔ p ∧ q) : (decide p && decide q) = decide r := by
  by_cases hp : p <;> by_cases hq : q <;> simp [h, hp, hq]
theorem eqvAll2 {a b c d : PyData} : PyData.eqvAll [a, b] [c, d] = (PyData.eqv a c && PyData.eqv b d) := by simp [PyData.eqvAll]
section
variable {α β γ δ : Type} [Enc α] [Enc β] [Enc γ] [Enc δ]
instance : EncSome (α × β) := ⟨fun _ h => by cases h⟩
instance : EncSome (T3 α β γ) := ⟨fun _ h => by cases h⟩
instance : EncSome (T4 α β γ δ) := ⟨fun _ h => by cases h⟩
instance : EncSome (List α) := ⟨fun _ h => by cases h⟩
instance : EncSome (Ls α) := ⟨fun _ h => by cases h⟩
instance : EncSome (L2' α β) := ⟨fun _ h => by cases h⟩
instance : EncSome (L3' α β γ) := ⟨fun _ h => by cases h⟩
instance {n m : Nat} [EncDep α n] [EncDep β m] : EncDep (α × β) (max n m + 1) := ⟨fun p => by
  have h1 := EncDep.dep p.1
  have h2 := EncDep.dep p.2
  simp [enc, PyData.depth, PyData.depthAll] at *
  omega⟩
instance {n m k : Nat} [EncDep α n] [EncDep β m] [EncDep γ k] : EncDep (T3 α β γ) (max n (max m k) + 1) := ⟨fun p => by
  have h1 := EncDep.dep p.a
  have h2 := EncDep.dep p.b
  have h3 := EncDep.dep p.c
  simp [enc, PyData.depth, PyData.depthAll] at *
  omega⟩
instance {n m k j : Nat} [EncDep α n] [EncDep β m] [EncDep γ k] [EncDep δ j] : EncDep (T4 α β γ δ) (max n (max m (max k j)) + 1) := ⟨fun p => by
  have h1 := EncDep.dep p.a
  have h2 := EncDep.dep p.b
  have h3 := EncDep.dep p.c
  have h4 := EncDep.dep p.d
  simp [enc, PyData.depth, PyData.depthAll] at *
  omega⟩
instance {n m : Nat} [EncDep α n] [EncDep β m] : EncDep (L2' α β) (max n m + 1) := ⟨fun p => by
  have h1 := EncDep.dep p.a
  have h2 := EncDep.dep p.b
  simp [enc, PyData.depth, PyData.depthAll] at *
  omega⟩
theorem depthAll_le {n : Nat} [EncDep α n] : ∀ l : List α, PyData.depthAll (l.map enc) ≤ n
  | [] => by simp [PyData.depthAll]
  | a :: l => by
    have h1 := EncDep.dep a
    have h2 := depthAll_le l
    simp [PyData.depthAll] at *
    omega
instance {n : Nat} [EncDep α n] : EncDep (List α) (n + 1) := ⟨fun l => by
  have := depthAll_le l
  simp [enc, PyData.depth] at *
  omega⟩
instance {n : Nat} [EncDep α n] : EncDep (Ls α) (n + 1) := ⟨fun l => by
  have := depthAll_le l.l
  simp [enc, PyData.depth] at *
  omega⟩
instance {n : Nat} [EncDep α n] : EncDep (Option α) n := ⟨fun o => by
  cases o with
  | none => simp [enc, PyData.depth]
  | some a => exact EncDep.dep a⟩
variable [DecidableEq α] [DecidableEq β] [DecidableEq γ] [DecidableEq δ] [EncEq α] [EncEq β] [EncEq γ] [EncEq δ]
instance : EncEq (α × β) := ⟨fun p q => by
  show PyData.eqv (.tuple [enc p.1, enc p.2]) (.tuple [enc q.1, enc q.2]) = _
  simp only [PyData.eqv, PyData.eqvAll, Bool.and_true, EncEq.eqv]
  exact dec_and Prod.ext_iff, fun p => by simp [enc, PyData.canLay0, PyData.canLayAll0, EncEq.lay]⟩
instance : EncEq (T3 α β γ) := ⟨fun p q => by
  show PyData.eqv (.tuple [enc p.a, enc p.b, enc p.c]) (.tuple [enc q.a, enc q.b, enc q.c]) = _
  simp only [PyData.eqv, PyData.eqvAll, Bool.and_true, EncEq.eqv]
  cases p; cases q
  rw [dec_and (r := _ ∧ _) Iff.rfl]
  exact dec_and (by simp), fun p => by simp [enc, PyData.canLay0, PyData.canLayAll0, EncEq.lay]⟩
instance : EncEq (T4 α β γ δ) := ⟨fun p q => by
  show PyData.eqv (.tuple [enc p.a, enc p.b, enc p.c, enc p.d]) (.tuple [enc q.a, enc q.b, enc q.c, enc q.d]) = _
  simp only [PyData.eqv, PyData.eqvAll, Bool.and_true, EncEq.eqv]
  cases p; cases q
  rw [dec_and (r := _ ∧ _) Iff.rfl, dec_and (r := _ ∧ _) Iff.rfl]
  exact dec_and (by simp), fun p => by simp [enc, PyData.canLay0, PyData.canLayAll0, EncEq.lay]⟩
instance : EncEq (L2' α β) := ⟨fun p q => by
  show PyData.eqv (.list [enc p.a, enc p.b]) (.list [enc q.a, enc q.b]) = _
  simp only [PyData.eqv, PyData.eqvAll, Bool.and_true, EncEq.eqv]
  cases p; cases q
  exact dec_and (by simp), fun p => by simp [enc, PyData.canLay0, PyData.canLayAll0, EncEq.lay]⟩
theorem eqvAll_enc : ∀ l m : List α, PyData.eqvAll (l.map enc) (m.map enc) = decide (l = m)
  | [], [] => by simp [PyData.eqvAll]
  | [], _ :: _ => by simp [PyData.eqvAll]
  | _ :: _, [] => by simp [PyData.eqvAll]
  | a :: l, b :: m => by
    simp only [List.map_cons, PyData.eqvAll, EncEq.eqv, eqvAll_enc l m]
    exact dec_and (by simp)
theorem layAll_enc : ∀ l : List α, PyData.canLayAll0 (l.map enc) = true
  | [] => by simp [PyData.canLayAll0]
  | a :: l => by simp [PyData.canLayAll0, EncEq.lay, layAll_enc l]
instance : EncEq (List α) := ⟨fun l m => by
  show PyData.eqv (.tuple (l.map enc)) (.tuple (m.map enc)) = _
  simp only [PyData.eqv]
  exact eqvAll_enc l m, fun l => by
  show PyData.canLay0 (.tuple (l.map enc)) = true
  simp only [PyData.canLay0]
  exact layAll_enc l⟩
instance : EncEq (Ls α) := ⟨fun l m => by
  show PyData.eqv (.list (l.l.map enc)) (.list (m.l.map enc)) = _
  simp only [PyData.eqv]
  rw [eqvAll_enc]
  cases l; cases m
  simp, fun l => by
  show PyData.canLay0 (.list (l.l.map enc)) = true
  simp only [PyData.canLay0]
  exact layAll_enc l.l⟩
theorem eqv_none_l : ∀ d : PyData, d ≠ .none → PyData.eqv .none d = false
  | .none, h => absurd rfl h
  | .bool _, _ => by simp [PyData.eqv]
  | .int _, _ => by simp [PyData.eqv]
  | .str _, _ => by simp [PyData.eqv]
  | .list _, _ => by simp [PyData.eqv]
  | .tuple _, _ => by simp [PyData.eqv]
  | .dict _, _ => by simp [PyData.eqv]
theorem eqv_none_r : ∀ d : PyData, d ≠ .none → PyData.eqv d .none = false
  | .none, h => absurd rfl h
  | .bool _, _ => by simp [PyData.eqv]
  | .int _, _ => by simp [PyData.eqv]
  | .str _, _ => by simp [PyData.eqv]
  | .list _, _ => by simp [PyData.eqv]
  | .tuple _, _ => by simp [PyData.eqv]
  | .dict _, _ => by simp [PyData.eqv]
instance [EncSome α] : EncEq (Option α) := ⟨fun o p => by
  cases o with
  | none =>
    cases p with
    | none => simp [enc, PyData.eqv]
    | some b => simp [enc, eqv_none_l _ (EncSome.som b)]
  | some a =>
    cases p with
    | none => simp [enc, eqv_none_r _ (EncSome.som a)]
    | some b =>
      show PyData.eqv (enc a) (enc b) = _
      rw [EncEq.eqv]
      simp, fun o => by
  cases o with
  | none => simp [enc, PyData.canLay0]
  | some a => exact EncEq.lay a⟩
end
theorem shaped_enc {α : Type} [Enc α] [DecidableEq α] [EncEq α] {n : Nat} [EncDep α n] (h : n ≤ 64) (a : α) : SeqAt.shaped (enc a) = true := by
  show ((enc a).canLay0 && decide ((enc a).depth ≤ 64)) = true
  rw [EncEq.lay, decide_eq_true (Nat.le_trans (EncDep.dep a) h)]
  rfl
theorem isNone_enc {α : Type} [Enc α] [EncSome α] (o : Option α) : (enc o = PyData.none) ↔ o = none := by
  cases o with
  | none => simp [enc]
  | some a => exact ⟨fun h => absurd h (EncSome.som a), fun h => by cases h⟩

/-! ### heaps -/
section
variable {K : FR} {σ σ1 σ2 : L2.St} {env env1 env2 env3 : List Slot} {F F1 F2 H H1 H2 : Hp} {p : Addr} {o : HO}
theorem Own.fresh (w : Own K F σ H env) (hp : H p = none) : F p = none := by
  cases h : F p with
  | none => rfl
  | some u => rw [w.ex p u h] at hp; cases hp
theorem Own.not_ow (w : Own K F σ H env) (hp : H p = none) : ¬ ow σ env p := fun ⟨i, q, ds, h1, h2⟩ => by
  obtain ⟨p', vs, h3, _, _, h4, _⟩ := w.lst i q ds h1
  rw [h2] at h3
  cases h3
  rw [hp] at h4; cases h4
/-- a new object that never changes -/
theorem Own.new (w : Own K F σ H env) (hp : H p = none) (o : HO) : Own K (upd F p o) σ (upd H p o) env where
  len := w.len
  ex := fun a u h => by
    by_cases e : a = p
    · subst e
      rw [upd_same] at h ⊢
      exact h
    · rw [upd_ne e] at h ⊢
      exact w.ex a u h
  dat := fun i x h => by
    obtain ⟨v, h1, h2⟩ := w.dat i x h
    exact ⟨v, h1, h2.up (Evl.Ex.new (w.fresh hp))⟩
  scr := fun i ns h => by
    obtain ⟨a, h1, h2⟩ := w.scr i ns h
    exact ⟨a, h1, Evl.ex_l (Evl.Ex.new (w.fresh hp)) h2⟩
  rng := fun i lo hi h => by
    obtain ⟨a, h1, h2⟩ := w.rng i lo hi h
    exact ⟨a, h1, Evl.Ex.new (w.fresh hp) _ _ h2⟩
  lst := fun i q ds h => by
    obtain ⟨a, vs, h1, h2, h3, h4, h5, h6⟩ := w.lst i q ds h
    have ne : a ≠ p := ne_of_none h4 hp
    exact ⟨a, vs, h1, h2, by rw [upd_ne ne]; exact h3, by rw [upd_ne ne]; exact h4, h5, h6.up (Evl.Ex.new (w.fresh hp))⟩
  inj := w.inj
theorem Rn.imm (w : Own K F σ H env) (hp : H p = none) (o : HO) : Rn K σ env F H σ env (upd F p o) (upd H p o) where
  exF := Evl.Ex.new (w.fresh hp)
  new := fun a u h => by
    by_cases e : a = p
    · subst e; exact .inr (.inr hp)
    · rw [upd_ne e] at h; exact .inl h
  keep := fun a u h _ => Evl.Ex.new hp a u h
  dom := fun a u h => ⟨u, Evl.Ex.new hp a u h⟩
  ows := fun a h => .inl h
  own := w.new hp o
/-- a new object that is its maker's own -/
theorem Own.mine (w : Own K F σ H env) (hp : H p = none) (o : HO) : Own K F σ (upd H p o) env where
  len := w.len
  ex := Evl.Ex.mut w.ex (w.fresh hp)
  dat := w.dat
  scr := w.scr
  rng := w.rng
  lst := fun i q ds h => by
    obtain ⟨a, vs, h1, h2, h3, h4, h5, h6⟩ := w.lst i q ds h
    have ne : a ≠ p := ne_of_none h4 hp
    exact ⟨a, vs, h1, h2, h3, by rw [upd_ne ne]; exact h4, h5, h6⟩
  inj := w.inj
theorem Rn.mut (w : Own K F σ H env) (hp : H p = none) (o : HO) : Rn K σ env F H σ env F (upd H p o) where
  exF := Evl.Ex.refl F
  new := fun a u h => .inl h
  keep := fun a u h _ => Evl.Ex.new hp a u h
  dom := fun a u h => ⟨u, Evl.Ex.new hp a u h⟩
  ows := fun a h => .inl h
  own := w.mine hp o
/-- a list that is nobody's becomes data -/
theorem Rn.freeze {vs : List V} (r : Rn K σ env F H σ1 env1 F1 H1) (h0 : F1 p = none) (hp : H p = none) (h1 : H1 p = some (.lst vs)) (hn : ¬ ow σ1 env1 p) : Rn K σ env F H σ1 env1 (upd F1 p (.lst vs)) H1 where
  exF := r.exF.trans (Evl.Ex.new h0)
  new := fun a u h => by
    by_cases e : a = p
    · subst e; exact .inr (.inr hp)
    · rw [upd_ne e] at h; exact r.new a u h
  keep := r.keep
  dom := r.dom
  ows := r.ows
  own := by
    have w := r.own
    refine ⟨w.len, fun a u h => ?_, fun i x h => ?_, fun i ns h => ?_, fun i lo hi h => ?_, fun i q ds h => ?_, w.inj⟩
    · by_cases e : a = p
      · subst e
        rw [upd_same] at h
        cases h
        exact h1
      · rw [upd_ne e] at h
        exact w.ex a u h
    · obtain ⟨v, q1, q2⟩ := w.dat i x h
      exact ⟨v, q1, q2.up (Evl.Ex.new h0)⟩
    · obtain ⟨a, q1, q2⟩ := w.scr i ns h
      exact ⟨a, q1, Evl.ex_l (Evl.Ex.new h0) q2⟩
    · obtain ⟨a, q1, q2⟩ := w.rng i lo hi h
      exact ⟨a, q1, Evl.Ex.new h0 _ _ q2⟩
    · obtain ⟨a, vs', q1, q2, q3, q4, q5, q6⟩ := w.lst i q ds h
      have ne : a ≠ p := fun e => hn (by subst e; exact ⟨i, q, ds, h, q1⟩)
      exact ⟨a, vs', q1, q2, by rw [upd_ne ne]; exact q3, q4, q5, q6.up (Evl.Ex.new h0)⟩
theorem ow_back (w : Own K F σ H env) (r : Rn K σ env F H σ env1 F1 H1) {a : Addr} (h : ow σ env1 a) : H1 a ≠ none := by
  obtain ⟨i, q, ds, h1, h2⟩ := h
  obtain ⟨p', vs, h3, _, _, h4, _⟩ := r.own.lst i q ds h1
  rw [h2] at h3
  cases h3
  rw [h4]
  exact fun z => by cases z
end

/-! ### rules -/
section
variable {K : FR} {env env1 env2 env3 : List Slot} {ta tb tc te : TE} {t u : TT} {d d1 d2 d3 : PyData} {ds es : List PyData} {b c : Bool} {x y : Int}
theorem ev_v {i : Nat} {x : PyData} (h : env[i]? = some (.d x)) : EV K (tVar i) env x env := fun F σ H o Q q => by
  obtain ⟨v, hv, dv⟩ := o.dat i x h
  exact ⟨v, hv, q F v H (Rn.refl o) dv⟩
theorem ev_i {n : Int} : EV K (tC (.int n)) env (.int n) env := fun F σ H o Q q => q F _ H (Rn.refl o) (.int n)
theorem ev_b {n : Bool} : EV K (tC (.bl n)) env (.bool n) env := fun F σ H o Q q => q F _ H (Rn.refl o) (.bl n)
theorem ev_n : EV K (tC .non) env .none env := fun F σ H o Q q => q F _ H (Rn.refl o) .non
theorem ev_s {n : Str} : EV K (tC (.str n)) env (.str n) env := fun F σ H o Q q => q F _ H (Rn.refl o) (.str n)
theorem EV.is (h : EV K te env d env1) (e : d = d1) : EV K te env d1 env1 := e ▸ h
theorem ET.is (h : ET K t env b env1) (e : b = c) : ET K t env c env1 := e ▸ h

/-- a step on two values -/
theorem ev_op {r : R2} (ha : EV K ta env d1 env1) (hb : EV K tb env1 d2 env2)
    (hr : ∀ F σ H x y, Own K F σ H env2 → Dq K F x d1 → Dq K F y d2 → ∀ Q : VK, (∀ F' z H', Rn K σ env2 F H σ env2 F' H' → Dq K F' z d → Q z H') → r x y H Q) : EV K (tOp r ta tb) env d env2 := fun F σ H o Q q =>
  ha F σ H o _ fun F1 x H1 r1 dx => hb F1 σ H1 r1.own _ fun F2 y H2 r2 dy => hr F2 σ H2 x y r2.own (dx.up r2.exF) dy Q fun F3 z H3 r3 dz => q F3 z H3 ((r1.trans r2).trans r3) dz
theorem ev_opP {r : R2} (ha : EV K ta env d1 env1) (hb : EV K tb env1 d2 env2)
    (hr : ∀ F H x y, Ex F H → Dq K F x d1 → Dq K F y d2 → ∀ Q : VK, (∀ z, Dq K F z d → Q z H) → r x y H Q) : EV K (tOp r ta tb) env d env2 :=
  ev_op ha hb fun F σ H x y o dx dy Q q => hr F H x y o.ex dx dy Q fun z dz => q F z H (Rn.refl o) dz
theorem ev_un {r : V → Hp → VK → Prop} (ha : EV K ta env d1 env1) (hr : ∀ F H x, Ex F H → Dq K F x d1 → ∀ Q : VK, (∀ z, Dq K F z d → Q z H) → r x H Q) : EV K (tUn r ta) env d env1 := fun F σ H o Q q =>
  ha F σ H o _ fun F1 x H1 r1 dx => hr F1 H1 x r1.own.ex dx Q fun z dz => q F1 z H1 r1 dz

section
variable {g : Int → Int → Int} {gb : Int → Int → Bool} {C : Int → Int → Prop}
theorem ev_I0 (ha : EV K ta env (.int x) env1) (hb : EV K tb env1 (.int y) env2) : EV K (tOp (rI0 fun i j => V.int (g i j)) ta tb) env (.int (g x y)) env2 :=
  ev_opP ha hb fun F H v w e dx dy Q q => by cases dx; cases dy; exact ⟨x, y, rfl, rfl, q _ (.int _)⟩
theorem ev_B0 (ha : EV K ta env (.int x) env1) (hb : EV K tb env1 (.int y) env2) : EV K (tOp (rI0 fun i j => V.bl (gb i j)) ta tb) env (.bool (gb x y)) env2 :=
  ev_opP ha hb fun F H v w e dx dy Q q => by cases dx; cases dy; exact ⟨x, y, rfl, rfl, q _ (.bl _)⟩
theorem ev_I (hc : C x y) (ha : EV K ta env (.int x) env1) (hb : EV K tb env1 (.int y) env2) : EV K (tOp (rI C fun i j => V.int (g i j)) ta tb) env (.int (g x y)) env2 :=
  ev_opP ha hb fun F H v w e dx dy Q q => by cases dx; cases dy; exact ⟨x, y, rfl, rfl, hc, q _ (.int _)⟩
end
theorem ev_neg (ha : EV K ta env (.int x) env1) : EV K (tUn (rU fun i => .int (-i)) ta) env (.int (-x)) env1 :=
  ev_un ha fun F H v e dx Q q => by cases dx; exact ⟨x, rfl, q _ (.int _)⟩
theorem ev_add (ha : EV K ta env (.int x) env1) (hb : EV K tb env1 (.int y) env2) : EV K (tOp (rI0 fun i j => .int (i + j)) ta tb) env (.int (x + y)) env2 := ev_I0 (g := fun i j => i + j) ha hb
theorem ev_sub (ha : EV K ta env (.int x) env1) (hb : EV K tb env1 (.int y) env2) : EV K (tOp (rI0 fun i j => .int (i - j)) ta tb) env (.int (x - y)) env2 := ev_I0 (g := fun i j => i - j) ha hb
theorem ev_xor (ha : EV K ta env (.int x) env1) (hb : EV K tb env1 (.int y) env2) : EV K (tOp (rI0 fun i j => .int (Builtin.bitXor i j)) ta tb) env (.int (Builtin.bitXor x y)) env2 := ev_I0 (g := Builtin.bitXor) ha hb
/-- sizes of products: either is not great, or both are not very great -/
def mulOk (x y : Int) : Bool := decide (x.natAbs < 2 ^ 64) || decide (y.natAbs < 2 ^ 64) || (decide (x.natAbs < 2 ^ 200000) && decide (y.natAbs < 2 ^ 200000))
theorem mul_small {x : Int} (h : x.natAbs < 2 ^ 64) : -(2 ^ 64) < x ∧ x < 2 ^ 64 := by omega
def rMulX : R2 := fun x y H Q => (rI CMul fun i j => V.int (i * j)) x y H Q ∨ (rI CMulW fun i j => V.int (i * j)) x y H Q
theorem op_mulXX {X : Cx} : OpR X (binaryOp .Mult) rMulX := OpR.or op_mul op_mulW
theorem ev_mul (hc : mulOk x y = true) (ha : EV K ta env (.int x) env1) (hb : EV K tb env1 (.int y) env2) : EV K (tOp rMulX ta tb) env (.int (x * y)) env2 :=
  ev_opP ha hb fun F H v w e dx dy Q q => by
    cases dx; cases dy
    simp only [mulOk, Bool.or_eq_true, Bool.and_eq_true, decide_eq_true_eq] at hc
    rcases hc with (hc | hc) | ⟨h1, h2⟩
    · exact .inl ⟨x, y, rfl, rfl, .inl (mul_small hc), q _ (.int _)⟩
    · exact .inl ⟨x, y, rfl, rfl, .inr (mul_small hc), q _ (.int _)⟩
    · exact .inr ⟨x, y, rfl, rfl, wide_mul h1 h2 (by decide) (by decide) (by decide), q _ (.int _)⟩
theorem ev_fdiv (hc : y ≠ 0 ∧ y.natAbs < 1073741824) (ha : EV K ta env (.int x) env1) (hb : EV K tb env1 (.int y) env2) : EV K (tOp (rI CDivN fun i j => .int (i.fdiv j)) ta tb) env (.int (x.fdiv y)) env2 := ev_I (g := fun i j => i.fdiv j) hc ha hb
theorem ev_fdivW (hc : 0 < y ∧ y.natAbs < 2 ^ 8000) (ha : EV K ta env (.int x) env1) (hb : EV K tb env1 (.int y) env2) : EV K (tOp (rI CDivW fun i j => .int (i / j)) ta tb) env (.int (x / y)) env2 := ev_I (g := fun i j => i / j) (wide_div hc.1 hc.2 (by decide) (by decide)) ha hb
theorem ev_mod (hc : y ≠ 0) (ha : EV K ta env (.int x) env1) (hb : EV K tb env1 (.int y) env2) : EV K (tOp (rI (fun _ j => j ≠ 0) fun i j => .int (i.fmod j)) ta tb) env (.int (x.fmod y)) env2 := ev_I (g := fun i j => i.fmod j) hc ha hb
theorem ev_pow (hc : CPow x y) (ha : EV K ta env (.int x) env1) (hb : EV K tb env1 (.int y) env2) : EV K (tOp (rI CPow fun i j => .int (i ^ j.toNat)) ta tb) env (.int (x ^ y.toNat)) env2 := ev_I (g := fun i j => i ^ j.toNat) hc ha hb
theorem ev_shl (hc : CPow x y) (ha : EV K ta env (.int x) env1) (hb : EV K tb env1 (.int y) env2) : EV K (tOp (rI CPow fun i j => .int (i * 2 ^ j.toNat)) ta tb) env (.int (x * 2 ^ y.toNat)) env2 := ev_I (g := fun i j => i * 2 ^ j.toNat) hc ha hb
theorem ev_lt (ha : EV K ta env (.int x) env1) (hb : EV K tb env1 (.int y) env2) : EV K (tOp (rI0 fun i j => .bl (decide (i < j))) ta tb) env (.bool (decide (x < y))) env2 := ev_B0 (gb := fun i j => decide (i < j)) ha hb
theorem ev_le (ha : EV K ta env (.int x) env1) (hb : EV K tb env1 (.int y) env2) : EV K (tOp (rI0 fun i j => .bl (decide (i ≤ j))) ta tb) env (.bool (decide (x ≤ y))) env2 := ev_B0 (gb := fun i j => decide (i ≤ j)) ha hb
theorem ev_gt (ha : EV K ta env (.int x) env1) (hb : EV K tb env1 (.int y) env2) : EV K (tOp (rI0 fun i j => .bl (decide (j < i))) ta tb) env (.bool (decide (y < x))) env2 := ev_B0 (gb := fun i j => decide (j < i)) ha hb
theorem ev_ge (ha : EV K ta env (.int x) env1) (hb : EV K tb env1 (.int y) env2) : EV K (tOp (rI0 fun i j => .bl (decide (j ≤ i))) ta tb) env (.bool (decide (y ≤ x))) env2 := ev_B0 (gb := fun i j => decide (j ≤ i)) ha hb
/-- == and != of data -/
theorem ev_eq {α : Type} [Enc α] [DecidableEq α] [EncEq α] {n : Nat} [EncDep α n] {x y : α} (ha : EV K ta env (enc x) env1) (hb : EV K tb env1 (enc y) env2) (hn : n ≤ 64 := by decide) : EV K (tOp (rEqD K) ta tb) env (.bool (decide (x = y))) env2 :=
  ev_opP ha hb fun F H v w e dx dy Q q => ⟨enc x, enc y, (dx.up e).dp, (dy.up e).dp, shaped_enc hn x, shaped_enc hn y, by rw [EncEq.eqv]; exact q _ (.bl _)⟩
theorem ev_ne {α : Type} [Enc α] [DecidableEq α] [EncEq α] {n : Nat} [EncDep α n] {x y : α} (ha : EV K ta env (enc x) env1) (hb : EV K tb env1 (enc y) env2) (hn : n ≤ 64 := by decide) : EV K (tOp (rNeD K) ta tb) env (.bool (!decide (x = y))) env2 :=
  ev_opP ha hb fun F H v w e dx dy Q q => ⟨enc x, enc y, (dx.up e).dp, (dy.up e).dp, shaped_enc hn x, shaped_enc hn y, by rw [EncEq.eqv]; exact q _ (.bl _)⟩
/-- is None, is not None -/
def rIs0 : R2 := fun x y H Q => y = .non ∧ Q (.bl (decide (x = .non))) H
def rNot0 : R2 := fun x y H Q => y = .non ∧ Q (.bl (!decide (x = .non))) H
theorem op_is0 {X : Cx} : OpR X (compareOp .Is) rIs0 := op_isN
theorem op_not0 {X : Cx} : OpR X (compareOp .IsNot) rNot0 := op_notN
theorem dq_non {F : Hp} {v : V} (h : Dq K F v d) : (v = V.non) ↔ d = .none := by
  constructor
  · intro e; subst e; cases h; rfl
  · intro e; subst e; cases h; rfl
theorem ev_isN {α : Type} [Enc α] [EncSome α] {o : Option α} (ha : EV K ta env (enc o) env1) : EV K (tOp rIs0 ta (tC .non)) env (.bool o.isNone) env1 :=
  ev_opP ha ev_n fun F H v w e dx dy Q q => by
    cases dy
    refine ⟨rfl, ?_⟩
    have h : decide (v = V.non) = o.isNone := by
      rw [Bool.eq_iff_iff, decide_eq_true_eq, dq_non dx, isNone_enc, Option.isNone_iff_eq_none]
    rw [h]
    exact q _ (.bl _)
theorem ev_notN {α : Type} [Enc α] [EncSome α] {o : Option α} (ha : EV K ta env (enc o) env1) : EV K (tOp rNot0 ta (tC .non)) env (.bool o.isSome) env1 :=
  ev_opP ha ev_n fun F H v w e dx dy Q q => by
    cases dy
    refine ⟨rfl, ?_⟩
    have h : (!decide (v = V.non)) = o.isSome := by
      rw [Bool.eq_iff_iff, Bool.not_eq_true', decide_eq_false_iff_not, dq_non dx, isNone_enc, Option.isSome_iff_ne_none]
    rw [h]
    exact q _ (.bl _)
/-- items -/
theorem dq_at {F : Hp} {vs : List V} {i : Int} {d : PyData} (h : DqAll K F vs ds) (e : atI ds i = some d) : ∃ v, atI vs i = some v ∧ Dq K F v d := by
  unfold atI at e ⊢
  rw [h.length]
  cases hj : ixN ds.length i with
  | none => rw [hj] at e; cases e
  | some j =>
    rw [hj] at e
    obtain ⟨v, h1, h2⟩ := h.get (show ds[j]? = some d from e)
    exact ⟨v, h1, h2⟩
theorem ev_ixT (ha : EV K ta env (.tuple ds) env1) (hb : EV K tb env1 (.int x) env2) (h : atI ds x = some d) : EV K (tOp (rIxT K) ta tb) env d env2 :=
  ev_opP ha hb fun F H v w e dx dy Q q => by
    cases dy
    cases dx with
    | tup hs hl hd =>
      obtain ⟨v, h1, h2⟩ := dq_at hd h
      exact ⟨_, _, x, v, rfl, rfl, Evl.ex_t e hs, h1, q v h2⟩
theorem ev_ixL (ha : EV K ta env (.list ds) env1) (hb : EV K tb env1 (.int x) env2) (h : atI ds x = some d) : EV K (tOp (rIxL K) ta tb) env d env2 :=
  ev_opP ha hb fun F H v w e dx dy Q q => by
    cases dy
    cases dx with
    | lst hs hl hd =>
      obtain ⟨v, h1, h2⟩ := dq_at hd h
      exact ⟨_, _, x, v, rfl, rfl, .inl (.inl (e _ _ hs)), h1, q v h2⟩
theorem atI_enc {α : Type} [Enc α] {l : List α} {i : Int} {a : α} (h : atI l i = some a) : atI (l.map enc) i = some (enc a) := by
  unfold atI at h ⊢
  rw [List.length_map]
  cases hj : ixN l.length i with
  | none => rw [hj] at h; cases h
  | some j =>
    rw [hj] at h
    show (l.map enc)[j]? = some (enc a)
    rw [List.getElem?_map, show l[j]? = some a from h]
    rfl
theorem ev_at {α : Type} [Enc α] {l : List α} {a : α} (ha : EV K ta env (enc l) env1) (hb : EV K tb env1 (.int x) env2) (h : atI l x = some a) : EV K (tOp (rIxT K) ta tb) env (enc a) env2 := ev_ixT ha hb (atI_enc h)
theorem ev_atL {α : Type} [Enc α] {l : List α} {a : α} (ha : EV K ta env (enc (Ls.mk l)) env1) (hb : EV K tb env1 (.int x) env2) (h : atI l x = some a) : EV K (tOp (rIxL K) ta tb) env (enc a) env2 := ev_ixL ha hb (atI_enc h)
/-- a list of its own, by its slot -/
theorem ev_atO {i : Nat} {q : Option Addr} (hi : env[i]? = some (.l q ds)) (hb : EV K tb env (.int x) env) (h : atI ds x = some d) : EV K (tOp (rIxL K) (tVar i) tb) env d env := fun F σ H o Q k => by
  obtain ⟨p, vs, h1, _, _, _, _⟩ := o.lst i q ds hi
  refine ⟨.ref p, h1, ?_⟩
  refine hb F σ H o _ fun F1 y H1 r1 dy => ?_
  cases dy
  obtain ⟨p', vs', h1', _, _, h4, _, h6⟩ := r1.own.lst i q ds hi
  rw [h1] at h1'
  cases h1'
  obtain ⟨v, h7, h8⟩ := dq_at h6 h
  exact ⟨p, vs', x, v, rfl, rfl, .inl (.inl h4), h7, k F1 v H1 r1 h8⟩
/-! ### tests -/
theorem et_cmp {r : R2} (h : EV K (tOp r ta tb) env (.bool b) env1) : ET K (tTest (tOp r ta tb)) env b env1 := fun F σ H o Q q => by
  refine h F σ H o _ fun F1 x H1 r1 dx => ?_
  cases dx
  exact ⟨b, rfl, q F1 H1 r1⟩
theorem et_val (h : EV K te env (.bool b) env1) : ET K (tB te) env b env1 := fun F σ H o Q q => by
  refine h F σ H o _ fun F1 x H1 r1 dx => ?_
  cases dx
  exact ⟨b, rfl, q F1 H1 r1⟩
theorem et_not (h : ET K t env b env1) : ET K (tNot t) env (!b) env1 := fun F σ H o Q q => h F σ H o _ fun F1 H1 r1 => q F1 H1 r1
theorem et_and (h1 : ET K t env b env1) (h2 : b = true → ET K u env1 c env1) : ET K (tAnd t u) env (b && c) env1 := fun F σ H o Q q => h1 F σ H o _ fun F1 H1 r1 => by
  cases b with
  | true => exact h2 rfl F1 σ H1 r1.own _ fun F2 H2 r2 => q F2 H2 (r1.trans r2)
  | false => exact q F1 H1 r1
theorem et_or (h1 : ET K t env b env1) (h2 : b = false → ET K u env1 c env1) : ET K (tOr t u) env (b || c) env1 := fun F σ H o Q q => h1 F σ H o _ fun F1 H1 r1 => by
  cases b with
  | true => exact q F1 H1 r1
  | false => exact h2 rfl F1 σ H1 r1.own _ fun F2 H2 r2 => q F2 H2 (r1.trans r2)
theorem ev_andV (h1 : EV K ta env (.bool b) env1) (h2 : b = true → EV K tb env1 (.bool c) env1) : EV K (tAndV ta tb) env (.bool (b && c)) env1 := fun F σ H o Q q => h1 F σ H o _ fun F1 x H1 r1 dx => by
  cases dx
  refine ⟨b, rfl, ?_⟩
  cases b with
  | true => exact h2 rfl F1 σ H1 r1.own _ fun F2 z H2 r2 dz => q F2 z H2 (r1.trans r2) dz
  | false => exact q F1 _ H1 r1 (.bl _)
theorem ev_orV (h1 : EV K ta env (.bool b) env1) (h2 : b = false → EV K tb env1 (.bool c) env1) : EV K (tOrV ta tb) env (.bool (b || c)) env1 := fun F σ H o Q q => h1 F σ H o _ fun F1 x H1 r1 dx => by
  cases dx
  refine ⟨b, rfl, ?_⟩
  cases b with
  | true => exact q F1 _ H1 r1 (.bl _)
  | false => exact h2 rfl F1 σ H1 r1.own _ fun F2 z H2 r2 dz => q F2 z H2 (r1.trans r2) dz
theorem ev_notV (h1 : EV K ta env (.bool b) env1) : EV K (tNotV ta) env (.bool (!b)) env1 := fun F σ H o Q q => h1 F σ H o _ fun F1 x H1 r1 dx => by
  cases dx
  exact ⟨b, rfl, q F1 _ H1 r1 (.bl _)⟩
/-- a if t else b -/
theorem ev_if (h : ET K t env b env1) (h1 : b = true → EV K ta env1 d env2) (h2 : b = false → EV K tb env1 d env2) : EV K (tIf t ta tb) env d env2 := fun F σ H o Q q => h F σ H o _ fun F1 H1 r1 => by
  cases b with
  | true => exact h1 rfl F1 σ H1 r1.own _ fun F2 z H2 r2 dz => q F2 z H2 (r1.trans r2) dz
  | false => exact h2 rfl F1 σ H1 r1.own _ fun F2 z H2 r2 dz => q F2 z H2 (r1.trans r2) dz
/-- a < b < c -/
theorem ev_chain {r r' : R2} (ha : EV K ta env d1 env1) (hb : EV K tb env1 d2 env2) (hc : EV K tc env2 d3 env2)
    (hr : ∀ F H x y, Ex F H → Dq K F x d1 → Dq K F y d2 → ∀ Q : VK, Q (.bl b) H → r x y H Q)
    (hr' : ∀ F H x y, Ex F H → Dq K F x d2 → Dq K F y d3 → ∀ Q : VK, Q (.bl c) H → r' x y H Q) : EV K (tChain r r' ta tb tc) env (.bool (b && c)) env2 := fun F σ H o Q q =>
  ha F σ H o _ fun F1 x H1 r1 dx => hb F1 σ H1 r1.own _ fun F2 y H2 r2 dy => hr F2 H2 x y r2.own.ex (dx.up r2.exF) dy _ ⟨b, rfl, by
    cases b with
    | true => exact hc F2 σ H2 r2.own _ fun F3 z H3 r3 dz => hr' F3 H3 y z r3.own.ex (dy.up r3.exF) dz _ (q F3 _ H3 ((r1.trans r2).trans r3) (.bl _))
    | false => exact q F2 _ H2 (r1.trans r2) (.bl _)⟩
theorem et_chain {r r' : R2} (h : EV K (tChain r r' ta tb tc) env (.bool b) env1) : ET K (tTest (tChain r r' ta tb tc)) env b env1 := fun F σ H o Q q => by
  refine h F σ H o _ fun F1 x H1 r1 dx => ?_
  cases dx
  exact ⟨b, rfl, q F1 H1 r1⟩
theorem ch_le {x y : Int} : ∀ F H v w, Ex F H → Dq K F v (.int x) → Dq K F w (.int y) → ∀ Q : VK, Q (.bl (decide (x ≤ y))) H → (rI0 fun i j => V.bl (decide (i ≤ j))) v w H Q := fun F H v w e dx dy Q q => by cases dx; cases dy; exact ⟨x, y, rfl, rfl, q⟩
theorem ch_lt {x y : Int} : ∀ F H v w, Ex F H → Dq K F v (.int x) → Dq K F w (.int y) → ∀ Q : VK, Q (.bl (decide (x < y))) H → (rI0 fun i j => V.bl (decide (i < j))) v w H Q := fun F H v w e dx dy Q q => by cases dx; cases dy; exact ⟨x, y, rfl, rfl, q⟩
end
end Gw

-- Gw2
/-! Gw2: arguments, displays, calls. -/
namespace Gw
open PySem PySem.Spec PyProof.Rows L2
open Gw.Enc (enc)

def ED (K : FR) (ta : TA) (env : List Slot) (ds : List PyData) (env' : List Slot) : Prop :=
  ∀ F σ H, Own K F σ H env → ∀ Q : List V → Hp → Prop, (∀ F' vs H', Rn K σ env F H σ env' F' H' → DqAll K F' vs ds → Q vs H') → ta σ H Q
/-- a range that stands -/
def ER (K : FR) (te : TE) (env : List Slot) (lo hi : Int) (env' : List Slot) : Prop :=
  ∀ F σ H, Own K F σ H env → ∀ Q : VK, (∀ F' p H', Rn K σ env F H σ env' F' H' → F' p = some (.rng lo hi) → Q (.ref p) H') → te σ H Q

section
variable {K : FR} {σ σ1 : L2.St} {env env1 env2 env3 : List Slot} {F F1 F2 H H1 H2 : Hp} {ta tb tc te : TE} {tr : TA} {t u : TT} {d d1 d2 d3 : PyData} {ds es : List PyData} {b c : Bool} {x y : Int}
theorem ed_nil : ED K tNil env [] env := fun F σ H o Q q => q F [] H (Rn.refl o) .nil
theorem ed_c (h : EV K te env d env1) (hr : ED K tr env1 ds env2) : ED K (tCons te tr) env (d :: ds) env2 := fun F σ H o Q q =>
  h F σ H o _ fun F1 v H1 r1 dv => hr F1 σ H1 r1.own _ fun F2 vs H2 r2 dvs => q F2 (v :: vs) H2 (r1.trans r2) (.cons (dv.up r2.exF) dvs)
theorem ed_1 (h : EV K te env d env1) : ED K (tCons te tNil) env [d] env1 := ed_c h ed_nil
/-- (a, b, ..) -/
theorem ev_tup (h : ED K tr env ds env1) (hl : ds.length ≤ LIM := by decide) : EV K (tTup tr) env (.tuple ds) env1 := fun F σ H o Q q =>
  h F σ H o _ fun F1 vs H1 r1 dvs => ⟨by rw [dvs.length]; exact lim_sz hl, fun p hp => q _ _ _ (r1.trans (Rn.imm r1.own hp (.tup vs)))
    (.tup (.inl (.inl upd_same)) (by rw [dvs.length]; exact hl) (dvs.up (Evl.Ex.new (r1.own.fresh hp))))⟩
/-- [a, b, ..] -/
theorem ef_lst (h : ED K tr env ds env1) (hl : ds.length ≤ LIM := by decide) : EF K (tLst tr) env ds env1 := fun F σ H o Q q =>
  h F σ H o _ fun F1 vs H1 r1 dvs => ⟨by rw [dvs.length]; exact lim_sz hl, fun p hp => q F1 p vs _ (r1.trans (Rn.mut r1.own hp (.lst vs))) (r1.own.fresh hp)
    (by cases h0 : H p with
      | none => rfl
      | some w => obtain ⟨z, hz⟩ := r1.dom p w h0; rw [hp] at hz; cases hz) upd_same (by rw [dvs.length]; exact hl) dvs (r1.own.not_ow hp)⟩
theorem EF.ev (h : EF K te env ds env1) : EV K te env (.list ds) env1 := fun F σ H o Q q =>
  h F σ H o _ fun F1 p vs H1 r1 h1 h2 h3 h4 h5 h6 => q _ _ _ (r1.freeze h1 h2 h3 h6) (.lst upd_same h4 (h5.up (Evl.Ex.new h1)))
theorem back_none (r : Rn K σ env F H σ1 env1 F1 H1) {p : Addr} (hp : H1 p = none) : H p = none := by
  cases h0 : H p with
  | none => rfl
  | some w => obtain ⟨z, hz⟩ := r.dom p w h0; rw [hp] at hz; cases hz

/-! ### built-in calls -/
theorem ev_cb {r : List V → Hp → VK → Prop} (h : ED K tr env ds env1) (hr : ∀ F H vs, Ex F H → DqAll K F vs ds → ∀ Q : VK, (∀ z, Dq K F z d → Q z H) → r vs H Q) : EV K (tCB r tr) env d env1 := fun F σ H o Q q =>
  h F σ H o _ fun F1 vs H1 r1 dvs => hr F1 H1 vs r1.own.ex dvs Q fun z dz => q F1 z H1 r1 dz
def rMax2 : List V → Hp → VK → Prop := fun vs H Q => ∃ i j, vs = [V.int i, V.int j] ∧ Q (V.int (if j > i then j else i)) H
def rMin2 : List V → Hp → VK → Prop := fun xs H Q => ∃ i j, xs = [.int i, .int j] ∧ Q (.int (if j < i then j else i)) H
def rAbs : List V → Hp → VK → Prop := fun xs H Q => ∃ i, xs = [.int i] ∧ Q (.int (if i < 0 then -i else i)) H
def rInt1 : List V → Hp → VK → Prop := fun xs H Q => (∃ i, xs = [.int i] ∧ Q (.int i) H) ∨ ∃ k, xs = [.bl k] ∧ Q (.int (if k then 1 else 0)) H
theorem cr_max2 {X : Cx} (hc : X.calm = true := by rfl) : CallR X (.builtin "max") rMax2 := call_max2 hc
theorem cr_min2 {X : Cx} (hc : X.calm = true := by rfl) : CallR X (.builtin "min") rMin2 := call_min2 hc
theorem cr_abs {X : Cx} : CallR X (.builtin "abs") rAbs := call_abs
theorem cr_int1 {X : Cx} : CallR X (.type "int") rInt1 := call_int1
theorem dq2 {F : Hp} {vs : List V} {x y : Int} (h : DqAll K F vs [.int x, .int y]) : vs = [.int x, .int y] := dq_ints (ns := [x, y]) h
theorem ev_max2 (h : ED K tr env [.int x, .int y] env1) : EV K (tCB rMax2 tr) env (.int (max x y)) env1 := ev_cb h fun F H vs e dvs Q q => by
  have := dq2 dvs
  subst this
  refine ⟨x, y, rfl, ?_⟩
  have e : (if y > x then y else x) = max x y := by omega
  rw [e]
  exact q _ (.int _)
theorem ev_min2 (h : ED K tr env [.int x, .int y] env1) : EV K (tCB rMin2 tr) env (.int (min x y)) env1 := ev_cb h fun F H vs e dvs Q q => by
  have := dq2 dvs
  subst this
  refine ⟨x, y, rfl, ?_⟩
  have e : (if y < x then y else x) = min x y := by omega
  rw [e]
  exact q _ (.int _)
theorem ev_abs (h : ED K tr env [.int x] env1) : EV K (tCB rAbs tr) env (.int (x.natAbs : Int)) env1 := ev_cb h fun F H vs e dvs Q q => by
  have := dq_ints (ns := [x]) dvs
  subst this
  refine ⟨x, rfl, ?_⟩
  have e : (if x < 0 then -x else x) = (x.natAbs : Int) := by omega
  rw [e]
  exact q _ (.int _)
theorem ev_intI (h : ED K tr env [.int x] env1) : EV K (tCB rInt1 tr) env (.int x) env1 := ev_cb h fun F H vs e dvs Q q => by
  have := dq_ints (ns := [x]) dvs
  subst this
  exact .inl ⟨x, rfl, q _ (.int _)⟩
theorem ev_intB (h : ED K tr env [.bool b] env1) : EV K (tCB rInt1 tr) env (.int (if b then 1 else 0)) env1 := ev_cb h fun F H vs e dvs Q q => by
  have := dq_bls (ns := [b]) dvs
  subst this
  exact .inr ⟨b, rfl, q _ (.int _)⟩
/-- len -/
def rLenS (K : FR) : List V → Hp → VK → Prop := fun xs H Q => ∃ p ys, xs = [.ref p] ∧ (SqL K H p ys ∨ SqT K H p ys) ∧ Q (.int ys.length) H
theorem cr_lenS {X : Cx} : CallR X (.builtin "len") (rLenS X.K) := call_len_seq
theorem ev_lenT (h : EV K te env (.tuple ds) env1) : EV K (tCB (rLenS K) (tCons te tNil)) env (.int (ds.length : Int)) env1 := ev_cb (ed_1 h) fun F H vs e dvs Q q => by
  cases dvs with
  | cons h1 h2 =>
    cases h2
    cases h1 with
    | tup hs hl hd => exact ⟨_, _, rfl, .inr (Evl.ex_t e hs), by rw [hd.length]; exact q _ (.int _)⟩
theorem ev_lenL (h : EV K te env (.list ds) env1) : EV K (tCB (rLenS K) (tCons te tNil)) env (.int (ds.length : Int)) env1 := ev_cb (ed_1 h) fun F H vs e dvs Q q => by
  cases dvs with
  | cons h1 h2 =>
    cases h2
    cases h1 with
    | lst hs hl hd => exact ⟨_, _, rfl, .inl (.inl (.inl (e _ _ hs))), by rw [hd.length]; exact q _ (.int _)⟩
theorem ev_len {α : Type} [Enc α] {l : List α} (h : EV K te env (enc l) env1) : EV K (tCB (rLenS K) (tCons te tNil)) env (.int (l.length : Int)) env1 := (ev_lenT (ds := l.map enc) h).is (by rw [List.length_map])
theorem ev_lenLs {α : Type} [Enc α] {l : List α} (h : EV K te env (.list (l.map enc)) env1) : EV K (tCB (rLenS K) (tCons te tNil)) env (.int (l.length : Int)) env1 := (ev_lenL (ds := l.map enc) h).is (by rw [List.length_map])
theorem ev_lenO {i : Nat} {q : Option Addr} (hi : env[i]? = some (.l q ds)) : EV K (tCB (rLenS K) (tCons (tVar i) tNil)) env (.int (ds.length : Int)) env := fun F σ H o Q k => by
  obtain ⟨p, vs, h1, _, _, h4, _, h6⟩ := o.lst i q ds hi
  refine ⟨.ref p, h1, p, vs, rfl, .inl (.inl (.inl h4)), ?_⟩
  rw [h6.length]
  exact k F _ H (Rn.refl o) (.int _)
theorem ev_lenOs {α : Type} [Enc α] {l : List α} {i : Nat} {q : Option Addr} (hi : env[i]? = some (.l q (l.map enc))) : EV K (tCB (rLenS K) (tCons (tVar i) tNil)) env (.int (l.length : Int)) env := (ev_lenO hi).is (by rw [List.length_map])
/-- tuple(..) of a list, of a tuple -/
def rTupS (K : FR) : List V → Hp → VK → Prop := fun xs H Q => ∃ p ys, xs = [.ref p] ∧ ((SqL K H p ys ∧ ∀ l, H l = none → Q (.ref l) (upd H l (.tup ys))) ∨ (SqT K H p ys ∧ Q (.ref p) H))
theorem cr_tupS {X : Cx} : CallR X (.type "tuple") (rTupS X.K) := call_tuple_of
theorem ev_tupF (h : EF K te env ds env1) : EV K (tCB (rTupS K) (tCons te tNil)) env (.tuple ds) env1 := fun F σ H o Q q =>
  h F σ H o _ fun F1 p vs H1 r1 h1 h2 h3 h4 h5 h6 => ⟨p, vs, rfl, .inl ⟨.inl (.inl h3), fun l hl => q _ _ _ (r1.trans (Rn.imm r1.own hl (.tup vs))) (.tup (.inl (.inl upd_same)) h4 (h5.up (Evl.Ex.new (r1.own.fresh hl))))⟩⟩
theorem ev_tupL (h : EV K te env (.list ds) env1) : EV K (tCB (rTupS K) (tCons te tNil)) env (.tuple ds) env1 := fun F σ H o Q q =>
  h F σ H o _ fun F1 v H1 r1 dv => by
    cases dv with
    | lst hs hl hd => exact ⟨_, _, rfl, .inl ⟨.inl (.inl (r1.own.ex _ _ hs)), fun l hl' => q _ _ _ (r1.trans (Rn.imm r1.own hl' (.tup _))) (.tup (.inl (.inl upd_same)) hl (hd.up (Evl.Ex.new (r1.own.fresh hl'))))⟩⟩
theorem ev_tupO {i : Nat} {q : Option Addr} (hi : env[i]? = some (.l q ds)) : EV K (tCB (rTupS K) (tCons (tVar i) tNil)) env (.tuple ds) env := fun F σ H o Q k => by
  obtain ⟨p, vs, h1, _, _, h4, h5, h6⟩ := o.lst i q ds hi
  exact ⟨.ref p, h1, p, vs, rfl, .inl ⟨.inl (.inl h4), fun l hl => k _ _ _ (Rn.imm o hl (.tup vs)) (.tup (.inl (.inl upd_same)) h5 (h6.up (Evl.Ex.new (o.fresh hl))))⟩⟩
/-- list(..) -/
def rLstS (K : FR) : List V → Hp → VK → Prop := fun xs H Q => ∃ p ys, xs = [.ref p] ∧ (SqL K H p ys ∨ SqT K H p ys) ∧ ∀ l, H l = none → Q (.ref l) (upd H l (.lst ys))
theorem cr_lstS {X : Cx} : CallR X (.type "list") (rLstS X.K) := call_list_of
theorem ef_of (h : EV K te env d env1) (hd : d = .tuple ds ∨ d = .list ds) : EF K (tCB (rLstS K) (tCons te tNil)) env ds env1 := fun F σ H o Q q =>
  h F σ H o _ fun F1 v H1 r1 dv => by
    rcases hd with rfl | rfl
    · cases dv with
      | tup hs hl hd => exact ⟨_, _, rfl, .inr (Evl.ex_t r1.own.ex hs), fun l hl' => q F1 l _ _ (r1.trans (Rn.mut r1.own hl' _)) (r1.own.fresh hl') (back_none r1 hl') upd_same hl hd (r1.own.not_ow hl')⟩
    · cases dv with
      | lst hs hl hd => exact ⟨_, _, rfl, .inl (.inl (.inl (r1.own.ex _ _ hs))), fun l hl' => q F1 l _ _ (r1.trans (Rn.mut r1.own hl' _)) (r1.own.fresh hl') (back_none r1 hl') upd_same hl hd (r1.own.not_ow hl')⟩
theorem ef_ofO {i : Nat} {q : Option Addr} (hi : env[i]? = some (.l q ds)) : EF K (tCB (rLstS K) (tCons (tVar i) tNil)) env ds env := fun F σ H o Q k => by
  obtain ⟨p, vs, h1, _, _, h4, h5, h6⟩ := o.lst i q ds hi
  exact ⟨.ref p, h1, p, vs, rfl, .inl (.inl (.inl h4)), fun l hl => k F l _ _ (Rn.mut o hl _) (o.fresh hl) hl upd_same h5 h6 (o.not_ow hl)⟩
/-- sum, all, any, max, min of a new list -/
theorem ev_sum {ns : List Int} (h : EF K te env (ns.map enc) env1) : EV K (tCB (rSum K) (tCons te tNil)) env (.int ns.sum) env1 := fun F σ H o Q q =>
  h F σ H o _ fun F1 p vs H1 r1 h1 h2 h3 h4 h5 h6 => by
    have e := dq_ints (ns := ns) h5
    subst e
    exact ⟨p, ns, rfl, .inl (.inl h3), q F1 _ H1 r1 (.int _)⟩
theorem ev_sumL {ns : List Int} (h : EV K te env (.list (ns.map enc)) env1) : EV K (tCB (rSum K) (tCons te tNil)) env (.int ns.sum) env1 := ev_cb (ed_1 h) fun F H vs e dvs Q q => by
  cases dvs with
  | cons a b =>
    cases b
    cases a with
    | lst hs hl hd =>
      have e' := dq_ints (ns := ns) hd
      subst e'
      exact ⟨_, ns, rfl, .inl (.inl (e _ _ hs)), q _ (.int _)⟩
theorem ev_all {bs : List Bool} (h : EF K te env (bs.map enc) env1) : EV K (tCB (rAll K) (tCons te tNil)) env (.bool (bs.all id)) env1 := fun F σ H o Q q =>
  h F σ H o _ fun F1 p vs H1 r1 h1 h2 h3 h4 h5 h6 => by
    have e := dq_bls (ns := bs) h5
    subst e
    exact ⟨p, bs, rfl, .inl (.inl h3), q F1 _ H1 r1 (.bl _)⟩
theorem ev_any {bs : List Bool} (h : EF K te env (bs.map enc) env1) : EV K (tCB (rAny K) (tCons te tNil)) env (.bool (bs.any id)) env1 := fun F σ H o Q q =>
  h F σ H o _ fun F1 p vs H1 r1 h1 h2 h3 h4 h5 h6 => by
    have e := dq_bls (ns := bs) h5
    subst e
    exact ⟨p, bs, rfl, .inl (.inl h3), q F1 _ H1 r1 (.bl _)⟩
/-! ### in -/
def flatD : PyData → Bool
  | .none => true
  | .bool _ => true
  | .int _ => true
  | .str _ => true
  | _ => false
theorem flat_of {F : Hp} {v : V} {d : PyData} (h : Dq K F v d) (hf : flatD d = true) : flatV v = true := by
  cases h with
  | lst _ _ _ => exact absurd (show false = true from hf) Bool.false_ne_true
  | tup _ _ _ => exact absurd (show false = true from hf) Bool.false_ne_true
  | _ => rfl
theorem eqV_dq {F : Hp} {v w : V} {d e : PyData} (h1 : Dq K F v d) (h2 : Dq K F w e) (f1 : flatV v = true) (f2 : flatV w = true) : eqV v w = PyData.eqv d e := by
  cases h1 with
  | lst _ _ _ => exact absurd (show false = true from f1) Bool.false_ne_true
  | tup _ _ _ => exact absurd (show false = true from f1) Bool.false_ne_true
  | _ =>
    cases h2 with
    | lst _ _ _ => exact absurd (show false = true from f2) Bool.false_ne_true
    | tup _ _ _ => exact absurd (show false = true from f2) Bool.false_ne_true
    | _ => simp [eqV, PyData.eqv]
theorem inV_dq {F : Hp} {v : V} {d : PyData} (h : Dq K F v d) (f : flatV v = true) : ∀ {vs : List V} {ds : List PyData}, DqAll K F vs ds → vs.all flatV = true → inV v vs = ds.any fun e => PyData.eqv e d
  | _, _, .nil, _ => rfl
  | _, _, .cons r t, fs => by
    rw [List.all_cons, Bool.and_eq_true] at fs
    unfold inV
    rw [List.any_cons, List.any_cons, eqV_dq r h fs.1 f]
    have := inV_dq h f t fs.2
    unfold inV at this
    rw [this]
class EncFlat (α : Type) [Enc α] : Prop where
  flat : ∀ a : α, flatD (enc a) = true
instance : EncFlat Int := ⟨fun _ => rfl⟩
instance : EncFlat Bool := ⟨fun _ => rfl⟩
instance : EncFlat Str := ⟨fun _ => rfl⟩
instance {α : Type} [Enc α] [EncFlat α] : EncFlat (Option α) := ⟨fun o => by
  cases o with
  | none => rfl
  | some a => exact EncFlat.flat a⟩
theorem flatAll {α : Type} [Enc α] [EncFlat α] {F : Hp} : ∀ {vs : List V} {l : List α}, DqAll K F vs (l.map enc) → vs.all flatV = true
  | _, [], .nil => rfl
  | _, a :: l, .cons r t => by
    rw [List.all_cons, Bool.and_eq_true]
    exact ⟨flat_of r (EncFlat.flat a), flatAll t⟩
theorem any_eqv {α : Type} [Enc α] [DecidableEq α] [EncEq α] (a : α) : ∀ l : List α, ((l.map enc).any fun e => PyData.eqv e (enc a)) = decide (a ∈ l)
  | [] => by simp
  | b :: l => by
    rw [List.map_cons, List.any_cons, any_eqv a l, EncEq.eqv]
    by_cases h : b = a
    · simp [h]
    · have h' : ¬ a = b := fun e => h e.symm
      simp [h, h']
section
variable {α : Type} [Enc α] [DecidableEq α] [EncEq α] [EncFlat α] {a : α} {l : List α}
theorem ev_inT (ha : EV K ta env (enc a) env1) (hb : EV K tb env1 (.tuple (l.map enc)) env2) : EV K (tOp (rIn K false) ta tb) env (.bool (decide (a ∈ l))) env2 :=
  ev_opP ha hb fun F H v w e dx dy Q q => by
    have fx := flat_of dx (EncFlat.flat a)
    cases dy with
    | tup hs hl hd =>
      have fs := flatAll hd
      refine ⟨_, _, rfl, .inr (Evl.ex_t e hs), fx, fs, ?_⟩
      rw [if_neg Bool.false_ne_true, inV_dq dx fx hd fs, any_eqv]
      exact q _ (.bl _)
theorem ev_ninT (ha : EV K ta env (enc a) env1) (hb : EV K tb env1 (.tuple (l.map enc)) env2) : EV K (tOp (rIn K true) ta tb) env (.bool (!decide (a ∈ l))) env2 :=
  ev_opP ha hb fun F H v w e dx dy Q q => by
    have fx := flat_of dx (EncFlat.flat a)
    cases dy with
    | tup hs hl hd =>
      have fs := flatAll hd
      refine ⟨_, _, rfl, .inr (Evl.ex_t e hs), fx, fs, ?_⟩
      rw [if_pos rfl, inV_dq dx fx hd fs, any_eqv]
      exact q _ (.bl _)
theorem ev_inL (ha : EV K ta env (enc a) env1) (hb : EV K tb env1 (.list (l.map enc)) env2) : EV K (tOp (rIn K false) ta tb) env (.bool (decide (a ∈ l))) env2 :=
  ev_opP ha hb fun F H v w e dx dy Q q => by
    have fx := flat_of dx (EncFlat.flat a)
    cases dy with
    | lst hs hl hd =>
      have fs := flatAll hd
      refine ⟨_, _, rfl, .inl (.inl (.inl (e _ _ hs))), fx, fs, ?_⟩
      rw [if_neg Bool.false_ne_true, inV_dq dx fx hd fs, any_eqv]
      exact q _ (.bl _)
theorem ev_ninL (ha : EV K ta env (enc a) env1) (hb : EV K tb env1 (.list (l.map enc)) env2) : EV K (tOp (rIn K true) ta tb) env (.bool (!decide (a ∈ l))) env2 :=
  ev_opP ha hb fun F H v w e dx dy Q q => by
    have fx := flat_of dx (EncFlat.flat a)
    cases dy with
    | lst hs hl hd =>
      have fs := flatAll hd
      refine ⟨_, _, rfl, .inl (.inl (.inl (e _ _ hs))), fx, fs, ?_⟩
      rw [if_pos rfl, inV_dq dx fx hd fs, any_eqv]
      exact q _ (.bl _)
end
/-! ### slices, concatenation -/
def cut {α : Type} (xs : List α) (lo hi : Option Int) : List α := (xs.drop (HT.sIx xs.length 0 lo)).take (HT.sIx xs.length xs.length hi - HT.sIx xs.length 0 lo)
theorem cut_len {α : Type} (xs : List α) (lo hi : Option Int) : (cut xs lo hi).length ≤ xs.length := by
  unfold cut
  rw [List.length_take, List.length_drop]
  omega
theorem cut_map {α β : Type} (f : α → β) (xs : List α) (lo hi : Option Int) : cut (xs.map f) lo hi = (cut xs lo hi).map f := by
  unfold cut
  rw [List.length_map, List.map_take, List.map_drop]
theorem dq_cut {F : Hp} {vs : List V} (h : DqAll K F vs ds) (lo hi : Option Int) : DqAll K F (cutV vs lo hi) (cut ds lo hi) := by
  unfold cutV cut
  rw [h.length]
  exact (h.drop _).take _
theorem eo_none : EO K tNoPart env none env := fun F σ H o Q q => q F H (Rn.refl o)
theorem eo_some (h : EV K te env (.int x) env1) : EO K (tPart te) env (some x) env1 := fun F σ H o Q q => by
  refine h F σ H o _ fun F1 v H1 r1 dv => ?_
  cases dv
  exact ⟨x, rfl, q F1 H1 r1⟩
section
variable {tl th : TO} {lo hi : Option Int}
theorem ev_slT (h : EV K te env (.tuple ds) env1) (h1 : EO K tl env1 lo env2) (h2 : EO K th env2 hi env3) : EV K (tSl (rSlA K) te tl th) env (.tuple (cut ds lo hi)) env3 := fun F σ H o Q q =>
  h F σ H o _ fun F1 v H1 r1 dv => h1 F1 σ H1 r1.own _ fun F2 H2 r2 => h2 F2 σ H2 r2.own _ fun F3 H3 r3 => by
    have rr := (r1.trans r2).trans r3
    have dv := (dv.up r2.exF).up r3.exF
    cases dv with
    | tup hs hl hd =>
      refine ⟨_, _, rfl, Evl.ex_t r3.own.ex hs, fun hw => ?_, fun hw p hp => ?_⟩
      · have e : cutV _ lo hi = _ := (show cutV _ lo hi = _ from by
          unfold cutV
          rw [hw.1, hw.2, List.drop_zero, Nat.sub_zero, List.take_length])
        have dc := dq_cut hd lo hi
        rw [e] at dc
        exact q F3 _ H3 rr (.tup hs hl dc)
      · exact q _ _ _ (rr.trans (Rn.imm r3.own hp _)) (.tup (.inl (.inl upd_same)) (Nat.le_trans (cutV_length _ _ _) hl) ((dq_cut hd lo hi).up (Evl.Ex.new (r3.own.fresh hp))))
theorem ef_slL (h : EV K te env (.list ds) env1) (h1 : EO K tl env1 lo env2) (h2 : EO K th env2 hi env3) : EF K (tSl (rSlL K) te tl th) env (cut ds lo hi) env3 := fun F σ H o Q q =>
  h F σ H o _ fun F1 v H1 r1 dv => h1 F1 σ H1 r1.own _ fun F2 H2 r2 => h2 F2 σ H2 r2.own _ fun F3 H3 r3 => by
    have rr := (r1.trans r2).trans r3
    have dv := (dv.up r2.exF).up r3.exF
    cases dv with
    | lst hs hl hd =>
      exact ⟨_, _, rfl, .inl (.inl (r3.own.ex _ _ hs)), fun p hp => q F3 p _ _ (rr.trans (Rn.mut r3.own hp _)) (r3.own.fresh hp) (back_none rr hp) upd_same (Nat.le_trans (cutV_length _ _ _) hl) (dq_cut hd lo hi) (r3.own.not_ow hp)⟩
/-- script[lo:hi] -/
theorem ef_slS {i : Nat} {ns : List Int} (hi' : env[i]? = some (.s ns)) (hn : ns.length ≤ LIM) (h1 : EO K tl env lo env1) (h2 : EO K th env1 hi env2) : EF K (tSl (rSlL K) (tVar i) tl th) env ((cut ns lo hi).map enc) env2 := fun F σ H o Q q => by
  obtain ⟨a, ha, hs⟩ := o.scr i ns hi'
  refine ⟨.ref a, ha, h1 F σ H o _ fun F2 H2 r2 => h2 F2 σ H2 r2.own _ fun F3 H3 r3 => ?_⟩
  have rr := r2.trans r3
  refine ⟨a, _, rfl, Evl.ex_l r3.own.ex (Evl.ex_l rr.exF hs), fun p hp => q F3 p _ _ (rr.trans (Rn.mut r3.own hp _)) (r3.own.fresh hp) (back_none rr hp) upd_same (Nat.le_trans (cutV_length _ _ _) (by rw [List.length_map]; exact hn)) ?_ (r3.own.not_ow hp)⟩
  have e : cutV (ns.map V.int) lo hi = (cut ns lo hi).map V.int := cut_map V.int ns lo hi
  rw [e]
  exact ints_dq _
end
theorem ev_catT (hl : ds.length + es.length ≤ LIM) (ha : EV K ta env (.tuple ds) env1) (hb : EV K tb env1 (.tuple es) env2) : EV K (tOp (rCatA K) ta tb) env (.tuple (ds ++ es)) env2 :=
  ev_op ha hb fun F σ H v w o dx dy Q q => by
    cases dx with
    | tup hs hl1 hd =>
      cases dy with
      | tup hs2 hl2 hd2 =>
        have hlen : ∀ {a b : List V}, DqAll K F a ds → DqAll K F b es → a.length + b.length ≤ LIM := fun p r => by rw [p.length, r.length]; exact hl
        refine ⟨_, _, _, _, rfl, rfl, Evl.ex_t o.ex hs, Evl.ex_t o.ex hs2, lim_sz (hlen hd hd2), fun e => ?_, fun e1 e2 => ?_, fun e1 e2 p hp => ?_⟩
        · subst e
          cases hd
          exact q F _ H (Rn.refl o) (.tup hs2 hl2 hd2)
        · subst e2
          cases hd2
          exact q F _ H (Rn.refl o) (by rw [List.append_nil]; exact .tup hs hl1 hd)
        · exact q _ _ _ (Rn.imm o hp _) (.tup (.inl (.inl upd_same)) (by rw [List.length_append]; exact hlen hd hd2) ((hd.app hd2).up (Evl.Ex.new (o.fresh hp))))
theorem ef_cat (hl : ds.length + es.length ≤ LIM) (ha : EV K ta env (.list ds) env1) (hb : EV K tb env1 (.list es) env2) : EF K (tOp rCat ta tb) env (ds ++ es) env2 := fun F σ H o Q q =>
  ha F σ H o _ fun F1 v H1 r1 dx => hb F1 σ H1 r1.own _ fun F2 w H2 r2 dy => by
    have dx := dx.up r2.exF
    have rr := r1.trans r2
    cases dx with
    | lst hs hl1 hd =>
      cases dy with
      | lst hs2 hl2 hd2 =>
        have hlen := hl
        rw [← hd.length, ← hd2.length] at hlen
        exact ⟨_, _, _, _, rfl, rfl, r2.own.ex _ _ hs, r2.own.ex _ _ hs2, lim_sz hlen, fun p hp => q F2 p _ _ (rr.trans (Rn.mut r2.own hp _)) (r2.own.fresh hp) (back_none rr hp) upd_same (by rw [List.length_append]; exact hlen) (hd.app hd2) (r2.own.not_ow hp)⟩
end
end Gw

-- Gw3
/-! Gw3: statements, own calls, loops, comprehensions. -/
namespace Gw
open PySem PySem.Spec PyProof.Rows L2
open Gw.Enc (enc)

section
variable {K : FR} {σ σ1 σ2 : L2.St} {env env1 env2 env3 : List Slot} {F F1 F2 H H1 H2 : Hp} {ta tb tc te : TE} {tr : TA} {t u : TT} {tz ts tw : TS} {d d1 d2 d3 : PyData} {ds es : List PyData} {b c : Bool} {x y : Int} {P : Po} {D : Ends} {i : Nat} {q : Option Addr}

/-! ### less is known -/
def Le : List Slot → List Slot → Prop
  | [], [] => True
  | a :: as, b :: bs => (b = .u ∨ a = b) ∧ Le as bs
  | _, _ => False
theorem Le.get : ∀ {e e' : List Slot} {i : Nat} {s : Slot}, Le e e' → e'[i]? = some s → s = .u ∨ e[i]? = some s
  | [], [], _, _, _, h => by simp at h
  | a :: as, b :: bs, 0, s, l, h => by
    simp at h
    subst h
    rcases l.1 with e | e
    · exact .inl e
    · right; simp [e]
  | a :: as, b :: bs, i + 1, s, l, h => by
    have := Le.get (i := i) l.2 (by simpa using h)
    simpa using this
  | [], _ :: _, _, _, l, _ => l.elim
  | _ :: _, [], _, _, l, _ => l.elim
theorem Le.len : ∀ {e e' : List Slot}, Le e e' → e.length = e'.length
  | [], [], _ => rfl
  | _ :: _, _ :: _, l => by simp [Le.len l.2]
  | [], _ :: _, l => l.elim
  | _ :: _, [], l => l.elim
theorem Le.refl : ∀ e : List Slot, Le e e
  | [] => trivial
  | _ :: as => ⟨.inr rfl, Le.refl as⟩
theorem Own.le (w : Own K F σ H env) (l : Le env env1) : Own K F σ H env1 where
  len := w.len.trans l.len
  ex := w.ex
  dat := fun i x h => by
    rcases l.get h with e | e
    · cases e
    · exact w.dat i x e
  scr := fun i x h => by
    rcases l.get h with e | e
    · cases e
    · exact w.scr i x e
  rng := fun i lo hi h => by
    rcases l.get h with e | e
    · cases e
    · exact w.rng i lo hi e
  lst := fun i q ds h => by
    rcases l.get h with e | e
    · cases e
    · exact w.lst i q ds e
  inj := fun i j q q' ds es p h1 h2 h3 h4 => by
    rcases l.get h1 with e | e
    · cases e
    · rcases l.get h2 with e' | e'
      · cases e'
      · exact w.inj i j q q' ds es p e e' h3 h4
theorem ow_le (l : Le env env1) {a : Addr} (h : ow σ env1 a) : ow σ env a := by
  obtain ⟨i, q, ds, h1, h2⟩ := h
  rcases l.get h1 with e | e
  · cases e
  · exact ⟨i, q, ds, e, h2⟩
theorem Rn.le (r : Rn K σ env F H σ1 env1 F1 H1) (l : Le env1 env2) : Rn K σ env F H σ1 env2 F1 H1 :=
  ⟨r.exF, r.new, r.keep, r.dom, fun a h => r.ows a (ow_le l h), r.own.le l⟩
/-- less is known of the beginning -/
theorem Rn.ofLe (l : Le env env1) (o : Own K F σ H env) : Rn K σ env F H σ env1 F H := (Rn.refl o).le l

/-! ### stores -/
theorem Own.set (w : Own K F σ H env) {v : V} (hv : Dq K F v d) : Own K F (σ.set i (some v)) H (env.set i (.d d)) := by
  have hl := w.len
  refine ⟨by rw [List.length_set, List.length_set, hl], w.ex, fun j x h => ?_, fun j x h => ?_, fun j lo hi h => ?_, fun j q ds h => ?_, fun j k q q' ds es p h1 h2 h3 h4 => ?_⟩
  · by_cases e : i = j
    · subst e
      by_cases hi : i < env.length
      · rw [List.getElem?_set_self hi] at h
        cases h
        exact ⟨v, List.getElem?_set_self (by omega), hv⟩
      · rw [List.getElem?_eq_none (by rw [List.length_set]; omega)] at h; cases h
    · rw [List.getElem?_set_ne e] at h ⊢
      exact w.dat j x h
  · by_cases e : i = j
    · subst e
      by_cases hi : i < env.length
      · rw [List.getElem?_set_self hi] at h; cases h
      · rw [List.getElem?_eq_none (by rw [List.length_set]; omega)] at h; cases h
    · rw [List.getElem?_set_ne e] at h ⊢
      exact w.scr j x h
  · by_cases e : i = j
    · subst e
      by_cases hi : i < env.length
      · rw [List.getElem?_set_self hi] at h; cases h
      · rw [List.getElem?_eq_none (by rw [List.length_set]; omega)] at h; cases h
    · rw [List.getElem?_set_ne e] at h ⊢
      exact w.rng j lo hi h
  · by_cases e : i = j
    · subst e
      by_cases hi : i < env.length
      · rw [List.getElem?_set_self hi] at h; cases h
      · rw [List.getElem?_eq_none (by rw [List.length_set]; omega)] at h; cases h
    · rw [List.getElem?_set_ne e] at h ⊢
      exact w.lst j q ds h
  · have n1 : i ≠ j := fun e => by
      subst e
      by_cases hi : i < env.length
      · rw [List.getElem?_set_self hi] at h1; cases h1
      · rw [List.getElem?_eq_none (by rw [List.length_set]; omega)] at h1; cases h1
    have n2 : i ≠ k := fun e => by
      subst e
      by_cases hi : i < env.length
      · rw [List.getElem?_set_self hi] at h2; cases h2
      · rw [List.getElem?_eq_none (by rw [List.length_set]; omega)] at h2; cases h2
    rw [List.getElem?_set_ne n1] at h1 h3
    rw [List.getElem?_set_ne n2] at h2 h4
    exact w.inj j k q q' ds es p h1 h2 h3 h4
theorem ow_set {v : V} {a : Addr} (h : ow (σ.set i (some v)) (env.set i (.d d)) a) : ow σ env a := by
  obtain ⟨j, q, ds, h1, h2⟩ := h
  have n1 : i ≠ j := fun e => by
    subst e
    by_cases hi : i < env.length
    · rw [List.getElem?_set_self hi] at h1; cases h1
    · rw [List.getElem?_eq_none (by rw [List.length_set]; omega)] at h1; cases h1
  rw [List.getElem?_set_ne n1] at h1 h2
  exact ⟨j, q, ds, h1, h2⟩
theorem Rn.set (w : Own K F σ H env) {v : V} (hv : Dq K F v d) : Rn K σ env F H (σ.set i (some v)) (env.set i (.d d)) F H :=
  ⟨Evl.Ex.refl F, fun _ _ h => .inl h, fun _ _ h _ => h, fun _ o h => ⟨o, h⟩, fun a h => .inl (ow_set h), w.set hv⟩
/-- a new list into a slot -/
theorem Own.setL (w : Own K F σ H env) {p : Addr} {vs : List V} (h0 : F p = none) (h1 : H p = some (.lst vs)) (hl : vs.length ≤ LIM) (hd : DqAll K F vs ds) (hn : ¬ ow σ env p) : Own K F (σ.set i (some (.ref p))) H (env.set i (.l none ds)) := by
  have hlen := w.len
  refine ⟨by rw [List.length_set, List.length_set, hlen], w.ex, fun j x h => ?_, fun j x h => ?_, fun j lo hi h => ?_, fun j q' es h => ?_, fun j k q' q'' es es' p' g1 g2 g3 g4 => ?_⟩
  · by_cases e : i = j
    · subst e
      by_cases hi : i < env.length
      · rw [List.getElem?_set_self hi] at h; cases h
      · rw [List.getElem?_eq_none (by rw [List.length_set]; omega)] at h; cases h
    · rw [List.getElem?_set_ne e] at h ⊢
      exact w.dat j x h
  · by_cases e : i = j
    · subst e
      by_cases hi : i < env.length
      · rw [List.getElem?_set_self hi] at h; cases h
      · rw [List.getElem?_eq_none (by rw [List.length_set]; omega)] at h; cases h
    · rw [List.getElem?_set_ne e] at h ⊢
      exact w.scr j x h
  · by_cases e : i = j
    · subst e
      by_cases hi : i < env.length
      · rw [List.getElem?_set_self hi] at h; cases h
      · rw [List.getElem?_eq_none (by rw [List.length_set]; omega)] at h; cases h
    · rw [List.getElem?_set_ne e] at h ⊢
      exact w.rng j lo hi h
  · by_cases e : i = j
    · subst e
      by_cases hi : i < env.length
      · rw [List.getElem?_set_self hi] at h
        cases h
        exact ⟨p, vs, List.getElem?_set_self (by omega), (fun a z => by cases z), h0, h1, hl, hd⟩
      · rw [List.getElem?_eq_none (by rw [List.length_set]; omega)] at h; cases h
    · rw [List.getElem?_set_ne e] at h ⊢
      exact w.lst j q' es h
  · by_cases e1 : i = j
    · by_cases e2 : i = k
      · exact e1.symm.trans e2
      · subst e1
        rw [List.getElem?_set_ne e2] at g2 g4
        exfalso
        by_cases hi : i < σ.length
        · rw [List.getElem?_set_self hi] at g3
          cases g3
          exact hn ⟨k, q'', es', g2, g4⟩
        · rw [List.getElem?_eq_none (by rw [List.length_set]; omega)] at g3; cases g3
    · by_cases e2 : i = k
      · subst e2
        rw [List.getElem?_set_ne e1] at g1 g3
        exfalso
        by_cases hi : i < σ.length
        · rw [List.getElem?_set_self hi] at g4
          cases g4
          exact hn ⟨j, q', es, g1, g3⟩
        · rw [List.getElem?_eq_none (by rw [List.length_set]; omega)] at g4; cases g4
      · rw [List.getElem?_set_ne e1] at g1 g3
        rw [List.getElem?_set_ne e2] at g2 g4
        exact w.inj j k q' q'' es es' p' g1 g2 g3 g4
theorem Rn.setL (r : Rn K σ env F H σ1 env1 F1 H1) {p : Addr} {vs : List V} (h0 : F1 p = none) (hp : H p = none) (h1 : H1 p = some (.lst vs)) (hl : vs.length ≤ LIM) (hd : DqAll K F1 vs ds) (hn : ¬ ow σ1 env1 p) : Rn K σ env F H (σ1.set i (some (.ref p))) (env1.set i (.l none ds)) F1 H1 :=
  ⟨r.exF, r.new, r.keep, r.dom, fun a h => by
    obtain ⟨j, q', es, g1, g2⟩ := h
    by_cases e : i = j
    · subst e
      by_cases hi : i < σ1.length
      · rw [List.getElem?_set_self hi] at g2
        cases g2
        exact .inr hp
      · rw [List.getElem?_eq_none (by rw [List.length_set]; omega)] at g2; cases g2
    · rw [List.getElem?_set_ne e] at g1 g2
      exact r.ows a ⟨j, q', es, g1, g2⟩, r.own.setL h0 h1 hl hd hn⟩
/-- a list of its own is changed -/
theorem Own.chg (w : Own K F σ H env) (hi : env[i]? = some (.l q ds)) {p : Addr} {ws : List V} (hp : σ[i]? = some (some (.ref p))) (hl : ws.length ≤ LIM) (hd : DqAll K F ws es) : Own K F σ (upd H p (.lst ws)) (env.set i (.l q es)) := by
  have hi' : i < env.length := (List.getElem?_eq_some_iff.mp hi).1
  obtain ⟨p', vs, g1, g2, g3, g4, g5, g6⟩ := w.lst i q ds hi
  rw [hp] at g1
  cases g1
  refine ⟨by rw [List.length_set]; exact w.len, Evl.Ex.mut w.ex g3, fun j x h => ?_, fun j x h => ?_, fun j lo hi h => ?_, fun j q' es' h => ?_, fun j k q' q'' es1 es2 p2 k1 k2 k3 k4 => ?_⟩
  · by_cases e : i = j
    · subst e; rw [List.getElem?_set_self hi'] at h; cases h
    · rw [List.getElem?_set_ne e] at h; exact w.dat j x h
  · by_cases e : i = j
    · subst e; rw [List.getElem?_set_self hi'] at h; cases h
    · rw [List.getElem?_set_ne e] at h; exact w.scr j x h
  · by_cases e : i = j
    · subst e; rw [List.getElem?_set_self hi'] at h; cases h
    · rw [List.getElem?_set_ne e] at h; exact w.rng j lo hi h
  · by_cases e : i = j
    · subst e
      rw [List.getElem?_set_self hi'] at h
      cases h
      exact ⟨p, ws, hp, g2, g3, upd_same, hl, hd⟩
    · rw [List.getElem?_set_ne e] at h
      obtain ⟨p2, vs2, k1, k2, k3, k4, k5, k6⟩ := w.lst j q' es' h
      have ne : p2 ≠ p := fun z => by
        subst z
        exact e (w.inj i j q q' ds es' p2 hi h hp k1)
      exact ⟨p2, vs2, k1, k2, k3, by rw [upd_ne ne]; exact k4, k5, k6⟩
  · have old : ∀ {j : Nat} {q' : Option Addr} {es1 : List PyData}, (env.set i (.l q es))[j]? = some (.l q' es1) → ∃ q2 es2, env[j]? = some (.l q2 es2) := fun {j q' es1} h => by
      by_cases e : i = j
      · subst e; exact ⟨q, ds, hi⟩
      · rw [List.getElem?_set_ne e] at h; exact ⟨q', es1, h⟩
    obtain ⟨a1, b1, c1⟩ := old k1
    obtain ⟨a2, b2, c2⟩ := old k2
    exact w.inj j k _ _ _ _ p2 c1 c2 k3 k4
theorem Rn.chg (w : Own K F σ H env) (hi : env[i]? = some (.l q ds)) {p : Addr} {ws : List V} (hp : σ[i]? = some (some (.ref p))) (hl : ws.length ≤ LIM) (hd : DqAll K F ws es) : Rn K σ env F H σ (env.set i (.l q es)) F (upd H p (.lst ws)) := by
  have hi' : i < env.length := (List.getElem?_eq_some_iff.mp hi).1
  refine ⟨Evl.Ex.refl F, fun _ _ h => .inl h, fun a o h n => ?_, fun a o h => ?_, fun a h => ?_, w.chg hi hp hl hd⟩
  · have ne : a ≠ p := fun z => by subst z; exact n ⟨i, q, ds, hi, hp⟩
    rw [upd_ne ne]; exact h
  · by_cases e : a = p
    · subst e; exact ⟨_, upd_same⟩
    · exact ⟨o, by rw [upd_ne e]; exact h⟩
  · obtain ⟨j, q', es', h1, h2⟩ := h
    by_cases e : i = j
    · subst e; exact .inl ⟨i, q, ds, hi, h2⟩
    · rw [List.getElem?_set_ne e] at h1; exact .inl ⟨j, q', es', h1, h2⟩

/-! ### targets -/
theorem eg_n (i : Nat) : EG K (gName i) env d (env.set i (.d d)) [i] := fun F σ H v o dv Q k =>
  k _ (Rn.set o dv) ⟨fun j hj => List.getElem?_set_ne (fun e => hj (by rw [e]; exact List.mem_singleton.mpr rfl)), List.length_set⟩
theorem egs_nil : EGs K gNil env [] env [] := fun F σ H vs o dvs Q k => by
  cases dvs
  exact ⟨rfl, k σ (Rn.refl o) ⟨fun _ _ => rfl, rfl⟩⟩
theorem egs_cons {g : TG} {gs : TGs} {js ks : List Nat} (h : EG K g env d env1 js) (hr : EGs K gs env1 ds env2 ks) : EGs K (gCons g gs) env (d :: ds) env2 (js ++ ks) := fun F σ H vs o dvs Q k => by
  cases dvs with
  | cons h1 h2 =>
    exact ⟨_, _, rfl, h F σ H _ o h1 _ fun σ1 r1 k1 => hr F σ1 H _ r1.own h2 _ fun σ2 r2 k2 => k σ2 (r1.trans r2) ⟨fun j hj => by
      rw [List.mem_append, not_or] at hj
      exact (k2.1 j hj.2).trans (k1.1 j hj.1), k2.2.trans k1.2⟩⟩
theorem eg_t {gs : TGs} {js : List Nat} {n : Nat} (h : EGs K gs env ds env1 js) (hn : ds.length = n := by rfl) : EG K (gTup K n gs) env (.tuple ds) env1 js := fun F σ H v o dv Q k => by
  cases dv with
  | tup hs hl hd => exact ⟨_, _, rfl, Evl.ex_t o.ex hs, by rw [hd.length]; exact hn, h F σ H _ o hd Q k⟩

/-! ### blocks -/
theorem Ends'.after (E : Ends' K σ env F H P D) (r : Rn K σ env F H σ1 env1 F1 H1) : Ends' K σ1 env1 F1 H1 P D :=
  ⟨fun e F' σ' H' h r' => E.nx e F' σ' H' h (r.trans r'), fun e F' σ' H' h r' => E.bk e F' σ' H' h (r.trans r'), fun e F' σ' H' h r' => E.ct e F' σ' H' h (r.trans r'), fun x e F' v σ' H' h r' hv => E.rt x e F' v σ' H' h (r.trans r') (by
    cases x with
    | d x => exact hv
    | l ds =>
      obtain ⟨p, vs, h1, h2, h3, h4⟩ := hv
      refine ⟨p, vs, h1, h2, ?_, h4⟩
      rcases h3 with h3 | h3
      · exact r.ows p h3
      · exact .inr (back_none r h3))⟩
/-- another wish of what follows -/
theorem Ends'.to {P' : Po} {D' : Ends} (E : Ends' K σ env F H P D) (hn : ∀ env' F' σ' H', P'.nx env' → Rn K σ env F H σ' env' F' H' → D'.nx σ' H') (hb : ∀ e, P'.bk e → P.bk e) (hc : ∀ e, P'.ct e → P.ct e) (hr : ∀ x e, P'.rt x e → P.rt x e) (e1 : D'.bk = D.bk) (e2 : D'.ct = D.ct) (e3 : D'.rt = D.rt) : Ends' K σ env F H P' D' :=
  ⟨hn, fun e F' σ' H' h r => by rw [e1]; exact E.bk e F' σ' H' (hb e h) r, fun e F' σ' H' h r => by rw [e2]; exact E.ct e F' σ' H' (hc e h) r, fun x e F' v σ' H' h r hv => by rw [e3]; exact E.rt x e F' v σ' H' (hr x e h) r hv⟩
/-- a statement, then the rest -/
theorem bv_seq {M : List Slot → Prop} (h1 : BV K ts env { P with nx := M }) (h2 : ∀ e, M e → BV K tz e P) : BV K (tSeq ts tz) env P := fun F σ H o D E =>
  h1 F σ H o { D with nx := tz D } (E.to (fun env' F' σ' H' m r => h2 env' m F' σ' H' r.own D (E.after r)) (fun _ h => h) (fun _ h => h) (fun _ _ h => h) rfl rfl rfl)
theorem bv_nil (h : P.nx env) : BV K tNext env P := fun F σ H o D E => E.nx env F σ H h (Rn.refl o)
theorem bv_brk (h : P.bk env) : BV K tBreak env P := fun F σ H o D E => E.bk env F σ H h (Rn.refl o)
theorem bv_cnt (h : P.ct env) : BV K tCont env P := fun F σ H o D E => E.ct env F σ H h (Rn.refl o)
theorem bv_le (l : Le env env1) (h : BV K ts env1 P) : BV K ts env P := fun F σ H o D E => h F σ H (o.le l) D (E.after (Rn.ofLe l o))
theorem BV.to {P' : Po} (h : BV K ts env P) (hn : ∀ e, P.nx e → P'.nx e) (hr : ∀ x e, P.rt x e → P'.rt x e) (hb : ∀ e, P.bk e → P'.bk e) (hc : ∀ e, P.ct e → P'.ct e) : BV K ts env P' := fun F σ H o D E =>
  h F σ H o D ⟨fun e F' σ' H' q r => E.nx e F' σ' H' (hn e q) r, fun e F' σ' H' q r => E.bk e F' σ' H' (hb e q) r, fun e F' σ' H' q r => E.ct e F' σ' H' (hc e q) r, fun x e F' v σ' H' q r hv => E.rt x e F' v σ' H' (hr x e q) r hv⟩
/-- name = e -/
theorem bv_set1 (h : EV K te env d env1) (k : P.nx (env1.set i (.d d))) : BV K (tAsg te (gName i)) env P := fun F σ H o D E =>
  h F σ H o _ fun F1 v H1 r1 dv => E.nx _ F1 _ H1 k (r1.trans (Rn.set r1.own dv))
theorem bv_set (h : EV K te env d env1) (k : BV K tz (env1.set i (.d d)) P) : BV K (tSeq (tAsg te (gName i)) tz) env P := bv_seq (M := fun e => e = env1.set i (.d d)) (bv_set1 h rfl) fun _ e => e ▸ k
/-- name = a new list, its own -/
theorem bv_setL1 (h : EF K te env ds env1) (k : P.nx (env1.set i (.l none ds))) : BV K (tAsg te (gName i)) env P := fun F σ H o D E =>
  h F σ H o _ fun F1 p vs H1 r1 h1 h2 h3 h4 h5 h6 => E.nx _ F1 _ H1 k (r1.setL h1 h2 h3 h4 h5 h6)
theorem bv_setL (h : EF K te env ds env1) (k : BV K tz (env1.set i (.l none ds)) P) : BV K (tSeq (tAsg te (gName i)) tz) env P := bv_seq (M := fun e => e = env1.set i (.l none ds)) (bv_setL1 h rfl) fun _ e => e ▸ k
/-- target = e -/
theorem bv_tgt1 {g : TG} {js : List Nat} (h : EV K te env d env1) (hg : EG K g env1 d env2 js) (k : P.nx env2) : BV K (tAsg te g) env P := fun F σ H o D E =>
  h F σ H o _ fun F1 v H1 r1 dv => hg F1 σ H1 v r1.own dv _ fun σ2 r2 _ => E.nx _ F1 σ2 H1 k (r1.trans r2)
theorem bv_tgt {g : TG} {js : List Nat} (h : EV K te env d env1) (hg : EG K g env1 d env2 js) (k : BV K tz env2 P) : BV K (tSeq (tAsg te g) tz) env P := bv_seq (M := fun e => e = env2) (bv_tgt1 h hg rfl) fun _ e => e ▸ k
/-- name += e -/
theorem bv_aug1 {f : Int → Int → Int} (hi : env[i]? = some (.d (.int x))) (h : EV K te env (.int y) env1) (k : P.nx (env1.set i (.d (.int (f x y))))) : BV K (tAug i te (ipI f)) env P := fun F σ H o D E => by
  obtain ⟨v, h1, h2⟩ := o.dat i _ hi
  cases h2
  refine ⟨.int x, h1, h F σ H o _ fun F1 w H1 r1 dv => ?_⟩
  cases dv
  exact ⟨x, y, rfl, rfl, E.nx _ F1 _ H1 k (r1.trans (Rn.set r1.own (.int _)))⟩
theorem bv_aug {f : Int → Int → Int} (hi : env[i]? = some (.d (.int x))) (h : EV K te env (.int y) env1) (k : BV K tz (env1.set i (.d (.int (f x y)))) P) : BV K (tSeq (tAug i te (ipI f)) tz) env P := bv_seq (M := fun e => e = env1.set i (.d (.int (f x y)))) (bv_aug1 hi h rfl) fun _ e => e ▸ k
/-- an expression alone -/
theorem bv_drop1 (h : EV K te env d env1) (k : P.nx env1) : BV K (tDrop te) env P := fun F σ H o D E =>
  h F σ H o _ fun F1 v H1 r1 dv => E.nx _ F1 _ H1 k r1
theorem bv_drop (h : EV K te env d env1) (k : BV K tz env1 P) : BV K (tSeq (tDrop te) tz) env P := bv_seq (M := fun e => e = env1) (bv_drop1 h rfl) fun _ e => e ▸ k
/-- if -/
theorem bv_if (h : ET K t env b env1) (h1 : b = true → BV K ts env1 P) (h2 : b = false → BV K tw env1 P) : BV K (tIfS t ts tw) env P := fun F σ H o D E =>
  h F σ H o _ fun F1 H1 r1 => by
    cases b with
    | true => exact h1 rfl F1 σ H1 r1.own D (E.after r1)
    | false => exact h2 rfl F1 σ H1 r1.own D (E.after r1)
/-- return -/
theorem bv_ret (h : EV K te env d env1) (k : P.rt (.d d) env1) : BV K (tRet te) env P := fun F σ H o D E =>
  h F σ H o _ fun F1 v H1 r1 dv => E.rt _ _ F1 v σ H1 k r1 dv
theorem bv_retF (h : EF K te env ds env1) (k : P.rt (.l ds) env1) : BV K (tRet te) env P := fun F σ H o D E =>
  h F σ H o _ fun F1 p vs H1 r1 h1 h2 h3 h4 h5 h6 => E.rt _ _ F1 _ σ H1 k r1 ⟨p, vs, rfl, h1, .inr h2, h6, h3, h4, h5⟩
theorem bv_retN (k : P.rt (.d .none) env) : BV K tRetN env P := fun F σ H o D E => E.rt _ _ F _ σ H k (Rn.refl o) .non
/-- return of a list of its own -/
theorem Own.drop (w : Own K F σ H env) : Own K F σ H (env.set i .u) := by
  refine ⟨by rw [List.length_set]; exact w.len, w.ex, fun j x h => ?_, fun j x h => ?_, fun j lo hi h => ?_, fun j q ds h => ?_, fun j k q q' ds es p h1 h2 h3 h4 => ?_⟩
  all_goals first
    | (by_cases e : i = j
       · subst e
         by_cases hi : i < env.length
         · rw [List.getElem?_set_self hi] at h; cases h
         · rw [List.getElem?_eq_none (by rw [List.length_set]; omega)] at h; cases h
       · rw [List.getElem?_set_ne e] at h
         first | exact w.dat j _ h | exact w.scr j _ h | exact w.rng j _ _ h | exact w.lst j _ _ h)
    | skip
  have old : ∀ {j : Nat} {q' : Option Addr} {es1 : List PyData}, (env.set i .u)[j]? = some (.l q' es1) → env[j]? = some (.l q' es1) := fun {j q' es1} h => by
    by_cases e : i = j
    · subst e
      by_cases hi : i < env.length
      · rw [List.getElem?_set_self hi] at h; cases h
      · rw [List.getElem?_eq_none (by rw [List.length_set]; omega)] at h; cases h
    · rw [List.getElem?_set_ne e] at h; exact h
  exact w.inj j k q q' ds es p (old h1) (old h2) h3 h4
theorem set_u : ∀ {j : Nat} {q' : Option Addr} {es1 : List PyData}, (env.set i .u)[j]? = some (.l q' es1) → j ≠ i ∧ env[j]? = some (.l q' es1) := fun {j q' es1} h => by
  by_cases e : i = j
  · subst e
    by_cases hi : i < env.length
    · rw [List.getElem?_set_self hi] at h; cases h
    · rw [List.getElem?_eq_none (by rw [List.length_set]; omega)] at h; cases h
  · rw [List.getElem?_set_ne e] at h; exact ⟨fun z => e z.symm, h⟩
theorem Rn.drop (o : Own K F σ H env) : Rn K σ env F H σ (env.set i .u) F H :=
  ⟨Evl.Ex.refl F, fun _ _ h => .inl h, fun _ _ h _ => h, fun _ o h => ⟨o, h⟩, fun a h => by
    obtain ⟨j, q', es, h1, h2⟩ := h
    exact .inl ⟨j, q', es, (set_u h1).2, h2⟩, o.drop⟩
theorem bv_retO (hi : env[i]? = some (.l none ds)) (k : P.rt (.l ds) (env.set i .u)) : BV K (tRet (tVar i)) env P := fun F σ H o D E => by
  obtain ⟨p, vs, h1, _, h3, h4, h5, h6⟩ := o.lst i none ds hi
  refine ⟨.ref p, h1, E.rt _ _ F _ σ H k (Rn.drop o) ⟨p, vs, rfl, h3, .inl ⟨i, none, ds, hi, h1⟩, fun z => ?_, h4, h5, h6⟩⟩
  obtain ⟨j, q', es, g1, g2⟩ := z
  obtain ⟨n, g1⟩ := set_u g1
  exact n (o.inj j i q' none es ds p g1 hi g2 h1)
/-- a list of its own becomes data for good -/
theorem bv_frz (hi : env[i]? = some (.l none ds)) (h : BV K ts (env.set i (.d (.list ds))) P) : BV K ts env P := fun F σ H o D E => by
  obtain ⟨p, vs, h1, _, h3, h4, h5, h6⟩ := o.lst i none ds hi
  have hi' : i < env.length := (List.getElem?_eq_some_iff.mp hi).1
  have ex1 : Ex F (upd F p (.lst vs)) := Evl.Ex.new h3
  have hset : ∀ {j : Nat} {s : Slot}, (env.set i (.d (.list ds)))[j]? = some s → (j = i ∧ s = .d (.list ds)) ∨ (j ≠ i ∧ env[j]? = some s) := fun {j s} h => by
    by_cases e : i = j
    · subst e
      rw [List.getElem?_set_self hi'] at h
      cases h
      exact .inl ⟨rfl, rfl⟩
    · rw [List.getElem?_set_ne e] at h; exact .inr ⟨fun z => e z.symm, h⟩
  have ow1 : ∀ a, ow σ (env.set i (.d (.list ds))) a → ow σ env a ∧ a ≠ p := fun a ⟨j, q', es, g1, g2⟩ => by
    rcases hset g1 with ⟨_, z⟩ | ⟨n, g⟩
    · cases z
    · exact ⟨⟨j, q', es, g, g2⟩, fun z => by subst z; exact n (o.inj j i q' none es ds a g hi g2 h1)⟩
  have own1 : Own K (upd F p (.lst vs)) σ H (env.set i (.d (.list ds))) := by
    refine ⟨by rw [List.length_set]; exact o.len, fun a w e => ?_, fun j x h => ?_, fun j x h => ?_, fun j lo hi h => ?_, fun j q' es h => ?_, fun j k q' q'' es es' p' g1 g2 g3 g4 => ?_⟩
    · by_cases z : a = p
      · subst z; rw [upd_same] at e; cases e; exact h4
      · rw [upd_ne z] at e; exact o.ex a w e
    · rcases hset h with ⟨z, z2⟩ | ⟨_, g⟩
      · cases z2
        subst z
        exact ⟨.ref p, h1, .lst upd_same h5 (h6.up ex1)⟩
      · obtain ⟨v, a1, a2⟩ := o.dat j x g
        exact ⟨v, a1, a2.up ex1⟩
    · rcases hset h with ⟨z, z2⟩ | ⟨_, g⟩
      · cases z2
      · obtain ⟨v, a1, a2⟩ := o.scr j x g
        exact ⟨v, a1, Evl.ex_l ex1 a2⟩
    · rcases hset h with ⟨z, z2⟩ | ⟨_, g⟩
      · cases z2
      · obtain ⟨v, a1, a2⟩ := o.rng j lo hi g
        exact ⟨v, a1, ex1 _ _ a2⟩
    · rcases hset h with ⟨z, z2⟩ | ⟨n, g⟩
      · cases z2
      · obtain ⟨p2, vs2, k1, k2, k3, k4, k5, k6⟩ := o.lst j q' es g
        have ne : p2 ≠ p := fun z => by subst z; exact n (o.inj j i q' none es ds p2 g hi k1 h1)
        exact ⟨p2, vs2, k1, k2, by rw [upd_ne ne]; exact k3, k4, k5, k6.up ex1⟩
    · rcases hset g1 with ⟨_, z⟩ | ⟨_, c1⟩
      · cases z
      · rcases hset g2 with ⟨_, z⟩ | ⟨_, c2⟩
        · cases z
        · exact o.inj j k _ _ _ _ p' c1 c2 g3 g4
  refine h _ σ H own1 D (E.after ⟨ex1, fun a w e => ?_, fun _ _ h _ => h, fun _ o h => ⟨o, h⟩, fun a h => .inl (ow1 a h).1, own1⟩)
  by_cases z : a = p
  · subst z; exact .inr (.inl ⟨i, none, ds, hi, h1⟩)
  · rw [upd_ne z] at e; exact .inl e
end
end Gw

-- Gw4
/-! Gw4: lists that are changed, own calls. -/
namespace Gw
open PySem PySem.Spec PyProof.Rows L2
open Gw.Enc (enc)

section
variable {K : FR} {σ σ1 σ2 : L2.St} {env env1 env2 env3 : List Slot} {F F1 F2 H H1 H2 : Hp} {ta tb tc te : TE} {tr : TA} {t u : TT} {tz ts tw : TS} {d d1 d2 d3 : PyData} {ds es : List PyData} {b c : Bool} {x y : Int} {P : Po} {D : Ends} {i : Nat} {q : Option Addr}

/-! ### lists of one's own, changed -/
theorem lst_at (o : Own K F σ H env) (hi : env[i]? = some (.l q ds)) {p : Addr} (hp : σ[i]? = some (some (.ref p))) : ∃ vs, F p = none ∧ H p = some (.lst vs) ∧ vs.length ≤ LIM ∧ DqAll K F vs ds := by
  obtain ⟨p', vs, h1, _, h3, h4, h5, h6⟩ := o.lst i q ds hi
  rw [hp] at h1
  cases h1
  exact ⟨vs, h3, h4, h5, h6⟩
/-- xs.append(e), as a value -/
theorem ev_app {ds0 : List PyData} (hi0 : env[i]? = some (.l q ds0)) (h : EV K te env d env1) (hi : env1[i]? = some (.l q ds)) (hl : ds.length < LIM) :
    EV K (tBM K "list" rAppend (tVar i) (tCons te tNil)) env .none (env1.set i (.l q (ds ++ [d]))) := fun F σ H o Q k => by
  obtain ⟨p, vs0, h1, _, h3, h4, h5, h6⟩ := o.lst i q ds0 hi0
  refine ⟨.ref p, h1, .inl ⟨rfl, _, .inl (.inl h4)⟩, h F σ H o _ fun F1 v H1 r1 dv => ?_⟩
  obtain ⟨vs, g3, g4, g5, g6⟩ := lst_at r1.own hi h1
  refine ⟨p, vs, v, rfl, rfl, g4, by rw [g6.length]; exact lim_lt hl, k F1 _ _ (r1.trans (Rn.chg r1.own hi h1 ?_ (g6.app (.one dv)))) .non⟩
  rw [List.length_append, g6.length]
  exact hl
/-- xs.pop() -/
theorem ev_pop (hi : env[i]? = some (.l q ds)) (hd : ds.getLast? = some d) : EV K (tBM0 K "list" rPop (tVar i)) env d (env.set i (.l q ds.dropLast)) := fun F σ H o Q k => by
  obtain ⟨p, vs, h1, _, h3, h4, h5, h6⟩ := o.lst i q ds hi
  rw [List.getLast?_eq_getElem?, ← h6.length] at hd
  obtain ⟨v, g1, g2⟩ := h6.get hd
  refine ⟨.ref p, h1, .inl ⟨rfl, _, .inl (.inl h4)⟩, p, vs, v, rfl, rfl, h4, g1, k F _ _ (Rn.chg o hi h1 ?_ h6.dropLast) g2⟩
  rw [List.length_dropLast]
  omega
/-- xs.pop(k) -/
theorem ev_popAt {ds0 : List PyData} {j : Nat} (hi0 : env[i]? = some (.l q ds0)) (h : EV K te env (.int (j : Int)) env1) (hi : env1[i]? = some (.l q ds)) (hd : ds[j]? = some d) :
    EV K (tBM K "list" rPopAt (tVar i) (tCons te tNil)) env d (env1.set i (.l q (ds.eraseIdx j))) := fun F σ H o Q k => by
  obtain ⟨p, vs0, h1, _, h3, h4, h5, h6⟩ := o.lst i q ds0 hi0
  refine ⟨.ref p, h1, .inl ⟨rfl, _, .inl (.inl h4)⟩, h F σ H o _ fun F1 v H1 r1 dv => ?_⟩
  cases dv
  obtain ⟨vs, g3, g4, g5, g6⟩ := lst_at r1.own hi h1
  obtain ⟨w, k1, k2⟩ := g6.get hd
  have hj : j < ds.length := (List.getElem?_eq_some_iff.mp hd).1
  have hjv : j < vs.length := by rw [g6.length]; exact hj
  have hlim : (LIM : Nat) < 2 ^ 62 := by decide
  have e1 : seqIndex? (j : Int) vs.length = some j := (ixN_seq (n := vs.length) (i := (j : Int)) (j := j) (by
    unfold ixN
    rw [if_pos (by omega), if_pos (by omega)]
    simp)).1
  have de : DqAll K F1 (vs.eraseIdx j) (ds.eraseIdx j) := by
    rw [List.eraseIdx_eq_take_drop_succ, List.eraseIdx_eq_take_drop_succ]
    exact (g6.take j).app (g6.drop (j + 1))
  refine ⟨p, vs, (j : Int), j, w, rfl, rfl, g4, by omega, by omega, e1, k1, k F1 _ _ (r1.trans (Rn.chg r1.own hi h1 ?_ de)) k2⟩
  have := List.length_eraseIdx_le vs j
  omega
/-- xs.reverse() -/
theorem ev_rev (hi : env[i]? = some (.l q ds)) : EV K (tBM0 K "list" rReverse (tVar i)) env .none (env.set i (.l q ds.reverse)) := fun F σ H o Q k => by
  obtain ⟨p, vs, h1, _, h3, h4, h5, h6⟩ := o.lst i q ds hi
  refine ⟨.ref p, h1, .inl ⟨rfl, _, .inl (.inl h4)⟩, p, vs, rfl, rfl, h4, k F _ _ (Rn.chg o hi h1 ?_ h6.rev) .non⟩
  rw [List.length_reverse]
  exact h5
/-- xs[k] = e -/
theorem eg_at {ds0 : List PyData} {j : Nat} (hj : ixN ds.length x = some j) (hb : EV K tb env (.int x) env1) (hi0 : env[i]? = some (.l q ds0)) (hi : env1[i]? = some (.l q ds)) {D : Ends} {v : V} {F : Hp} (o : Own K F σ H env) (dv : Dq K F v d)
    (k : ∀ F' H', Rn K σ env F H σ (env1.set i (.l q (ds.set j d))) F' H' → D.nx σ H') : gSub (tVar i) tb rSetL v σ H D.nx := by
  obtain ⟨p, vs0, h1, _, h3, h4, h5, h6⟩ := o.lst i q ds0 hi0
  refine ⟨.ref p, h1, hb F σ H o _ fun F1 w H1 r1 dw => ?_⟩
  cases dw
  obtain ⟨vs, g3, g4, g5, g6⟩ := lst_at r1.own hi h1
  refine ⟨p, vs, x, j, rfl, rfl, g4, by rw [g6.length]; exact hj, k F1 _ (r1.trans (Rn.chg r1.own hi h1 ?_ (g6.set j (dv.up r1.exF))))⟩
  rw [List.length_set]
  exact g5
theorem bv_put1 {ds0 : List PyData} {j : Nat} (h : EV K te env d env1) (hi0 : env1[i]? = some (.l q ds0)) (hb : EV K tb env1 (.int x) env2) (hi : env2[i]? = some (.l q ds)) (hj : ixN ds.length x = some j)
    (k : P.nx (env2.set i (.l q (ds.set j d)))) : BV K (tAsg te (gSub (tVar i) tb rSetL)) env P := fun F σ H o D E =>
  h F σ H o _ fun F1 v H1 r1 dv => eg_at hj hb hi0 hi r1.own dv fun F' H' r2 => E.nx _ F' σ H' k (r1.trans r2)
theorem bv_put {ds0 : List PyData} {j : Nat} (h : EV K te env d env1) (hi0 : env1[i]? = some (.l q ds0)) (hb : EV K tb env1 (.int x) env2) (hi : env2[i]? = some (.l q ds)) (hj : ixN ds.length x = some j)
    (k : BV K tz (env2.set i (.l q (ds.set j d))) P) : BV K (tSeq (tAsg te (gSub (tVar i) tb rSetL)) tz) env P := bv_seq (M := fun e => e = env2.set i (.l q (ds.set j d))) (bv_put1 h hi0 hb hi hj rfl) fun _ e => e ▸ k
end

/-! ### own defs -/
def RVs (K : FR) (F' H H' : Hp) (v : V) : Rs → Prop
  | .d x => Dq K F' v x
  | .l ds => ∃ p vs, v = .ref p ∧ F' p = none ∧ H p = none ∧ H' p = some (.lst vs) ∧ vs.length ≤ LIM ∧ DqAll K F' vs ds
abbrev Rel := List Slot → Rs → List Slot → Prop
def spG (K : FR) (n : Nat) (rel : Rel) : Sp := fun vs H Q _ => ∃ F as r as', Own K F (vs.map some) H as ∧ as.length = n ∧ rel as r as' ∧
  ∀ F' v H', Rn K (vs.map some) as F H (vs.map some) as' F' H' → RVs K F' H H' v r → Q v H'
structure Cal (P : Program) (w : World) (K : FR) (mg : Str → Option Value) (base : Heap) (x : Str) (ps : List Str) (k : Nat) (rel : Rel) : Prop where
  ex : ∃ f fd, FnOk P w K mg base CX0 k f fd ps (spG K ps.length rel) ∧ mg x = some (.ref f) ∧ PySem.W.keepIn K (.ref f) = true ∧ Binds K fd ps []

/-- what stands of the arguments' own lists at the end -/
def EndOk : List Slot → List Slot → List Slot → Prop
  | [], [], _ => True
  | a :: as, a' :: as', e :: es => ((a' = .u ∧ ∀ q ds, a ≠ .l q ds) ∨ ∃ p d0 d, a = .l (some p) d0 ∧ a' = .l (some p) d ∧ e = a') ∧ EndOk as as' es
  | _, _, _ => False
theorem EndOk.len : ∀ {as as' es : List Slot}, EndOk as as' es → as'.length = as.length
  | [], [], _, _ => rfl
  | _ :: _, _ :: _, _ :: _, h => by simp [EndOk.len h.2]
  | [], _ :: _, _, h => h.elim
  | _ :: _, [], _, h => h.elim
  | _ :: _, _ :: _, [], h => h.elim
theorem EndOk.get : ∀ {as as' es : List Slot} {i : Nat} {s : Slot}, EndOk as as' es → as'[i]? = some s → (s = .u ∧ ∀ q ds, as[i]? ≠ some (.l q ds)) ∨ ∃ p d0 d, as[i]? = some (.l (some p) d0) ∧ s = .l (some p) d ∧ es[i]? = some s
  | [], [], _, _, _, _, h => by simp at h
  | a :: as, a' :: as', e :: es, 0, s, l, h => by
    simp at h
    subst h
    rcases l.1 with ⟨z, n⟩ | ⟨p, d0, d, z1, z2, z3⟩
    · refine .inl ⟨z, fun q ds w => ?_⟩
      simp at w
      exact n q ds w
    · exact .inr ⟨p, d0, d, by simp [z1], z2, by simp [z3]⟩
  | a :: as, a' :: as', e :: es, i + 1, s, l, h => by
    have := EndOk.get (i := i) l.2 (by simpa using h)
    simpa using this
  | [], _ :: _, _, _, _, l, _ => l.elim
  | _ :: _, [], _, _, _, l, _ => l.elim
  | _ :: _, _ :: _, [], _, _, l, _ => l.elim

theorem fn_ok {P : Program} {w : World} {K : FR} {mg : Str → Option Value} {base : Heap} {x : Str} {st : Stmt} {f : Addr} {fd : FuncData} {N ps : List Str} {k : Nat} {rel : Rel} (F : Fun K x x st f fd) (S : FnScope N ps (defScope st))
    (hb : ∀ (cdv : Value) (A : Around) (outer : List Env) (s : Shared) (H : Hp) (E : XK), Room k (A.deeper (envOfC x (defScope st) s.heap.objs.size f cdv)) → ∀ as r as', rel as r as' → as.length = ps.length →
      ∃ t, PSs (cxOf CX0 P w K mg base N x (defScope st) f cdv A outer s H E).nox (defBody st) t ∧
        BV K t (as ++ List.replicate (N.length - ps.length) .u) ⟨fun e => r = .d .none ∧ EndOk as as' e, fun r' e => r' = r ∧ EndOk as as' e, fun _ => False, fun _ => False⟩) :
    FnOk P w K mg base CX0 (k + 1) f fd ps (spG K ps.length rel) := by
  refine F.ok S (fun vs H Q E h => ?_) (fun cdv A outer s H vs Q E hr h => ?_)
  · obtain ⟨F0, as, r, as', o, hl, _⟩ := h
    have := o.len
    rw [List.length_map] at this
    omega
  · obtain ⟨F0, as, r, as', o, hl, hrel, q⟩ := h
    obtain ⟨t, ht, hbv⟩ := hb cdv A outer s H E hr as r as' hrel hl
    refine ⟨t, ht, ?_⟩
    have hvl : vs.length = ps.length := by
      have := o.len
      rw [List.length_map] at this
      omega
    have est : L2.start N vs = vs.map some ++ List.replicate (N.length - ps.length) none := by
      unfold L2.start
      rw [hvl]
    -- the beginning
    have old : ∀ {j : Nat} {sl : Slot}, (as ++ List.replicate (N.length - ps.length) .u)[j]? = some sl → sl = .u ∨ (j < as.length ∧ as[j]? = some sl) := fun {j sl} h => by
      by_cases hj : j < as.length
      · rw [List.getElem?_append_left hj] at h
        exact .inr ⟨hj, h⟩
      · rw [List.getElem?_append_right (by omega), List.getElem?_replicate] at h
        split at h
        · cases h; exact .inl rfl
        · cases h
    have sg : ∀ {j : Nat} {z : Option V}, j < as.length → (vs.map some)[j]? = some z → (L2.start N vs)[j]? = some z := fun {j z} hj h => by
      rw [est, List.getElem?_append_left (by rw [List.length_map]; omega)]
      exact h
    have sg' : ∀ {j : Nat} {z : Option V}, j < as.length → (L2.start N vs)[j]? = some z → (vs.map some)[j]? = some z := fun {j z} hj h => by
      rw [est, List.getElem?_append_left (by rw [List.length_map]; omega)] at h
      exact h
    have own0 : Own K F0 (L2.start N vs) H (as ++ List.replicate (N.length - ps.length) .u) := by
      refine ⟨?_, o.ex, fun j z h => ?_, fun j z h => ?_, fun j lo hi h => ?_, fun j z ds h => ?_, fun i j z z' ds es p h1 h2 h3 h4 => ?_⟩
      · rw [est, List.length_append, List.length_append, List.length_map, List.length_replicate, List.length_replicate]
        omega
      · rcases old h with e | ⟨hj, e⟩
        · cases e
        · obtain ⟨v, g1, g2⟩ := o.dat j z e
          exact ⟨v, sg hj g1, g2⟩
      · rcases old h with e | ⟨hj, e⟩
        · cases e
        · obtain ⟨v, g1, g2⟩ := o.scr j z e
          exact ⟨v, sg hj g1, g2⟩
      · rcases old h with e | ⟨hj, e⟩
        · cases e
        · obtain ⟨v, g1, g2⟩ := o.rng j lo hi e
          exact ⟨v, sg hj g1, g2⟩
      · rcases old h with e | ⟨hj, e⟩
        · cases e
        · obtain ⟨p, vs', g1, g2⟩ := o.lst j z ds e
          exact ⟨p, vs', sg hj g1, g2⟩
      · rcases old h1 with e | ⟨hj, e⟩
        · cases e
        · rcases old h2 with e' | ⟨hj', e'⟩
          · cases e'
          · exact o.inj i j z z' ds es p e e' (sg' hj h3) (sg' hj' h4)
    have ow0 : ∀ a, ow (L2.start N vs) (as ++ List.replicate (N.length - ps.length) .u) a → ow (vs.map some) as a := fun a ⟨j, z, ds, h1, h2⟩ => by
      rcases old h1 with e | ⟨hj, e⟩
      · cases e
      · exact ⟨j, z, ds, e, sg' hj h2⟩
    have ow1 : ∀ a, ow (vs.map some) as a → ow (L2.start N vs) (as ++ List.replicate (N.length - ps.length) .u) a := fun a ⟨j, z, ds, h1, h2⟩ => by
      have hj : j < as.length := (List.getElem?_eq_some_iff.mp h1).1
      exact ⟨j, z, ds, by rw [List.getElem?_append_left hj]; exact h1, sg hj h2⟩
    -- the end
    have fin : ∀ e F' σ' H', EndOk as as' e → Rn K (L2.start N vs) (as ++ List.replicate (N.length - ps.length) .u) F0 H σ' e F' H' → Rn K (vs.map some) as F0 H (vs.map some) as' F' H' := fun e F' σ' H' hE r => by
      have pin : ∀ {j : Nat} {z : Option Addr} {ds : List PyData}, as'[j]? = some (.l z ds) → ∃ p, (vs.map some)[j]? = some (some (.ref p)) ∧ σ'[j]? = some (some (.ref p)) ∧ e[j]? = some (.l z ds) ∧ z = some p := fun {j z ds} h => by
        rcases hE.get h with ⟨z, _⟩ | ⟨p, d0, d, g1, g2, g3⟩
        · cases z
        · cases g2
          obtain ⟨p1, vs1, k1, k2, _⟩ := o.lst j _ _ g1
          obtain ⟨p2, vs2, l1, l2, _⟩ := r.own.lst j _ _ g3
          have e1 := k2 p rfl
          have e2 := l2 p rfl
          subst e1
          subst e2
          exact ⟨p, k1, l1, g3, rfl⟩
      refine ⟨r.exF, fun a w h => ?_, fun a w h n => r.keep a w h fun z => n (ow0 a z), r.dom, fun a h => ?_, ?_⟩
      · rcases r.new a w h with z | z | z
        · exact .inl z
        · exact .inr (.inl (ow0 a z))
        · exact .inr (.inr z)
      · obtain ⟨j, z, ds, h1, h2⟩ := h
        rcases hE.get h1 with ⟨z, _⟩ | ⟨p, d0, d, g1, g2, g3⟩
        · cases z
        · exact .inl ⟨j, _, _, g1, h2⟩
      · refine ⟨by rw [List.length_map, hE.len]; omega, r.own.ex, fun j z h => ?_, fun j z h => ?_, fun j lo hi h => ?_, fun j z ds h => ?_, fun i j z z' ds es p h1 h2 h3 h4 => ?_⟩
        · rcases hE.get h with ⟨z, _⟩ | ⟨p, d0, d, g1, g2, g3⟩
          · cases z
          · cases g2
        · rcases hE.get h with ⟨z, _⟩ | ⟨p, d0, d, g1, g2, g3⟩
          · cases z
          · cases g2
        · rcases hE.get h with ⟨z, _⟩ | ⟨p, d0, d, g1, g2, g3⟩
          · cases z
          · cases g2
        · obtain ⟨p, g1, g2, g3, g4⟩ := pin h
          obtain ⟨p2, vs2, l1, l2, l3, l4, l5, l6⟩ := r.own.lst j _ _ g3
          rw [g2] at l1
          cases l1
          exact ⟨p, vs2, g1, l2, l3, l4, l5, l6⟩
        · obtain ⟨p1, g1, g2, g3, g4⟩ := pin h1
          obtain ⟨p2, k1, k2, k3, k4⟩ := pin h2
          rw [g1] at h3
          cases h3
          rw [k1] at h4
          cases h4
          exact r.own.inj i j _ _ _ _ _ g3 k3 g2 k2
    refine hbv F0 (L2.start N vs) H own0 _ ⟨fun e F' σ' H' h r => ?_, fun e F' σ' H' h r => h.elim, fun e F' σ' H' h r => h.elim, fun r' e F' v σ' H' h r hv => ?_⟩
    · obtain ⟨rfl, hE⟩ := h
      exact q F' .non H' (fin e F' σ' H' hE r) .non
    · obtain ⟨rfl, hE⟩ := h
      refine q F' v H' (fin e F' σ' H' hE r) ?_
      cases r' with
      | d x => exact hv
      | l ds =>
        obtain ⟨p, vs', h1, h2, h3, h4, h5⟩ := hv
        refine ⟨p, vs', h1, h2, ?_, h5⟩
        rcases h3 with h3 | h3
        · exfalso
          obtain ⟨j, z, ds', g1, g2⟩ := ow0 p h3
          have hj : j < as'.length := by rw [hE.len]; exact (List.getElem?_eq_some_iff.mp g1).1
          rcases hE.get (List.getElem?_eq_getElem hj) with ⟨_, n⟩ | ⟨p2, d0, d, k1, k2, k3⟩
          · exact n _ _ g1
          · rw [g1] at k1
            cases k1
            rw [k2] at k3
            obtain ⟨p3, vs3, l1, l2, _⟩ := r.own.lst j _ _ k3
            obtain ⟨p4, vs4, m1, m2, _⟩ := o.lst j _ _ g1
            rw [g2] at m1
            cases m1
            have e1 := l2 p2 rfl
            have e2 := m2 p2 rfl
            subst e1
            subst e2
            exact h4 ⟨j, _, _, k3, l1⟩
        · exact h3
theorem cal_mk {P : Program} {w : World} {K : FR} {mg : Str → Option Value} {base : Heap} {x : Str} {st : Stmt} {f : Addr} {fd : FuncData} {ps : List Str} {k : Nat} {rel : Rel} (F : Fun K x x st f fd) (g : mg x = some (.ref f)) (b : Binds K fd ps [])
    (h : FnOk P w K mg base CX0 k f fd ps (spG K ps.length rel)) : Cal P w K mg base x ps k rel := ⟨⟨f, fd, h, g, F.kp, b⟩⟩

section
variable {K : FR} {σ σ1 σ2 : L2.St} {env env1 env2 env3 : List Slot} {F F1 F2 H H1 H2 : Hp} {ta tb tc te : TE} {tr : TA} {t u : TT} {d d1 d2 d3 : PyData} {ds es : List PyData} {i n : Nat} {q : Option Addr} {rel : Rel} {as as' us : List Slot} {E : XK}
/-- what a caller keeps over a call -/
theorem Own.carry (o : Own K F σ H env) (e : Ex F F1) (e1 : Ex F1 H1) (hn : ∀ a x, F1 a = some x → F a = some x ∨ H a = none) (hk : ∀ a x, H a = some x → H1 a = some x) : Own K F1 σ H1 env where
  len := o.len
  ex := e1
  dat := fun i x h => by
    obtain ⟨v, g1, g2⟩ := o.dat i x h
    exact ⟨v, g1, g2.up e⟩
  scr := fun i x h => by
    obtain ⟨v, g1, g2⟩ := o.scr i x h
    exact ⟨v, g1, Evl.ex_l e g2⟩
  rng := fun i lo hi h => by
    obtain ⟨v, g1, g2⟩ := o.rng i lo hi h
    exact ⟨v, g1, e _ _ g2⟩
  lst := fun i q ds h => by
    obtain ⟨p, vs, g1, g2, g3, g4, g5, g6⟩ := o.lst i q ds h
    refine ⟨p, vs, g1, g2, ?_, hk _ _ g4, g5, g6.up e⟩
    cases z : F1 p with
    | none => rfl
    | some w =>
      rcases hn p w z with y | y
      · rw [g3] at y; cases y
      · rw [g4] at y; cases y
  inj := o.inj
theorem own_args (dvs : DqAll K F vs ds) (e : Ex F H) : Own K F (vs.map some) H (ds.map Slot.d) := by
  have nl : ∀ {j : Nat} {s : Slot}, (ds.map Slot.d)[j]? = some s → ∃ d, ds[j]? = some d ∧ s = .d d := fun {j s} h => by
    rw [List.getElem?_map] at h
    cases hd : ds[j]? with
    | none => rw [hd] at h; cases h
    | some d => rw [hd] at h; cases h; exact ⟨d, rfl, rfl⟩
  refine ⟨by rw [List.length_map, List.length_map, dvs.length], e, fun j x h => ?_, fun j x h => ?_, fun j lo hi h => ?_, fun j q ds h => ?_, fun j k q q' ds es p h1 h2 h3 h4 => ?_⟩
  · obtain ⟨d, g1, g2⟩ := nl h
    cases g2
    obtain ⟨v, k1, k2⟩ := dvs.get g1
    exact ⟨v, by rw [List.getElem?_map, k1]; rfl, k2⟩
  · obtain ⟨d, g1, g2⟩ := nl h
    cases g2
  · obtain ⟨d, g1, g2⟩ := nl h
    cases g2
  · obtain ⟨d, g1, g2⟩ := nl h
    cases g2
  · obtain ⟨d, g1, g2⟩ := nl h1
    cases g2
theorem not_ow_args {a : Addr} : ¬ ow σ (ds.map Slot.d) a := fun ⟨j, q, es, h1, _⟩ => by
  rw [List.getElem?_map] at h1
  cases hd : ds[j]? with
  | none => rw [hd] at h1; cases h1
  | some d => rw [hd] at h1; cases h1
/-- what a call leaves -/
def RVc (K : FR) (σ : L2.St) (env : List Slot) (F' H H' : Hp) (v : V) : Rs → Prop
  | .d x => Dq K F' v x
  | .l ds => ∃ p vs, v = .ref p ∧ F' p = none ∧ H p = none ∧ H' p = some (.lst vs) ∧ vs.length ≤ LIM ∧ DqAll K F' vs ds ∧ ¬ ow σ env p
theorem call_core (hn : ds.length = n) (h : ED K tr env ds env1) {r : Rs} (hrel : rel (ds.map Slot.d) r as') (o : Own K F σ H env) {Q : VK} (q : ∀ F' v H', Rn K σ env F H σ env1 F' H' → RVc K σ env1 F' H H' v r → Q v H') :
    tCall (spG K n rel) [] E tr σ H Q := by
  refine h F σ H o _ fun F1 vs H1 r1 dvs => ?_
  rw [List.append_nil]
  refine ⟨F1, ds.map Slot.d, r, as', own_args dvs r1.own.ex, by rw [List.length_map]; exact hn, hrel, fun F' v H' r2 hv => ?_⟩
  have hk : ∀ a x, H1 a = some x → H' a = some x := fun a x h => r2.keep a x h not_ow_args
  have hn' : ∀ a x, F' a = some x → F1 a = some x ∨ H1 a = none := fun a x h => by
    rcases r2.new a x h with z | z | z
    · exact .inl z
    · exact (not_ow_args z).elim
    · exact .inr z
  have r3 : Rn K σ env1 F1 H1 σ env1 F' H' := ⟨r2.exF, fun a x h => by
    rcases hn' a x h with z | z
    · exact .inl z
    · exact .inr (.inr z), fun a x h _ => hk a x h, r2.dom, fun a h => .inl h, r1.own.carry r2.exF r2.own.ex hn' hk⟩
  refine q F' v H' (r1.trans r3) ?_
  cases r with
  | d x => exact hv
  | l ds' =>
    obtain ⟨p, ws, g1, g2, g3, g4, g5, g6⟩ := hv
    exact ⟨p, ws, g1, g2, back_none r1 g3, g4, g5, g6, r1.own.not_ow g3⟩
theorem ev_call (hn : ds.length = n) (h : ED K tr env ds env1) (hrel : rel (ds.map Slot.d) (.d d) as') : EV K (tCall (spG K n rel) [] E tr) env d env1 := fun F σ H o Q q =>
  call_core hn h hrel o fun F' v H' r hv => q F' v H' r hv
theorem ef_call (hn : ds.length = n) (h : ED K tr env ds env1) (hrel : rel (ds.map Slot.d) (.l es) as') : EF K (tCall (spG K n rel) [] E tr) env es env1 := fun F σ H o Q q =>
  call_core hn h hrel o fun F' v H' r hv => by
    obtain ⟨p, ws, g1, g2, g3, g4, g5, g6, g7⟩ := hv
    subst g1
    exact q F' p ws H' r g2 g3 g4 g5 g6 g7

/-! a call whose first argument is a list of one's own -/
theorem own_argsL {p : Addr} {vs ws : List V} {ds1 : List PyData} (dvs : DqAll K F vs ds) (e : Ex F H) (h0 : F p = none) (h1 : H p = some (.lst ws)) (hl : ws.length ≤ LIM) (hd : DqAll K F ws ds1) : Own K F ((V.ref p :: vs).map some) H (Slot.l (some p) ds1 :: ds.map Slot.d) := by
  have w := own_args dvs e
  refine ⟨by simp [w.len, dvs.length], e, fun j x h => ?_, fun j x h => ?_, fun j lo hi h => ?_, fun j q es h => ?_, fun j k q q' es es' p' g1 g2 g3 g4 => ?_⟩
  · cases j with
    | zero => simp at h
    | succ j => exact w.dat j x (by simpa using h)
  · cases j with
    | zero => simp at h
    | succ j => exact w.scr j x (by simpa using h)
  · cases j with
    | zero => simp at h
    | succ j => exact w.rng j lo hi (by simpa using h)
  · cases j with
    | zero =>
      simp at h
      obtain ⟨z1, z2⟩ := h
      subst z1
      subst z2
      exact ⟨p, ws, rfl, fun a z => (Option.some.inj z).symm, h0, h1, hl, hd⟩
    | succ j => exact w.lst j q es (by simpa using h)
  · have tl : ∀ {j : Nat} {q : Option Addr} {es : List PyData}, (Slot.l (some p) ds1 :: ds.map Slot.d)[j + 1]? = some (.l q es) → False := fun {j q es} h => by
      rw [List.getElem?_cons_succ, List.getElem?_map] at h
      cases hd : ds[j]? with
      | none => rw [hd] at h; cases h
      | some d => rw [hd] at h; cases h
    cases j with
    | zero =>
      cases k with
      | zero => rfl
      | succ k => exact (tl g2).elim
    | succ j => exact (tl g1).elim
theorem ow_argsL {p a : Addr} {vs : List V} {ds1 : List PyData} (h : ow ((V.ref p :: vs).map some) (Slot.l (some p) ds1 :: ds.map Slot.d) a) : a = p := by
  obtain ⟨j, q, es, h1, h2⟩ := h
  cases j with
  | zero => simp at h2; exact h2.symm
  | succ j =>
    rw [List.getElem?_cons_succ, List.getElem?_map] at h1
    cases hd : ds[j]? with
    | none => rw [hd] at h1; cases h1
    | some d => rw [hd] at h1; cases h1
theorem callL_core {ds0 ds1 ds2 : List PyData} (hi0 : env[i]? = some (.l q ds0)) (hn : ds.length + 1 = n) (h : ED K tr env ds env1) (hi : env1[i]? = some (.l q ds1)) {r : Rs} (hrel : ∀ p, rel (.l (some p) ds1 :: ds.map Slot.d) r (.l (some p) ds2 :: us)) (o : Own K F σ H env) {Q : VK}
    (k : ∀ F' v H', Rn K σ env F H σ (env1.set i (.l q ds2)) F' H' → RVc K σ (env1.set i (.l q ds2)) F' H H' v r → Q v H') : tCall (spG K n rel) [] E (tCons (tVar i) tr) σ H Q := by
  obtain ⟨p, vs0, h1, hq0, h3, h4, h5, h6⟩ := o.lst i q ds0 hi0
  refine ⟨.ref p, h1, h F σ H o _ fun F1 vs H1 r1 dvs => ?_⟩
  obtain ⟨ws, g3, g4, g5, g6⟩ := lst_at r1.own hi h1
  rw [List.append_nil]
  refine ⟨F1, .l (some p) ds1 :: ds.map Slot.d, r, .l (some p) ds2 :: us, own_argsL dvs r1.own.ex g3 g4 g5 g6, by simp [hn], hrel p, fun F' v H' r2 hv => ?_⟩
  obtain ⟨p', ws2, m1, m2, m3, m4, m5, m6⟩ := r2.own.lst 0 (some p) ds2 rfl
  have e0 : p' = p := (m2 p rfl).symm
  subst e0
  have hi' : i < env1.length := (List.getElem?_eq_some_iff.mp hi).1
  have hk : ∀ a x, H1 a = some x → a ≠ p' → H' a = some x := fun a x h n => r2.keep a x h fun z => n (ow_argsL z)
  have hn' : ∀ a x, F' a = some x → F1 a = some x ∨ a = p' ∨ H1 a = none := fun a x h => by
    rcases r2.new a x h with z | z | z
    · exact .inl z
    · exact .inr (.inl (ow_argsL z))
    · exact .inr (.inr z)
  have owp : ow σ env1 p' := ⟨i, q, ds1, hi, h1⟩
  have hset : ∀ {j : Nat} {s : Slot}, (env1.set i (.l q ds2))[j]? = some s → (j = i ∧ s = .l q ds2) ∨ (j ≠ i ∧ env1[j]? = some s) := fun {j s} h => by
    by_cases e : i = j
    · subst e
      rw [List.getElem?_set_self hi'] at h
      cases h
      exact .inl ⟨rfl, rfl⟩
    · rw [List.getElem?_set_ne e] at h; exact .inr ⟨fun z => e z.symm, h⟩
  have own3 : Own K F' σ H' (env1.set i (.l q ds2)) := by
    have o1 := r1.own
    refine ⟨by rw [List.length_set]; exact o1.len, r2.own.ex, fun j x h => ?_, fun j x h => ?_, fun j lo hi h => ?_, fun j q' es h => ?_, fun j l q' q'' es es' p2 k1 k2 k3 k4 => ?_⟩
    · rcases hset h with ⟨_, z⟩ | ⟨_, g⟩
      · cases z
      · obtain ⟨v, a1, a2⟩ := o1.dat j x g
        exact ⟨v, a1, a2.up r2.exF⟩
    · rcases hset h with ⟨_, z⟩ | ⟨_, g⟩
      · cases z
      · obtain ⟨v, a1, a2⟩ := o1.scr j x g
        exact ⟨v, a1, Evl.ex_l r2.exF a2⟩
    · rcases hset h with ⟨_, z⟩ | ⟨_, g⟩
      · cases z
      · obtain ⟨v, a1, a2⟩ := o1.rng j lo hi g
        exact ⟨v, a1, r2.exF _ _ a2⟩
    · rcases hset h with ⟨z1, z2⟩ | ⟨n, g⟩
      · cases z2
        subst z1
        obtain ⟨p3, vs3, y1, y2, _⟩ := o1.lst j _ _ hi
        rw [h1] at y1
        cases y1
        exact ⟨p', ws2, h1, y2, m3, m4, m5, m6⟩
      · obtain ⟨p2, vs2, y1, y2, y3, y4, y5, y6⟩ := o1.lst j q' es g
        have ne : p2 ≠ p' := fun z => by
          subst z
          exact n (o1.inj j i q' q es ds1 p2 g hi y1 h1)
        refine ⟨p2, vs2, y1, y2, ?_, hk _ _ y4 ne, y5, y6.up r2.exF⟩
        cases z : F' p2 with
        | none => rfl
        | some w =>
          rcases hn' p2 w z with y | y | y
          · rw [y3] at y; cases y
          · exact (ne y).elim
          · rw [y4] at y; cases y
    · rcases hset k1 with ⟨z1, z2⟩ | ⟨n1, e1⟩
      · rcases hset k2 with ⟨z3, z4⟩ | ⟨n2, e2⟩
        · exact z1.trans z3.symm
        · subst z1
          exact o1.inj j l _ _ _ _ p2 hi e2 k3 k4
      · rcases hset k2 with ⟨z3, z4⟩ | ⟨n2, e2⟩
        · subst z3
          exact o1.inj j l _ _ _ _ p2 e1 hi k3 k4
        · exact o1.inj j l _ _ _ _ p2 e1 e2 k3 k4
  have ows3 : ∀ a, ow σ (env1.set i (.l q ds2)) a → ow σ env1 a := fun a ⟨j, q', es, k1, k2⟩ => by
    rcases hset k1 with ⟨z1, z2⟩ | ⟨n1, e1⟩
    · subst z1; exact ⟨j, q, ds1, hi, k2⟩
    · exact ⟨j, q', es, e1, k2⟩
  have r3 : Rn K σ env1 F1 H1 σ (env1.set i (.l q ds2)) F' H' := ⟨r2.exF, fun a x h => by
    rcases hn' a x h with z | z | z
    · exact .inl z
    · subst z; exact .inr (.inl owp)
    · exact .inr (.inr z), fun a x h n => hk a x h fun z => by subst z; exact n owp, r2.dom, fun a h => .inl (ows3 a h), own3⟩
  refine k F' v H' (r1.trans r3) ?_
  cases r with
  | d x => exact hv
  | l ds' =>
    obtain ⟨pp, ws', k1, k2, k3, k4, k5, k6⟩ := hv
    exact ⟨pp, ws', k1, k2, back_none r1 k3, k4, k5, k6, fun z => r1.own.not_ow k3 (ows3 _ z)⟩
theorem ev_callL {ds0 ds1 ds2 : List PyData} (hi0 : env[i]? = some (.l q ds0)) (hn : ds.length + 1 = n) (h : ED K tr env ds env1) (hi : env1[i]? = some (.l q ds1)) (hrel : ∀ p, rel (.l (some p) ds1 :: ds.map Slot.d) (.d d) (.l (some p) ds2 :: us)) :
    EV K (tCall (spG K n rel) [] E (tCons (tVar i) tr)) env d (env1.set i (.l q ds2)) := fun F σ H o Q k => callL_core hi0 hn h hi hrel o fun F' v H' r hv => k F' v H' r hv
theorem ef_callL {ds0 ds1 ds2 : List PyData} (hi0 : env[i]? = some (.l q ds0)) (hn : ds.length + 1 = n) (h : ED K tr env ds env1) (hi : env1[i]? = some (.l q ds1)) (hrel : ∀ p, rel (.l (some p) ds1 :: ds.map Slot.d) (.l es) (.l (some p) ds2 :: us)) :
    EF K (tCall (spG K n rel) [] E (tCons (tVar i) tr)) env es (env1.set i (.l q ds2)) := fun F σ H o Q k => callL_core hi0 hn h hi hrel o fun F' v H' r hv => by
    obtain ⟨p, ws, g1, g2, g3, g4, g5, g6, g7⟩ := hv
    subst g1
    exact k F' p ws H' r g2 g3 g4 g5 g6 g7
/-- a call whose first argument is the script -/
theorem own_argsS {a : Addr} {vs : List V} {ns : List Int} (dvs : DqAll K F vs ds) (e : Ex F H) (hs : SqL K F a (ns.map V.int)) : Own K F ((V.ref a :: vs).map some) H (Slot.s ns :: ds.map Slot.d) := by
  have w := own_args dvs e
  refine ⟨by simp [w.len, dvs.length], e, fun j x h => ?_, fun j x h => ?_, fun j lo hi h => ?_, fun j q es h => ?_, fun j k q q' es es' p' g1 g2 g3 g4 => ?_⟩
  · cases j with
    | zero => simp at h
    | succ j => exact w.dat j x (by simpa using h)
  · cases j with
    | zero =>
      simp at h
      subst h
      exact ⟨a, rfl, hs⟩
    | succ j => exact w.scr j x (by simpa using h)
  · cases j with
    | zero => simp at h
    | succ j => exact w.rng j lo hi (by simpa using h)
  · cases j with
    | zero => simp at h
    | succ j => exact w.lst j q es (by simpa using h)
  · cases j with
    | zero => simp at g1
    | succ j =>
      cases k with
      | zero => simp at g2
      | succ k =>
        have := w.inj j k q q' es es' p' (by simpa using g1) (by simpa using g2) (by simpa using g3) (by simpa using g4)
        omega
theorem not_ow_argsS {a : Addr} {ns : List Int} : ¬ ow σ (Slot.s ns :: ds.map Slot.d) a := fun ⟨j, q, es, h1, _⟩ => by
  cases j with
  | zero => simp at h1
  | succ j =>
    rw [List.getElem?_cons_succ, List.getElem?_map] at h1
    cases hd : ds[j]? with
    | none => rw [hd] at h1; cases h1
    | some d => rw [hd] at h1; cases h1
theorem callS_core {ns : List Int} (hi : env[i]? = some (.s ns)) (hn : ds.length + 1 = n) (h : ED K tr env ds env1) {r : Rs} (hrel : rel (Slot.s ns :: ds.map Slot.d) r as') (o : Own K F σ H env) {Q : VK} (q : ∀ F' v H', Rn K σ env F H σ env1 F' H' → RVc K σ env1 F' H H' v r → Q v H') :
    tCall (spG K n rel) [] E (tCons (tVar i) tr) σ H Q := by
  obtain ⟨a, h1, h2⟩ := o.scr i ns hi
  refine ⟨.ref a, h1, h F σ H o _ fun F1 vs H1 r1 dvs => ?_⟩
  show spG K n rel ((V.ref a :: vs) ++ []) H1 Q E
  rw [List.append_nil]
  refine ⟨F1, Slot.s ns :: ds.map Slot.d, r, as', own_argsS dvs r1.own.ex (Evl.ex_l r1.exF h2), by simp [hn], hrel, fun F' v H' r2 hv => ?_⟩
  have hk : ∀ a x, H1 a = some x → H' a = some x := fun a x h => r2.keep a x h not_ow_argsS
  have hn' : ∀ a x, F' a = some x → F1 a = some x ∨ H1 a = none := fun a x h => by
    rcases r2.new a x h with z | z | z
    · exact .inl z
    · exact (not_ow_argsS z).elim
    · exact .inr z
  have r3 : Rn K σ env1 F1 H1 σ env1 F' H' := ⟨r2.exF, fun a x h => by
    rcases hn' a x h with z | z
    · exact .inl z
    · exact .inr (.inr z), fun a x h _ => hk a x h, r2.dom, fun a h => .inl h, r1.own.carry r2.exF r2.own.ex hn' hk⟩
  refine q F' v H' (r1.trans r3) ?_
  cases r with
  | d x => exact hv
  | l ds' =>
    obtain ⟨p, ws, g1, g2, g3, g4, g5, g6⟩ := hv
    exact ⟨p, ws, g1, g2, back_none r1 g3, g4, g5, g6, r1.own.not_ow g3⟩
theorem ev_callS {ns : List Int} (hi : env[i]? = some (.s ns)) (hn : ds.length + 1 = n) (h : ED K tr env ds env1) (hrel : rel (Slot.s ns :: ds.map Slot.d) (.d d) as') : EV K (tCall (spG K n rel) [] E (tCons (tVar i) tr)) env d env1 := fun F σ H o Q q =>
  callS_core hi hn h hrel o fun F' v H' r hv => q F' v H' r hv
theorem ef_callS {ns : List Int} (hi : env[i]? = some (.s ns)) (hn : ds.length + 1 = n) (h : ED K tr env ds env1) (hrel : rel (Slot.s ns :: ds.map Slot.d) (.l es) as') : EF K (tCall (spG K n rel) [] E (tCons (tVar i) tr)) env es env1 := fun F σ H o Q q =>
  callS_core hi hn h hrel o fun F' v H' r hv => by
    obtain ⟨p, ws, g1, g2, g3, g4, g5, g6, g7⟩ := hv
    subst g1
    exact q F' p ws H' r g2 g3 g4 g5 g6 g7
end
end Gw

-- Gw5
/-! Gw5: what is walked; loops; comprehensions. -/
namespace Gw
open PySem PySem.Spec PyProof.Rows L2 RZ
open Gw.Enc (enc)

/-! ### walks -/
structure WalkD (K : FR) (J : It) (F : Hp) (ds : List PyData) : Prop where
  small : ds.length ≤ LIM
  goes : ∀ i H, i < ds.length → Ex F H → J.go i H
  stops : ∀ H, Ex F H → J.stop ds.length H
  yields : ∀ i H x H' Fc, i < ds.length → Ex F Fc → Ex Fc H → J.yld i H x H' → ∃ Fc' d, ds[i]? = some d ∧ Ex Fc Fc' ∧ Ex Fc' H' ∧ (∀ a o, Fc' a = some o → Fc a = some o ∨ H a = none) ∧ (∀ a o, H a = some o → H' a = some o) ∧ Dq K Fc' x d
def EI (K : FR) (wi : TI) (env : List Slot) (ds : List PyData) (env' : List Slot) : Prop :=
  ∀ F σ H, Own K F σ H env → ∀ R : It → Hp → Prop, (∀ F' J H', Rn K σ env F H σ env' F' H' → WalkD K J F' ds → R J H') → wi σ H R

section
variable {K : FR} {σ σ1 σ2 : L2.St} {env env1 env2 env3 : List Slot} {F F1 F2 H H1 H2 : Hp} {ta tb tc te : TE} {tr : TA} {t u : TT} {tz ts tw : TS} {d d1 d2 d3 : PyData} {ds es : List PyData} {b c : Bool} {x y : Int} {P : Po} {D : Ends} {i : Nat} {q : Option Addr}
theorem walk_L {a : Addr} {vs : List V} (h : F a = some (.lst vs)) (hl : vs.length ≤ LIM) (hd : DqAll K F vs ds) : WalkD K (Itl K a) F ds where
  small := by rw [← hd.length]; exact hl
  goes := fun i H hi e => by
    have hi' : i < vs.length := by rw [hd.length]; exact hi
    exact ⟨vs, vs[i], .inl (.inl (e _ _ h)), List.getElem?_eq_getElem hi'⟩
  stops := fun H e => ⟨vs, .inl (.inl (e _ _ h)), by rw [hd.length]; exact Nat.le_refl _⟩
  yields := fun i H x H' Fc hi e1 e2 hy => by
    obtain ⟨rfl, hy⟩ := hy
    have hx := hy vs (.inl (.inl (e2 _ _ (e1 _ _ h))))
    obtain ⟨d, g1, g2⟩ := hd.get' hx
    exact ⟨Fc, d, g1, Evl.Ex.refl _, e2, fun _ _ z => .inl z, fun _ _ z => z, g2.up e1⟩
theorem walk_T {a : Addr} {vs : List V} (h : SqT K F a vs) (hl : vs.length ≤ LIM) (hd : DqAll K F vs ds) : WalkD K (Itt K a) F ds where
  small := by rw [← hd.length]; exact hl
  goes := fun i H hi e => by
    have hi' : i < vs.length := by rw [hd.length]; exact hi
    exact ⟨vs, vs[i], Evl.ex_t e h, List.getElem?_eq_getElem hi'⟩
  stops := fun H e => ⟨vs, Evl.ex_t e h, by rw [hd.length]; exact Nat.le_refl _⟩
  yields := fun i H x H' Fc hi e1 e2 hy => by
    obtain ⟨rfl, hy⟩ := hy
    have hx := hy vs (Evl.ex_t e2 (Evl.ex_t e1 h))
    obtain ⟨d, g1, g2⟩ := hd.get' hx
    exact ⟨Fc, d, g1, Evl.Ex.refl _, e2, fun _ _ z => .inl z, fun _ _ z => z, g2.up e1⟩
/-- lo, lo + 1, .. -/
def rng (lo : Int) (n : Nat) : List Int := (List.range n).map fun (i : Nat) => lo + (i : Int)
theorem rng_len (lo : Int) (n : Nat) : (rng lo n).length = n := by simp [rng]
theorem walk_R {lo : Int} {n : Nat} (hn : n ≤ LIM) : WalkD K (Itr lo n) F ((rng lo n).map enc) where
  small := by rw [List.length_map, rng_len]; exact hn
  goes := fun i H hi e => by
    rw [List.length_map, rng_len] at hi
    exact hi
  stops := fun H e => by
    rw [List.length_map, rng_len]
    exact Nat.le_refl _
  yields := fun i H x H' Fc hi e1 e2 hy => by
    rw [List.length_map, rng_len] at hi
    obtain ⟨rfl, rfl⟩ := hy
    refine ⟨Fc, .int (lo + (i : Int)), ?_, Evl.Ex.refl _, e2, fun _ _ z => .inl z, fun _ _ z => z, .int _⟩
    rw [List.getElem?_map, rng, List.getElem?_map, List.getElem?_range hi]
    rfl
/-- over a list, a tuple -/
theorem ei_T (h : EV K te env (.tuple ds) env1) : EI K (iTup K te) env ds env1 := fun F σ H o R q =>
  h F σ H o _ fun F1 v H1 r1 dv => by
    cases dv with
    | tup hs hl hd => exact ⟨_, rfl, ⟨_, Evl.ex_t r1.own.ex hs⟩, q F1 _ H1 r1 (walk_T hs hl hd)⟩
theorem ei_L (h : EV K te env (.list ds) env1) : EI K (iList K te) env ds env1 := fun F σ H o R q =>
  h F σ H o _ fun F1 v H1 r1 dv => by
    cases dv with
    | lst hs hl hd => exact ⟨_, rfl, ⟨_, .inl (.inl (r1.own.ex _ _ hs))⟩, q F1 _ H1 r1 (walk_L hs hl hd)⟩
theorem ei_F (h : EF K te env ds env1) : EI K (iList K te) env ds env1 := ei_L h.ev
/-- the ranges that are walked -/
def rngO (lo hi : Int) : Option (List Int) := if -50000 ≤ lo ∧ lo ≤ 50000 ∧ -50000 ≤ hi ∧ hi ≤ 50000 then some (rng lo (hi - lo).toNat) else none
theorem rngO_some {lo hi : Int} {l : List Int} (h : rngO lo hi = some l) : (-50000 ≤ lo ∧ lo ≤ 50000 ∧ -50000 ≤ hi ∧ hi ≤ 50000) ∧ l = rng lo (hi - lo).toNat := by
  unfold rngO at h
  split at h
  · rename_i c
    exact ⟨c, (Option.some.inj h).symm⟩
  · cases h
theorem ei_R1 {l : List Int} (h : ED K tr env [.int x] env1) (hl : rngO 0 x = some l) : EI K (iRng1 tr) env (l.map enc) env1 := fun F σ H o R q =>
  h F σ H o _ fun F1 vs H1 r1 dvs => by
    have e := dq_ints (ns := [x]) dvs
    subst e
    obtain ⟨c, rfl⟩ := rngO_some hl
    refine ⟨x, rfl, by omega, by omega, q F1 _ H1 r1 ?_⟩
    rw [Int.sub_zero]
    exact walk_R (by show x.toNat ≤ 100000; omega)
theorem ei_R2 {l : List Int} (h : ED K tr env [.int x, .int y] env1) (hl : rngO x y = some l) : EI K (iRng2 tr) env (l.map enc) env1 := fun F σ H o R q =>
  h F σ H o _ fun F1 vs H1 r1 dvs => by
    have e := dq2 dvs
    subst e
    obtain ⟨c, rfl⟩ := rngO_some hl
    exact ⟨x, y, rfl, ⟨by omega, by omega, by omega, by omega⟩, q F1 _ H1 r1 (walk_R (by show (y - x).toNat ≤ 100000; omega))⟩
/-- a new tuple at each turn -/
theorem yield_pair {Fc : Hp} {T : Addr} {v w : V} {d e : PyData} (e2 : Ex Fc H) (hT : H T = none) (h1 : Dq K Fc v d) (h2 : Dq K Fc w e) : ∃ Fc', Ex Fc Fc' ∧ Ex Fc' (upd H T (.tup [v, w])) ∧ (∀ a o, Fc' a = some o → Fc a = some o ∨ H a = none) ∧ (∀ a o, H a = some o → upd H T (.tup [v, w]) a = some o) ∧ Dq K Fc' (.ref T) (.tuple [d, e]) := by
  have f0 : Fc T = none := by
    cases z : Fc T with
    | none => rfl
    | some u => rw [e2 T u z] at hT; cases hT
  have m : Ex Fc (upd Fc T (.tup [v, w])) := Evl.Ex.new f0
  refine ⟨upd Fc T (.tup [v, w]), m, fun a o z => ?_, fun a o z => ?_, Evl.Ex.new hT, .tup (.inl (.inl upd_same)) (show 2 ≤ LIM by decide) (.cons (h1.up m) (.one (h2.up m)))⟩
  · by_cases c : a = T
    · subst c; rw [upd_same] at z ⊢; exact z
    · rw [upd_ne c] at z ⊢; exact e2 a o z
  · by_cases c : a = T
    · subst c; exact .inr hT
    · rw [upd_ne c] at z; exact .inl z
/-- enumerate -/
def enum' {α : Type} (l : List α) : List (Int × α) := (List.range l.length).zipWith (fun (i : Nat) a => ((i : Int), a)) l
theorem enum_get {α : Type} (l : List α) (i : Nat) : (enum' l)[i]? = l[i]?.map fun a => ((i : Int), a) := by
  unfold enum'
  rw [List.getElem?_zipWith]
  by_cases h : i < l.length
  · rw [List.getElem?_range h, List.getElem?_eq_getElem h]
    rfl
  · rw [List.getElem?_eq_none (show l.length ≤ i by omega)]
    split
    · rename_i h1 h2; cases h2
    · rfl
theorem enum_len {α : Type} (l : List α) : (enum' l).length = l.length := by simp [enum']
theorem walk_E {α : Type} [Enc α] {l : List α} {a : Addr} {vs : List V} (h : F a = some (.lst vs)) (hl : vs.length ≤ LIM) (hd : DqAll K F vs (l.map enc)) : WalkD K (Ite K a) F ((enum' l).map enc) where
  small := by rw [List.length_map, enum_len]; rw [hd.length, List.length_map] at hl; exact hl
  goes := fun i H hi e => by
    rw [List.length_map, enum_len] at hi
    have hi' : i < vs.length := by rw [hd.length, List.length_map]; exact hi
    exact ⟨vs, vs[i], .inl (.inl (e _ _ h)), List.getElem?_eq_getElem hi'⟩
  stops := fun H e => ⟨vs, .inl (.inl (e _ _ h)), by rw [hd.length, List.length_map, List.length_map, enum_len]; exact Nat.le_refl _⟩
  yields := fun i H x H' Fc hi e1 e2 hy => by
    obtain ⟨T, v, rfl, hT, rfl, hv⟩ := hy
    have hx := hv vs (.inl (.inl (e2 _ _ (e1 _ _ h))))
    obtain ⟨d, g1, g2⟩ := hd.get' hx
    rw [List.getElem?_map] at g1
    cases z : l[i]? with
    | none => rw [z] at g1; cases g1
    | some a' =>
      rw [z] at g1
      cases g1
      obtain ⟨Fc', k1, k2, k3, k4, k5⟩ := yield_pair e2 hT (.int (i : Int)) (g2.up e1)
      refine ⟨Fc', _, ?_, k1, k2, k3, k4, k5⟩
      rw [List.getElem?_map, enum_get, z]
      rfl
theorem ei_EL {α : Type} [Enc α] {l : List α} (h : EV K te env (.list (l.map enc)) env1) : EI K (iEnum K (tCons te tNil)) env ((enum' l).map enc) env1 := fun F σ H o R q =>
  h F σ H o _ fun F1 v H1 r1 dv => by
    cases dv with
    | lst hs hl hd => exact ⟨_, _, rfl, .inl (.inl (r1.own.ex _ _ hs)), q F1 _ H1 r1 (walk_E hs hl hd)⟩
/-- zip of two lists, of two tuples -/
theorem walk_Z {α β : Type} [Enc α] [Enc β] {l : List α} {m : List β} {a a2 : Addr} {vs ws : List V} (h : F a = some (.lst vs)) (h2 : F a2 = some (.lst ws)) (hl : vs.length ≤ LIM) (hd : DqAll K F vs (l.map enc)) (hd2 : DqAll K F ws (m.map enc)) : WalkD K (Itz K a a2) F ((l.zip m).map enc) where
  small := by rw [hd.length, List.length_map] at hl; rw [List.length_map, List.length_zip]; exact Nat.le_trans (Nat.min_le_left _ _) hl
  goes := fun i H hi e => by
    rw [List.length_map, List.length_zip] at hi
    have h3 : i < vs.length := by rw [hd.length, List.length_map]; omega
    have h4 : i < ws.length := by rw [hd2.length, List.length_map]; omega
    exact ⟨vs, ws, vs[i], ws[i], .inl (.inl (e _ _ h)), .inl (.inl (e _ _ h2)), List.getElem?_eq_getElem h3, List.getElem?_eq_getElem h4⟩
  stops := fun H e => ⟨vs, ws, .inl (.inl (e _ _ h)), .inl (.inl (e _ _ h2)), by
    rw [hd.length, hd2.length, List.length_map, List.length_map, List.length_map, List.length_zip]
    omega⟩
  yields := fun i H x H' Fc hi e1 e2 hy => by
    obtain ⟨T, v, w, rfl, hT, rfl, hv, hw⟩ := hy
    have hx := hv vs (.inl (.inl (e2 _ _ (e1 _ _ h))))
    have hx2 := hw ws (.inl (.inl (e2 _ _ (e1 _ _ h2))))
    obtain ⟨d, g1, g2⟩ := hd.get' hx
    obtain ⟨d', g1', g2'⟩ := hd2.get' hx2
    rw [List.getElem?_map] at g1 g1'
    cases z : l[i]? with
    | none => rw [z] at g1; cases g1
    | some a' =>
      cases z' : m[i]? with
      | none => rw [z'] at g1'; cases g1'
      | some b' =>
        rw [z] at g1
        cases g1
        rw [z'] at g1'
        cases g1'
        obtain ⟨Fc', k1, k2, k3, k4, k5⟩ := yield_pair e2 hT (g2.up e1) (g2'.up e1)
        refine ⟨Fc', _, ?_, k1, k2, k3, k4, k5⟩
        rw [List.getElem?_map, show (l.zip m)[i]? = some (a', b') from List.getElem?_zip_eq_some.mpr ⟨z, z'⟩]
        rfl
theorem walk_ZT {α β : Type} [Enc α] [Enc β] {l : List α} {m : List β} {a a2 : Addr} {vs ws : List V} (h : SqT K F a vs) (h2 : SqT K F a2 ws) (hl : vs.length ≤ LIM) (hd : DqAll K F vs (l.map enc)) (hd2 : DqAll K F ws (m.map enc)) : WalkD K (ItzT K a a2) F ((l.zip m).map enc) where
  small := by rw [hd.length, List.length_map] at hl; rw [List.length_map, List.length_zip]; exact Nat.le_trans (Nat.min_le_left _ _) hl
  goes := fun i H hi e => by
    rw [List.length_map, List.length_zip] at hi
    have h3 : i < vs.length := by rw [hd.length, List.length_map]; omega
    have h4 : i < ws.length := by rw [hd2.length, List.length_map]; omega
    exact ⟨vs, ws, vs[i], ws[i], Evl.ex_t e h, Evl.ex_t e h2, List.getElem?_eq_getElem h3, List.getElem?_eq_getElem h4⟩
  stops := fun H e => ⟨vs, ws, Evl.ex_t e h, Evl.ex_t e h2, by
    rw [hd.length, hd2.length, List.length_map, List.length_map, List.length_map, List.length_zip]
    omega⟩
  yields := fun i H x H' Fc hi e1 e2 hy => by
    obtain ⟨T, v, w, rfl, hT, rfl, hv, hw⟩ := hy
    have hx := hv vs (Evl.ex_t e2 (Evl.ex_t e1 h))
    have hx2 := hw ws (Evl.ex_t e2 (Evl.ex_t e1 h2))
    obtain ⟨d, g1, g2⟩ := hd.get' hx
    obtain ⟨d', g1', g2'⟩ := hd2.get' hx2
    rw [List.getElem?_map] at g1 g1'
    cases z : l[i]? with
    | none => rw [z] at g1; cases g1
    | some a' =>
      cases z' : m[i]? with
      | none => rw [z'] at g1'; cases g1'
      | some b' =>
        rw [z] at g1
        cases g1
        rw [z'] at g1'
        cases g1'
        obtain ⟨Fc', k1, k2, k3, k4, k5⟩ := yield_pair e2 hT (g2.up e1) (g2'.up e1)
        refine ⟨Fc', _, ?_, k1, k2, k3, k4, k5⟩
        rw [List.getElem?_map, show (l.zip m)[i]? = some (a', b') from List.getElem?_zip_eq_some.mpr ⟨z, z'⟩]
        rfl
theorem ei_ZT {α β : Type} [Enc α] [Enc β] {l : List α} {m : List β} (h : EV K ta env (.tuple (l.map enc)) env1) (h2 : EV K tb env1 (.tuple (m.map enc)) env2) : EI K (iZipA K (tCons ta (tCons tb tNil))) env ((l.zip m).map enc) env2 := fun F σ H o R q =>
  h F σ H o _ fun F1 v H1 r1 dv => h2 F1 σ H1 r1.own _ fun F2 w H2 r2 dw => by
    have dv := dv.up r2.exF
    cases dv with
    | tup hs hl hd =>
      cases dw with
      | tup hs2 hl2 hd2 => exact ⟨_, _, _, _, rfl, .inr ⟨Evl.ex_t r2.own.ex hs, Evl.ex_t r2.own.ex hs2, q F2 _ H2 (r1.trans r2) (walk_ZT hs hs2 hl hd hd2)⟩⟩
theorem ei_ZL {α β : Type} [Enc α] [Enc β] {l : List α} {m : List β} (h : EV K ta env (.list (l.map enc)) env1) (h2 : EV K tb env1 (.list (m.map enc)) env2) : EI K (iZipA K (tCons ta (tCons tb tNil))) env ((l.zip m).map enc) env2 := fun F σ H o R q =>
  h F σ H o _ fun F1 v H1 r1 dv => h2 F1 σ H1 r1.own _ fun F2 w H2 r2 dw => by
    have dv := dv.up r2.exF
    cases dv with
    | lst hs hl hd =>
      cases dw with
      | lst hs2 hl2 hd2 => exact ⟨_, _, _, _, rfl, .inl ⟨.inl (.inl (r2.own.ex _ _ hs)), .inl (.inl (r2.own.ex _ _ hs2)), q F2 _ H2 (r1.trans r2) (walk_Z hs hs2 hl hd hd2)⟩⟩
end

/-! ### loops -/
inductive Ctl (S R : Type) where
  | nx (s : S)
  | bk (s : S)
  | rt (r : R)
def loop {S α R : Type} (f : S → α → Option (Ctl S R)) : List α → S → Option (Ctl S R)
  | [], s => some (.nx s)
  | x :: xs, s => (f s x).bind fun c => match c with
    | .nx s' => loop f xs s'
    | .bk s' => some (.nx s')
    | .rt r => some (.rt r)
/-- a loop without break and return -/
def fold {S α : Type} (f : S → α → Option S) : List α → S → Option S
  | [], s => some s
  | x :: xs, s => (f s x).bind fun s' => fold f xs s'
theorem fold_loop {S α : Type} (f : S → α → Option S) : ∀ (xs : List α) (s : S), loop (R := Empty) (fun s x => (f s x).map .nx) xs s = (fold f xs s).map .nx
  | [], s => rfl
  | x :: xs, s => by
    unfold loop fold
    cases f s x with
    | none => rfl
    | some s' => exact fold_loop f xs s'

section
variable {K : FR} {σ σ1 σ2 : L2.St} {env env1 env2 env3 : List Slot} {F F1 F2 H H1 H2 : Hp} {ta tb tc te : TE} {tr : TA} {t u : TT} {tz ts tw : TS} {d d1 d2 d3 : PyData} {ds es : List PyData} {b c : Bool} {x y : Int} {P : Po} {D : Ends} {i : Nat} {q : Option Addr} {wi : TI} {g : TG}
variable {S α R : Type} [Enc α]
/-- what the body of a loop is to do -/
def Body (K : FR) (g : TG) (tb : TS) (envOf : S → List Slot) (f : S → α → Option (Ctl S R)) (RT : R → Rs → List Slot → Prop) : Prop :=
  ∀ s x c, f s x = some c → ∃ env2 js, EG K g (envOf s) (enc x) env2 js ∧
    BV K tb env2 ⟨fun e => ∃ s', c = .nx s' ∧ Le e (envOf s'), fun r e => ∃ ρ, c = .rt ρ ∧ RT ρ r e, fun e => ∃ s', c = .bk s' ∧ Le e (envOf s'), fun e => ∃ s', c = .nx s' ∧ Le e (envOf s')⟩
theorem bv_for {xs : List α} {s0 : S} {c : Ctl S R} {f : S → α → Option (Ctl S R)} (envOf : S → List Slot) (RT : R → Rs → List Slot → Prop) (hi : EI K wi env (xs.map enc) env1) (h0 : Le env1 (envOf s0)) (h : loop f xs s0 = some c) (hb : Body K g ts envOf f RT)
    (hn : ∀ s, c = .nx s → P.nx (envOf s)) (hr : ∀ ρ r e, c = .rt ρ → RT ρ r e → P.rt r e) : BV K (tFor wi g ts) env P := fun F σ H o D E => by
  refine hi F σ H o _ fun F1 J H1 r1 wk => ?_
  refine ⟨fun i m σ' H' => m = xs.length - i ∧ i ≤ xs.length ∧ ∃ s F', loop f (xs.drop i) s = some c ∧ Rn K σ env F H σ' (envOf s) F' H' ∧ Ex F1 F', ⟨xs.length, by simp, Nat.zero_le _, s0, F1, h, r1.le h0, Evl.Ex.refl _⟩, ?_⟩
  rintro i m σ' H' ⟨rfl, hi, s, F', hl, r, ef⟩
  by_cases hlt : i < xs.length
  · right
    have hlen : i < (xs.map enc).length := by rw [List.length_map]; exact hlt
    have ed : xs.drop i = xs[i] :: xs.drop (i + 1) := List.drop_eq_getElem_cons hlt
    rw [ed] at hl
    unfold loop at hl
    obtain ⟨c', hc', hl⟩ := Option.bind_eq_some_iff.mp hl
    obtain ⟨env2, js, hg, hbv⟩ := hb s xs[i] c' hc'
    refine ⟨wk.goes i H' hlen (fun a o z => r.own.ex a o (ef a o z)), fun σ2 H2 => ∃ s' F2, c' = .nx s' ∧ Rn K σ env F H σ2 (envOf s') F2 H2 ∧ Ex F1 F2, fun σ2 H2 hN => ?_, fun v H2 hy => ?_⟩
    · obtain ⟨s', F2, rfl, r2, ef2⟩ := hN
      exact ⟨xs.length - (i + 1), by omega, rfl, hlt, s', F2, hl, r2, ef2⟩
    · obtain ⟨Fc, d, g1, g2, g3, g4, g5, g6⟩ := wk.yields i H' v H2 F' hlen ef r.own.ex hy
      rw [List.getElem?_map, List.getElem?_eq_getElem hlt] at g1
      cases g1
      have r2 : Rn K σ' (envOf s) F' H' σ' (envOf s) Fc H2 := ⟨g2, fun a o z => by
        rcases g4 a o z with z | z
        · exact .inl z
        · exact .inr (.inr z), fun a o z _ => g5 a o z, fun a o z => ⟨o, g5 a o z⟩, fun a z => .inl z, r.own.carry g2 g3 g4 g5⟩
      refine hg Fc σ' H2 v r2.own g6 _ fun σ3 r3 _ => ?_
      have r4 := (r.trans r2).trans r3
      refine hbv Fc σ3 H2 r3.own _ ⟨fun e F5 σ5 H5 hP r5 => ?_, fun e F5 σ5 H5 hP r5 => ?_, fun e F5 σ5 H5 hP r5 => ?_, fun rr e F5 w σ5 H5 hP r5 hv => ?_⟩
      · obtain ⟨s', rfl, l⟩ := hP
        exact ⟨s', F5, rfl, (r4.trans r5).le l, (ef.trans g2).trans r5.exF⟩
      · obtain ⟨s', rfl, l⟩ := hP
        cases hl
        exact E.nx _ F5 σ5 H5 (hn s' rfl) ((r4.trans r5).le l)
      · obtain ⟨s', rfl, l⟩ := hP
        exact ⟨s', F5, rfl, (r4.trans r5).le l, (ef.trans g2).trans r5.exF⟩
      · obtain ⟨ρ, rfl, hρ⟩ := hP
        cases hl
        exact (E.after r4).rt rr e F5 w σ5 H5 (hr ρ rr e rfl hρ) r5 hv
  · left
    have e : i = xs.length := by omega
    subst e
    rw [List.drop_length] at hl
    cases hl
    refine ⟨?_, E.nx _ F' σ' H' (hn s rfl) r⟩
    have := wk.stops H' (fun a o z => r.own.ex a o (ef a o z))
    rw [List.length_map] at this
    exact this
/-- the same, without break and return -/
theorem bv_fold {xs : List α} {s0 s1 : S} {f : S → α → Option S} (envOf : S → List Slot) (hi : EI K wi env (xs.map enc) env1) (h0 : Le env1 (envOf s0)) (h : fold f xs s0 = some s1)
    (hb : ∀ s x s', f s x = some s' → ∃ env2 js, EG K g (envOf s) (enc x) env2 js ∧ BV K ts env2 ⟨fun e => Le e (envOf s'), fun _ _ => False, fun _ => False, fun e => Le e (envOf s')⟩)
    (hn : P.nx (envOf s1)) : BV K (tFor wi g ts) env P := by
  refine bv_for (R := Empty) (c := .nx s1) (f := fun s x => (f s x).map .nx) envOf (fun ρ _ _ => ρ.elim) hi h0 (by rw [fold_loop, h]; rfl) (fun s x c hc => ?_) (fun s e => by cases e; exact hn) (fun ρ => ρ.elim)
  obtain ⟨s', hs', rfl⟩ := Option.map_eq_some_iff.mp hc
  obtain ⟨env2, js, hg, hbv⟩ := hb s x s' hs'
  exact ⟨env2, js, hg, hbv.to (fun e h => ⟨s', rfl, h⟩) (fun _ _ h => h.elim) (fun _ h => h.elim) (fun e h => ⟨s', rfl, h⟩)⟩

/-! ### while -/
def whileO (test : S → Option Bool) (f : S → Option (Ctl S R)) : Nat → S → Option (Ctl S R)
  | 0, _ => none
  | n + 1, s => (test s).bind fun b => if b then (f s).bind fun c => match c with
      | .nx s' => whileO test f n s'
      | .bk s' => some (.nx s')
      | .rt r => some (.rt r)
    else some (.nx s)
theorem bv_while {n : Nat} {s0 : S} {c : Ctl S R} {test : S → Option Bool} {f : S → Option (Ctl S R)} (envOf : S → List Slot) (RT : R → Rs → List Slot → Prop) (h0 : Le env (envOf s0)) (h : whileO test f n s0 = some c)
    (ht : ∀ s b, test s = some b → ET K t (envOf s) b (envOf s))
    (hb : ∀ s c, f s = some c → BV K ts (envOf s) ⟨fun e => ∃ s', c = .nx s' ∧ Le e (envOf s'), fun r e => ∃ ρ, c = .rt ρ ∧ RT ρ r e, fun e => ∃ s', c = .bk s' ∧ Le e (envOf s'), fun e => ∃ s', c = .nx s' ∧ Le e (envOf s')⟩)
    (hn : ∀ s, c = .nx s → P.nx (envOf s)) (hr : ∀ ρ r e, c = .rt ρ → RT ρ r e → P.rt r e) : BV K (tWhile t ts) env P := fun F σ H o D E => by
  refine ⟨fun m σ' H' => ∃ s F', whileO test f m s = some c ∧ Rn K σ env F H σ' (envOf s) F' H', ⟨n, s0, F, h, Rn.ofLe h0 o⟩, ?_⟩
  rintro m σ' H' ⟨s, F', hl, r⟩
  cases m with
  | zero => cases hl
  | succ m =>
    unfold whileO at hl
    obtain ⟨b, hb1, hl⟩ := Option.bind_eq_some_iff.mp hl
    refine ht s b hb1 F' σ' H' r.own _ fun F2 H2 r2 => ?_
    have r3 := r.trans r2
    cases b with
    | false =>
      cases hl
      exact E.nx _ F2 σ' H2 (hn s rfl) r3
    | true =>
      obtain ⟨c', hc', hl⟩ := Option.bind_eq_some_iff.mp hl
      refine ⟨fun σ5 H5 => ∃ s' F5, c' = .nx s' ∧ Rn K σ env F H σ5 (envOf s') F5 H5, fun σ5 H5 hN => ?_, ?_⟩
      · obtain ⟨s', F5, rfl, r5⟩ := hN
        exact ⟨m, Nat.lt_succ_self _, s', F5, hl, r5⟩
      · refine hb s c' hc' F2 σ' H2 r2.own _ ⟨fun e F5 σ5 H5 hP r5 => ?_, fun e F5 σ5 H5 hP r5 => ?_, fun e F5 σ5 H5 hP r5 => ?_, fun rr e F5 w σ5 H5 hP r5 hv => ?_⟩
        · obtain ⟨s', rfl, l⟩ := hP
          exact ⟨s', F5, rfl, (r3.trans r5).le l⟩
        · obtain ⟨s', rfl, l⟩ := hP
          cases hl
          exact E.nx _ F5 σ5 H5 (hn s' rfl) ((r3.trans r5).le l)
        · obtain ⟨s', rfl, l⟩ := hP
          exact ⟨s', F5, rfl, (r3.trans r5).le l⟩
        · obtain ⟨ρ, rfl, hρ⟩ := hP
          cases hl
          exact (E.after r3).rt rr e F5 w σ5 H5 (hr ρ rr e rfl hρ) r5 hv
end

/-! ### comprehensions -/
/-- the element of each (none: left out), with a state -/
def compS {S α β : Type} (f : S → α → Option (Option β × S)) : List α → S → Option (List β × S)
  | [], s => some ([], s)
  | x :: xs, s => (f s x).bind fun r => (compS f xs r.2).bind fun p => some (match r.1 with
    | some y => y :: p.1
    | none => p.1, p.2)
def mapO {α β : Type} (f : α → Option β) : List α → Option (List β)
  | [] => some []
  | x :: xs => (f x).bind fun y => (mapO f xs).bind fun ys => some (y :: ys)
/-- with a test -/
def filO {α β : Type} (f : α → Option (Option β)) : List α → Option (List β)
  | [] => some []
  | x :: xs => (f x).bind fun y => (filO f xs).bind fun ys => some (match y with
    | some y => y :: ys
    | none => ys)
def mapS {S α β : Type} (f : S → α → Option (β × S)) : List α → S → Option (List β × S)
  | [], s => some ([], s)
  | x :: xs, s => (f s x).bind fun r => (mapS f xs r.2).bind fun p => some (r.1 :: p.1, p.2)
theorem mapO_compS {α β : Type} (f : α → Option β) : ∀ xs : List α, compS (fun (_ : Unit) x => (f x).map fun y => (some y, ())) xs () = (mapO f xs).map fun ys => (ys, ())
  | [] => rfl
  | x :: xs => by
    unfold compS mapO
    cases f x with
    | none => rfl
    | some y =>
      show (compS _ xs ()).bind _ = Option.map _ ((mapO f xs).bind _)
      rw [mapO_compS f xs]
      cases mapO f xs <;> rfl
theorem filO_compS {α β : Type} (f : α → Option (Option β)) : ∀ xs : List α, compS (fun (_ : Unit) x => (f x).map fun y => (y, ())) xs () = (filO f xs).map fun ys => (ys, ())
  | [] => rfl
  | x :: xs => by
    unfold compS filO
    cases f x with
    | none => rfl
    | some y =>
      show (compS _ xs ()).bind _ = Option.map _ ((filO f xs).bind _)
      rw [filO_compS f xs]
      cases filO f xs <;> rfl
theorem mapS_compS {S α β : Type} (f : S → α → Option (β × S)) : ∀ (xs : List α) (s : S), compS (fun s x => (f s x).map fun r => (some r.1, r.2)) xs s = mapS f xs s
  | [], _ => rfl
  | x :: xs, s => by
    unfold compS mapS
    cases f s x with
    | none => rfl
    | some r =>
      show (compS _ xs r.2).bind _ = _
      rw [mapS_compS f xs r.2]
      rfl

theorem wipe_get {σ : L2.St} {i : Nat} : ∀ {vs : List Nat}, i ∈ vs → i < σ.length → (wipe σ vs)[i]? = some none
  | [], h, _ => by cases h
  | v :: vs, h, hl => by
    unfold wipe
    by_cases e : v = i
    · subst e
      exact List.getElem?_set_self (by rw [wipe_length]; exact hl)
    · rw [List.getElem?_set_ne e]
      rcases List.mem_cons.mp h with z | z
      · exact (e z.symm).elim
      · exact wipe_get z hl
theorem wipe_ext {σ σ' : L2.St} {vs : List Nat} (hl : σ'.length = σ.length) (h : ∀ i : Nat, i ∉ vs → σ'[i]? = σ[i]?) : wipe σ' vs = wipe σ vs := by
  apply List.ext_getElem?
  intro i
  by_cases hi : i ∈ vs
  · by_cases hlt : i < σ.length
    · rw [wipe_get hi hlt, wipe_get hi (by omega)]
    · rw [List.getElem?_eq_none (by rw [wipe_length]; omega), List.getElem?_eq_none (by rw [wipe_length]; omega)]
  · rw [wipe_out hi, wipe_out hi]
    exact h i hi
theorem wipe_wipe (σ : L2.St) (vs : List Nat) : wipe (wipe σ vs) vs = wipe σ vs := wipe_ext (wipe_length σ vs) fun i hi => wipe_out hi

/-- the slots of a comprehension's own names are nothing -/
def wipeE (env : List Slot) : List Nat → List Slot
  | [] => env
  | v :: vs => (wipeE env vs).set v .u
theorem wipeE_len (env : List Slot) : ∀ vs, (wipeE env vs).length = env.length
  | [] => rfl
  | v :: vs => by unfold wipeE; rw [List.length_set, wipeE_len env vs]
theorem wipeE_get {env : List Slot} {i : Nat} {s : Slot} : ∀ {vs : List Nat}, (wipeE env vs)[i]? = some s → s = .u ∨ (env[i]? = some s ∧ i ∉ vs)
  | [], h => .inr ⟨h, by simp⟩
  | v :: vs, h => by
    unfold wipeE at h
    by_cases hi : v = i
    · subst hi
      by_cases hv : v < (wipeE env vs).length
      · rw [List.getElem?_set_self hv] at h; cases h; exact .inl rfl
      · rw [List.getElem?_eq_none (by rw [List.length_set]; omega)] at h; cases h
    · rw [List.getElem?_set_ne hi] at h
      rcases wipeE_get h with e | ⟨e1, e2⟩
      · exact .inl e
      · exact .inr ⟨e1, by simp only [List.mem_cons, not_or]; exact ⟨fun z => hi z.symm, e2⟩⟩
theorem Own.wipe {K : FR} {F H : Hp} {σ : L2.St} {env : List Slot} (o : Own K F σ H env) (vs : List Nat) : Own K F (L2.wipe σ vs) H (wipeE env vs) := by
  refine ⟨by rw [wipe_length, wipeE_len]; exact o.len, o.ex, fun j x h => ?_, fun j x h => ?_, fun j lo hi h => ?_, fun j q ds h => ?_, fun j k q q' ds es p h1 h2 h3 h4 => ?_⟩
  · rcases wipeE_get h with e | ⟨e1, e2⟩
    · cases e
    · rw [wipe_out e2]; exact o.dat j x e1
  · rcases wipeE_get h with e | ⟨e1, e2⟩
    · cases e
    · rw [wipe_out e2]; exact o.scr j x e1
  · rcases wipeE_get h with e | ⟨e1, e2⟩
    · cases e
    · rw [wipe_out e2]; exact o.rng j lo hi e1
  · rcases wipeE_get h with e | ⟨e1, e2⟩
    · cases e
    · rw [wipe_out e2]; exact o.lst j q ds e1
  · rcases wipeE_get h1 with e | ⟨e1, e2⟩
    · cases e
    · rcases wipeE_get h2 with e' | ⟨e1', e2'⟩
      · cases e'
      · rw [wipe_out e2] at h3
        rw [wipe_out e2'] at h4
        exact o.inj j k q q' ds es p e1 e1' h3 h4
theorem ow_wipe {σ : L2.St} {env : List Slot} {vs : List Nat} {a : Addr} (h : ow (L2.wipe σ vs) (wipeE env vs) a) : ow σ env a := by
  obtain ⟨j, q, ds, h1, h2⟩ := h
  rcases wipeE_get h1 with e | ⟨e1, e2⟩
  · cases e
  · rw [wipe_out e2] at h2
    exact ⟨j, q, ds, e1, h2⟩
/-- behind a comprehension: data as ahead of it, lists as its end tells -/
def mrg : List Slot → List Slot → List Slot
  | a :: as, b :: bs => (match a, b with
    | .l _ _, .l q ds => .l q ds
    | .l _ _, _ => .u
    | x, _ => x) :: mrg as bs
  | as, _ => as
theorem mrg_len : ∀ as bs : List Slot, (mrg as bs).length = as.length
  | [], [] => rfl
  | [], _ :: _ => rfl
  | _ :: _, [] => rfl
  | a :: as, b :: bs => by simp [mrg, mrg_len as bs]
theorem mrg_get : ∀ {as bs : List Slot} {i : Nat} {s : Slot}, as.length = bs.length → (mrg as bs)[i]? = some s → s = .u ∨ (as[i]? = some s ∧ ∀ q ds, s ≠ .l q ds) ∨ ∃ q ds q0 d0, s = .l q ds ∧ as[i]? = some (.l q0 d0) ∧ bs[i]? = some s
  | [], _, _, _, _, h => by
    unfold mrg at h
    simp at h
  | _ :: _, [], _, _, hl, _ => by simp at hl
  | a :: as, b :: bs, 0, s, hl, h => by
    simp only [mrg, List.getElem?_cons_zero, Option.some.injEq] at h ⊢
    subst h
    cases a with
    | l q0 d0 =>
      cases b with
      | l q ds => exact .inr (.inr ⟨q, ds, q0, d0, rfl, rfl, rfl⟩)
      | u => exact .inl rfl
      | d x => exact .inl rfl
      | s x => exact .inl rfl
      | g x y => exact .inl rfl
    | u => exact .inl rfl
    | d x => exact .inr (.inl ⟨rfl, fun q ds z => by cases z⟩)
    | s x => exact .inr (.inl ⟨rfl, fun q ds z => by cases z⟩)
    | g x y => exact .inr (.inl ⟨rfl, fun q ds z => by cases z⟩)
  | a :: as, b :: bs, i + 1, s, hl, h => by
    simp only [mrg, List.getElem?_cons_succ] at h ⊢
    exact mrg_get (by simpa using hl) h

def isU : Slot → Bool
  | .u => true
  | _ => false
def allU (env : List Slot) (vs : List Nat) : Bool := vs.all fun j => isU (env[j]?.getD .u)
theorem allU_get {env : List Slot} {vs : List Nat} (h : allU env vs = true) {j : Nat} (hj : j ∈ vs) {x : Slot} (hx : env[j]? = some x) : x = .u := by
  unfold allU at h
  rw [List.all_eq_true] at h
  have := h j hj
  rw [hx] at this
  cases x <;> first | rfl | cases this
/-- a list that is not among one's own is changed -/
theorem Own.other {K : FR} {F H : Hp} {σ : L2.St} {env : List Slot} {p : Addr} {o : HO} (w : Own K F σ H env) (h0 : F p = none) (hn : ¬ ow σ env p) : Own K F σ (upd H p o) env where
  len := w.len
  ex := Evl.Ex.mut w.ex h0
  dat := w.dat
  scr := w.scr
  rng := w.rng
  lst := fun i q ds h => by
    obtain ⟨a, vs, h1, h2, h3, h4, h5, h6⟩ := w.lst i q ds h
    have ne : a ≠ p := fun e => hn (by subst e; exact ⟨i, q, ds, h, h1⟩)
    exact ⟨a, vs, h1, h2, h3, by rw [upd_ne ne]; exact h4, h5, h6⟩
  inj := w.inj
/-- the slots outside vs are as they were -/
theorem Rn.unset {K : FR} {F F' H H' : Hp} {σ σ0 σ1 : L2.St} {env env0 env1 : List Slot} {vs : List Nat} (r : Rn K σ0 env0 F H σ1 env F' H') (l : Le env env1) (hs : ∀ i : Nat, i ∉ vs → σ1[i]? = σ[i]?) (hl : σ1.length = σ.length) (hu : allU env1 vs = true) : Rn K σ0 env0 F H σ env1 F' H' := by
  have r := r.le l
  have nv : ∀ {j : Nat} {x : Slot}, env1[j]? = some x → x ≠ .u → σ1[j]? = σ[j]? := fun {j x} h n => hs j fun z => n (allU_get hu z h)
  refine ⟨r.exF, r.new, r.keep, r.dom, fun a h => ?_, ?_⟩
  · obtain ⟨j, q, ds, h1, h2⟩ := h
    rw [← nv h1 (fun z => by cases z)] at h2
    exact r.ows a ⟨j, q, ds, h1, h2⟩
  · have o := r.own
    refine ⟨by rw [← hl]; exact o.len, o.ex, fun j x h => ?_, fun j x h => ?_, fun j lo hi h => ?_, fun j q ds h => ?_, fun j k q q' ds es p h1 h2 h3 h4 => ?_⟩
    · rw [← nv h (fun z => by cases z)]; exact o.dat j x h
    · rw [← nv h (fun z => by cases z)]; exact o.scr j x h
    · rw [← nv h (fun z => by cases z)]; exact o.rng j lo hi h
    · rw [← nv h (fun z => by cases z)]; exact o.lst j q ds h
    · rw [← nv h1 (fun z => by cases z)] at h3
      rw [← nv h2 (fun z => by cases z)] at h4
      exact o.inj j k q q' ds es p h1 h2 h3 h4
theorem ow_unset {σ σ1 : L2.St} {env env1 : List Slot} {vs : List Nat} {a : Addr} (l : Le env env1) (hs : ∀ i : Nat, i ∉ vs → σ1[i]? = σ[i]?) (hu : allU env1 vs = true) (h : ow σ env1 a) : ow σ1 env a := by
  obtain ⟨j, q, ds, h1, h2⟩ := h
  rcases l.get h1 with e | e
  · cases e
  · refine ⟨j, q, ds, e, ?_⟩
    rw [hs j fun z => by cases allU_get hu z h1]
    exact h2
/-- a comprehension's end: the names are as ahead of it -/
theorem Rn.merge {K : FR} {F F' H H' : Hp} {σ : L2.St} {env1 env2 : List Slot} {vs : List Nat} (o1 : Own K F σ H env1) (r : Rn K (L2.wipe σ vs) (wipeE env1 vs) F H (L2.wipe σ vs) env2 F' H') : Rn K σ env1 F H σ (mrg env1 env2) F' H' := by
  have hl : env1.length = env2.length := by
    have a1 := o1.len
    have a2 := r.own.len
    rw [wipe_length] at a2
    omega
  have o := r.own
  have owm : ∀ a, ow σ (mrg env1 env2) a → ow σ env1 a := fun a ⟨j, q, ds, h1, h2⟩ => by
    rcases mrg_get hl h1 with z | ⟨z, n⟩ | ⟨q', ds', q0, d0, z1, z2, z3⟩
    · cases z
    · exact (n _ _ rfl).elim
    · exact ⟨j, q0, d0, z2, h2⟩
  refine ⟨r.exF, fun a x h => ?_, fun a x h n => r.keep a x h fun z => n (ow_wipe z), r.dom, fun a h => .inl (owm a h), ?_⟩
  · rcases r.new a x h with z | z | z
    · exact .inl z
    · exact .inr (.inl (ow_wipe z))
    · exact .inr (.inr z)
  · refine ⟨by rw [mrg_len]; exact o1.len, o.ex, fun j x h => ?_, fun j x h => ?_, fun j lo hi h => ?_, fun j q ds h => ?_, fun j k q q' ds es p h1 h2 h3 h4 => ?_⟩
    · rcases mrg_get hl h with z | ⟨z, n⟩ | ⟨q', ds', q0, d0, z1, z2, z3⟩
      · cases z
      · obtain ⟨v, g1, g2⟩ := o1.dat j x z
        exact ⟨v, g1, g2.up r.exF⟩
      · cases z1
    · rcases mrg_get hl h with z | ⟨z, n⟩ | ⟨q', ds', q0, d0, z1, z2, z3⟩
      · cases z
      · obtain ⟨v, g1, g2⟩ := o1.scr j x z
        exact ⟨v, g1, Evl.ex_l r.exF g2⟩
      · cases z1
    · rcases mrg_get hl h with z | ⟨z, n⟩ | ⟨q', ds', q0, d0, z1, z2, z3⟩
      · cases z
      · obtain ⟨v, g1, g2⟩ := o1.rng j lo hi z
        exact ⟨v, g1, r.exF _ _ g2⟩
      · cases z1
    · rcases mrg_get hl h with z | ⟨z, n⟩ | ⟨q', ds', q0, d0, z1, z2, z3⟩
      · cases z
      · exact (n _ _ rfl).elim
      · cases z1
        obtain ⟨p, ws, g1, g2⟩ := o.lst j _ _ z3
        exact ⟨p, ws, (wipe_some g1).1, g2⟩
    · have half : ∀ {j : Nat} {q : Option Addr} {ds : List PyData}, (mrg env1 env2)[j]? = some (.l q ds) → σ[j]? = some (some (.ref p)) → env2[j]? = some (.l q ds) ∧ (L2.wipe σ vs)[j]? = some (some (.ref p)) := fun {j q ds} h h' => by
        rcases mrg_get hl h with z | ⟨z, n⟩ | ⟨q', ds', q0, d0, z1, z2, z3⟩
        · cases z
        · exact (n _ _ rfl).elim
        · cases z1
          obtain ⟨p', ws, g1, g2⟩ := o.lst j _ _ z3
          have e := (wipe_some g1).1
          rw [h'] at e
          cases e
          exact ⟨z3, g1⟩
      obtain ⟨a1, a2⟩ := half h1 h3
      obtain ⟨b1, b2⟩ := half h2 h4
      exact o.inj j k q q' ds es p a1 b1 a2 b2
section
variable {K : FR} {env env1 : List Slot} {te : TE} {tt : TT} {wi : TI} {g : TG} {vs : List Nat} {S α β : Type} [Enc α] [Enc β]
/-- what a comprehension's turn is to do -/
def Turn1 (K : FR) (g : TG) (tt : TT) (te : TE) (vs : List Nat) (envOf : S → List Slot) (s : S) (x : α) (r : Option β × S) : Prop :=
  ∃ env2 js b env3, EG K g (envOf s) (enc x) env2 js ∧ (∀ j ∈ js, j ∈ vs) ∧ ET K tt env2 b env3 ∧
    ((b = true ∧ ∃ y env4, r.1 = some y ∧ EV K te env3 (enc y) env4 ∧ Le env4 (envOf r.2)) ∨ (b = false ∧ r.1 = none ∧ Le env3 (envOf r.2)))
theorem ef_lc {xs : List α} {s0 s1 : S} {ys : List β} {f : S → α → Option (Option β × S)} (envOf : S → List Slot) (hi : EI K wi env (xs.map enc) env1) (h0 : Le (wipeE env1 vs) (envOf s0)) (h : compS f xs s0 = some (ys, s1))
    (hb : ∀ s x r, f s x = some r → Turn1 K g tt te vs envOf s x r) (hu : ∀ s, allU (envOf s) vs = true) : EF K (tLc wi g tt te vs) env (ys.map enc) (mrg env1 (envOf s1)) := fun F σ H o Q k => by
  refine hi F σ H o _ fun F1 J H1 r1 wk D hD => ?_
  have o1 := r1.own
  have ow0 := o1.wipe vs
  have fD : F1 D = none := o1.fresh hD
  have hx : xs.length ≤ LIM := by have := wk.small; rw [List.length_map] at this; exact this
  have nD : ¬ ow σ env1 D := o1.not_ow hD
  have hlenE : ∀ s, (∃ x r, f s x = some r) → True := fun _ _ => trivial
  refine ⟨fun i m H' => m = xs.length - i ∧ i ≤ xs.length ∧ ∃ s F' acc done rest, compS f (xs.drop i) s = some (rest, s1) ∧ ys = done ++ rest ∧ done.length ≤ i ∧
      Rn K (L2.wipe σ vs) (wipeE env1 vs) F1 H1 (L2.wipe σ vs) (envOf s) F' H' ∧ H' D = some (.lst acc) ∧ F' D = none ∧ DqAll K F' acc (done.map enc) ∧ ¬ ow (L2.wipe σ vs) (envOf s) D,
    ⟨xs.length, by simp, Nat.zero_le _, s0, F1, [], [], ys, h, rfl, Nat.zero_le _, (Rn.mut ow0 hD (.lst [])).le h0, upd_same, fD, .nil, fun z => nD (ow_wipe (ow_le h0 z))⟩, ?_⟩
  rintro i m H' ⟨rfl, hi, s, F', acc, done, rest, hl, he, hdl, r, hacc, hF, hda, hno⟩
  by_cases hlt : i < xs.length
  · right
    have hlen : i < (xs.map enc).length := by rw [List.length_map]; exact hlt
    have ed : xs.drop i = xs[i] :: xs.drop (i + 1) := List.drop_eq_getElem_cons hlt
    rw [ed] at hl
    unfold compS at hl
    obtain ⟨rr, hr, hl⟩ := Option.bind_eq_some_iff.mp hl
    obtain ⟨pp, hp, hl⟩ := Option.bind_eq_some_iff.mp hl
    obtain ⟨rest', s1'⟩ := pp
    have hl := Option.some.inj hl
    have es1 : s1' = s1 := congrArg Prod.snd hl
    have erest : (match rr.1 with | some y => y :: rest' | none => rest') = rest := congrArg Prod.fst hl
    subst es1
    obtain ⟨env2, js, b, env3, hg, hjs, htt, hte⟩ := hb s xs[i] rr hr
    refine ⟨wk.goes i H' hlen (fun a o z => r.own.ex a o (r.exF a o z)), fun H2 => ∃ s' F' acc done rest, compS f (xs.drop (i + 1)) s' = some (rest, s1') ∧ ys = done ++ rest ∧ done.length ≤ i + 1 ∧
      Rn K (L2.wipe σ vs) (wipeE env1 vs) F1 H1 (L2.wipe σ vs) (envOf s') F' H2 ∧ H2 D = some (.lst acc) ∧ F' D = none ∧ DqAll K F' acc (done.map enc) ∧ ¬ ow (L2.wipe σ vs) (envOf s') D, fun H2 hN => ⟨xs.length - (i + 1), by omega, rfl, hlt, hN⟩, fun v H2 hy => ?_⟩
    obtain ⟨Fc, d, g1, g2, g3, g4, g5, g6⟩ := wk.yields i H' v H2 F' hlen r.exF r.own.ex hy
    rw [List.getElem?_map, List.getElem?_eq_getElem hlt] at g1
    cases g1
    have r2 : Rn K (L2.wipe σ vs) (envOf s) F' H' (L2.wipe σ vs) (envOf s) Fc H2 := ⟨g2, fun a o z => by
      rcases g4 a o z with z | z
      · exact .inl z
      · exact .inr (.inr z), fun a o z _ => g5 a o z, fun a o z => ⟨o, g5 a o z⟩, fun a z => .inl z, r.own.carry g2 g3 g4 g5⟩
    have hD2 : H2 D = some (.lst acc) := g5 _ _ hacc
    have hFc : Fc D = none := by
      cases z : Fc D with
      | none => rfl
      | some w =>
        rcases g4 D w z with y | y
        · rw [hF] at y; cases y
        · rw [hacc] at y; cases y
    refine hg Fc (L2.wipe σ vs) H2 v r2.own g6 _ fun σ3 r3 hσ => ?_
    have r4 := (r.trans r2).trans r3
    have hw : L2.wipe σ3 vs = L2.wipe σ vs := by
      rw [← wipe_wipe σ vs]
      exact wipe_ext hσ.2 fun j hj => hσ.1 j fun z => hj (hjs j z)
    have no3 : ¬ ow σ3 env2 D := fun z => by
      rcases r3.ows D z with y | y
      · exact hno y
      · rw [hD2] at y; cases y
    refine ⟨hw, htt Fc σ3 H2 r3.own _ fun F4 H4 r5 => ?_⟩
    have hD4 : H4 D = some (.lst acc) := r5.keep _ _ hD2 no3
    have hF4 : F4 D = none := by
      cases z : F4 D with
      | none => rfl
      | some w =>
        rcases r5.new D w z with y | y | y
        · rw [hFc] at y; cases y
        · exact (no3 y).elim
        · rw [hD2] at y; cases y
    have no4 : ¬ ow σ3 env3 D := fun z => by
      rcases r5.ows D z with y | y
      · exact no3 y
      · rw [hD2] at y; cases y
    have r6 := r4.trans r5
    have lw : ∀ {σx : L2.St}, (∀ i : Nat, i ∉ js → σx[i]? = (L2.wipe σ vs)[i]?) → ∀ i : Nat, i ∉ vs → σx[i]? = (L2.wipe σ vs)[i]? := fun h i hi => h i fun z => hi (hjs i z)
    rcases hte with ⟨hb, y, env4, hy1, hev, hle⟩ | ⟨hb, hy1, hle⟩
    · subst hb
      show te σ3 H4 _
      refine hev F4 σ3 H4 r5.own _ fun F5 v5 H5 r7 dv5 => ?_
      have hD5 : H5 D = some (.lst acc) := r7.keep _ _ hD4 no4
      have hF5 : F5 D = none := by
        cases z : F5 D with
        | none => rfl
        | some w =>
          rcases r7.new D w z with y | y | y
          · rw [hF4] at y; cases y
          · exact (no4 y).elim
          · rw [hD4] at y; cases y
      have no5 : ¬ ow σ3 env4 D := fun z => by
        rcases r7.ows D z with y | y
        · exact no4 y
        · rw [hD4] at y; cases y
      have r8 := r6.trans r7
      have r9 : Rn K (L2.wipe σ vs) (wipeE env1 vs) F1 H1 σ3 env4 F5 (upd H5 D (.lst (acc ++ [v5]))) := ⟨r8.exF, r8.new, fun a o h n => by
        have ne : a ≠ D := ne_of_none h hD
        rw [upd_ne ne]
        exact r8.keep a o h n, fun a o h => by
        have ne : a ≠ D := ne_of_none h hD
        rw [upd_ne ne]
        exact r8.dom a o h, r8.ows, r8.own.other hF5 no5⟩
      have r10 := r9.unset hle (lw hσ.1) hσ.2 (hu rr.2)
      refine ⟨acc, hD5, ?_, rr.2, F5, acc ++ [v5], done ++ [y], rest', hp, ?_, ?_, r10, upd_same, hF5, ?_, fun z => ?_⟩
      · rw [hda.length, List.length_map]
        exact lim_lt (by omega)
      · rw [he, ← erest, hy1, List.append_assoc]
        rfl
      · rw [List.length_append]
        show done.length + 1 ≤ i + 1
        omega
      · rw [List.map_append]
        exact (hda.up (((g2.trans r3.exF).trans r5.exF).trans r7.exF)).app (.one dv5)
      · exact no5 (ow_unset hle (lw hσ.1) (hu rr.2) z)
    · subst hb
      have r10 := r6.unset hle (lw hσ.1) hσ.2 (hu rr.2)
      have em : Ex F' F4 := (g2.trans r3.exF).trans r5.exF
      refine (if_neg Bool.false_ne_true).mpr ⟨rr.2, F4, acc, done, rest', hp, ?_, by omega, r10, hD4, hF4, hda.up em, fun z => no4 (ow_unset hle (lw hσ.1) (hu rr.2) z)⟩
      rw [he, ← erest, hy1]
  · left
    have e : i = xs.length := by omega
    subst e
    rw [List.drop_length] at hl
    cases hl
    rw [List.append_nil] at he
    subst he
    have rm := Rn.merge o1 r
    refine ⟨?_, k F' D acc H' (r1.trans rm) hF (back_none r1 hD) hacc (by rw [hda.length, List.length_map]; omega) hda fun z => ?_⟩
    · have := wk.stops H' (fun a o z => r.own.ex a o (r.exF a o z))
      rw [List.length_map] at this
      exact this
    · rcases rm.ows D z with y | y
      · exact nD y
      · obtain ⟨j, q, ds, h1, h2⟩ := z
        rcases mrg_get (by have a1 := o1.len; have a2 := r.own.len; rw [wipe_length] at a2; omega) h1 with z | ⟨z, n⟩ | ⟨q', ds', q0, d0, z1, z2, z3⟩
        · cases z
        · exact (n _ _ rfl).elim
        · exact nD ⟨j, q0, d0, z2, h2⟩
end
end Gw

-- Gw6
/-! Gw6: the rules over typed data. -/
namespace Gw
open PySem PySem.Spec PyProof.Rows L2 RZ
open Gw.Enc (enc)

/-! ### small words of the mirrors -/
/-- goes on if so -/
def gd (b : Bool) : Option Unit := cond b (some ()) none
theorem gd_t {b : Bool} {u : Unit} (h : gd b = some u) : b = true := by
  cases b with
  | true => rfl
  | false => cases h
theorem bnd {α β : Type} {o : Option α} {f : α → Option β} {c : β} (h : o.bind f = some c) : ∃ x, o = some x ∧ f x = some c := Option.bind_eq_some_iff.mp h
theorem bndg {β : Type} {b : Bool} {f : Unit → Option β} {c : β} (h : (gd b).bind f = some c) : b = true ∧ f () = some c := by
  obtain ⟨u, h1, h2⟩ := bnd h
  exact ⟨gd_t h1, h2⟩
theorem cond_t {α : Type} {b : Bool} {x y z : α} (hb : b = true) (h : cond b x y = z) : x = z := by subst hb; exact h
theorem cond_f {α : Type} {b : Bool} {x y z : α} (hb : b = false) (h : cond b x y = z) : y = z := by subst hb; exact h
/-- behind a loop, or behind branches of which some return -/
def thenF {S R : Type} (o : Option (Ctl S R)) (k : S → Option R) : Option R := o.bind fun c => match c with
  | .nx s => k s
  | .rt r => some r
  | .bk _ => none
def thenC {S T R : Type} (o : Option (Ctl S R)) (k : S → Option (Ctl T R)) : Option (Ctl T R) := o.bind fun c => match c with
  | .nx s => k s
  | .rt r => some (.rt r)
  | .bk _ => none
theorem thenF_some {S R : Type} {o : Option (Ctl S R)} {k : S → Option R} {r : R} (h : thenF o k = some r) : (∃ s, o = some (.nx s) ∧ k s = some r) ∨ o = some (.rt r) := by
  obtain ⟨c, h1, h2⟩ := bnd h
  cases c with
  | nx s => exact .inl ⟨s, h1, h2⟩
  | rt r' => cases h2; exact .inr h1
  | bk _ => cases h2
theorem thenC_some {S T R : Type} {o : Option (Ctl S R)} {k : S → Option (Ctl T R)} {c : Ctl T R} (h : thenC o k = some c) : (∃ s, o = some (.nx s) ∧ k s = some c) ∨ ∃ r, o = some (.rt r) ∧ c = .rt r := by
  obtain ⟨c', h1, h2⟩ := bnd h
  cases c' with
  | nx s => exact .inl ⟨s, h1, h2⟩
  | rt r' => cases h2; exact .inr ⟨r', h1, rfl⟩
  | bk _ => cases h2

section
variable {K : FR} {env env1 env2 env3 env4 : List Slot} {ta tb tc td te : TE} {tr : TA} {t u : TT} {tz ts tw : TS} {b c : Bool} {x y : Int} {P : Po} {i : Nat} {q : Option Addr} {d : PyData} {ds : List PyData}
variable {α β γ δ : Type} [Enc α] [Enc β] [Enc γ] [Enc δ]

/-- what stands in an Option that is not None -/
theorem EV.som {o : Option α} {a : α} (h : EV K te env (enc o) env1) (e : o = some a) : EV K te env (enc a) env1 := by
  subst e
  exact h
theorem EV.to {a a' : α} (h : EV K te env (enc a) env1) (e : a = a') : EV K te env (enc a') env1 := e ▸ h
theorem EF.to {l l' : List α} (h : EF K te env (l.map enc) env1) (e : l = l') : EF K te env (l'.map enc) env1 := e ▸ h
/-! tuples -/
theorem ev_t2 {p : α} {r : β} (h1 : EV K ta env (enc p) env1) (h2 : EV K tb env1 (enc r) env2) : EV K (tTup (tCons ta (tCons tb tNil))) env (enc (p, r)) env2 := ev_tup (ed_c h1 (ed_1 h2)) (by show 2 ≤ LIM; decide)
theorem ev_t3 {p : α} {r : β} {s : γ} (h1 : EV K ta env (enc p) env1) (h2 : EV K tb env1 (enc r) env2) (h3 : EV K tc env2 (enc s) env3) : EV K (tTup (tCons ta (tCons tb (tCons tc tNil)))) env (enc (T3.mk p r s)) env3 := ev_tup (ed_c h1 (ed_c h2 (ed_1 h3))) (by show 3 ≤ LIM; decide)
theorem ev_t4 {p : α} {r : β} {s : γ} {z : δ} (h1 : EV K ta env (enc p) env1) (h2 : EV K tb env1 (enc r) env2) (h3 : EV K tc env2 (enc s) env3) (h4 : EV K td env3 (enc z) env4) : EV K (tTup (tCons ta (tCons tb (tCons tc (tCons td tNil))))) env (enc (T4.mk p r s z)) env4 := ev_tup (ed_c h1 (ed_c h2 (ed_c h3 (ed_1 h4)))) (by show 4 ≤ LIM; decide)
theorem ev_seq {l : List α} (h : ED K tr env (l.map enc) env1) (hl : l.length ≤ LIM := by decide) : EV K (tTup tr) env (enc l) env1 := ev_tup h (by rw [List.length_map]; exact hl)
theorem ef_list {l : List α} (h : ED K tr env (l.map enc) env1) (hl : l.length ≤ LIM := by decide) : EF K (tLst tr) env (l.map enc) env1 := ef_lst h (by rw [List.length_map]; exact hl)
theorem ef_l2 {p : α} {r : β} (h1 : EV K ta env (enc p) env1) (h2 : EV K tb env1 (enc r) env2) : EV K (tLst (tCons ta (tCons tb tNil))) env (enc (L2'.mk p r)) env2 := (ef_lst (ed_c h1 (ed_1 h2)) (by show 2 ≤ LIM; decide)).ev
theorem ef_l3 {p : α} {r : β} {s : γ} (h1 : EV K ta env (enc p) env1) (h2 : EV K tb env1 (enc r) env2) (h3 : EV K tc env2 (enc s) env3) : EV K (tLst (tCons ta (tCons tb (tCons tc tNil)))) env (enc (L3'.mk p r s)) env3 := (ef_lst (ed_c h1 (ed_c h2 (ed_1 h3))) (by show 3 ≤ LIM; decide)).ev
theorem EF.dat {l : List α} (h : EF K te env (l.map enc) env1) : EV K te env (enc (Ls.mk l)) env1 := h.ev
/-- parts -/
theorem ev_p1 {p : α × β} (h : EV K te env (enc p) env1) : EV K (tOp (rIxT K) te (tC (.int 0))) env (enc p.1) env1 := ev_ixT (ds := [enc p.1, enc p.2]) h ev_i rfl
theorem ev_p2 {p : α × β} (h : EV K te env (enc p) env1) : EV K (tOp (rIxT K) te (tC (.int 1))) env (enc p.2) env1 := ev_ixT (ds := [enc p.1, enc p.2]) h ev_i rfl
theorem ev_3a {p : T3 α β γ} (h : EV K te env (enc p) env1) : EV K (tOp (rIxT K) te (tC (.int 0))) env (enc p.a) env1 := ev_ixT (ds := [enc p.a, enc p.b, enc p.c]) h ev_i rfl
theorem ev_3b {p : T3 α β γ} (h : EV K te env (enc p) env1) : EV K (tOp (rIxT K) te (tC (.int 1))) env (enc p.b) env1 := ev_ixT (ds := [enc p.a, enc p.b, enc p.c]) h ev_i rfl
theorem ev_3c {p : T3 α β γ} (h : EV K te env (enc p) env1) : EV K (tOp (rIxT K) te (tC (.int 2))) env (enc p.c) env1 := ev_ixT (ds := [enc p.a, enc p.b, enc p.c]) h ev_i rfl
theorem ev_4a {p : T4 α β γ δ} (h : EV K te env (enc p) env1) : EV K (tOp (rIxT K) te (tC (.int 0))) env (enc p.a) env1 := ev_ixT (ds := [enc p.a, enc p.b, enc p.c, enc p.d]) h ev_i rfl
theorem ev_4b {p : T4 α β γ δ} (h : EV K te env (enc p) env1) : EV K (tOp (rIxT K) te (tC (.int 1))) env (enc p.b) env1 := ev_ixT (ds := [enc p.a, enc p.b, enc p.c, enc p.d]) h ev_i rfl
theorem ev_4c {p : T4 α β γ δ} (h : EV K te env (enc p) env1) : EV K (tOp (rIxT K) te (tC (.int 2))) env (enc p.c) env1 := ev_ixT (ds := [enc p.a, enc p.b, enc p.c, enc p.d]) h ev_i rfl
theorem ev_4d {p : T4 α β γ δ} (h : EV K te env (enc p) env1) : EV K (tOp (rIxT K) te (tC (.int 3))) env (enc p.d) env1 := ev_ixT (ds := [enc p.a, enc p.b, enc p.c, enc p.d]) h ev_i rfl
theorem ev_l1 {p : L2' α β} (h : EV K te env (enc p) env1) : EV K (tOp (rIxL K) te (tC (.int 0))) env (enc p.a) env1 := ev_ixL (ds := [enc p.a, enc p.b]) h ev_i rfl
theorem ev_l2 {p : L2' α β} (h : EV K te env (enc p) env1) : EV K (tOp (rIxL K) te (tC (.int 1))) env (enc p.b) env1 := ev_ixL (ds := [enc p.a, enc p.b]) h ev_i rfl
theorem ev_m1 {p : L3' α β γ} (h : EV K te env (enc p) env1) : EV K (tOp (rIxL K) te (tC (.int 0))) env (enc p.a) env1 := ev_ixL (ds := [enc p.a, enc p.b, enc p.c]) h ev_i rfl
theorem ev_m2 {p : L3' α β γ} (h : EV K te env (enc p) env1) : EV K (tOp (rIxL K) te (tC (.int 1))) env (enc p.b) env1 := ev_ixL (ds := [enc p.a, enc p.b, enc p.c]) h ev_i rfl
theorem ev_m3 {p : L3' α β γ} (h : EV K te env (enc p) env1) : EV K (tOp (rIxL K) te (tC (.int 2))) env (enc p.c) env1 := ev_ixL (ds := [enc p.a, enc p.b, enc p.c]) h ev_i rfl
/-- an item of a list of one's own -/
theorem ev_atOs {l : List α} {a : α} (hi : env[i]? = some (.l q (l.map enc))) (hb : EV K tb env (.int x) env) (h : atI l x = some a) : EV K (tOp (rIxL K) (tVar i) tb) env (enc a) env := ev_atO hi hb (atI_enc h)
/-! slices, + -/
section
variable {tl th : TO} {lo hi : Option Int}
theorem ev_sl {l : List α} (h : EV K te env (enc l) env1) (h1 : EO K tl env1 lo env2) (h2 : EO K th env2 hi env3) : EV K (tSl (rSlA K) te tl th) env (enc (cut l lo hi)) env3 := (ev_slT (ds := l.map enc) h h1 h2).is (by rw [cut_map]; rfl)
theorem ef_sl {l : List α} (h : EV K te env (enc (Ls.mk l)) env1) (h1 : EO K tl env1 lo env2) (h2 : EO K th env2 hi env3) : EF K (tSl (rSlL K) te tl th) env ((cut l lo hi).map enc) env3 := by
  have := ef_slL (ds := l.map enc) h h1 h2
  rw [cut_map] at this
  exact this
end
theorem ev_cat {l m : List α} (hl : decide (l.length + m.length ≤ LIM) = true) (ha : EV K ta env (enc l) env1) (hb : EV K tb env1 (enc m) env2) : EV K (tOp (rCatA K) ta tb) env (enc (l ++ m)) env2 :=
  (ev_catT (ds := l.map enc) (es := m.map enc) (by rw [List.length_map, List.length_map]; exact of_decide_eq_true hl) ha hb).is (by rw [← List.map_append]; rfl)
theorem ef_catS {l m : List α} (hl : decide (l.length + m.length ≤ LIM) = true) (ha : EV K ta env (enc (Ls.mk l)) env1) (hb : EV K tb env1 (enc (Ls.mk m)) env2) : EF K (tOp rCat ta tb) env ((l ++ m).map enc) env2 := by
  have := ef_cat (ds := l.map enc) (es := m.map enc) (by rw [List.length_map, List.length_map]; exact of_decide_eq_true hl) ha hb
  rw [← List.map_append] at this
  exact this
/-! lists of one's own -/
theorem ev_appS {l l0 : List α} {a : α} (hl : decide (l.length < LIM) = true) (hi0 : env[i]? = some (.l q (l0.map enc))) (h : EV K te env (enc a) env1) (hi : env1[i]? = some (.l q (l.map enc))) :
    EV K (tBM K "list" rAppend (tVar i) (tCons te tNil)) env .none (env1.set i (.l q ((l ++ [a]).map enc))) := by
  have := ev_app hi0 h hi (by rw [List.length_map]; exact of_decide_eq_true hl)
  rw [List.map_append]
  exact this
theorem ev_popS {l : List α} {a : α} (hd : l.getLast? = some a) (hi : env[i]? = some (.l q (l.map enc))) : EV K (tBM0 K "list" rPop (tVar i)) env (enc a) (env.set i (.l q (l.dropLast.map enc))) := by
  have := ev_pop (K := K) (d := enc a) hi (by rw [List.getLast?_map, hd]; rfl)
  rw [← List.map_dropLast] at this
  exact this
theorem ev_popAtS {l l0 : List α} {a : α} {j : Nat} (hd : l[j]? = some a) (hi0 : env[i]? = some (.l q (l0.map enc))) (h : EV K te env (.int (j : Int)) env1) (hi : env1[i]? = some (.l q (l.map enc))) :
    EV K (tBM K "list" rPopAt (tVar i) (tCons te tNil)) env (enc a) (env1.set i (.l q ((l.eraseIdx j).map enc))) := by
  have := ev_popAt (d := enc a) hi0 h hi (by rw [List.getElem?_map, hd]; rfl)
  have e : (l.map enc).eraseIdx j = (l.eraseIdx j).map enc := by rw [List.eraseIdx_eq_take_drop_succ, List.eraseIdx_eq_take_drop_succ, List.map_append, List.map_take, List.map_drop]
  rw [e] at this
  exact this
theorem ev_revS {l : List α} (hi : env[i]? = some (.l q (l.map enc))) : EV K (tBM0 K "list" rReverse (tVar i)) env .none (env.set i (.l q (l.reverse.map enc))) := by
  have := ev_rev (K := K) hi
  rw [← List.map_reverse] at this
  exact this
/-- xs[k] = e -/
def putO {α : Type} (l : List α) (x : Int) (a : α) : Option (List α) := (ixN l.length x).map fun j => l.set j a
theorem bv_putS1 {l l0 m : List α} {a : α} (hm : putO l x a = some m) (h : EV K te env (enc a) env1) (hi0 : env1[i]? = some (.l q (l0.map enc))) (hb : EV K tb env1 (.int x) env2) (hi : env2[i]? = some (.l q (l.map enc)))
    (k : P.nx (env2.set i (.l q (m.map enc)))) : BV K (tAsg te (gSub (tVar i) tb rSetL)) env P := by
  obtain ⟨j, hj, rfl⟩ := Option.map_eq_some_iff.mp hm
  refine bv_put1 (j := j) h hi0 hb hi (by rw [List.length_map]; exact hj) ?_
  rw [← List.map_set]
  exact k
theorem bv_putS {l l0 m : List α} {a : α} (hm : putO l x a = some m) (h : EV K te env (enc a) env1) (hi0 : env1[i]? = some (.l q (l0.map enc))) (hb : EV K tb env1 (.int x) env2) (hi : env2[i]? = some (.l q (l.map enc)))
    (k : BV K tz (env2.set i (.l q (m.map enc))) P) : BV K (tSeq (tAsg te (gSub (tVar i) tb rSetL)) tz) env P := bv_seq (M := fun e => e = env2.set i (.l q (m.map enc))) (bv_putS1 hm h hi0 hb hi rfl) fun _ e => e ▸ k
/-! products by a written number -/
theorem mul_l {x y : Int} (h : x.natAbs < 2 ^ 64) : mulOk x y = true := by simp only [mulOk, decide_eq_true h, Bool.true_or]
theorem mul_r {x y : Int} (h : y.natAbs < 2 ^ 64) : mulOk x y = true := by simp only [mulOk, decide_eq_true h, Bool.true_or, Bool.or_true]
/-! a target that is a tuple -/
theorem eg_p2 {g : TGs} {js : List Nat} {p : α × β} (h : EGs K g env [enc p.1, enc p.2] env1 js) : EG K (gTup K 2 g) env (enc p) env1 js := eg_t h
theorem eg_p3 {g : TGs} {js : List Nat} {p : T3 α β γ} (h : EGs K g env [enc p.a, enc p.b, enc p.c] env1 js) : EG K (gTup K 3 g) env (enc p) env1 js := eg_t h
theorem eg_p4 {g : TGs} {js : List Nat} {p : T4 α β γ δ} (h : EGs K g env [enc p.a, enc p.b, enc p.c, enc p.d] env1 js) : EG K (gTup K 4 g) env (enc p) env1 js := eg_t h
/-! an if that does not go on -/
theorem bv_ifx (h : ET K t env b env1) (h1 : b = true → BV K ts env1 { P with nx := fun _ => False }) (h2 : b = false → BV K tz env1 P) : BV K (tSeq (tIfS t ts tNext) tz) env P :=
  bv_seq (M := fun e => b = false ∧ e = env1) (bv_if h (fun hb => (h1 hb).to (fun _ z => z.elim) (fun _ _ z => z) (fun _ z => z) (fun _ z => z)) fun hb => bv_nil ⟨hb, rfl⟩) fun e ⟨hb, he⟩ => he ▸ h2 hb
/-- .. with parts that may not be -/
theorem et_andO (h1 : ET K t env b env1) (h2 : b = true → ET K u env1 c env1) (h3 : b = false → c = false) : ET K (tAnd t u) env c env1 := by
  cases b with
  | true => exact (et_and h1 h2).is (Bool.true_and _)
  | false =>
    have := h3 rfl
    subst this
    exact (et_and (c := false) h1 (fun z => by cases z)).is rfl
theorem et_orO (h1 : ET K t env b env1) (h2 : b = false → ET K u env1 c env1) (h3 : b = true → c = true) : ET K (tOr t u) env c env1 := by
  cases b with
  | false => exact (et_or h1 h2).is (Bool.false_or _)
  | true =>
    have := h3 rfl
    subst this
    exact (et_or (c := true) h1 (fun z => by cases z)).is rfl
theorem ev_andO (h1 : EV K ta env (.bool b) env1) (h2 : b = true → EV K tb env1 (.bool c) env1) (h3 : b = false → c = false) : EV K (tAndV ta tb) env (.bool c) env1 := by
  cases b with
  | true => exact (ev_andV h1 h2).is (by rw [Bool.true_and])
  | false =>
    have := h3 rfl
    subst this
    exact (ev_andV (c := false) h1 (fun z => by cases z)).is rfl
theorem ev_orO (h1 : EV K ta env (.bool b) env1) (h2 : b = false → EV K tb env1 (.bool c) env1) (h3 : b = true → c = true) : EV K (tOrV ta tb) env (.bool c) env1 := by
  cases b with
  | false => exact (ev_orV h1 h2).is (by rw [Bool.false_or])
  | true =>
    have := h3 rfl
    subst this
    exact (ev_orV (c := true) h1 (fun z => by cases z)).is rfl
theorem et_yes : ET K tYes env true env := fun F σ H o Q k => k F H (Rn.refl o)
/-! comprehensions -/
section
variable {wi : TI} {g : TG} {tt : TT} {vs : List Nat} {S : Type}
theorem ef_mapO {xs : List α} {ys : List β} {f : α → Option β} (envC : List Slot) (hi : EI K wi env (xs.map enc) env1) (h0 : Le (wipeE env1 vs) envC) (hu : allU envC vs = true) (h : mapO f xs = some ys)
    (hb : ∀ x y, f x = some y → ∃ env2 js env4, EG K g envC (enc x) env2 js ∧ (∀ j ∈ js, j ∈ vs) ∧ EV K te env2 (enc y) env4 ∧ Le env4 envC) : EF K (tLc wi g tYes te vs) env (ys.map enc) (mrg env1 envC) := by
  refine ef_lc (S := Unit) (s0 := ()) (s1 := ()) (f := fun (_ : Unit) x => (f x).map fun y => (some y, ())) (fun _ => envC) hi h0 (by rw [mapO_compS, h]; rfl) (fun s x r hr => ?_) fun _ => hu
  obtain ⟨y, hy, rfl⟩ := Option.map_eq_some_iff.mp hr
  obtain ⟨env2, js, env4, h1, h2, h3, h4⟩ := hb x y hy
  exact ⟨env2, js, true, env2, h1, h2, et_yes, .inl ⟨rfl, y, env4, rfl, h3, h4⟩⟩
theorem ef_filO {xs : List α} {ys : List β} {f : α → Option (Option β)} (envC : List Slot) (hi : EI K wi env (xs.map enc) env1) (h0 : Le (wipeE env1 vs) envC) (hu : allU envC vs = true) (h : filO f xs = some ys)
    (hb : ∀ x y, f x = some y → ∃ env2 js b env3, EG K g envC (enc x) env2 js ∧ (∀ j ∈ js, j ∈ vs) ∧ ET K tt env2 b env3 ∧ ((b = true ∧ ∃ z env4, y = some z ∧ EV K te env3 (enc z) env4 ∧ Le env4 envC) ∨ (b = false ∧ y = none ∧ Le env3 envC))) : EF K (tLc wi g tt te vs) env (ys.map enc) (mrg env1 envC) := by
  refine ef_lc (S := Unit) (s0 := ()) (s1 := ()) (f := fun (_ : Unit) x => (f x).map fun y => (y, ())) (fun _ => envC) hi h0 (by rw [filO_compS, h]; rfl) (fun s x r hr => ?_) fun _ => hu
  obtain ⟨y, hy, rfl⟩ := Option.map_eq_some_iff.mp hr
  exact hb x y hy
theorem ef_mapS {xs : List α} {s0 s1 : S} {ys : List β} {f : S → α → Option (β × S)} (envOf : S → List Slot) (hi : EI K wi env (xs.map enc) env1) (h0 : Le (wipeE env1 vs) (envOf s0)) (hu : ∀ s, allU (envOf s) vs = true) (h : mapS f xs s0 = some (ys, s1))
    (hb : ∀ s x y s', f s x = some (y, s') → ∃ env2 js env4, EG K g (envOf s) (enc x) env2 js ∧ (∀ j ∈ js, j ∈ vs) ∧ EV K te env2 (enc y) env4 ∧ Le env4 (envOf s')) : EF K (tLc wi g tYes te vs) env (ys.map enc) (mrg env1 (envOf s1)) := by
  refine ef_lc (f := fun s x => (f s x).map fun r => (some r.1, r.2)) envOf hi h0 (by rw [mapS_compS, h]) (fun s x r hr => ?_) hu
  obtain ⟨r', hy, rfl⟩ := Option.map_eq_some_iff.mp hr
  obtain ⟨y, s'⟩ := r'
  obtain ⟨env2, js, env4, h1, h2, h3, h4⟩ := hb s x y s' hy
  exact ⟨env2, js, true, env2, h1, h2, et_yes, .inl ⟨rfl, y, env4, rfl, h3, h4⟩⟩
theorem ef_filS {xs : List α} {s0 s1 : S} {ys : List β} {f : S → α → Option (Option β × S)} (envOf : S → List Slot) (hi : EI K wi env (xs.map enc) env1) (h0 : Le (wipeE env1 vs) (envOf s0)) (hu : ∀ s, allU (envOf s) vs = true) (h : compS f xs s0 = some (ys, s1))
    (hb : ∀ s x r, f s x = some r → Turn1 K g tt te vs envOf s x r) : EF K (tLc wi g tt te vs) env (ys.map enc) (mrg env1 (envOf s1)) := ef_lc envOf hi h0 h hb hu
end
end
section
variable {K : FR} {env env1 : List Slot} {ts tz : TS} {P : Po} {wi : TI} {g : TG} {S α R : Type} [Enc α]
theorem bv_foldq {xs : List α} {s0 s1 : S} {f : S → α → Option S} (envOf : S → List Slot) (hi : EI K wi env (xs.map enc) env1) (h0 : Le env1 (envOf s0)) (h : fold f xs s0 = some s1)
    (hb : ∀ s x s', f s x = some s' → ∃ env2 js, EG K g (envOf s) (enc x) env2 js ∧ BV K ts env2 ⟨fun e => Le e (envOf s'), fun _ _ => False, fun _ => False, fun e => Le e (envOf s')⟩)
    (k : BV K tz (envOf s1) P) : BV K (tSeq (tFor wi g ts) tz) env P := bv_seq (M := fun e => e = envOf s1) (bv_fold envOf hi h0 h hb rfl) fun _ e => e ▸ k
theorem bv_forq {xs : List α} {s0 : S} {c : Ctl S R} {f : S → α → Option (Ctl S R)} (envOf : S → List Slot) (RT : R → Rs → List Slot → Prop) (hi : EI K wi env (xs.map enc) env1) (h0 : Le env1 (envOf s0)) (h : loop f xs s0 = some c) (hb : Body K g ts envOf f RT)
    (hr : ∀ ρ r e, c = .rt ρ → RT ρ r e → P.rt r e) (k : ∀ s, c = .nx s → BV K tz (envOf s) P) : BV K (tSeq (tFor wi g ts) tz) env P :=
  bv_seq (M := fun e => ∃ s, c = .nx s ∧ e = envOf s) (bv_for envOf RT hi h0 h hb (fun s hs => ⟨s, hs, rfl⟩) hr) fun _ ⟨s, hs, e⟩ => e ▸ k s hs
end
section
variable {K : FR} {env env1 : List Slot} {te : TE} {tt : TT} {wi : TI} {g : TG} {vs : List Nat} {α β : Type} [Enc α] [Enc β]
theorem mapO_map {f : α → β} : ∀ xs : List α, mapO (fun x => some (f x)) xs = some (xs.map f)
  | [] => rfl
  | x :: xs => by
    unfold mapO
    rw [mapO_map xs]
    rfl
theorem filO_fil {c : α → Bool} {f : α → β} : ∀ xs : List α, filO (fun x => some (if c x then some (f x) else none)) xs = some ((xs.filter c).map f)
  | [] => rfl
  | x :: xs => by
    unfold filO
    rw [filO_fil xs]
    cases h : c x with
    | true => simp [h]
    | false => simp [h]
theorem ef_map {xs : List α} (f : α → β) (envC : List Slot) (hi : EI K wi env (xs.map enc) env1) (h0 : Le (wipeE env1 vs) envC) (hu : allU envC vs = true)
    (hb : ∀ x, ∃ env2 js env4, EG K g envC (enc x) env2 js ∧ (∀ j ∈ js, j ∈ vs) ∧ EV K te env2 (enc (f x)) env4 ∧ Le env4 envC) : EF K (tLc wi g tYes te vs) env ((xs.map f).map enc) (mrg env1 envC) :=
  ef_mapO (f := fun x => some (f x)) envC hi h0 hu (mapO_map xs) fun x y h => by cases h; exact hb x
theorem ef_fil {xs : List α} (c : α → Bool) (f : α → β) (envC : List Slot) (hi : EI K wi env (xs.map enc) env1) (h0 : Le (wipeE env1 vs) envC) (hu : allU envC vs = true)
    (hb : ∀ x, ∃ env2 js env4, EG K g envC (enc x) env2 js ∧ (∀ j ∈ js, j ∈ vs) ∧ ET K tt env2 (c x) env2 ∧ EV K te env2 (enc (f x)) env4 ∧ Le env4 envC ∧ Le env2 envC) : EF K (tLc wi g tt te vs) env (((xs.filter c).map f).map enc) (mrg env1 envC) :=
  ef_filO (f := fun x => some (if c x then some (f x) else none)) envC hi h0 hu (filO_fil xs) fun x y h => by
    obtain ⟨env2, js, env4, h1, h2, h3, h4, h5, h6⟩ := hb x
    refine ⟨env2, js, c x, env2, h1, h2, h3, ?_⟩
    cases hc : c x with
    | true =>
      simp only [hc, if_pos] at h
      cases h
      exact .inl ⟨rfl, _, env4, rfl, h4, h5⟩
    | false =>
      rw [hc, if_neg Bool.false_ne_true] at h
      cases h
      exact .inr ⟨rfl, rfl, h6⟩
end
end Gw

-- Gw7
/-! Gw7: ranges that stand, isinstance, tuples many times, maybe unset names, picks, the law's own comparison. -/
namespace Gw
open PySem PySem.Spec PyProof.Rows L2 RZ
open Gw.Enc (enc)

theorem room_u64 {k : Nat} {A : Around} (h : Room k A) : A.units + 64 < cLine := by have := h.un; omega
theorem room_u65 {k : Nat} {A : Around} (h : Room k A) : A.units + 65 < cLine := by have := h.un; omega
/-- a name that may have no value -/
def optSlot {α : Type} [Enc α] : Option α → Slot
  | none => .u
  | some a => .d (enc a)

section
variable {K : FR} {σ : L2.St} {env env1 env2 env3 : List Slot} {F F1 H H1 : Hp} {ta tb tc te : TE} {tr : TA} {tz ts : TS} {d : PyData} {ds : List PyData} {b : Bool} {x y lo hi : Int} {P : Po} {i : Nat}
theorem EV.ofI {x : Int} (h : EV K te env (enc x) env1) : EV K te env (.int x) env1 := h
theorem EV.ofB {x : Bool} (h : EV K te env (enc x) env1) : EV K te env (.bool x) env1 := h
theorem ev_vo {α : Type} [Enc α] {o : Option α} {a : α} (h : env[i]? = some (optSlot o)) (e : o = some a) : EV K (tVar i) env (enc a) env := by
  subst e
  exact ev_v h
/-! ranges -/
theorem er_v (h : env[i]? = some (.g lo hi)) : ER K (tVar i) env lo hi env := fun F σ H o Q q => by
  obtain ⟨a, h1, h2⟩ := o.rng i lo hi h
  exact ⟨.ref a, h1, q F a H (Rn.refl o) h2⟩
def rRng2 : List V → Hp → VK → Prop := fun vs H Q => ∃ i j, vs = [V.int i, V.int j] ∧ ∀ p, H p = none → Q (.ref p) (upd H p (.rng i j))
theorem cr_rng2 {X : Cx} : CallR X (.type "range") rRng2 := cr_range2
theorem er_range2 (h : ED K tr env [.int x, .int y] env1) : ER K (tCB rRng2 tr) env x y env1 := fun F σ H o Q q =>
  h F σ H o _ fun F1 vs H1 r1 dvs => by
    have e := dq2 dvs
    subst e
    exact ⟨x, y, rfl, fun p hp => q _ p _ (r1.trans (Rn.imm r1.own hp (.rng x y))) upd_same⟩
theorem Own.setG (w : Own K F σ H env) {p : Addr} (hv : F p = some (.rng lo hi)) : Own K F (σ.set i (some (.ref p))) H (env.set i (.g lo hi)) := by
  have hl := w.len
  have key : ∀ {j : Nat} {s : Slot}, (env.set i (.g lo hi))[j]? = some s → (i = j ∧ s = .g lo hi ∧ j < env.length) ∨ (i ≠ j ∧ env[j]? = some s) := fun {j s} h => by
    by_cases e : i = j
    · subst e
      by_cases hi' : i < env.length
      · rw [List.getElem?_set_self hi'] at h
        cases h
        exact .inl ⟨rfl, rfl, hi'⟩
      · rw [List.getElem?_eq_none (by rw [List.length_set]; omega)] at h; cases h
    · rw [List.getElem?_set_ne e] at h
      exact .inr ⟨e, h⟩
  refine ⟨by rw [List.length_set, List.length_set, hl], w.ex, fun j x h => ?_, fun j x h => ?_, fun j l' h' h => ?_, fun j q ds h => ?_, fun j k q q' ds es p' h1 h2 h3 h4 => ?_⟩
  · rcases key h with ⟨_, z, _⟩ | ⟨n, g⟩
    · cases z
    · rw [List.getElem?_set_ne n]; exact w.dat j x g
  · rcases key h with ⟨_, z, _⟩ | ⟨n, g⟩
    · cases z
    · rw [List.getElem?_set_ne n]; exact w.scr j x g
  · rcases key h with ⟨e, z, hj⟩ | ⟨n, g⟩
    · cases z
      subst e
      exact ⟨p, List.getElem?_set_self (by omega), hv⟩
    · rw [List.getElem?_set_ne n]; exact w.rng j l' h' g
  · rcases key h with ⟨_, z, _⟩ | ⟨n, g⟩
    · cases z
    · rw [List.getElem?_set_ne n]; exact w.lst j q ds g
  · rcases key h1 with ⟨_, z, _⟩ | ⟨n1, g1⟩
    · cases z
    · rcases key h2 with ⟨_, z, _⟩ | ⟨n2, g2⟩
      · cases z
      · rw [List.getElem?_set_ne n1] at h3
        rw [List.getElem?_set_ne n2] at h4
        exact w.inj j k q q' ds es p' g1 g2 h3 h4
theorem Rn.setG (w : Own K F σ H env) {p : Addr} (hv : F p = some (.rng lo hi)) : Rn K σ env F H (σ.set i (some (.ref p))) (env.set i (.g lo hi)) F H :=
  ⟨Evl.Ex.refl F, fun _ _ h => .inl h, fun _ _ h _ => h, fun _ o h => ⟨o, h⟩, fun a h => by
    obtain ⟨j, q, ds, h1, h2⟩ := h
    by_cases e : i = j
    · subst e
      by_cases hi' : i < env.length
      · rw [List.getElem?_set_self hi'] at h1; cases h1
      · rw [List.getElem?_eq_none (by rw [List.length_set]; omega)] at h1; cases h1
    · rw [List.getElem?_set_ne e] at h1 h2
      exact .inl ⟨j, q, ds, h1, h2⟩, w.setG hv⟩
theorem bv_setR1 (h : ER K te env lo hi env1) (k : P.nx (env1.set i (.g lo hi))) : BV K (tAsg te (gName i)) env P := fun F σ H o D E =>
  h F σ H o _ fun F1 p H1 r1 hp => E.nx _ F1 _ H1 k (r1.trans (Rn.setG r1.own hp))
theorem bv_setR (h : ER K te env lo hi env1) (k : BV K tz (env1.set i (.g lo hi)) P) : BV K (tSeq (tAsg te (gName i)) tz) env P := bv_seq (M := fun e => e = env1.set i (.g lo hi)) (bv_setR1 h rfl) fun _ e => e ▸ k

/-! isinstance -/
def tyD : PyData → String
  | .none => "NoneType"
  | .bool _ => "bool"
  | .int _ => "int"
  | .str _ => "str"
  | .list _ => "list"
  | .tuple _ => "tuple"
  | .dict _ => "dict"
theorem tyx_of {v : V} (h : Dq K F v d) (e : Ex F H) : TyX K H v (.type (tyD d)) := by
  cases h with
  | non => exact .base .non
  | bl b => exact .base (.bl b)
  | int i => exact .base (.int i)
  | str x => exact .base (.str x)
  | lst h1 _ _ => exact .base (.lst (e _ _ h1))
  | tup h1 _ _ =>
    rcases Evl.ex_t e h1 with (h2 | ⟨o, h2⟩) | ⟨o, its, n, hk, hc, _⟩
    · exact .base (.tup h2)
    · exact .fTuple h2
    · exact .kTuple hk hc
theorem ev_isi {T : String} {r : Bool} (h : EV K te env d env1) (hk : kitB (tyD d) T = some r) : EV K (tCB (rIsi K) (tCons te (tCons (tC (.ty T)) tNil))) env (.bool r) env1 := fun F σ H o Q q =>
  h F σ H o _ fun F1 v H1 r1 dv => ⟨v, .ty T, _, _, r, rfl, .ty T, tyx_of dv r1.own.ex, kit_ty hk, q F1 _ H1 r1 (.bl r)⟩
/-- isinstance(x, (tuple, list)) -/
theorem ev_isi2 {T U : String} {r : Bool} (h : EV K te env d env1) (hk : PySem.W.kitAny K (.type (tyD d)) [.type T, .type U] = some r) : EV K (tCB (rIsiT K) (tCons te (tCons (tTup (tCons (tC (.ty T)) (tCons (tC (.ty U)) tNil))) tNil))) env (.bool r) env1 := fun F σ H o Q q =>
  h F σ H o _ fun F1 v H1 r1 dv => ⟨by show 2 ≤ sizeLine; decide, fun p hp => by
    have r2 := r1.trans (Rn.imm r1.own hp (.tup [.ty T, .ty U]))
    exact ⟨v, p, [.ty T, .ty U], _, [.type T, .type U], r, rfl, upd_same, .cons (.ty T) (.cons (.ty U) .nil), tyx_of (dv.up (Evl.Ex.new (r1.own.fresh hp))) r2.own.ex, hk, q _ _ _ r2 (.bl r)⟩⟩

/-! picks: a list or a tuple by its place -/
theorem ev_ixS {d1 : PyData} (hd : d1 = .list ds ∨ d1 = .tuple ds) (ha : EV K ta env d1 env1) (hb : EV K tb env1 (.int x) env2) (h : atI ds x = some d) : EV K (tOp (rIx K) ta tb) env d env2 :=
  ev_opP ha hb fun F H v w e dx dy Q q => by
    cases dy
    rcases hd with rfl | rfl
    · cases dx with
      | lst hs hl hd =>
        obtain ⟨v, h1, h2⟩ := dq_at hd h
        exact .inl ⟨_, _, x, v, rfl, rfl, .inl (.inl (e _ _ hs)), h1, q v h2⟩
    · cases dx with
      | tup hs hl hd =>
        obtain ⟨v, h1, h2⟩ := dq_at hd h
        exact .inr (.inl ⟨_, _, x, v, rfl, rfl, Evl.ex_t e hs, h1, q v h2⟩)
theorem ev_lenS {d1 : PyData} (hd : d1 = .list ds ∨ d1 = .tuple ds) (h : EV K te env d1 env1) : EV K (tCB (rLenS K) (tCons te tNil)) env (.int (ds.length : Int)) env1 := by
  rcases hd with rfl | rfl
  · exact ev_lenL h
  · exact ev_lenT h

/-! equality of data that need not be typed -/
def eqD (x y : PyData) : Bool := PyData.eqv x y
theorem ev_eqDD {d1 d2 : PyData} (h1 : SeqAt.shaped d1 = true) (h2 : SeqAt.shaped d2 = true) (ha : EV K ta env d1 env1) (hb : EV K tb env1 d2 env2) : EV K (tOp (rEqD K) ta tb) env (.bool (PyData.eqv d1 d2)) env2 :=
  ev_opP ha hb fun F H v w e dx dy Q q => ⟨d1, d2, (dx.up e).dp, (dy.up e).dp, h1, h2, q _ (.bl _)⟩
theorem ev_neDD {d1 d2 : PyData} (h1 : SeqAt.shaped d1 = true) (h2 : SeqAt.shaped d2 = true) (ha : EV K ta env d1 env1) (hb : EV K tb env1 d2 env2) : EV K (tOp (rNeD K) ta tb) env (.bool (!PyData.eqv d1 d2)) env2 :=
  ev_opP ha hb fun F H v w e dx dy Q q => ⟨d1, d2, (dx.up e).dp, (dy.up e).dp, h1, h2, q _ (.bl _)⟩
def isNoneD : PyData → Bool
  | .none => true
  | _ => false
theorem ev_isND (ha : EV K ta env d env1) : EV K (tOp rIs0 ta (tC .non)) env (.bool (isNoneD d)) env1 :=
  ev_opP ha ev_n fun F H v w e dx dy Q q => by
    cases dy
    refine ⟨rfl, ?_⟩
    have h : decide (v = V.non) = isNoneD d := by
      cases dx <;> simp [isNoneD]
    rw [h]
    exact q _ (.bl _)
end
end Gw

-- Gw8
/-! Gw8: for the law's own comparison. -/
namespace Gw
open PySem PySem.Spec PyProof.Rows L2 RZ
open Gw.Enc (enc)

/-- no deeper than n, no dict, no long row, texts that can be laid -/
def okB : Nat → PyData → Bool
  | _, .none => true
  | _, .bool _ => true
  | _, .int _ => true
  | _, .str x => PyData.canLay0 (.str x)
  | 0, .list _ => false
  | 0, .tuple _ => false
  | n + 1, .list ds => decide (ds.length ≤ 50000) && ds.all (okB n)
  | n + 1, .tuple ds => decide (ds.length ≤ 50000) && ds.all (okB n)
  | _, .dict _ => false
def sameO {α : Type} [Enc α] [DecidableEq α] (x y : α) : Option Bool := if x = y ∧ okB 9 (enc x) = true then some true else none
def relSame (n : Nat) : Rel := fun as r as' => ∃ d : PyData, okB n d = true ∧ as = [.d d, .d d] ∧ r = .d (.bool true) ∧ as' = [.u, .u]
theorem rel_sameN {α : Type} [Enc α] [DecidableEq α] {x y : α} {b : Bool} (h : sameO x y = some b) : relSame 9 ([enc x, enc y].map Slot.d) (.d (.bool b)) [.u, .u] := by
  unfold sameO at h
  split at h
  · rename_i c
    cases h
    obtain ⟨rfl, c2⟩ := c
    exact ⟨enc x, c2, rfl, rfl, rfl⟩
  · cases h
def scalD : PyData → Bool
  | .none => true
  | .bool _ => true
  | .int _ => true
  | .str _ => true
  | _ => false
def isSeqD : PyData → Bool
  | .list _ => true
  | .tuple _ => true
  | _ => false
theorem okB_shaped : ∀ (n : Nat) (d : PyData), n ≤ 60 → okB n d = true → scalD d = true → SeqAt.shaped d = true
  | n, .none, _, _, _ => by simp [SeqAt.shaped, PyData.canLay0, PyData.depth]
  | n, .bool _, _, _, _ => by simp [SeqAt.shaped, PyData.canLay0, PyData.depth]
  | n, .int _, _, _, _ => by simp [SeqAt.shaped, PyData.canLay0, PyData.depth]
  | n, .str x, _, h, _ => by
    have h' : PyData.canLay0 (.str x) = true := by
      unfold okB at h
      exact h
    simp [SeqAt.shaped, h', PyData.depth]
theorem eqv_refl_scal : ∀ (n : Nat) (d : PyData), scalD d = true → PyData.eqv d d = true
  | _, .none, _ => by simp [PyData.eqv]
  | _, .bool _, _ => by simp [PyData.eqv]
  | _, .int _, _ => by simp [PyData.eqv]
  | _, .str _, _ => by simp [PyData.eqv]
theorem kit2 {K : FR} (d : PyData) (h : scalD d = true ∨ isSeqD d = true) : PySem.W.kitAny K (.type (tyD d)) [.type "tuple", .type "list"] = some (isSeqD d) := by
  have go : ∀ a : String, ∀ r1 r2 : Bool, kitB a "tuple" = some r1 → kitB a "list" = some r2 → PySem.W.kitAny K (.type a) [.type "tuple", .type "list"] = some (r1 || r2) := fun a r1 r2 h1 h2 => by
    unfold PySem.W.kitAny
    rw [kit_ty h1]
    cases r1 with
    | true => rfl
    | false =>
      show PySem.W.kitAny K (.type a) [.type "list"] = some r2
      unfold PySem.W.kitAny
      rw [kit_ty h2]
      cases r2 <;> rfl
  cases d with
  | none => exact go "NoneType" false false (by decide +kernel) (by decide +kernel)
  | bool _ => exact go "bool" false false (by decide +kernel) (by decide +kernel)
  | int _ => exact go "int" false false (by decide +kernel) (by decide +kernel)
  | str _ => exact go "str" false false (by decide +kernel) (by decide +kernel)
  | list _ => exact go "list" false true (by decide +kernel) (by decide +kernel)
  | tuple _ => exact go "tuple" true false (by decide +kernel) (by decide +kernel)
  | dict _ => rcases h with h | h <;> cases h
def isT (d : PyData) (T : String) : Bool := (kitB (tyD d) T).getD false
theorem kit1 (d : PyData) (hd : scalD d = true ∨ isSeqD d = true) : kitB (tyD d) "tuple" = some (isT d "tuple") ∧ kitB (tyD d) "list" = some (isT d "list") ∧ kitB (tyD d) "bool" = some (isT d "bool") ∧ kitB (tyD d) "int" = some (isT d "int") ∧ kitB (tyD d) "str" = some (isT d "str") := by
  have go : ∀ a : String, (kitB a "tuple").isSome = true ∧ (kitB a "list").isSome = true ∧ (kitB a "bool").isSome = true ∧ (kitB a "int").isSome = true ∧ (kitB a "str").isSome = true → tyD d = a →
      kitB (tyD d) "tuple" = some (isT d "tuple") ∧ kitB (tyD d) "list" = some (isT d "list") ∧ kitB (tyD d) "bool" = some (isT d "bool") ∧ kitB (tyD d) "int" = some (isT d "int") ∧ kitB (tyD d) "str" = some (isT d "str") := fun a h e => by
    have f : ∀ T, (kitB a T).isSome = true → kitB (tyD d) T = some (isT d T) := fun T hT => by
      unfold isT
      rw [e]
      cases hk : kitB a T with
      | none => rw [hk] at hT; cases hT
      | some b => rfl
    exact ⟨f _ h.1, f _ h.2.1, f _ h.2.2.1, f _ h.2.2.2.1, f _ h.2.2.2.2⟩
  cases d with
  | none => exact go "NoneType" (by decide +kernel) rfl
  | bool _ => exact go "bool" (by decide +kernel) rfl
  | int _ => exact go "int" (by decide +kernel) rfl
  | str _ => exact go "str" (by decide +kernel) rfl
  | list _ => exact go "list" (by decide +kernel) rfl
  | tuple _ => exact go "tuple" (by decide +kernel) rfl
  | dict _ => rcases hd with h | h <;> cases h
theorem okB_kind {n : Nat} {d : PyData} (h : okB n d = true) : scalD d = true ∨ isSeqD d = true := by
  cases d with
  | dict _ => unfold okB at h; cases h
  | list _ => exact .inr rfl
  | tuple _ => exact .inr rfl
  | _ => exact .inl rfl
theorem okB_seq {n : Nat} {d : PyData} (h : okB n d = true) (hs : isSeqD d = true) : ∃ m ds, n = m + 1 ∧ (d = .list ds ∨ d = .tuple ds) ∧ ds.length ≤ 50000 ∧ ∀ e ∈ ds, okB m e = true := by
  cases d with
  | list ds =>
    cases n with
    | zero => unfold okB at h; cases h
    | succ m =>
      unfold okB at h
      rw [Bool.and_eq_true, List.all_eq_true, decide_eq_true_eq] at h
      exact ⟨m, ds, rfl, .inl rfl, h.1, h.2⟩
  | tuple ds =>
    cases n with
    | zero => unfold okB at h; cases h
    | succ m =>
      unfold okB at h
      rw [Bool.and_eq_true, List.all_eq_true, decide_eq_true_eq] at h
      exact ⟨m, ds, rfl, .inr rfl, h.1, h.2⟩
  | _ => cases hs
theorem rngO_zero (n : Nat) (h : n ≤ 50000) : rngO 0 (n : Int) = some (rng 0 n) := by
  unfold rngO
  rw [if_pos (by omega)]
  congr 2
end Gw

-- GwC
/-! GwC: itertools.combinations, at the library's level. -/
namespace CpComb
open PySem PySem.Spec PyProof.Rows

open Sem (wp)
theorem mro_c : mroOf (.type "itertools.combinations") = pure [.type "itertools.combinations", .type "object"] := by rw [mroOf_type]; kernel_rfl
theorem lookup_c_new : typeLookup (.type "itertools.combinations") "__new__" = pure (some (.builtin "itertools.combinations.__new__")) := by rw [typeLookup_type, builtinLookup_eq_fast]; kernel_rfl
theorem slot_c_init : Slot "itertools.combinations" "__init__" "object.__init__" :=
  .of (owner := "object") (n := "__init__") (by rw [typeLookup_type, builtinLookup_eq_fast]; kernel_rfl) (by decide +kernel) (by decide +kernel) (by decide +kernel)
    (by first | exact .inl (by decide +kernel) | exact .inr (by decide +kernel)) (by rw [isSubtype_type]; kernel_rfl)
theorem sub_c : isSubtype (.type "itertools.combinations") (.type "itertools.combinations") = pure true := by rw [isSubtype_type]; kernel_rfl
theorem called_c : TypeCalled "itertools.combinations" "itertools.combinations.__new__" "object.__init__" :=
  ⟨by decide +kernel, by decide +kernel, ⟨_, _, mro_c⟩, madeBy_type mro_c lookup_c_new (by decide +kernel), by decide +kernel, sub_c, slot_c_init⟩
theorem typeCall_c (a b : Value) : checkTypeCall "itertools.combinations" ⟨[a, b], []⟩ = pure () := by kernel_rfl
theorem newCall_c (a b : Value) : checkBuiltinCall "itertools.combinations.__new__" ⟨[.type "itertools.combinations", a, b], []⟩ = pure () := by kernel_rfl
theorem entry_c_new : entryFor table "itertools.combinations.__new__" = some Builtin.«itertools.combinations.__new__» := entryFor_of_tree (by kernel_rfl)
theorem slot_c_iter : Slot "itertools.combinations" "__iter__" "itertools.combinations.__iter__" :=
  .of (owner := "itertools.combinations") (n := "__iter__") (by rw [typeLookup_type, builtinLookup_eq_fast]; kernel_rfl) (by decide +kernel) (by decide +kernel) (by decide +kernel)
    (by first | exact .inl (by decide +kernel) | exact .inr (by decide +kernel)) sub_c
theorem slot_c_next : Slot "itertools.combinations" "__next__" "itertools.combinations.__next__" :=
  .of (owner := "itertools.combinations") (n := "__next__") (by rw [typeLookup_type, builtinLookup_eq_fast]; kernel_rfl) (by decide +kernel) (by decide +kernel) (by decide +kernel)
    (by first | exact .inl (by decide +kernel) | exact .inr (by decide +kernel)) sub_c
theorem entry_c_iter : entryFor table "itertools.combinations.__iter__" = some Builtin.«dict_keyiterator.__iter__» :=
  entryFor_alias (id' := "dict_keyiterator.__iter__") (by kernel_rfl) (by first | rfl | decide +kernel | (unfold String.splitOn; simp +decide [String.splitOnAux])) (by decide +kernel) (by kernel_rfl)
theorem entry_c_next : entryFor table "itertools.combinations.__next__" = some Builtin.«itertools.combinations.__next__» := entryFor_of_tree (by kernel_rfl)
theorem owner_c : Manifest.owners.lookup (String.ofList ("itertools.combinations".toList.reverse.reverse)) = some Manifest.sig_itertools_combinations := by kernel_rfl
theorem args_c_iter (a : Value) : argsOk "itertools.combinations.__iter__" ⟨[a], []⟩ := by
  unfold argsOk; rw [signature?_of (id := "itertools.combinations.__iter__") (n := ['_', '_', 'r', 'e', 't', 'i', '_', '_']) (o := "itertools.combinations".toList.reverse) (by kernel_rfl) owner_c]; kernel_rfl
theorem args_c_next (a : Value) : argsOk "itertools.combinations.__next__" ⟨[a], []⟩ := by
  unfold argsOk; rw [signature?_of (id := "itertools.combinations.__next__") (n := ['_', '_', 't', 'x', 'e', 'n', '_', '_']) (o := "itertools.combinations".toList.reverse) (by kernel_rfl) owner_c]; kernel_rfl
theorem noDict_c : typeHasDict (.type "itertools.combinations") = false := by decide +kernel
theorem plain_c_new : plainId "itertools.combinations.__new__" = true := by decide +kernel
theorem plain_c_next : plainId "itertools.combinations.__next__" = true := by decide +kernel

def cObj (pool : Addr) (st : Int) (last : Value) (ix : List Nat) : Obj := { cls := .type "itertools.combinations", dict := none, data := .fields (([.ref pool, rawInt st, last] ++ ix.map fun (i : Nat) => rawInt i) : List Value).toArray, slots := #[] }
end CpComb

-- GwD
namespace CpComb
open PySem PySem.Spec PyProof.Rows

open Sem (wp)
section
variable {prog : Program} {w : World} {A : Around} {E : Value → Shared → Prop} {s : Shared}
theorem code_new {v : Value} {r : Nat} {t : Tok} {Q₁ : Value → Shared → Prop} (h1 : r ≤ 1000)
    (hcol : wpAny (model prog w) A.in1 (collect v) (fun its s1 => its.length ≤ 1000 ∧ Q₁ (.ref (s1.heap.objs.size + 1)) { s1 with heap := (s1.heap.push { cls := .type "tuple", data := .seq its.toArray }).push (cObj s1.heap.objs.size (if r > its.length then 2 else 0) .none (List.range r)) }) (fun e s' => wants Q₁ E (.error e) s') s) :
    codeAny (model prog w) A (.call (.builtin "itertools.combinations.__new__") ⟨[.type "itertools.combinations", v, .int r t], []⟩) (wants Q₁ E) s := by
  refine codeAny_call_builtin plain_c_new entry_c_new (wpAny_of_eq (newCall_c _ _) ?_)
  have hsub := sub_c
  have hd := noDict_c
  unfold Builtin.«itertools.combinations.__new__»
  have hsub' : isSubtype (.type "itertools.combinations") (.type ("itertools." ++ "combinations")) = pure true := hsub
  wp_walk
  refine wpAny_ite_false (decide_eq_false (by rw [Bool.or_eq_true, decide_eq_true_eq, decide_eq_true_eq]; omega)) ?_
  refine wpAny_pure ?_
  refine wpAny_bind (wpAny_mono hcol (fun its s1 hq => ?_) fun _ _ h => h)
  refine wpAny_ite_false (decide_eq_false (by omega)) ?_
  refine wpAny_ite_false (by unfold Builtin.Itertools.itTooMany; exact decide_eq_false (by rw [decide_eq_true_eq]; omega)) ?_
  have hz : (2000 : Nat) ≤ sizeLine := by decide
  refine wpAny_bind (wpAny_newTuple ?_ (by omega))
  refine wpAny_pure ?_
  show wpAny _ _ (Builtin.Itertools.itNewRecord (.type "itertools.combinations") _ >>= _) _ _ _
  refine wpAny_bind ?_
  unfold Builtin.Itertools.itNewRecord
  rw [hd]
  refine wpAny_ite_true (by decide) ?_
  have er : (r : Int).toNat = r := Int.toNat_natCast r
  rw [er]
  refine wpAny_newObj_type ?_ (by show Array.size _ ≤ sizeLine + 2; rw [List.size_toArray, List.length_append, List.length_map, List.length_range]; show 3 + r ≤ _; omega)
  refine wpAny_pure ?_
  have e : (s1.heap.push { cls := Value.type "tuple", data := Data.seq its.toArray }).objs.size = s1.heap.objs.size + 1 := Heap.size_push ..
  rw [e]
  exact hq.2
end
end CpComb

-- GwE
namespace CpComb
open PySem PySem.Spec PyProof.Rows

open Sem (wp)
/-- the k-subsets of a row, in its order -/
def cmb {α : Type} : Nat → List α → List (List α)
  | 0, _ => [[]]
  | _ + 1, [] => []
  | k + 1, x :: xs => (cmb k xs).map (x :: ·) ++ cmb (k + 1) xs
theorem cmb_map {α β : Type} (f : α → β) : ∀ (k : Nat) (xs : List α), cmb k (xs.map f) = (cmb k xs).map (·.map f)
  | 0, _ => by cases ‹List α› <;> rfl
  | _ + 1, [] => rfl
  | k + 1, x :: xs => by
    show (cmb k (xs.map f)).map (f x :: ·) ++ cmb (k + 1) (xs.map f) = _
    rw [cmb_map f k xs, cmb_map f (k + 1) xs]
    show _ = ((cmb k xs).map (x :: ·) ++ cmb (k + 1) xs).map _
    rw [List.map_append, List.map_map, List.map_map]
    rfl
theorem cmb_len {α : Type} : ∀ (k : Nat) (xs ys : List α), ys ∈ cmb k xs → ys.length = k
  | 0, xs, ys, h => by cases xs <;> (have := List.mem_singleton.mp h; subst this; rfl)
  | _ + 1, [], ys, h => by cases h
  | k + 1, x :: xs, ys, h => by
    rcases List.mem_append.mp h with h | h
    · obtain ⟨zs, hz, rfl⟩ := List.mem_map.mp h
      rw [List.length_cons, cmb_len k xs zs hz]
    · exact cmb_len (k + 1) xs ys h
theorem cmb_none {α : Type} : ∀ (k : Nat) (xs : List α), xs.length < k → cmb k xs = []
  | 0, xs, h => absurd h (Nat.not_lt_zero _)
  | _ + 1, [], _ => rfl
  | k + 1, x :: xs, h => by
    show (cmb k xs).map (x :: ·) ++ cmb (k + 1) xs = []
    have h' : xs.length + 1 < k + 1 := h
    rw [cmb_none k xs (by omega), cmb_none (k + 1) xs (by omega)]
    rfl
def chk (step : Nat → List Nat → Option (List Nat)) : Bool :=
  (List.range 13).all fun n => (List.range (n + 1)).all fun r => !(decide ((n ≤ 8 ∧ r ≤ 8) ∨ (n ≤ 12 ∧ r ≤ 2))) || (decide ((cmb r (List.range n))[0]? = some (List.range r)) &&
    (List.range (cmb r (List.range n)).length).all fun i => decide (step n ((cmb r (List.range n)).getD i []) = (cmb r (List.range n))[i + 1]?))
abbrev IsC (h : Heap) (it pool : Addr) (st : Int) (last : Value) (ix : List Nat) : Prop := h.get? it = some (cObj pool st last ix)
section
variable {prog : Program} {w : World} {A : Around} {E : Value → Shared → Prop} {s : Shared}
theorem iter_c {it pool : Addr} {st : Int} {last : Value} {ix : List Nat} {Q : Value → Shared → Prop} (hit : IsC s.heap it pool st last ix) (h : Q (.ref it) s) : wpAny (model prog w) A (pyIter (.ref it)) Q E s := by
  have hT : s.TypeIs (.ref it) "itertools.combinations" := ⟨_, hit, rfl⟩
  refine wpAny_pyIter_slot hT slot_c_iter (wpAny_call_entry slot_c_iter hT entry_c_iter ?_ (args_c_iter _))
  show wpAny _ _ (ret (.ref it)) _ _ s
  exact wpAny_pure ⟨_, rfl, "itertools.combinations", _, hT, slot_c_next.lookup, h⟩
theorem map_num (f : Value → Nat) (hf : ∀ i : Nat, f (rawInt i) = i) (xs : List Nat) : (xs.map fun (i : Nat) => rawInt i).map f = xs := by
  rw [List.map_map]
  exact (List.map_congr_left fun x _ => hf x).trans (List.map_id xs)
theorem numbers_from {it pool : Addr} {st : Int} {last : Value} {ix : List Nat} {Q : List Nat → Shared → Prop} (hit : IsC s.heap it pool st last ix) (h : Q ix s) : wpAny (model prog w) A (Builtin.Itertools.itNumbersFrom (.ref it) 3) Q E s := by
  unfold Builtin.Itertools.itNumbersFrom
  show wpAny _ _ (load it >>= _) _ _ s
  refine wpAny_bind (wpAny_load hit ?_)
  refine wpAny_pure ?_
  show Q (List.map _ (ix.map fun (i : Nat) => rawInt i)) s
  rw [map_num _ (fun i => Int.toNat_natCast i) ix]
  exact h
theorem pool_items {pool : Addr} {items : Array Value} {n : Nat} {o : Obj} {Q : Array Value → Shared → Prop} (hp : s.heap.get? pool = some o) (hd : o.data = .seq items n) (h : Q items s) : wpAny (model prog w) A (Builtin.Itertools.itPoolItems (.ref pool)) Q E s := by
  unfold Builtin.Itertools.itPoolItems
  refine wpAny_bind ?_
  unfold seqItems?
  show wpAny _ _ (load pool >>= _) _ _ s
  refine wpAny_bind (wpAny_load hp ?_)
  rw [hd]
  exact wpAny_pure (wpAny_pure h)
theorem int_field {it pool : Addr} {st : Int} {last : Value} {ix : List Nat} {Q : Int → Shared → Prop} (hit : IsC s.heap it pool st last ix) (h : Q st s) : wpAny (model prog w) A (Builtin.Itertools.itIntField (.ref it) 1) Q E s := by
  unfold Builtin.Itertools.itIntField
  exact wpAny_bind (wpAny_field hit rfl (x := rawInt st) rfl (wpAny_pure h))
/-- what is laid: the tuple at its new place, the iterator turned, all else as before -/
abbrev Out (s : Shared) (it pool : Addr) (ix : List Nat) (items : Array Value) (Q : Option Value → Shared → Prop) : Prop :=
  ∀ h', IsC h' it pool 1 (.ref s.heap.objs.size) ix → h'.get? s.heap.objs.size = some { cls := .type "tuple", data := .seq (ix.map fun i => items.getD i .none).toArray } → (∀ b o, b ≠ it → s.heap.get? b = some o → h'.get? b = some o) → Q (some (.ref s.heap.objs.size)) { s with heap := h' }
theorem out_mono {it pool : Addr} {ix : List Nat} {items : Array Value} {Q : Option Value → Shared → Prop} {h1 : Heap} (sb : Heap.SameBut it s.heap h1) (hz : h1.objs.size = s.heap.objs.size) (h : Out s it pool ix items Q) : Out { s with heap := h1 } it pool ix items Q := fun h' a b c => by
  have e : ({ s with heap := h1 } : Shared).heap.objs.size = s.heap.objs.size := hz
  rw [e] at a b ⊢
  exact h h' a b fun p o hb q => c p o hb ((sb.2 p hb).trans q)
theorem hand_out {it pool : Addr} {last : Value} {ix : List Nat} {items : Array Value} {n : Nat} {o : Obj} {Q : Option Value → Shared → Prop} (hne : it ≠ pool) (hit : IsC s.heap it pool 1 last ix) (hp : s.heap.get? pool = some o) (hpd : o.data = .seq items n) (hl : ix.length ≤ 1000)
    (hQ : Out s it pool ix items Q) :
    wpAny (model prog w) A ((Builtin.Itertools.itPoolItems (.ref pool) >>= fun its => newTuple (ix.map fun i => its.getD i .none)) >>= fun result => field (.ref it) 2 >>= fun before => setField (.ref it) 2 result >>= fun _ => letGo [before] [result] >>= fun _ => ret result) (fun fin s' => ∃ v, fin = Fin.done (Flow.ret v) ∧ Q (some v) s') E s := by
  have hz : (2000 : Nat) ≤ sizeLine := by decide
  refine wpAny_bind (wpAny_bind (pool_items hp hpd ?_))
  refine (wpAny_newTuple ?_ (by rw [List.length_map]; omega))
  have hit1 : IsC (s.heap.push { cls := .type "tuple", data := .seq (ix.map fun i => items.getD i .none).toArray }) it pool 1 last ix := Heap.get?_push_of_some _ hit
  refine wpAny_bind (wpAny_field hit1 rfl (x := last) rfl ?_)
  refine wpAny_bind (wpAny_setField hit1 rfl (by rw [List.size_toArray]; show 2 < _ + 3; omega) ?_)
  refine wpAny_bind (wpAny_letGo ?_)
  refine wpAny_pure ⟨_, rfl, ?_⟩
  have hlt := Heap.lt_size hit
  refine hQ _ (Heap.get?_update_self _ hit1 rfl) ?_ fun b o hb e => ?_
  · exact ((Heap.SameBut.update ..).2 _ (fun z => absurd hlt (by rw [← z]; exact Nat.lt_irrefl _))).trans (Heap.get?_push_size _ rfl)
  · exact ((Heap.SameBut.update ..).2 b hb).trans (Heap.get?_push_of_some _ e)
theorem next_first {it pool : Addr} {last : Value} {ix : List Nat} {items : Array Value} {n : Nat} {o : Obj} {Q : Option Value → Shared → Prop} (hne : it ≠ pool) (hit : IsC s.heap it pool 0 last ix) (hp : s.heap.get? pool = some o) (hpd : o.data = .seq items n) (hl : ix.length ≤ 1000)
    (hQ : Out s it pool ix items Q) :
    wpAny (model prog w) A (callSpecial? (.ref it) "__next__") Q E s := by
  have hT : s.TypeIs (.ref it) "itertools.combinations" := ⟨_, hit, rfl⟩
  refine wpAny_callSpecial?_slot (name := Str.ofString "__next__") hT slot_c_next (wpAny_call_entry slot_c_next hT entry_c_next ?_ (args_c_next _))
  unfold Builtin.«itertools.combinations.__next__»
  show wpAny _ _ (field (.ref it) 0 >>= fun pool => Builtin.Itertools.itNumbersFrom (.ref it) 3 >>= _) _ _ s
  refine wpAny_bind (wpAny_field hit rfl (x := .ref pool) rfl ?_)
  refine wpAny_bind (numbers_from hit ?_)
  show wpAny _ _ (Builtin.Itertools.itIntField (.ref it) 1 >>= _) _ _ s
  refine wpAny_bind (int_field hit ?_)
  show wpAny _ _ (setField (.ref it) 1 (rawInt 1) >>= _) _ _ s
  refine wpAny_bind (wpAny_setField hit rfl (by rw [List.size_toArray]; show 1 < _ + 3; omega) ?_)
  have hit1 : IsC (s.heap.update it (Obj.mapFields fun x => x.setIfInBounds 1 (rawInt 1))) it pool 1 last ix := Heap.get?_update_self _ hit rfl
  exact hand_out hne hit1 (((Heap.SameBut.update ..).2 pool (Ne.symm hne)).trans hp) hpd hl (out_mono (Heap.SameBut.update ..) (Heap.size_update ..) hQ)
/-- what the iterator's step is: some function of the pool's size and of the indices -/
def HasStep (step : Nat → List Nat → Option (List Nat)) : Prop :=
  ∀ {prog : Program} {w : World} {A : Around} {E : Value → Shared → Prop} {s : Shared} {it pool : Addr} {last : Value} {ix : List Nat} {items : Array Value} {n : Nat} {o : Obj} {Q : Option Value → Shared → Prop}, A.handled = none → it ≠ pool → IsC s.heap it pool 1 last ix → s.heap.get? pool = some o → o.data = .seq items n →
    (∀ ix', step items.size ix = some ix' → ix'.length ≤ 1000 ∧ Out s it pool ix' items Q) →
    (step items.size ix = none → ∀ a o h', h'.get? a = some o → o.cls = .type "StopIteration" → (∀ b o, b ≠ it → s.heap.get? b = some o → h'.get? b = some o) → E (.ref a) { s with heap := h' }) →
    wpAny (model prog w) A (callSpecial? (.ref it) "__next__") Q E s
theorem has_step : ∃ step, HasStep step ∧ chk step = true := by
  apply Exists.intro
  apply And.intro
  · intro prog w A E s it pool last ix items n o Q hh hne hit hp hpd hmore hend
    have hT : s.TypeIs (.ref it) "itertools.combinations" := ⟨_, hit, rfl⟩
    refine wpAny_callSpecial?_slot (name := Str.ofString "__next__") hT slot_c_next (wpAny_call_entry slot_c_next hT entry_c_next ?_ (args_c_next _))
    unfold Builtin.«itertools.combinations.__next__»
    show wpAny _ _ (field (.ref it) 0 >>= fun pool => Builtin.Itertools.itNumbersFrom (.ref it) 3 >>= _) _ _ s
    refine wpAny_bind (wpAny_field hit rfl (x := .ref pool) rfl ?_)
    refine wpAny_bind (numbers_from hit ?_)
    show wpAny _ _ (Builtin.Itertools.itIntField (.ref it) 1 >>= _) _ _ s
    refine wpAny_bind (int_field hit ?_)
    show wpAny _ _ (Builtin.Itertools.itPoolItems (.ref pool) >>= _) _ _ s
    refine wpAny_bind (pool_items hp hpd ?_)
    have hz : (2000 : Nat) ≤ sizeLine := by decide
    split
    · rename_i nx heq
      obtain ⟨hl, hQ⟩ := hmore nx heq
      show wpAny _ _ (Builtin.Itertools.itSetNumbersFrom (.ref it) 3 nx >>= _) _ _ s
      refine wpAny_bind ?_
      unfold Builtin.Itertools.itSetNumbersFrom
      refine wpAny_updateFields hit rfl ?_ ?_
      · have e : (Obj.mapFields (fun (fs : Array Value) => fs.extract 0 3 ++ (nx.map fun (n : Nat) => rawInt n).toArray) (cObj pool 1 last ix)) = cObj pool 1 last nx := by
          show ({ cls := _, dict := _, data := .fields _, slots := _ } : Obj) = _
          unfold cObj
          congr 2
          simp
        have hit1 : IsC (s.heap.update it (Obj.mapFields fun fs => fs.extract 0 3 ++ (nx.map fun (n : Nat) => rawInt n).toArray)) it pool 1 last nx := by
          rw [IsC, ← e]
          exact Heap.get?_update_self _ hit rfl
        exact hand_out hne hit1 (((Heap.SameBut.update ..).2 pool (Ne.symm hne)).trans hp) hpd hl (out_mono (Heap.SameBut.update ..) (Heap.size_update ..) hQ)
      · show Array.size _ ≤ _
        simp
        omega
    · rename_i heq
      have hE := hend heq
      refine wpAny_bind (wpAny_setField hit rfl (by rw [List.size_toArray]; show 1 < _ + 3; omega) ?_)
      unfold Builtin.Itertools.itStop
      refine wpAny_bind ?_
      simp only [newExc, newTuple]
      refine wpAny_bind (wpAny_newObj_type ?_ (by size_fits))
      refine wpAny_bind (m := firstArgMember _ _) (wpAny_of_eq (a := Value.none) (by first | rfl | (simp only [firstArgMember]; rfl)) ?_)
      refine wpAny_newObj_type ?_ (by size_fits)
      simp only [raiseNew]
      refine wpAny_bind (wpAny_handled ?_)
      first | rw [show A.in1.handled = none from hh] | rw [hh]
      refine wpAny_bind (wpAny_pure (wpAny_throw ?_))
      refine hE _ _ _ (Heap.get?_push_size _ rfl) rfl fun b o hb q => ?_
      exact Heap.get?_push_of_some _ (Heap.get?_push_of_some _ (((Heap.SameBut.update ..).2 b hb).trans q))
  · decide +kernel
/-- more was asked than there is -/
theorem next_over {it pool : Addr} {last : Value} {ix : List Nat} {Q : Option Value → Shared → Prop} (hh : A.handled = none) (hit : IsC s.heap it pool 2 last ix)
    (hE : ∀ a o h', h'.get? a = some o → o.cls = .type "StopIteration" → (∀ b o, b ≠ it → s.heap.get? b = some o → h'.get? b = some o) → E (.ref a) { s with heap := h' }) : wpAny (model prog w) A (callSpecial? (.ref it) "__next__") Q E s := by
  have hT : s.TypeIs (.ref it) "itertools.combinations" := ⟨_, hit, rfl⟩
  refine wpAny_callSpecial?_slot (name := Str.ofString "__next__") hT slot_c_next (wpAny_call_entry slot_c_next hT entry_c_next ?_ (args_c_next _))
  unfold Builtin.«itertools.combinations.__next__»
  show wpAny _ _ (field (.ref it) 0 >>= fun pool => Builtin.Itertools.itNumbersFrom (.ref it) 3 >>= _) _ _ s
  refine wpAny_bind (wpAny_field hit rfl (x := .ref pool) rfl ?_)
  refine wpAny_bind (numbers_from hit ?_)
  show wpAny _ _ (Builtin.Itertools.itIntField (.ref it) 1 >>= _) _ _ s
  refine wpAny_bind (int_field hit ?_)
  show wpAny _ _ (rule _ >>= _) _ _ s
  refine wpAny_bind (wpAny_rule ?_)
  unfold Builtin.Itertools.itStop
  refine wpAny_bind ?_
  simp only [newExc, newTuple]
  refine wpAny_bind (wpAny_newObj_type ?_ (by size_fits))
  refine wpAny_bind (m := firstArgMember _ _) (wpAny_of_eq (a := Value.none) (by first | rfl | (simp only [firstArgMember]; rfl)) ?_)
  refine wpAny_newObj_type ?_ (by size_fits)
  simp only [raiseNew]
  refine wpAny_bind (wpAny_handled ?_)
  first | rw [show A.in1.handled = none from hh] | rw [hh]
  refine wpAny_bind (wpAny_pure (wpAny_throw ?_))
  exact hE _ _ _ (Heap.get?_push_size _ rfl) rfl fun b o hb q => Heap.get?_push_of_some _ (Heap.get?_push_of_some _ q)
theorem py_next {it : Addr} {Q : Option Value → Shared → Prop} {P : Heap → Prop} (h : ∀ E', (∀ a o h', h'.get? a = some o → o.cls = .type "StopIteration" → P h' → E' (.ref a) { s with heap := h' }) → wpAny (model prog w) A (callSpecial? (.ref it) "__next__") (fun v s' => ∃ u, v = some u ∧ Q (some u) s') E' s)
    (hd : ∀ h', P h' → Q none { s with heap := h' }) : wpAny (model prog w) A (pyNext (.ref it)) Q E s := by
  unfold pyNext
  refine wpAny_bind (wpAny_attempt (wpAny_mono (h (fun e s' => ∃ a o h', e = .ref a ∧ h'.get? a = some o ∧ o.cls = .type "StopIteration" ∧ P h' ∧ s' = { s with heap := h' }) fun a o h' e1 e2 e3 => ⟨a, o, h', rfl, e1, e2, e3, rfl⟩) (fun v s' hv => ?_) fun e s' he => ?_))
  · obtain ⟨u, rfl, q⟩ := hv
    exact wpAny_pure q
  · obtain ⟨a, o, h', rfl, e1, e2, e3, rfl⟩ := he
    refine wpAny_bind (wpAny_isInstance (T := "StopIteration") (b := true) ⟨o, e1, e2⟩ isSubtype_stop ?_)
    exact wpAny_pure (hd _ e3)
end
end CpComb

-- GwF
namespace CpComb
open PySem PySem.Spec PyProof.Rows L2 RZ
open Gw.Enc (enc)
section
variable {prog : Program} {w : World} {A : Around} {E : Value → Shared → Prop} {s : Shared}
theorem call_comb {v : Value} {r : Nat} {t : Tok} {Q : Value → Shared → Prop} (h1 : r ≤ 1000)
    (hcol : ∀ E', wpAny (model prog w) A.in1.in1 (collect v) (fun its s1 => its.length ≤ 1000 ∧ Q (.ref (s1.heap.objs.size + 1)) { s1 with heap := (s1.heap.push { cls := .type "tuple", data := .seq its.toArray }).push (cObj s1.heap.objs.size (if r > its.length then 2 else 0) .none (List.range r)) }) E' s) :
    wpAny (model prog w) A (call (.type "itertools.combinations") [v, .int r t]) Q E s := by
  refine callType_codes (Q₁ := fun obj s₁ => s₁.TypeIs obj "itertools.combinations" ∧ Q obj s₁) called_c (typeCall_c _ _) F.entry_object_init
    (code_new (A := A.in1) h1 (wpAny_mono (hcol _) (fun its s1 hq => ⟨hq.1, ⟨cObj s1.heap.objs.size (if r > its.length then 2 else 0) .none (List.range r), ?_, rfl⟩, hq.2⟩) fun _ _ h => h)) fun obj s₁ h₁ => ?_
  · have e : (s1.heap.push { cls := Value.type "tuple", data := Data.seq its.toArray }).objs.size = s1.heap.objs.size + 1 := Heap.size_push ..
    show Heap.get? _ (s1.heap.objs.size + 1) = _
    rw [← e]
    exact Heap.get?_push_size _ rfl
  · exact ⟨h₁.1, F.args_object_init_3 obj _ _, object_init_meets called_c.init.lookup called_c.made (by decide) prog w A.in1 _ s₁ ⟨h₁.1, rfl, h₁.2⟩⟩
end
end CpComb
namespace Gw
open PySem PySem.Spec PyProof.Rows L2 RZ CpComb
open Gw.Enc (enc)
/-- rows, each in a new tuple -/
def Itc (cs : List (List V)) : It :=
  ⟨fun i _ => i < cs.length, fun i H x H' => ∃ T xs, x = .ref T ∧ H T = none ∧ cs[i]? = some xs ∧ H' = upd H T (.tup xs), fun i _ => cs.length ≤ i⟩
def rowsOf (r : Nat) (xs : List V) : List (List V) := (cmb r (List.range xs.length)).map fun ix => ix.map fun i => xs.getD i .non
def TnC (pool it : Addr) (its : List Value) (r i : Nat) (h : Heap) : Prop :=
  h.get? pool = some { cls := .type "tuple", data := .seq its.toArray } ∧ ∃ last st ix, IsC h it pool st last ix ∧
    ((i = 0 ∧ st = 0 ∧ ix = List.range r ∧ r ≤ its.length) ∨ (i = 0 ∧ st = 2 ∧ its.length < r) ∨ (1 ≤ i ∧ st = 1 ∧ (cmb r (List.range its.length))[i - 1]? = some ix ∧ r ≤ its.length))
theorem vals_pick {xs : List V} {its : List Value} (rv : Vals xs its) : ∀ ix : List Nat, (∀ i ∈ ix, i < xs.length) → Vals (ix.map fun i => xs.getD i .non) (ix.map fun i => its.toArray.getD i .none)
  | [], _ => .nil
  | i :: ix, h => by
    refine .cons ?_ (vals_pick rv ix fun j hj => h j (List.mem_cons_of_mem _ hj))
    have hi := h i List.mem_cons_self
    obtain ⟨u, hu, ru⟩ := rv.get (List.getElem?_eq_getElem hi)
    have e1 : xs.getD i .non = xs[i] := by simp [List.getD, List.getElem?_eq_getElem hi]
    have e2 : its.toArray.getD i .none = u := by
      have hz : i < its.length := by rw [← rv.length]; exact hi
      rw [List.getElem?_eq_getElem hz] at hu
      simp [Array.getD, hz]
      exact Option.some.inj hu
    show L2.RelV (xs.getD i .non) (its.toArray.getD i .none)
    rw [e1, e2]
    exact ru
theorem cmb_mem {α : Type} : ∀ (k : Nat) (xs ys : List α), ys ∈ cmb k xs → ∀ y ∈ ys, y ∈ xs
  | 0, xs, ys, h, y, hy => by cases xs <;> (have := List.mem_singleton.mp h; subst this; cases hy)
  | _ + 1, [], ys, h, _, _ => by cases h
  | k + 1, x :: xs, ys, h, y, hy => by
    rcases List.mem_append.mp h with h | h
    · obtain ⟨zs, hz, rfl⟩ := List.mem_map.mp h
      rcases List.mem_cons.mp hy with e | e
      · subst e; exact List.mem_cons_self
      · exact List.mem_cons_of_mem _ (cmb_mem k xs zs hz y e)
    · exact List.mem_cons_of_mem _ (cmb_mem (k + 1) xs ys h y hy)
theorem chk_head {step : Nat → List Nat → Option (List Nat)} (h : chk step = true) {n r : Nat} (hn : (n ≤ 8 ∧ r ≤ 8) ∨ (n ≤ 12 ∧ r ≤ 2)) (hr : r ≤ n) : (cmb r (List.range n))[0]? = some (List.range r) := by
  unfold chk at h
  have h1 := List.all_eq_true.mp h n (List.mem_range.mpr (by omega))
  have h2 := List.all_eq_true.mp h1 r (List.mem_range.mpr (by omega))
  rw [decide_eq_true hn, Bool.not_true, Bool.false_or, Bool.and_eq_true] at h2
  exact of_decide_eq_true h2.1
theorem chk_next {step : Nat → List Nat → Option (List Nat)} (h : chk step = true) {n r i : Nat} {ix : List Nat} (hn : (n ≤ 8 ∧ r ≤ 8) ∨ (n ≤ 12 ∧ r ≤ 2)) (hr : r ≤ n) (hi : (cmb r (List.range n))[i]? = some ix) : step n ix = (cmb r (List.range n))[i + 1]? := by
  unfold chk at h
  have h1 := List.all_eq_true.mp h n (List.mem_range.mpr (by omega))
  have h2 := List.all_eq_true.mp h1 r (List.mem_range.mpr (by omega))
  rw [decide_eq_true hn, Bool.not_true, Bool.false_or, Bool.and_eq_true] at h2
  obtain ⟨hl, e⟩ := List.getElem?_eq_some_iff.mp hi
  have h3 := of_decide_eq_true (List.all_eq_true.mp h2.2 i (List.mem_range.mpr hl))
  have e2 : (cmb r (List.range n)).getD i [] = ix := by
    unfold List.getD
    rw [hi]
    rfl
  rw [e2] at h3
  exact h3
theorem turn_comb {P : Program} {w : World} {K : PySem.W.Frag} {tg : Expr} {it pool : Addr} {xs : List V} {its : List Value} {r : Nat} (hne : it ≠ pool) (rv : Vals xs its) (hn : (xs.length ≤ 8 ∧ r ≤ 8) ∨ (xs.length ≤ 12 ∧ r ≤ 2)) : Turn P w K tg (Itc (rowsOf r xs)) [it, pool] it (TnC pool it its r) where
  mem := by simp
  obj := fun i h st b hb => by
    obtain ⟨hp, last, st', ix, hit, _⟩ := st
    have e' : b = it ∨ b = pool := by simpa using hb
    rcases e' with q | q
    · rw [q]; exact ⟨_, hit, fun v z => by cases z⟩
    · rw [q]; exact ⟨_, hp, fun v z => by cases z⟩
  keep := fun i h h' st k => by
    obtain ⟨hp, last, st', ix, hit, c⟩ := st
    exact ⟨k pool (by simp) _ hp, last, st', ix, k it (by simp) _ hit, c⟩
  item := by
    intro X hP hw hK hc i pins s σ H E I hf st hg
    subst hP hw hK
    obtain ⟨step, hs, hck⟩ := has_step
    have hlen := rv.length
    have hg' : i < (rowsOf r xs).length := hg
    unfold rowsOf at hg'
    rw [List.length_map, hlen] at hg'
    have hgo : (cmb r (List.range its.length))[i]? = some (cmb r (List.range its.length))[i] := List.getElem?_eq_getElem hg'
    obtain ⟨hp, last, st', ix, hit, c⟩ := st
    have out : ∀ (ix' : List Nat), (cmb r (List.range its.length))[i]? = some ix' → r ≤ its.length → Out s it pool ix' its.toArray (fun r_1 s1 => ∃ u, r_1 = some u ∧ wpAny (model X.prog X.w) X.A (letOwnedTupleGo tg (.ref it) u) (fun _ s2 => ∃ x H', Inv X pins σ H' s2 ∧ RelV x u ∧ (Itc (rowsOf r xs)).yld i H x H' ∧ TnC pool it its r (i + 1) s2.heap ∧ ∀ b ∈ [it, pool], H' b = none) E s1) := by
      intro ix' hix hrl h' hit' htup hk
      have hmem := cmb_mem r _ ix' (List.mem_of_getElem? hix)
      have hl8 := cmb_len r _ ix' (List.mem_of_getElem? hix)
      have new : ObjOk X.prog X.w (upd H s.heap.objs.size (.tup (ix'.map fun i => xs.getD i .non))) h' s.heap.objs.size (.tup (ix'.map fun i => xs.getD i .non)) :=
        ⟨by rw [List.length_map]; exact Nat.le_trans (show ix'.length ≤ 8 by omega) (by decide), _, vals_pick rv ix' (fun j hj => by have := List.mem_range.mp (hmem j hj); omega), ⟨_, htup, rfl, _, rfl⟩⟩
      have I1 : Inv X pins σ (upd H s.heap.objs.size (.tup (ix'.map fun i => xs.getD i .non))) { s with heap := h' } :=
        I.turnedNew (t' := s.toks) (ch := [it, pool]) (fun b o hb e => hk b o (fun z => hb (by simp [z])) e) hf (Nat.le_refl _) new
      refine ⟨_, rfl, go_of (s := { s with heap := h' }) (n := "itertools.combinations") hit' rfl rfl (by decide) ⟨.ref s.heap.objs.size, _, I1, rfl, ⟨_, _, rfl, I.hok.fresh (Nat.le_refl _), ?_, rfl⟩, ⟨hk pool _ (Ne.symm hne) hp, _, 1, ix', hit', .inr (.inr ⟨by omega, rfl, by rw [Nat.add_sub_cancel]; exact hix, hrl⟩)⟩, fun b hb => ?_⟩⟩
      · unfold rowsOf
        rw [List.getElem?_map, hlen, hix]
        rfl
      · have hlt : b < s.heap.objs.size := by
          have e' : b = it ∨ b = pool := by simpa using hb
          rcases e' with q | q
          · rw [q]; exact Heap.lt_size hit
          · rw [q]; exact Heap.lt_size hp
        rw [upd_ne (Nat.ne_of_lt hlt)]
        exact (hf b hb).1
    have hcl : X.A.handled = none := I.ok.hd hc
    refine py_next (P := fun h' => False) (fun E' hE' => ?_) (fun h' hF => hF.elim)
    rcases c with ⟨rfl, rfl, rfl, hrl⟩ | ⟨rfl, rfl, hov⟩ | ⟨h1, rfl, hix, hrl⟩
    · refine next_first hne hit hp rfl (by rw [List.length_range]; omega) fun h' a b d => ?_
      exact ⟨_, rfl, out _ (chk_head hck (by omega) hrl) hrl h' a b d⟩
    · rw [cmb_none r _ (by rw [List.length_range]; exact hov)] at hg'
      exact absurd hg' (Nat.not_lt_zero _)
    · have hst := chk_next hck (by omega) hrl hix
      have e : i - 1 + 1 = i := by omega
      rw [e] at hst
      have hsz : its.toArray.size = its.length := List.size_toArray ..
      refine hs hcl hne hit hp rfl (fun ix' h => ?_) fun h => ?_
      · rw [hsz, hst] at h
        refine ⟨?_, fun h' a b d => ⟨_, rfl, out _ h hrl h' a b d⟩⟩
        rw [cmb_len r _ ix' (List.mem_of_getElem? h)]
        omega
      · rw [hsz, hst, hgo] at h
        cases h
  done := by
    intro X hP hw hK hc i pins s σ H E I hf st hg
    subst hP hw hK
    obtain ⟨step, hs, hck⟩ := has_step
    have hlen := rv.length
    have hg' : (rowsOf r xs).length ≤ i := hg
    unfold rowsOf at hg'
    rw [List.length_map, hlen] at hg'
    obtain ⟨hp, last, st', ix, hit, c⟩ := st
    have hcl : X.A.handled = none := I.ok.hd hc
    refine py_next (P := fun h' => ∀ b o, b ≠ it → s.heap.get? b = some o → h'.get? b = some o) (fun E' hE' => ?_) (fun h' hF => ⟨rfl, I.turnedL (t' := s.toks) (ch := [it, pool]) (fun b o hb e => hF b o (fun z => hb (by simp [z])) e) hf⟩)
    rcases c with ⟨rfl, rfl, rfl, hrl⟩ | ⟨rfl, rfl, hov⟩ | ⟨h1, rfl, hix, hrl⟩
    · have hz := chk_head hck (by omega) hrl
      rw [List.getElem?_eq_none hg'] at hz
      cases hz
    · exact next_over hcl hit hE'
    · have hst := chk_next hck (by omega) hrl hix
      have e : i - 1 + 1 = i := by omega
      rw [e] at hst
      have hsz : its.toArray.size = its.length := List.size_toArray ..
      refine hs hcl hne hit hp rfl (fun ix' h => ?_) fun h => hE'
      rw [hsz, hst, List.getElem?_eq_none hg'] at h
      cases h
  self := fun A i s Q E st h => by
    obtain ⟨_, _, _, _, hit, _⟩ := st
    exact iter_c hit h
theorem rows_cmb (r : Nat) (xs : List V) : rowsOf r xs = cmb r xs := by
  unfold rowsOf
  rw [← cmb_map (fun i => xs.getD i .non)]
  congr 1
  refine List.ext_getElem (by simp) fun i h1 h2 => ?_
  simp [List.getD, List.getElem?_eq_getElem h2]
/-- what is walked for the pool -/
def Src (K : PySem.W.Frag) (H : Hp) (p : Addr) (xs : List V) : Prop :=
  SqL K H p xs ∨ SqT K H p xs ∨ ∃ lo hi, H p = some (.rng lo hi) ∧ (-(2 ^ 62) ≤ lo ∧ lo < 2 ^ 62 ∧ -(2 ^ 62) ≤ hi ∧ hi < 2 ^ 62) ∧ xs = (rng lo (hi - lo).toNat).map V.int
def iComb (K : PySem.W.Frag) (ta : TA) : TI := fun σ H R => ta σ H fun vs H1 => ∃ p k xs, vs = [.ref p, .int k] ∧ Src K H1 p xs ∧ xs.length ≤ 12 ∧ 0 ≤ k ∧ ((xs.length ≤ 8 ∧ k ≤ 8) ∨ (xs.length ≤ 12 ∧ k ≤ 2)) ∧ R (Itc (cmb k.toNat xs)) H1
section
variable {X : Cx} {tg : Expr}
theorem src_collect {pins : List (Addr × Obj)} {σ : L2.St} {H : Hp} {s : Shared} {A : Around} {E : Value → Shared → Prop} {p : Addr} {xs : List V} {Q : List Value → Shared → Prop} (hh : A.handled = none) (I : Inv X pins σ H s) (h : Src X.K H p xs) (hl : xs.length ≤ 12)
    (hQ : ∀ its h' tk, Vals xs its → (∀ b o, s.heap.get? b = some o → h'.get? b = some o) → Q its { s with heap := h', toks := tk }) : wpAny (model X.prog X.w) A (collect (.ref p)) Q E s := by
  have hz : (2000 : Nat) ≤ sizeLine := by decide
  rcases h with h | h | ⟨lo, hi, h, b, rfl⟩
  · obtain ⟨its, rv, pl, _⟩ := I.list h
    obtain ⟨o, ho, hc, n, hd⟩ := pl.isList
    refine wpAny_collect_seq p (.inl rfl) ho hc hd (fun h' k => ?_) (by rw [List.size_toArray, ← rv.length]; omega)
    exact hQ its h' s.toks rv k
  · obtain ⟨its, rv, ⟨o, ho, hc, n, hd⟩, _⟩ := I.tuple h
    refine wpAny_collect_seq p (.inr rfl) ho hc hd (fun h' k => ?_) (by rw [List.size_toArray, ← rv.length]; omega)
    exact hQ its h' s.toks rv k
  · obtain ⟨t, u, v, e⟩ := (show ObjOk X.prog X.w H s.heap p (.rng lo hi) from I.hok p _ h)
    rw [List.length_map, rng_len] at hl
    refine collect_range (n := (hi - lo).toNat) hh e (small_one b.1 b.2.1 b.2.2.1 b.2.2.2) (by rw [rangeSize_one]; split <;> omega) (by omega) fun h' tk acc k hi => ?_
    refine hQ _ h' tk ?_ k
    obtain ⟨hs, hv⟩ := hi
    have key : ∀ (l : List Value) (n : Nat) (f : Nat → Int), l.length = n → (∀ j v, l[j]? = some v → ∃ t, v = Value.int (f j) t) → Vals ((List.range n).map fun j => V.int (f j)) l := by
      intro l
      induction l with
      | nil => intro n f hn _; subst hn; exact .nil
      | cons a l ih =>
        intro n f hn hf
        subst hn
        rw [List.length_cons, List.range_succ_eq_map, List.map_cons, List.map_map]
        refine .cons (hf 0 a rfl) (ih l.length (fun j => f (j + 1)) rfl fun j v hj => hf (j + 1) v hj)
    have := key acc.toList (hi - lo).toNat (fun j => lo + (j : Int) * 1) (by rw [Array.length_toList]; exact hs) (fun j v hj => hv j v (by rw [← Array.getElem?_toList]; exact hj))
    unfold rng
    rw [List.map_map]
    have e2 : (V.int ∘ fun (i : Nat) => lo + (i : Int)) = fun j : Nat => V.int (lo + (j : Int) * 1) := by
      funext j
      show V.int _ = _
      rw [Int.mul_one]
    rw [e2]
    exact this
theorem pi_comb {a b : Expr} {ta : TA} {x : Str} {p pos : Pos} (hc : X.calm = true) (hg : Gl X x) (hm : X.mg x = some (.type "itertools.combinations")) (ha : PA X [a, b] ta) (hdb : (x == ("__debug__" : Str)) = false := by decide)
    (he : starEach [a, b] X.env = (false, eval a X.env) :: starEach [b] X.env := by rfl) (hpl : (backTo pos (starEach [b] X.env)).any (·.1) = false := by rfl) : PI X tg (.Call (.Name x p) [a, b] [] pos) (iComb X.K ta) := by
  refine ⟨fun pins s σ H R I h => ?_⟩
  refine wpAny_Call_Name_kw (ld_glob I hg hm ?_ hdb)
  refine PyProof.Rows.callWith_type1 (thn (ha.run pos pins s σ H _ I h) fun us s1 ⟨vs, H1, I1, r1, q1⟩ => ?_) he hpl
  obtain ⟨q, k, xs, rfl, hsrc, hl, hk0, hk8, q2⟩ := q1
  obtain ⟨u1, u2, rfl, ra, rb⟩ := vals2 r1
  cases ra
  obtain ⟨t, rfl⟩ := rb
  obtain ⟨r, rfl⟩ := Int.eq_ofNat_of_zero_le hk0
  refine call_comb (by omega) fun E' => src_collect (I1.ok.hd hc) I1 hsrc hl fun its h' tk rv kk => ⟨by rw [← rv.length]; omega, ?_⟩
  have hlen := rv.length
  have I2 : Inv X pins σ H1 { s1 with heap := h', toks := tk } := I1.kept kk
  have hsz1 : (h'.push { cls := Value.type "tuple", data := Data.seq its.toArray }).objs.size = h'.objs.size + 1 := Heap.size_push ..
  have hit : IsC ((h'.push { cls := Value.type "tuple", data := Data.seq its.toArray }).push (cObj h'.objs.size (if r > its.length then 2 else 0) .none (List.range r))) (h'.objs.size + 1) h'.objs.size (if r > its.length then 2 else 0) .none (List.range r) := by
    show Heap.get? _ (h'.objs.size + 1) = _
    rw [← hsz1]
    exact Heap.get?_push_size _ rfl
  have hpool : ((h'.push { cls := Value.type "tuple", data := Data.seq its.toArray }).push (cObj h'.objs.size (if r > its.length then 2 else 0) .none (List.range r))).get? h'.objs.size = some { cls := .type "tuple", data := .seq its.toArray } :=
    Heap.get?_push_of_some _ (Heap.get?_push_size _ rfl)
  have I3 : Inv X pins σ H1 { s1 with heap := (h'.push { cls := Value.type "tuple", data := Data.seq its.toArray }).push (cObj h'.objs.size (if r > its.length then 2 else 0) .none (List.range r)), toks := tk } :=
    I2.kept (t' := tk) fun b o e => Heap.get?_push_of_some _ (Heap.get?_push_of_some _ e)
  refine iter_c hit ?_
  refine ⟨h'.objs.size + 1, [h'.objs.size + 1, h'.objs.size], TnC h'.objs.size (h'.objs.size + 1) its r, Itc (rowsOf r xs), H1, rfl, I3, turn_comb (Nat.succ_ne_self _) rv (by omega), ⟨hpool, _, _, _, hit, ?_⟩, fun b hb => ?_, ?_⟩
  · by_cases c : its.length < r
    · exact .inr (.inl ⟨rfl, if_pos c, c⟩)
    · exact .inl ⟨rfl, if_neg c, rfl, by omega⟩
  · have hle : h'.objs.size ≤ b := by
      have e' : b = h'.objs.size + 1 ∨ b = h'.objs.size := by simpa using hb
      rcases e' with z | z
      · rw [z]; exact Nat.le_succ _
      · rw [z]; exact Nat.le_refl _
    have F2 := I2.fpOk (b := b) (H' := H1) hle (I2.hok.fresh hle)
    exact F2
  · rw [rows_cmb]
    exact q2
end
end Gw

-- Gw9
/-! Gw9: combinations, repeated tuples, ranges that stand, sorted and min of rows. -/
namespace Gw
open PySem PySem.Spec PyProof.Rows L2 RZ CpComb
open Gw.Enc (enc)
section
variable {K : FR} {σ : L2.St} {env env1 env2 env3 : List Slot} {F F1 H H1 : Hp} {ta tb tc te : TE} {tr : TA} {tz ts : TS} {d : PyData} {ds : List PyData} {b : Bool} {x y lo hi : Int} {P : Po} {i : Nat} {α : Type} [Enc α] {X : Cx}
theorem cmb_small {α : Type} : ∀ (k : Nat) (xs : List α), (cmb k xs).length ≤ 2 ^ xs.length
  | 0, xs => by cases xs <;> exact Nat.one_le_two_pow
  | _ + 1, [] => Nat.zero_le _
  | k + 1, x :: xs => by
    show ((cmb k xs).map (x :: ·) ++ cmb (k + 1) xs).length ≤ _
    have h1 := cmb_small k xs
    have h2 := cmb_small (k + 1) xs
    rw [List.length_append, List.length_map, List.length_cons, Nat.pow_succ]
    omega
theorem cmb_dq {F : Hp} : ∀ (k : Nat) (xs : List V) (ds : List PyData), DqAll K F xs ds → (cmb k xs).length = (cmb k ds).length ∧ ∀ (i : Nat) (ys : List V) (es : List PyData), (cmb k xs)[i]? = some ys → (cmb k ds)[i]? = some es → DqAll K F ys es
  | 0, xs, ds, h => by
    have e1 : cmb 0 xs = [[]] := by cases xs <;> rfl
    have e2 : cmb 0 ds = [[]] := by cases ds <;> rfl
    rw [e1, e2]
    refine ⟨rfl, fun i ys es a b => ?_⟩
    cases i with
    | zero => cases a; cases b; exact .nil
    | succ i => simp at a
  | _ + 1, [], _, .nil => ⟨rfl, fun i ys es a _ => by simp [cmb] at a⟩
  | k + 1, _ :: xs, _ :: ds, .cons (v := v) (d := d) h1 h2 => by
    obtain ⟨l1, g1⟩ := cmb_dq k xs ds h2
    obtain ⟨l2, g2⟩ := cmb_dq (k + 1) xs ds h2
    show ((cmb k xs).map (v :: ·) ++ cmb (k + 1) xs).length = ((cmb k ds).map (d :: ·) ++ cmb (k + 1) ds).length ∧ ∀ (i : Nat) (ys : List V) (es : List PyData), ((cmb k xs).map (v :: ·) ++ cmb (k + 1) xs)[i]? = some ys → ((cmb k ds).map (d :: ·) ++ cmb (k + 1) ds)[i]? = some es → DqAll K F ys es
    refine ⟨by simp [l1, l2], fun i ys es a b => ?_⟩
    by_cases c : i < (cmb k xs).length
    · rw [List.getElem?_append_left (by simpa using c), List.getElem?_map] at a
      rw [List.getElem?_append_left (by simpa [← l1] using c), List.getElem?_map] at b
      obtain ⟨y, hy, rfl⟩ := Option.map_eq_some_iff.mp a
      obtain ⟨e, he, rfl⟩ := Option.map_eq_some_iff.mp b
      exact .cons h1 (g1 i y e hy he)
    · rw [List.getElem?_append_right (by simpa using c)] at a
      rw [List.getElem?_append_right (by simpa [← l1] using c)] at b
      rw [List.length_map] at a b
      rw [← l1] at b
      exact g2 _ ys es a b
theorem walk_C {xs : List V} {ds : List PyData} {k : Nat} (hn : xs.length ≤ 12) (hd : DqAll K F xs ds) : WalkD K (Itc (cmb k xs)) F ((cmb k ds).map PyData.tuple) where
  small := by
    rw [List.length_map]
    have h := cmb_small k ds
    rw [← hd.length] at h
    exact Nat.le_trans h (Nat.le_trans (Nat.pow_le_pow_right (by decide) hn) (by decide))
  goes := fun i H hi e => by
    rw [List.length_map, ← (cmb_dq k xs ds hd).1] at hi
    exact hi
  stops := fun H e => by
    rw [List.length_map, ← (cmb_dq k xs ds hd).1]
    exact Nat.le_refl _
  yields := fun i H x H' Fc hi e1 e2 hy => by
    rw [List.length_map] at hi
    obtain ⟨T, ys, rfl, hT, hys, rfl⟩ := hy
    have he : (cmb k ds)[i]? = some (cmb k ds)[i] := List.getElem?_eq_getElem hi
    have hr := (cmb_dq k xs ds hd).2 i ys _ hys he
    have f0 : Fc T = none := by
      cases z : Fc T with
      | none => rfl
      | some u => rw [e2 T u z] at hT; cases hT
    have m : Ex Fc (upd Fc T (.tup ys)) := Evl.Ex.new f0
    have hl : ys.length ≤ LIM := by
      have h1 := cmb_mem k xs ys (List.mem_of_getElem? hys)
      have h2 := cmb_len k xs ys (List.mem_of_getElem? hys)
      by_cases c : xs.length < k
      · rw [cmb_none k xs c] at hys
        simp at hys
      · rw [h2]
        exact Nat.le_trans (by omega : k ≤ 12) (by decide)
    refine ⟨upd Fc T (.tup ys), .tuple (cmb k ds)[i], by rw [List.getElem?_map, he]; rfl, m, fun a o z => ?_, fun a o z => ?_, fun a o z => ?_, .tup (.inl (.inl upd_same)) hl ((hr.up e1).up m)⟩
    · by_cases c : a = T
      · subst c; rw [upd_same] at z ⊢; exact z
      · rw [upd_ne c] at z ⊢; exact e2 a o z
    · by_cases c : a = T
      · subst c; exact .inr hT
      · rw [upd_ne c] at z; exact .inl z
    · by_cases c : a = T
      · subst c; rw [hT] at z; cases z
      · rw [upd_ne c]; exact z
def combO {α : Type} (l : List α) (k : Int) : Option (List (List α)) := if 0 ≤ k ∧ ((l.length ≤ 8 ∧ k ≤ 8) ∨ (l.length ≤ 12 ∧ k ≤ 2)) then some (cmb k.toNat l) else none
theorem combO_some {α : Type} {l : List α} {k : Int} {m : List (List α)} (h : combO l k = some m) : (0 ≤ k ∧ ((l.length ≤ 8 ∧ k ≤ 8) ∨ (l.length ≤ 12 ∧ k ≤ 2))) ∧ m = cmb k.toNat l := by
  unfold combO at h
  split at h
  · rename_i c
    exact ⟨c, (Option.some.inj h).symm⟩
  · cases h
theorem map_cmb {l : List α} {k : Nat} : (cmb k l).map enc = (cmb k (l.map enc)).map PyData.tuple := by
  rw [cmb_map, List.map_map]
  rfl
theorem ei_combT {l : List α} {m : List (List α)} (ha : EV K ta env (enc l) env1) (hb : EV K tb env1 (.int y) env2) (h : combO l y = some m) : EI K (iComb K (tCons ta (tCons tb tNil))) env (m.map enc) env2 := fun F σ H o R q => by
  obtain ⟨c, rfl⟩ := combO_some h
  refine (ed_c ha (ed_1 hb)) F σ H o _ fun F1 vs H1 r1 dvs => ?_
  cases dvs with
  | cons h1 h2 =>
    cases h2 with
    | cons h2 h3 =>
      cases h3
      cases h2
      rw [map_cmb] at q
      cases h1 with
      | tup hs hl hd =>
        have e := hd.length
        rw [List.length_map] at e
        exact ⟨_, y, _, rfl, .inr (.inl (Evl.ex_t r1.own.ex hs)), by omega, c.1, by omega, q F1 _ H1 r1 (walk_C (by omega) hd)⟩
theorem ei_combL {l : List α} {m : List (List α)} (ha : EV K ta env (enc (Ls.mk l)) env1) (hb : EV K tb env1 (.int y) env2) (h : combO l y = some m) : EI K (iComb K (tCons ta (tCons tb tNil))) env (m.map enc) env2 := fun F σ H o R q => by
  obtain ⟨c, rfl⟩ := combO_some h
  refine (ed_c ha (ed_1 hb)) F σ H o _ fun F1 vs H1 r1 dvs => ?_
  cases dvs with
  | cons h1 h2 =>
    cases h2 with
    | cons h2 h3 =>
      cases h3
      cases h2
      rw [map_cmb] at q
      cases h1 with
      | lst hs hl hd =>
        have e := hd.length
        rw [List.length_map] at e
        have e : _ = l.length := e
        exact ⟨_, y, _, rfl, .inl (.inl (.inl (r1.own.ex _ _ hs))), by omega, c.1, by omega, q F1 _ H1 r1 (walk_C (by omega) hd)⟩
theorem ei_combR {l : List Int} {m : List (List Int)} (ha : ER K ta env lo hi env1) (hb : EV K tb env1 (.int y) env2) (hl : rngO lo hi = some l) (h : combO l y = some m) : EI K (iComb K (tCons ta (tCons tb tNil))) env (m.map enc) env2 := fun F σ H o R q => by
  obtain ⟨c, rfl⟩ := combO_some h
  obtain ⟨c2, rfl⟩ := rngO_some hl
  refine ha F σ H o _ fun F1 p H1 r1 hp => ?_
  refine hb F1 σ H1 r1.own _ fun F2 v H2 r2 dv => ?_
  cases dv
  rw [map_cmb] at q
  have e : ((rng lo (hi - lo).toNat).map (enc : Int → PyData)) = (rng lo (hi - lo).toNat).map PyData.int := rfl
  rw [e] at q
  refine ⟨p, y, _, rfl, .inr (.inr ⟨lo, hi, r2.own.ex _ _ (r2.exF _ _ hp), by omega, rfl⟩), by rw [List.length_map]; omega, c.1, by rw [List.length_map]; omega, q F2 _ H2 (r1.trans r2) (walk_C (by rw [List.length_map]; omega) (ints_dq _))⟩
end
end Gw
namespace Gw
open PySem PySem.Spec PyProof.Rows L2 RZ CpComb
open Gw.Enc (enc)
theorem tuple_mul1 (l : Addr) (items : Array Value) (n : Nat) (dd : Option Addr) (sl : Array (Option Value)) (u : Tok) :
    Meets (Builtin.«tuple.__mul__» ⟨[.ref l, .int 1 u], []⟩) (fun _ R s => s.heap.get? l = some { cls := .type "tuple", dict := dd, data := .seq items n, slots := sl } ∧
      R (.ok (.ret (Value.ref l))) s) :=
  .of_wp fun prog w A R s h => by
    obtain ⟨hp, g, d, tk, os⟩ := s
    obtain ⟨hl, h⟩ := h
    have f1 := AutoSeq1.idx_int
    wp_walk using wpAny_loadPart' hl
    exact ⟨_, rfl, h⟩
def rRepA (K : FR) : R2 := fun x y H Q => ∃ l k xs, x = .ref l ∧ y = .int k ∧ SqT K H l xs ∧ xs ≠ [] ∧ 1 ≤ k ∧ k ≤ 1000 ∧ xs.length ≤ 1000 ∧ (k = 1 → Q (.ref l) H) ∧ (k ≠ 1 → ∀ p, H p = none → Q (.ref p) (upd H p (.tup (List.replicate k.toNat xs).flatten)))
section
variable {K : FR} {σ : L2.St} {env env1 env2 env3 : List Slot} {F F1 H H1 : Hp} {ta tb tc te : TE} {tr : TA} {tz ts : TS} {d : PyData} {ds : List PyData} {b : Bool} {x y lo hi : Int} {P : Po} {i : Nat} {α : Type} [Enc α] {X : Cx}
theorem op_repA : OpR X (binaryOp .Mult) (rRepA X.K) := by
  intro pins s σ H x y v u Q I rx ry h
  obtain ⟨l, k, xs, rfl, rfl, hT, hne, h1, h2, hz, q1, q2⟩ := h
  by_cases hk : k = 1
  · subst hk
    cases rx
    obtain ⟨t, rfl⟩ := ry
    obtain ⟨its, r, ⟨⟨cls, dd, data, sl⟩, ho, hc, n, hd⟩, hs⟩ := I.tuple hT
    simp only at hc hd
    subst hc hd
    refine wpAny_binaryOp_repeat_ref (T := "tuple") (U := "int") (by decide) ⟨_, ho, rfl⟩ (fun s' => typeIs_int s' 1 t) noFill_tuple_mul F.fills_int_mul F.slot_int_rmul repeat_tuple F.slot_int_index.lookup
      (call_meets F.slot_int_rmul (typeIs_int s 1 t) F.entry_int_rmul (F.args_int_rmul_2 _ _) (int_rmul_tuple 1 t l its.toArray n dd sl)
        ⟨ho, rfl, ⟨_, ho, rfl⟩, call_meets F.slot_tuple_mul ⟨_, ho, rfl⟩ F.entry_tuple_mul (F.args_tuple_mul_2 _ _) (tuple_mul1 l its.toArray n dd sl t) ⟨ho, ?_⟩⟩)
    exact ⟨.ref l, H, I, rfl, q1 rfl⟩
  · exact op_repT pins s σ H (.ref l) (.int k) v u Q I rx ry ⟨l, k, xs, rfl, rfl, hT, hne, by omega, h2, hz, q2 hk⟩
def repO {α : Type} (l : List α) (k : Int) : Option (List α) := if 1 ≤ k ∧ k ≤ 1000 ∧ l.length ≤ 50 ∧ l ≠ [] then some (List.replicate k.toNat l).flatten else none
theorem dq_rep {F : Hp} {xs : List V} {ds : List PyData} (h : DqAll K F xs ds) : ∀ n : Nat, DqAll K F (List.replicate n xs).flatten (List.replicate n ds).flatten
  | 0 => .nil
  | n + 1 => by
    rw [List.replicate_succ, List.replicate_succ, List.flatten_cons, List.flatten_cons]
    exact h.app (dq_rep h n)
theorem ev_rep {l m : List α} (h : repO l x = some m) (ha : EV K ta env (enc l) env1) (hb : EV K tb env1 (.int x) env2) : EV K (tOp (rRepA K) ta tb) env (enc m) env2 := fun F σ H o Q q => by
  unfold repO at h
  split at h
  case isFalse => cases h
  rename_i c
  cases h
  refine ha F σ H o _ fun F1 v H1 r1 dv => hb F1 σ H1 r1.own _ fun F2 v2 H2 r2 dv2 => ?_
  cases dv2
  cases dv with
  | tup hs hl hd =>
    rename_i a xs
    have e := hd.length
    rw [List.length_map] at e
    have hs2 := Evl.ex_t r2.own.ex (Evl.ex_t r2.exF hs)
    refine ⟨a, x, xs, rfl, rfl, hs2, fun z => ?_, c.1, c.2.1, by omega, fun hx => ?_, fun hx p hp => ?_⟩
    · subst z
      exact c.2.2.2 (List.eq_nil_of_length_eq_zero e.symm)
    · subst hx
      have e1 : (List.replicate (1 : Int).toNat l).flatten = l := by simp
      rw [e1] at q
      exact q F2 _ H2 (r1.trans r2) (.tup (Evl.ex_t r2.exF hs) hl (hd.up r2.exF))
    · have hq := dq_rep (hd.up r2.exF) x.toNat
      have e1 : enc (List.replicate x.toNat l).flatten = PyData.tuple ((List.replicate x.toNat (l.map enc)).flatten) := by
        show PyData.tuple (((List.replicate x.toNat l).flatten).map enc) = _
        rw [List.map_flatten, List.map_replicate]
      rw [e1] at q
      have hlen : ((List.replicate x.toNat xs).flatten).length ≤ LIM := by
        rw [List.length_flatten, List.map_replicate, List.sum_replicate_nat, e]
        exact Nat.le_trans (Nat.mul_le_mul (show x.toNat ≤ 1000 by omega) (show l.length ≤ 50 by omega)) (by decide)
      exact q _ _ _ (r1.trans (r2.trans (Rn.imm r2.own hp (.tup _)))) (.tup (.inl (.inl upd_same)) hlen (hq.up (Evl.Ex.new (r2.own.fresh hp))))
def iRngV (te : TE) : TI := fun σ H R => te σ H fun x H1 => ∃ p lo hi, x = .ref p ∧ H1 p = some (.rng lo hi) ∧ (-(2 ^ 62) ≤ lo ∧ lo < 2 ^ 62 ∧ -(2 ^ 62) ≤ hi ∧ hi < 2 ^ 62) ∧ R (Itr lo (hi - lo).toNat) H1
theorem pi_rngv {tg e : Expr} (h : PE X e te) : PI X tg e (iRngV te) := by
  refine ⟨fun pins s σ H R I hw => ?_⟩
  refine thn (h.run pins s σ H _ I hw) fun v s1 ⟨x, H1, I1, r1, q1⟩ => ?_
  obtain ⟨p, lo, hi, rfl, hp, b, q⟩ := q1
  cases r1
  obtain ⟨t, u, v, er⟩ := (show ObjOk X.prog X.w H1 s1.heap p (.rng lo hi) from I1.hok p _ hp)
  refine wpAny_pyIter_range er (small_one b.1 b.2.1 b.2.2.1 b.2.2.2) ?_
  refine ⟨s1.heap.objs.size, [s1.heap.objs.size], _, _, H1, rfl, I1.kept (t' := s1.toks) fun b o e => Heap.get?_push_of_some _ e, turn_range _ lo (hi - lo).toNat, ?_, fun c hb => ?_, q⟩
  · have e1 : lo + ((0 : Nat) : Int) * 1 = lo := by simp
    have e2 : (((hi - lo).toNat : Nat) : Int) - ((0 : Nat) : Int) = Builtin.Range.rangeSize lo hi 1 := by rw [rangeSize_one]; split <;> omega
    show IsRangeIter _ _ (lo + ((0 : Nat) : Int) * 1) ((((hi - lo).toNat : Nat) : Int) - ((0 : Nat) : Int)) 1
    rw [e1, e2]
    exact Heap.get?_push_size _ rfl
  · have e : c = s1.heap.objs.size := by simpa using hb
    subst e
    exact I1.fpOk (Nat.le_refl _) (I1.hok.fresh (Nat.le_refl _))
theorem ei_RV {l : List Int} (h : ER K te env lo hi env1) (hl : rngO lo hi = some l) : EI K (iRngV te) env (l.map enc) env1 := fun F σ H o R q =>
  h F σ H o _ fun F1 p H1 r1 hp => by
    obtain ⟨c, rfl⟩ := rngO_some hl
    exact ⟨p, lo, hi, rfl, r1.own.ex _ _ hp, ⟨by omega, by omega, by omega, by omega⟩, q F1 _ H1 r1 (walk_R (by show (hi - lo).toNat ≤ 100000; omega))⟩
def rRng1v : List V → Hp → VK → Prop := fun vs H Q => ∃ j, vs = [V.int j] ∧ ∀ p, H p = none → Q (.ref p) (upd H p (.rng 0 j))
theorem cr_rng1 : CallR X (.type "range") rRng1v := by
  intro pins s σ H vs us Q I r h
  obtain ⟨j, rfl, q⟩ := h
  obtain ⟨u1, rfl, rj⟩ := vals1 r
  obtain ⟨t, rfl⟩ := rj
  refine call_range_1 ⟨.ref s.heap.objs.size, upd H s.heap.objs.size (.rng 0 j), I.laid (fun b o e => Heap.get?_push_of_some _ e) (Nat.le_refl _) ?_, rfl, q _ (I.hok.fresh (Nat.le_refl _))⟩
  exact ⟨_, _, _, Heap.get?_push_size _ rfl⟩
theorem er_range1 (h : ED K tr env [.int x] env1) : ER K (tCB rRng1v tr) env 0 x env1 := fun F σ H o Q q =>
  h F σ H o _ fun F1 vs H1 r1 dvs => by
    have e := dq_ints (ns := [x]) dvs
    subst e
    exact ⟨x, rfl, fun p hp => q _ p _ (r1.trans (Rn.imm r1.own hp (.rng 0 x))) upd_same⟩
end
end Gw

-- GwS
/-! GwS: sorted, min, max of data. -/
namespace Gw
open PySem PySem.Spec PyProof.Rows L2 RZ
open Gw.Enc (enc)
class EncOrd (α : Type) [Enc α] where
  lt : α → α → Bool
  alike : ∀ a b : α, W.alike (enc a) (enc b) = true
  lt_eq : ∀ a b : α, W.dataLt (enc a) (enc b) = lt a b
  notNone : ∀ a : α, enc a ≠ PyData.none
class EncSrt (α : Type) [Enc α] : Prop where
  srt : (∀ a : α, ∃ x r, enc a = PyData.tuple (x :: r)) ∨ ∀ a : α, enc a ≠ PyData.none ∧ ∀ xs, enc a ≠ PyData.tuple xs
instance : EncOrd Int where
  lt a b := decide (a < b)
  alike a b := by show W.alike (.int a) (.int b) = true; simp only [W.alike]
  lt_eq a b := W.dataLt_int a b
  notNone a := fun e => by cases e
instance : EncSrt Int := ⟨.inr fun a => ⟨(fun e => by cases e), fun xs e => by cases e⟩⟩
section
variable {α β γ : Type} [Enc α] [Enc β] [Enc γ]
instance : EncSrt (α × β) := ⟨.inl fun a => ⟨_, _, rfl⟩⟩
instance : EncSrt (T3 α β γ) := ⟨.inl fun a => ⟨_, _, rfl⟩⟩
variable [DecidableEq α] [EncEq α] [EncOrd α] [DecidableEq β] [EncEq β] [EncOrd β] [DecidableEq γ] [EncEq γ] [EncOrd γ]
def rowLt : List α → List α → Bool
  | [], [] => false
  | [], _ :: _ => true
  | _ :: _, [] => false
  | x :: xs, y :: ys => if x = y then rowLt xs ys else EncOrd.lt x y
theorem alikeAll_map : ∀ xs ys : List α, W.alikeAll (xs.map enc) (ys.map enc) = true
  | [], _ => by rw [List.map_nil, W.alikeAll]
  | _ :: _, [] => by rw [List.map_nil, List.map_cons, W.alikeAll]
  | x :: xs, y :: ys => by
    rw [List.map_cons, List.map_cons, W.alikeAll, EncOrd.alike x y, alikeAll_map xs ys]
    rfl
theorem lex_step {x y : α} {p q : List PyData} : PyProof.Rows.lexLt PyProof.Rows.itemOrd (W.keyToksAll (enc x :: p)) (W.keyToksAll (enc y :: q)) = if x = y then PyProof.Rows.lexLt PyProof.Rows.itemOrd (W.keyToksAll p) (W.keyToksAll q) else EncOrd.lt x y := by
  by_cases h : x = y
  · rw [if_pos h, W.dataLt_all_yes (EncOrd.alike x y) (by rw [EncEq.eqv, decide_eq_true_eq]; exact h)]
  · rw [if_neg h, W.dataLt_all_no (EncOrd.alike x y) (by rw [EncEq.eqv, decide_eq_false_iff_not]; exact h)]
    exact EncOrd.lt_eq x y
theorem lexAll_map : ∀ xs ys : List α, PyProof.Rows.lexLt PyProof.Rows.itemOrd (W.keyToksAll (xs.map enc)) (W.keyToksAll (ys.map enc)) = rowLt xs ys
  | [], [] => PyProof.Rows.lex_irrefl _
  | [], y :: ys => by
    rw [List.map_nil, List.map_cons, W.toks_all_cons]
    simp only [W.keyToksAll]
    rw [PyProof.Rows.lex_diff (O := PyProof.Rows.itemOrd) (by simp)]
    rfl
  | x :: xs, [] => by
    rw [List.map_nil, List.map_cons, W.toks_all_cons]
    simp only [W.keyToksAll]
    rw [PyProof.Rows.lex_diff (O := PyProof.Rows.itemOrd) (by simp)]
    rfl
  | x :: xs, y :: ys => by
    rw [List.map_cons, List.map_cons, rowLt, lex_step, lexAll_map xs ys]
instance : EncOrd (List α) where
  lt := rowLt
  alike xs ys := by show W.alike (.tuple _) (.tuple _) = true; simp only [W.alike]; exact alikeAll_map xs ys
  lt_eq xs ys := (W.dataLt_tuple _ _).trans (lexAll_map xs ys)
  notNone a := fun e => by cases e
instance : EncOrd (α × β) where
  lt p q := if p.1 = q.1 then (if p.2 = q.2 then false else EncOrd.lt p.2 q.2) else EncOrd.lt p.1 q.1
  alike p q := by
    show W.alike (.tuple [_, _]) (.tuple [_, _]) = true
    simp only [W.alike, W.alikeAll, EncOrd.alike, Bool.and_self]
  lt_eq p q := by
    refine (W.dataLt_tuple _ _).trans ?_
    rw [lex_step, lex_step, PyProof.Rows.lex_irrefl]
  notNone a := fun e => by cases e
instance : EncOrd (T3 α β γ) where
  lt p q := if p.a = q.a then (if p.b = q.b then (if p.c = q.c then false else EncOrd.lt p.c q.c) else EncOrd.lt p.b q.b) else EncOrd.lt p.a q.a
  alike p q := by
    show W.alike (.tuple [_, _, _]) (.tuple [_, _, _]) = true
    simp only [W.alike, W.alikeAll, EncOrd.alike, Bool.and_self]
  lt_eq p q := by
    refine (W.dataLt_tuple _ _).trans ?_
    rw [lex_step, lex_step, lex_step, PyProof.Rows.lex_irrefl]
  notNone a := fun e => by cases e
def minOf (x : α) (xs : List α) : α := xs.foldl (fun a y => if EncOrd.lt y a = true then y else a) x
def maxOf (x : α) (xs : List α) : α := xs.foldl (fun a y => if EncOrd.lt a y = true then y else a) x
theorem minD_map : ∀ (xs : List α) (x : α), W.minD (enc x) (xs.map enc) = enc (minOf x xs)
  | [], x => rfl
  | y :: ys, x => by
    have e : W.minD (enc x) ((y :: ys).map enc) = W.minD (if W.dataLt (enc y) (enc x) = true then enc y else enc x) (ys.map enc) := rfl
    have e2 : minOf x (y :: ys) = minOf (if EncOrd.lt y x = true then y else x) ys := rfl
    rw [e, e2, ← minD_map ys, EncOrd.lt_eq]
    split <;> rfl
theorem maxD_map : ∀ (xs : List α) (x : α), W.maxD (enc x) (xs.map enc) = enc (maxOf x xs)
  | [], x => rfl
  | y :: ys, x => by
    have e : W.maxD (enc x) ((y :: ys).map enc) = W.maxD (if W.dataLt (enc x) (enc y) = true then enc y else enc x) (ys.map enc) := rfl
    have e2 : maxOf x (y :: ys) = maxOf (if EncOrd.lt x y = true then y else x) ys := rfl
    rw [e, e2, ← maxD_map ys, EncOrd.lt_eq]
    split <;> rfl
end
def minO {α : Type} [Enc α] [EncOrd α] (l : List α) : Option α := match l with
  | [] => none
  | x :: xs => some (xs.foldl (fun a y => if EncOrd.lt y a = true then y else a) x)
def maxO {α : Type} [Enc α] [EncOrd α] (l : List α) : Option α := match l with
  | [] => none
  | x :: xs => some (xs.foldl (fun a y => if EncOrd.lt a y = true then y else a) x)
def sortO {α : Type} [Enc α] [EncOrd α] (l : List α) : Option (List α) := if l.length ≤ 100000 then some (l.mergeSort fun a b => !EncOrd.lt b a) else none
/-! rules -/
section
variable {X : Cx} {K : FR}
def rMinD (K : FR) : List V → Hp → VK → Prop := fun vs H Q => ∃ a xs d0 ds0, vs = [V.ref a] ∧ SqL K H a xs ∧ DpAll K H xs (d0 :: ds0) ∧ W.AlikeAll (d0 :: ds0) ∧ PyData.depthAll (d0 :: ds0) ≤ 50 ∧ ∀ (i : Nat) (x : V), xs[i]? = some x → (d0 :: ds0)[i]? = some (W.minD d0 ds0) → Q x H
def rMaxD (K : FR) : List V → Hp → VK → Prop := fun vs H Q => ∃ a xs d0 ds0, vs = [V.ref a] ∧ SqL K H a xs ∧ DpAll K H xs (d0 :: ds0) ∧ W.AlikeAll (d0 :: ds0) ∧ PyData.depthAll (d0 :: ds0) ≤ 50 ∧ ∀ (i : Nat) (x : V), xs[i]? = some x → (d0 :: ds0)[i]? = some (W.maxD d0 ds0) → Q x H
theorem reads_at {h : Heap} : ∀ {vs : List Value} {ds : List PyData} {as : List Addr} {i : Nat} {v : Value}, ReadsAll h vs ds as → vs[i]? = some v → ∃ d bs, ds[i]? = some d ∧ Reads h v d bs
  | _, _, _, _, _, .nil, e => by cases e
  | _, _, _, 0, _, .cons h1 _, e => by cases e; exact ⟨_, _, rfl, h1⟩
  | _, _, _, i + 1, _, .cons _ h2, e => reads_at (i := i) h2 e
theorem vals_back : ∀ {xs : List V} {us : List Value} {i : Nat} {u : Value}, Vals xs us → us[i]? = some u → ∃ x, xs[i]? = some x ∧ RelV x u
  | _, _, _, _, .nil, e => by cases e
  | _, _, 0, _, .cons r _, e => by cases e; exact ⟨_, rfl, r⟩
  | _, _, i + 1, _, .cons _ t, e => vals_back (i := i) t e
theorem cr_minD (hc : X.calm = true) (hu : X.A.units + 64 < cLine) : CallR X (.builtin "min") (rMinD X.K) := by
  intro pins s σ H vs us Q I r h
  obtain ⟨a, xs, d0, ds0, rfl, hs, hd, ha, hdep, q⟩ := h
  obtain ⟨its, rv, hl, hz⟩ := I.list hs
  obtain ⟨u, rfl, ru⟩ := vals1 r
  obtain rfl : u = Value.ref a := ru
  obtain ⟨as, rs⟩ := Dp.readsAll I (d0 :: ds0) xs its hd rv
  refine W.min_list_data (I.ok.hd hc) hl.isList rs ha (by omega) fun i v h' tk bs hi rd hk => ?_
  have hi' : its[i]? = some v := by simpa using hi
  obtain ⟨d, bs2, hdi, rd2⟩ := reads_at rs hi'
  have e := (PyProof.Rows.Reads.keeps hk rd2).unique _ _ rd
  obtain ⟨x, hx, rx⟩ := vals_back rv hi'
  rw [e.1] at hdi
  exact ⟨x, H, I.kept (t' := tk) hk, rx, q i x hx hdi⟩
theorem cr_maxD (hc : X.calm = true) (hu : X.A.units + 64 < cLine) : CallR X (.builtin "max") (rMaxD X.K) := by
  intro pins s σ H vs us Q I r h
  obtain ⟨a, xs, d0, ds0, rfl, hs, hd, ha, hdep, q⟩ := h
  obtain ⟨its, rv, hl, hz⟩ := I.list hs
  obtain ⟨u, rfl, ru⟩ := vals1 r
  obtain rfl : u = Value.ref a := ru
  obtain ⟨as, rs⟩ := Dp.readsAll I (d0 :: ds0) xs its hd rv
  refine W.max_list_data (I.ok.hd hc) hl.isList rs ha (by omega) fun i v h' tk bs hi rd hk => ?_
  have hi' : its[i]? = some v := by simpa using hi
  obtain ⟨d, bs2, hdi, rd2⟩ := reads_at rs hi'
  have e := (PyProof.Rows.Reads.keeps hk rd2).unique _ _ rd
  obtain ⟨x, hx, rx⟩ := vals_back rv hi'
  rw [e.1] at hdi
  exact ⟨x, H, I.kept (t' := tk) hk, rx, q i x hx hdi⟩
/-- the list sorted: its items and their data move together -/
def rSortD (K : FR) : List V → Hp → VK → Prop := fun vs H Q => ∃ a xs ds, vs = [V.ref a] ∧ SqL K H a xs ∧ DpAll K H xs ds ∧ W.AllAlike ds ∧ W.Sortable ds ∧ (∀ d ∈ ds, d.depth ≤ 50) ∧
  ∀ p, H p = none → Q (.ref p) (upd H p (.lst ((xs.zip ds).mergeSort (W.dataLe false fun b : V × PyData => b.2) |>.map (·.1))))
theorem each_zip {s : Shared} : ∀ {xs : List V} {its : List Value} {ds : List PyData} {as : List Addr}, Vals xs its → ReadsAll s.heap its ds as → W.EachIs (fun v (b : V × PyData) => RelV b.1 v) its (xs.zip ds) ∧ W.EachIs (fun v (b : V × PyData) => ∃ as, Reads s.heap v b.2 as) its (xs.zip ds) ∧ (xs.zip ds).map (·.2) = ds
  | _, _, _, _, .nil, .nil => ⟨.nil, .nil, rfl⟩
  | _, _, _, _, .cons r t, .cons h1 h2 => by
    obtain ⟨a, b, c⟩ := each_zip t h2
    exact ⟨.cons r a, .cons ⟨_, h1⟩ b, by rw [List.zip_cons_cons, List.map_cons, c]⟩
theorem vals_of_each : ∀ {out : List Value} {bs : List (V × PyData)}, W.EachIs (fun v (b : V × PyData) => RelV b.1 v) out bs → Vals (bs.map (·.1)) out
  | _, _, .nil => .nil
  | _, _, .cons r t => .cons r (vals_of_each t)
theorem cr_sortedD (hu : X.A.units + 64 < cLine) : CallR X (.builtin "sorted") (rSortD X.K) := by
  intro pins s σ H vs us Q I r h
  obtain ⟨a, xs, ds, rfl, hs, hd, ha, hsr, hdep, q⟩ := h
  obtain ⟨its, rv, hl, hz⟩ := I.list hs
  obtain ⟨u, rfl, ru⟩ := vals1 r
  obtain rfl : u = Value.ref a := ru
  obtain ⟨as, rs⟩ := Dp.readsAll I ds xs its hd rv
  obtain ⟨e1, e2, e3⟩ := each_zip rv rs
  have hlen : (xs.zip ds).length = xs.length := by
    have := e1.length
    rw [← this, ← rv.length]
  refine W.sorted_data (enc := fun b : V × PyData => b.2) hl.isList e1 e2 (by rw [e3]; exact ha) (by rw [e3]; exact hsr) (by rw [hlen]; exact hz) (fun b hb => ?_) fun out hol he => ?_
  · have := hdep b.2 (by rw [← e3]; exact List.mem_map_of_mem hb)
    omega
  · have I1 : Inv X pins σ (upd H (s.heap.objs.size + 1) (.lst ((xs.zip ds).mergeSort (W.dataLe false fun b : V × PyData => b.2) |>.map (·.1)))) { s with heap := sortedAll s.heap its (List.toArray out) } := by
      refine I.laid (t' := s.toks) (fun b o e => sortedAll_old e) (Nat.le_succ _) ?_
      obtain ⟨n, hn⟩ := sortedAll_at s.heap its out.toArray
      refine ⟨?_, out, n, vals_of_each he, hn⟩
      rw [List.length_map, List.length_mergeSort, hlen]; exact hz
    exact ⟨.ref _, _, I1, rfl, q _ (I.hok.fresh (Nat.le_succ _))⟩
end
section
variable {K : FR} {σ : L2.St} {env env1 env2 env3 : List Slot} {F F1 H H1 : Hp} {te : TE} {α : Type} [Enc α] [EncOrd α]
theorem alikeAll_enc (l : List α) : W.AlikeAll (l.map enc) := by
  refine ⟨fun x hx y hy => ?_, fun x hx => ?_⟩
  · obtain ⟨a, _, rfl⟩ := List.mem_map.mp hx
    obtain ⟨b, _, rfl⟩ := List.mem_map.mp hy
    exact EncOrd.alike a b
  · obtain ⟨a, _, rfl⟩ := List.mem_map.mp hx
    exact EncOrd.notNone a
theorem depth_enc {n : Nat} [EncDep α n] (l : List α) : PyData.depthAll (l.map enc) ≤ n := depthAll_le l
theorem minD_map' : ∀ (xs : List α) (x : α), W.minD (enc x) (xs.map enc) = enc (xs.foldl (fun a y => if EncOrd.lt y a = true then y else a) x)
  | [], x => rfl
  | y :: ys, x => by
    have e : W.minD (enc x) ((y :: ys).map enc) = W.minD (if W.dataLt (enc y) (enc x) = true then enc y else enc x) (ys.map enc) := rfl
    rw [e, List.foldl_cons, ← minD_map' ys, EncOrd.lt_eq]
    split <;> rfl
theorem maxD_map' : ∀ (xs : List α) (x : α), W.maxD (enc x) (xs.map enc) = enc (xs.foldl (fun a y => if EncOrd.lt a y = true then y else a) x)
  | [], x => rfl
  | y :: ys, x => by
    have e : W.maxD (enc x) ((y :: ys).map enc) = W.maxD (if W.dataLt (enc x) (enc y) = true then enc y else enc x) (ys.map enc) := rfl
    rw [e, List.foldl_cons, ← maxD_map' ys, EncOrd.lt_eq]
    split <;> rfl
theorem ev_minD {n : Nat} [EncDep α n] {l : List α} {a : α} (h : minO l = some a) (ha : EV K te env (enc (Ls.mk l)) env1) (hn : n ≤ 50 := by decide) : EV K (tCB (rMinD K) (tCons te tNil)) env (enc a) env1 := ev_cb (ed_1 ha) fun F H vs e dvs Q q => by
  cases dvs with
  | cons d1 d2 =>
    cases d2
    cases l with
    | nil => cases h
    | cons y ys =>
      cases h
      cases d1 with
      | lst hs hl hd =>
        have hd' : DqAll K F _ (enc y :: ys.map enc) := hd
        refine ⟨_, _, enc y, ys.map enc, rfl, .inl (.inl (e _ _ hs)), DqAll.dpM _ _ (hd'.up e), alikeAll_enc (y :: ys), Nat.le_trans (depth_enc (y :: ys)) hn, fun i x hx hi => ?_⟩
        obtain ⟨d, hd1, hd2⟩ := hd'.get' hx
        rw [hi, minD_map'] at hd1
        cases hd1
        exact q _ hd2
theorem ev_maxD {n : Nat} [EncDep α n] {l : List α} {a : α} (h : maxO l = some a) (ha : EV K te env (enc (Ls.mk l)) env1) (hn : n ≤ 50 := by decide) : EV K (tCB (rMaxD K) (tCons te tNil)) env (enc a) env1 := ev_cb (ed_1 ha) fun F H vs e dvs Q q => by
  cases dvs with
  | cons d1 d2 =>
    cases d2
    cases l with
    | nil => cases h
    | cons y ys =>
      cases h
      cases d1 with
      | lst hs hl hd =>
        have hd' : DqAll K F _ (enc y :: ys.map enc) := hd
        refine ⟨_, _, enc y, ys.map enc, rfl, .inl (.inl (e _ _ hs)), DqAll.dpM _ _ (hd'.up e), alikeAll_enc (y :: ys), Nat.le_trans (depth_enc (y :: ys)) hn, fun i x hx hi => ?_⟩
        obtain ⟨d, hd1, hd2⟩ := hd'.get' hx
        rw [hi, maxD_map'] at hd1
        cases hd1
        exact q _ hd2
theorem dq_zip {F : Hp} : ∀ {xs : List V} {ds : List PyData}, DqAll K F xs ds → ∀ b ∈ xs.zip ds, Dq K F b.1 b.2
  | _, _, .nil, b, h => by cases h
  | _, _, .cons r t, b, h => by
    rcases List.mem_cons.mp h with e | e
    · subst e; exact r
    · exact dq_zip t b e
theorem dq_unzip {F : Hp} : ∀ (bs : List (V × PyData)), (∀ b ∈ bs, Dq K F b.1 b.2) → DqAll K F (bs.map (·.1)) (bs.map (·.2))
  | [], _ => .nil
  | b :: bs, h => .cons (h b List.mem_cons_self) (dq_unzip bs fun c hc => h c (List.mem_cons_of_mem _ hc))
theorem zip_snd {F : Hp} : ∀ {xs : List V} {ds : List PyData}, DqAll K F xs ds → (xs.zip ds).map (·.2) = ds
  | _, _, .nil => rfl
  | _, _, .cons r t => by rw [List.zip_cons_cons, List.map_cons, zip_snd t]
theorem sort_enc (l : List α) (zs : List (V × PyData)) (h : zs.map (·.2) = l.map enc) : (zs.mergeSort (W.dataLe false fun b : V × PyData => b.2)).map (·.2) = (l.mergeSort fun a b => !EncOrd.lt b a).map enc := by
  rw [List.map_mergeSort (s := fun d e : PyData => !W.dataLt e d) (fun a _ b _ => by rw [W.dataLe_eq]; rfl), h, List.map_mergeSort (s := fun d e : PyData => !W.dataLt e d) (fun a _ b _ => by rw [EncOrd.lt_eq])]
theorem ef_sorted [EncSrt α] {n : Nat} [EncDep α n] {l m : List α} (h : sortO l = some m) (ha : EV K te env (enc (Ls.mk l)) env1) (hn : n ≤ 50 := by decide) : EF K (tCB (rSortD K) (tCons te tNil)) env (m.map enc) env1 := fun F σ H o Q q =>
  (ed_1 ha) F σ H o _ fun F1 vs H1 r1 dvs => by
    unfold sortO at h
    split at h
    case isFalse => cases h
    rename_i hlim
    cases h
    cases dvs with
    | cons d1 d2 =>
      cases d2
      cases d1 with
      | lst hs hl hd =>
        rename_i a xs
        have hzip := zip_snd hd
        refine ⟨a, xs, l.map enc, rfl, .inl (.inl (r1.own.ex _ _ hs)), DqAll.dpM _ _ (hd.up r1.own.ex), fun x hx y hy => (alikeAll_enc l).1 x hx y hy, ?_, fun d hd => ?_, fun p hp => ?_⟩
        · rcases EncSrt.srt (α := α) with g | g
          · exact .inl fun d hd => by obtain ⟨b, _, rfl⟩ := List.mem_map.mp hd; exact g b
          · exact .inr fun d hd => by obtain ⟨b, _, rfl⟩ := List.mem_map.mp hd; exact g b
        · obtain ⟨b, _, rfl⟩ := List.mem_map.mp hd
          exact Nat.le_trans (EncDep.dep b) hn
        · have hz2 := sort_enc l (xs.zip (l.map enc)) hzip
          have hdq : DqAll K F1 (((xs.zip (l.map enc)).mergeSort (W.dataLe false fun b : V × PyData => b.2)).map (·.1)) ((l.mergeSort fun a b => !EncOrd.lt b a).map enc) := by
            rw [← hz2]
            exact dq_unzip _ fun b hb => dq_zip hd b (List.mem_mergeSort.mp hb)
          have hlen : (((xs.zip (l.map enc)).mergeSort (W.dataLe false fun b : V × PyData => b.2)).map (·.1)).length ≤ LIM := by
            rw [hdq.length, List.length_map, List.length_mergeSort]
            exact hlim
          exact q F1 p _ _ (r1.trans (Rn.mut r1.own hp (.lst _))) (r1.own.fresh hp) (back_none r1 hp) upd_same hlen hdq (r1.own.not_ow hp)
end
end Gw

-- GwM
/-! GwM: lists repeated, comprehensions of two levels, rows that are lists or tuples. -/
namespace Gw
open PySem PySem.Spec PyProof.Rows L2 RZ
open Gw.Enc (enc)
section
variable {K : FR} {σ : L2.St} {env env1 env2 env3 : List Slot} {F F1 H H1 : Hp} {ta tb te : TE} {x : Int} {α : Type} [Enc α]
def repL {α : Type} (l : List α) (k : Int) : Option (List α) := if 0 ≤ k ∧ k ≤ 1000 ∧ l.length ≤ 50 then some (List.replicate k.toNat l).flatten else none
theorem ef_repL {l m : List α} (h : repL l x = some m) (ha : EV K ta env (enc (Ls.mk l)) env1) (hb : EV K tb env1 (.int x) env2) : EF K (tOp rRep ta tb) env (m.map enc) env2 := fun F σ H o Q q => by
  unfold repL at h
  split at h
  case isFalse => cases h
  rename_i c
  cases h
  refine ha F σ H o _ fun F1 v H1 r1 dv => hb F1 σ H1 r1.own _ fun F2 v2 H2 r2 dv2 => ?_
  cases dv2
  cases dv with
  | lst hs hl hd =>
    rename_i a xs
    have e := hd.length
    rw [List.length_map] at e
    have hq := dq_rep (hd.up r2.exF) x.toNat
    have e1 : (((List.replicate x.toNat l).flatten).map enc) = (List.replicate x.toNat (l.map enc)).flatten := by
      rw [List.map_flatten, List.map_replicate]
    rw [e1] at q
    have hz : xs.length * x.toNat ≤ 100000 := by
      rw [e]
      exact Nat.le_trans (Nat.mul_le_mul (show l.length ≤ 50 by omega) (show x.toNat ≤ 1000 by omega)) (by decide)
    have hlen : ((List.replicate x.toNat xs).flatten).length ≤ LIM := by
      rw [List.length_flatten, List.map_replicate, List.sum_replicate_nat, Nat.mul_comm]
      exact hz
    have r := r1.trans r2
    exact ⟨a, x, xs, rfl, rfl, r2.own.ex _ _ (r2.exF _ _ hs), by omega, by omega, Nat.le_trans hz (by decide), fun p hp => q F2 p _ _ (r.trans (Rn.mut r2.own hp (.lst _))) (r2.own.fresh hp) (back_none r hp) upd_same hlen hq (r2.own.not_ow hp)⟩
end
/-! two levels -/
section
variable {K : FR} {env env1 : List Slot} {te : TE} {wi wi1 : TI} {g g1 : TG} {vs vs1 : List Nat} {α β : Type} [Enc α] [Enc β]
def Inner2 (K : FR) (g : TG) (wi1 : TI) (g1 : TG) (te : TE) (vs vs1 : List Nat) (envC : List Slot) (x : PyData) (ys : List PyData) : Prop :=
  ∃ env2 js, EG K g envC x env2 js ∧ (∀ j ∈ js, j ∈ vs) ∧ ∃ (inner : List PyData) (env3 envI : List Slot), EI K wi1 env2 inner env3 ∧ Le env3 envI ∧ allU envI vs1 = true ∧ Le envI envC ∧ inner.length = ys.length ∧
    ∀ (k : Nat) (d y : PyData), inner[k]? = some d → ys[k]? = some y → ∃ env4 js1 env5, EG K g1 envI d env4 js1 ∧ (∀ j ∈ js1, j ∈ vs1) ∧ EV K te env4 y env5 ∧ Le env5 envI
theorem keep_none {σ σ' : L2.St} {env env' : List Slot} {F H F' H' : Hp} {D : Addr} {w : HO} (r : Rn K σ env F H σ' env' F' H') (hF : F D = none) (hn : ¬ ow σ env D) (hH : H D = some w) : F' D = none ∧ ¬ ow σ' env' D := by
  refine ⟨?_, fun z => ?_⟩
  · cases z : F' D with
    | none => rfl
    | some w' =>
      rcases r.new D w' z with y | y | y
      · rw [hF] at y; cases y
      · exact (hn y).elim
      · rw [hH] at y; cases y
  · rcases r.ows D z with y | y
    · exact hn y
    · rw [hH] at y; cases y
theorem yield_rn {J : It} {σ : L2.St} {env : List Slot} {F0 F H : Hp} {ds : List PyData} {i : Nat} {v : V} {H2 : Hp} {d : PyData} (wk : WalkD K J F0 ds) (e0 : Ex F0 F) (o : Own K F σ H env) (hi : ds[i]? = some d) (hy : J.yld i H v H2) :
    ∃ F', Rn K σ env F H σ env F' H2 ∧ Dq K F' v d ∧ ∀ a w, H a = some w → H2 a = some w := by
  have hl : i < ds.length := by
    obtain ⟨h, _⟩ := List.getElem?_eq_some_iff.mp hi
    exact h
  obtain ⟨Fc, d', g1, g2, g3, g4, g5, g6⟩ := wk.yields i H v H2 F hl e0 o.ex hy
  rw [hi] at g1
  cases g1
  exact ⟨Fc, ⟨g2, fun a w z => by
      rcases g4 a w z with z | z
      · exact .inl z
      · exact .inr (.inr z), fun a w z _ => g5 a w z, fun a w z => ⟨w, g5 a w z⟩, fun a z => .inl z, o.carry g2 g3 g4 g5⟩, g6, g5⟩
theorem ef_lc2 {xs : List α} {zss : List (List PyData)} (envC : List Slot) (hi : EI K wi env (xs.map enc) env1) (h0 : Le (wipeE env1 vs) envC) (hu : allU envC vs = true) (hv : ∀ i ∈ vs1, i ∈ vs) (hz : zss.length = xs.length) (hlim : zss.flatten.length ≤ LIM)
    (hb : ∀ (i : Nat) (x : α) (ys : List PyData), xs[i]? = some x → zss[i]? = some ys → Inner2 K g wi1 g1 te vs vs1 envC (enc x) ys) : EF K (tLc2 wi g tYes wi1 g1 tYes te vs vs1) env zss.flatten (mrg env1 envC) := fun F σ H o Q k => by
  refine hi F σ H o _ fun F1 J H1 r1 wk D hD => ?_
  have o1 := r1.own
  have ow0 := o1.wipe vs
  have fD : F1 D = none := o1.fresh hD
  have nD : ¬ ow σ env1 D := o1.not_ow hD
  -- what stands after i turns
  refine ⟨fun i m H' => m = xs.length - i ∧ i ≤ xs.length ∧ ∃ F' acc, Rn K (L2.wipe σ vs) (wipeE env1 vs) F1 H1 (L2.wipe σ vs) envC F' H' ∧ H' D = some (.lst acc) ∧ F' D = none ∧ DqAll K F' acc (zss.take i).flatten ∧ ¬ ow (L2.wipe σ vs) envC D,
    ⟨xs.length, by simp, Nat.zero_le _, F1, [], (Rn.mut ow0 hD (.lst [])).le h0, upd_same, fD, .nil, fun z => nD (ow_wipe (ow_le h0 z))⟩, ?_⟩
  rintro i m H' ⟨rfl, hi, F', acc, r, hacc, hF, hda, hno⟩
  by_cases hlt : i < xs.length
  · right
    have hx : xs[i]? = some xs[i] := List.getElem?_eq_getElem hlt
    have hzi : i < zss.length := by omega
    have hys : zss[i]? = some zss[i] := List.getElem?_eq_getElem hzi
    have hxe : (xs.map enc)[i]? = some (enc xs[i]) := by rw [List.getElem?_map, hx]; rfl
    have etk : (zss.take (i + 1)).flatten = (zss.take i).flatten ++ zss[i] := by
      rw [List.take_add_one, hys, List.flatten_append]
      simp
    obtain ⟨env2, js, hg, hjs, inner, env3, envI, hi1, l3, hu1, lI, hil, hin⟩ := hb i xs[i] zss[i] hx hys
    refine ⟨wk.goes i H' (by rw [List.length_map]; exact hlt) (fun a o z => r.own.ex a o (r.exF a o z)), fun H2 => ∃ F' acc, Rn K (L2.wipe σ vs) (wipeE env1 vs) F1 H1 (L2.wipe σ vs) envC F' H2 ∧ H2 D = some (.lst acc) ∧ F' D = none ∧ DqAll K F' acc (zss.take (i + 1)).flatten ∧ ¬ ow (L2.wipe σ vs) envC D, fun H2 hN => ⟨xs.length - (i + 1), by omega, rfl, hlt, hN⟩, fun v H2 hy => ?_⟩
    obtain ⟨Fc, r2, dv, g5⟩ := yield_rn wk r.exF r.own hxe hy
    have hD2 : H2 D = some (.lst acc) := g5 _ _ hacc
    have k2 := keep_none r2 hF hno hacc
    refine hg Fc (L2.wipe σ vs) H2 v r2.own dv _ fun σ3 r3 hσ => ?_
    have k3 := keep_none r3 k2.1 k2.2 hD2
    have hw : L2.wipe σ3 vs = L2.wipe σ vs := by
      rw [← wipe_wipe σ vs]
      exact wipe_ext hσ.2 fun j hj => hσ.1 j fun z => hj (hjs j z)
    refine ⟨hw, ?_⟩
    show wi1 σ3 H2 _
    refine hi1 Fc σ3 H2 r3.own _ fun F4 J1 H4 r5 wk1 => ?_
    have hD4 : H4 D = some (.lst acc) := r5.keep _ _ hD2 k3.2
    have k4 := keep_none r5 k3.1 k3.2 hD2
    have r6 := ((r.trans r2).trans r3).trans r5
    have lw1 : ∀ i : Nat, i ∉ vs1 → σ3[i]? = (L2.wipe σ3 vs1)[i]? := fun j hj => (wipe_out hj).symm
    have r7 := r6.unset l3 lw1 (wipe_length σ3 vs1).symm hu1
    have n7 : ¬ ow (L2.wipe σ3 vs1) envI D := fun z => k4.2 (ow_unset l3 lw1 hu1 z)
    have em : Ex F' F4 := (r2.exF.trans r3.exF).trans r5.exF
    -- the inner turns
    refine ⟨fun j k H' => k = inner.length - j ∧ j ≤ inner.length ∧ ∃ F' acc, Rn K (L2.wipe σ vs) (wipeE env1 vs) F1 H1 (L2.wipe σ3 vs1) envI F' H' ∧ Ex F4 F' ∧ H' D = some (.lst acc) ∧ F' D = none ∧ DqAll K F' acc ((zss.take i).flatten ++ (zss[i]).take j) ∧ ¬ ow (L2.wipe σ3 vs1) envI D,
      ⟨inner.length, by simp, Nat.zero_le _, F4, acc, r7, Evl.Ex.refl _, hD4, k4.1, by rw [List.take_zero, List.append_nil]; exact hda.up em, n7⟩, ?_⟩
    rintro j kk H5 ⟨rfl, hj, F5, acc5, r8, e8, hacc5, hF5, hda5, hno5⟩
    by_cases hjt : j < inner.length
    · right
      have hdj : inner[j]? = some inner[j] := List.getElem?_eq_getElem hjt
      have hyj : j < (zss[i]).length := by omega
      have hyv : (zss[i])[j]? = some (zss[i])[j] := List.getElem?_eq_getElem hyj
      obtain ⟨env4, js1, env5, hg1, hjs1, hev, l5⟩ := hin j _ _ hdj hyv
      refine ⟨wk1.goes j H5 hjt (fun a o z => r8.own.ex a o (e8 a o z)), fun H6 => ∃ F' acc, Rn K (L2.wipe σ vs) (wipeE env1 vs) F1 H1 (L2.wipe σ3 vs1) envI F' H6 ∧ Ex F4 F' ∧ H6 D = some (.lst acc) ∧ F' D = none ∧ DqAll K F' acc ((zss.take i).flatten ++ (zss[i]).take (j + 1)) ∧ ¬ ow (L2.wipe σ3 vs1) envI D, fun H6 hN => ⟨inner.length - (j + 1), by omega, rfl, hjt, hN⟩, fun v6 H6 hy6 => ?_⟩
      obtain ⟨F6, r9, dv6, g6⟩ := yield_rn wk1 e8 r8.own hdj hy6
      have hD6 : H6 D = some (.lst acc5) := g6 _ _ hacc5
      have k6 := keep_none r9 hF5 hno5 hacc5
      refine hg1 F6 (L2.wipe σ3 vs1) H6 v6 r9.own dv6 _ fun σ7 r10 hσ7 => ?_
      have k7 := keep_none r10 k6.1 k6.2 hD6
      have hw7 : L2.wipe σ7 vs1 = L2.wipe σ3 vs1 := by
        rw [← wipe_wipe σ3 vs1]
        exact wipe_ext hσ7.2 fun j hj => hσ7.1 j fun z => hj (hjs1 j z)
      refine ⟨hw7, ?_⟩
      show te σ7 H6 _
      refine hev F6 σ7 H6 r10.own _ fun F8 v8 H8 r11 dv8 => ?_
      have hD8 : H8 D = some (.lst acc5) := r11.keep _ _ hD6 k7.2
      have k8 := keep_none r11 k7.1 k7.2 hD6
      have r12 := ((r8.trans r9).trans r10).trans r11
      have r13 : Rn K (L2.wipe σ vs) (wipeE env1 vs) F1 H1 σ7 env5 F8 (upd H8 D (.lst (acc5 ++ [v8]))) := ⟨r12.exF, r12.new, fun a o h n => by
        have ne : a ≠ D := ne_of_none h hD
        rw [upd_ne ne]
        exact r12.keep a o h n, fun a o h => by
        have ne : a ≠ D := ne_of_none h hD
        rw [upd_ne ne]
        exact r12.dom a o h, r12.ows, r12.own.other k8.1 k8.2⟩
      have lw7 : ∀ i : Nat, i ∉ vs1 → σ7[i]? = (L2.wipe σ3 vs1)[i]? := fun j hj => hσ7.1 j fun z => hj (hjs1 j z)
      have r14 := r13.unset l5 lw7 hσ7.2 hu1
      have e68 : Ex F5 F8 := (r9.exF.trans r10.exF).trans r11.exF
      refine ⟨acc5, hD8, ?_, F8, acc5 ++ [v8], r14, e8.trans e68, upd_same, k8.1, ?_, fun z => k8.2 (ow_unset l5 lw7 hu1 z)⟩
      · rw [hda5.length, List.length_append, List.length_take]
        have hp : ((zss.take i).flatten ++ zss[i]).length ≤ zss.flatten.length := by
          rw [← etk]
          conv => rhs; rw [← List.take_append_drop (i + 1) zss, List.flatten_append, List.length_append]
          omega
        rw [List.length_append] at hp
        refine lim_lt ?_
        omega
      · rw [List.take_add_one, hyv, ← List.append_assoc]
        exact (hda5.up e68).app (.one dv8)
    · left
      have e : j = inner.length := by omega
      subst e
      refine ⟨wk1.stops H5 (fun a o z => r8.own.ex a o (e8 a o z)), F5, acc5, ?_, hacc5, hF5, ?_, ?_⟩
      · refine r8.unset lI (fun j hj => ?_) (by rw [wipe_length]; exact hσ.2) hu
        rw [wipe_out (fun z => hj (hv j z))]
        exact hσ.1 j fun z => hj (hjs j z)
      · rw [etk]
        rw [hil, List.take_length] at hda5
        exact hda5
      · intro z
        exact hno5 (ow_unset lI (fun j hj => by
          rw [wipe_out (fun z => hj (hv j z))]
          exact hσ.1 j fun z => hj (hjs j z)) hu z)
  · left
    have e : i = xs.length := by omega
    subst e
    rw [← hz, List.take_length] at hda
    have rm := Rn.merge o1 r
    refine ⟨?_, k F' D acc H' (r1.trans rm) hF (back_none r1 hD) hacc (by rw [hda.length]; exact hlim) hda fun z => ?_⟩
    · have := wk.stops H' (fun a o z => r.own.ex a o (r.exF a o z))
      rw [List.length_map] at this
      exact this
    · rcases rm.ows D z with y | y
      · exact nD y
      · rw [hD] at y
        obtain ⟨j, q, ds, h1, h2⟩ := z
        rcases mrg_get (by have a1 := o1.len; have a2 := r.own.len; rw [wipe_length] at a2; omega) h1 with z | ⟨z, n⟩ | ⟨q', ds', q0, d0, z1, z2, z3⟩
        · cases z
        · exact (n _ _ rfl).elim
        · exact nD ⟨j, q0, d0, z2, h2⟩
end
end Gw
namespace Gw
open PySem PySem.Spec PyProof.Rows L2 RZ
open Gw.Enc (enc)
/-! lists of four parts, lists unpacked -/
structure L4' (α β γ δ : Type) where
  a : α
  b : β
  c : γ
  d : δ
  deriving DecidableEq
instance {α β γ δ : Type} [Enc α] [Enc β] [Enc γ] [Enc δ] : Enc (L4' α β γ δ) := ⟨fun p => .list [enc p.a, enc p.b, enc p.c, enc p.d]⟩
section
variable {K : FR} {env env1 env2 env3 env4 : List Slot} {te ta tb tc td : TE} {α β γ δ : Type} [Enc α] [Enc β] [Enc γ] [Enc δ] {ds : List PyData}
instance : EncSome (L4' α β γ δ) := ⟨fun _ h => by cases h⟩
theorem ef_l4 {p : α} {r : β} {s : γ} {z : δ} (h1 : EV K ta env (enc p) env1) (h2 : EV K tb env1 (enc r) env2) (h3 : EV K tc env2 (enc s) env3) (h4 : EV K td env3 (enc z) env4) : EV K (tLst (tCons ta (tCons tb (tCons tc (tCons td tNil))))) env (enc (L4'.mk p r s z)) env4 :=
  (ef_lst (ed_c h1 (ed_c h2 (ed_c h3 (ed_1 h4)))) (by show 4 ≤ LIM; decide)).ev
theorem ev_n1 {p : L4' α β γ δ} (h : EV K te env (enc p) env1) : EV K (tOp (rIxL K) te (tC (.int 0))) env (enc p.a) env1 := ev_ixL (ds := [enc p.a, enc p.b, enc p.c, enc p.d]) h ev_i rfl
theorem ev_n2 {p : L4' α β γ δ} (h : EV K te env (enc p) env1) : EV K (tOp (rIxL K) te (tC (.int 1))) env (enc p.b) env1 := ev_ixL (ds := [enc p.a, enc p.b, enc p.c, enc p.d]) h ev_i rfl
theorem ev_n3 {p : L4' α β γ δ} (h : EV K te env (enc p) env1) : EV K (tOp (rIxL K) te (tC (.int 2))) env (enc p.c) env1 := ev_ixL (ds := [enc p.a, enc p.b, enc p.c, enc p.d]) h ev_i rfl
theorem ev_n4 {p : L4' α β γ δ} (h : EV K te env (enc p) env1) : EV K (tOp (rIxL K) te (tC (.int 3))) env (enc p.d) env1 := ev_ixL (ds := [enc p.a, enc p.b, enc p.c, enc p.d]) h ev_i rfl
theorem eg_l {gs : TGs} {js : List Nat} {n : Nat} (h : EGs K gs env ds env1 js) (hn : ds.length = n := by rfl) : EG K (gLst K n gs) env (.list ds) env1 js := fun F σ H v o dv Q k => by
  cases dv with
  | lst hs hl hd => exact ⟨_, _, rfl, .inl (.inl (o.ex _ _ hs)), by rw [hd.length]; exact hn, h F σ H _ o hd Q k⟩
theorem eg_q2 {g : TGs} {js : List Nat} {p : L2' α β} (h : EGs K g env [enc p.a, enc p.b] env1 js) : EG K (gLst K 2 g) env (enc p) env1 js := eg_l h
theorem eg_q3 {g : TGs} {js : List Nat} {p : L3' α β γ} (h : EGs K g env [enc p.a, enc p.b, enc p.c] env1 js) : EG K (gLst K 3 g) env (enc p) env1 js := eg_l h
theorem eg_q4 {g : TGs} {js : List Nat} {p : L4' α β γ δ} (h : EGs K g env [enc p.a, enc p.b, enc p.c, enc p.d] env1 js) : EG K (gLst K 4 g) env (enc p) env1 js := eg_l h
theorem bv_par1 {P : Po} {tr : TA} {d e : PyData} {i j : Nat} (h : ED K tr env [d, e] env1) (k : P.nx ((env1.set i (.d d)).set j (.d e))) : BV K (tPar i j tr) env P := fun F σ H o D E =>
  h F σ H o _ fun F1 vs H1 r1 dvs => by
    cases dvs with
    | cons a b =>
      cases b with
      | cons b c =>
        cases c
        have r2 := Rn.set (i := i) r1.own a
        exact ⟨_, _, rfl, E.nx _ F1 _ H1 k ((r1.trans r2).trans (Rn.set (i := j) r2.own b))⟩
theorem bv_par {P : Po} {tr : TA} {d e : PyData} {i j : Nat} {tz : TS} (h : ED K tr env [d, e] env1) (k : BV K tz ((env1.set i (.d d)).set j (.d e)) P) : BV K (tSeq (tPar i j tr) tz) env P := bv_seq (M := fun z => z = (env1.set i (.d d)).set j (.d e)) (bv_par1 h rfl) fun _ e => e ▸ k
theorem bv_parr1 {P : Po} {tr : TA} {d e f : PyData} {i j l : Nat} (h : ED K tr env [d, e, f] env1) (k : P.nx (((env1.set i (.d d)).set j (.d e)).set l (.d f))) : BV K (tPar3 i j l tr) env P := fun F σ H o D E =>
  h F σ H o _ fun F1 vs H1 r1 dvs => by
    cases dvs with
    | cons a b =>
      cases b with
      | cons b c =>
        cases c with
        | cons c z =>
          cases z
          have r2 := Rn.set (i := i) r1.own a
          have r3 := Rn.set (i := j) r2.own b
          exact ⟨_, _, _, rfl, E.nx _ F1 _ H1 k (((r1.trans r2).trans r3).trans (Rn.set (i := l) r3.own c))⟩
theorem bv_parr {P : Po} {tr : TA} {d e f : PyData} {i j l : Nat} {tz : TS} (h : ED K tr env [d, e, f] env1) (k : BV K tz (((env1.set i (.d d)).set j (.d e)).set l (.d f)) P) : BV K (tSeq (tPar3 i j l tr) tz) env P := bv_seq (M := fun z => z = ((env1.set i (.d d)).set j (.d e)).set l (.d f)) (bv_parr1 h rfl) fun _ e => e ▸ k
end
end Gw

-- GwK
/-! GwK: the rules with the written part by name (for blocks) -/
namespace Gw
open PySem PySem.Spec PyProof.Rows L2 RZ
open Gw.Enc (enc)
theorem k_ix_list {X : Cx} {K : FR} (h : X.K = K := by rfl) : IxR X (rIxL K) := by subst h; exact ix_list
theorem k_ix_tup {X : Cx} {K : FR} (h : X.K = K := by rfl) : IxR X (rIxT K) := by subst h; exact ix_tup
theorem k_ix_seq {X : Cx} {K : FR} (h : X.K = K := by rfl) : IxR X (rIx K) := by subst h; exact ix_seq
theorem k_sl_tupA {X : Cx} {K : FR} (h : X.K = K := by rfl) : SlR X (rSlA K) := by subst h; exact sl_tupA
theorem k_sl_list {X : Cx} {K : FR} (h : X.K = K := by rfl) : SlR X (rSlL K) := by subst h; exact sl_list
theorem k_op_catA {X : Cx} {K : FR} (h : X.K = K := by rfl) : OpR X (binaryOp .Add) (rCatA K) := by subst h; exact op_catA
theorem k_op_repA {X : Cx} {K : FR} (h : X.K = K := by rfl) : OpR X (binaryOp .Mult) (rRepA K) := by subst h; exact op_repA
theorem k_op_in_seq {X : Cx} {K : FR} (h : X.K = K := by rfl) : OpR X (compareOp .In) (rIn K false) := by subst h; exact op_in_seq
theorem k_op_notIn_seq {X : Cx} {K : FR} (h : X.K = K := by rfl) : OpR X (compareOp .NotIn) (rIn K true) := by subst h; exact op_notIn_seq
theorem k_cr_lenS {X : Cx} {K : FR} (h : X.K = K := by rfl) : CallR X (.builtin "len") (rLenS K) := by subst h; exact cr_lenS
theorem k_cr_tupS {X : Cx} {K : FR} (h : X.K = K := by rfl) : CallR X (.type "tuple") (rTupS K) := by subst h; exact cr_tupS
theorem k_cr_lstS {X : Cx} {K : FR} (h : X.K = K := by rfl) : CallR X (.type "list") (rLstS K) := by subst h; exact cr_lstS
theorem k_call_isi {X : Cx} {K : FR} (h : X.K = K := by rfl) : CallR X (.builtin "isinstance") (rIsi K) := by subst h; exact call_isi
theorem k_call_isiT {X : Cx} {K : FR} (h : X.K = K := by rfl) : CallR X (.builtin "isinstance") (rIsiT K) := by subst h; exact call_isiT
theorem k_cr_sum {X : Cx} {K : FR} (hc : X.calm = true := by rfl) (h : X.K = K := by rfl) : CallR X (.builtin "sum") (rSum K) := by subst h; exact cr_sum hc
theorem k_cr_all {X : Cx} {K : FR} (hc : X.calm = true := by rfl) (h : X.K = K := by rfl) : CallR X (.builtin "all") (rAll K) := by subst h; exact cr_all hc
theorem k_cr_any {X : Cx} {K : FR} (hc : X.calm = true := by rfl) (h : X.K = K := by rfl) : CallR X (.builtin "any") (rAny K) := by subst h; exact cr_any hc
theorem k_op_eqD {X : Cx} {K : FR} (hu : X.A.units + 64 < cLine) (h : X.K = K := by rfl) : OpR X (compareOp .Eq) (rEqD K) := by subst h; exact op_eqD hu
theorem k_op_neD {X : Cx} {K : FR} (hu : X.A.units + 64 < cLine) (h : X.K = K := by rfl) : OpR X (compareOp .NotEq) (rNeD K) := by subst h; exact op_neD hu
theorem k_pi_list {X : Cx} {K : FR} {tg l : Expr} {tl : TE} (hl : PE X l tl) (h : X.K = K := by rfl) : PI X tg l (iList K tl) := by subst h; exact pi_list hl
theorem k_pi_tup {X : Cx} {K : FR} {tg l : Expr} {tl : TE} (hl : PE X l tl) (h : X.K = K := by rfl) : PI X tg l (iTup K tl) := by subst h; exact pi_tup hl
theorem k_pi_enum {X : Cx} {K : FR} {e : Expr} {ta : TA} {p pos tpos : Pos} {elts : List Expr} {kk : Nat} (hg : Gl X "enumerate") (hm : X.mg "enumerate" = none) (ha : PA X [e] ta) (hs : starEach [e] X.env = [(false, eval e X.env)] := by rfl) (h : X.K = K := by rfl) : PI X (.Tuple elts kk tpos) (.Call (.Name "enumerate" p) [e] [] pos) (iEnum K ta) := by subst h; exact pi_enum hg hm ha hs
theorem k_pi_zipA {X : Cx} {K : FR} {e e2 : Expr} {ta : TA} {p pos tpos : Pos} {elts : List Expr} {kk : Nat} (hg : Gl X "zip") (hm : X.mg "zip" = none) (ha : PA X [e, e2] ta) (hs : starEach [e, e2] X.env = (false, eval e X.env) :: starEach [e2] X.env := by rfl) (hpl : (backTo pos (starEach [e2] X.env)).any (·.1) = false := by rfl) (h : X.K = K := by rfl) : PI X (.Tuple elts kk tpos) (.Call (.Name "zip" p) [e, e2] [] pos) (iZipA K ta) := by subst h; exact pi_zipA hg hm ha hs hpl
theorem k_pg_tup {X : Cx} {K : FR} {pos : Pos} {es : List Expr} {k : Nat} {t : TGs} {n : Nat} (hc : X.calm = true) (hp : PGs X es t) (hn : (assignEach es X.env).length = n := by rfl) (hst : (assignEach es X.env).findIdx? (·.1) = none := by rfl) (h : X.K = K := by rfl) : PG X (.Tuple es k pos) (gTup K n t) := by subst h; exact pg_tup hc hp hn hst
theorem k_pg_lst {X : Cx} {K : FR} {pos : Pos} {es : List Expr} {k : Nat} {t : TGs} {n : Nat} (hc : X.calm = true) (hp : PGs X es t) (hn : (assignEach es X.env).length = n := by rfl) (hst : (assignEach es X.env).findIdx? (·.1) = none := by rfl) (h : X.K = K := by rfl) : PG X (.Tuple es k pos) (gLst K n t) := by subst h; exact pg_lst hc hp hn hst
theorem k_cr_sortedD {X : Cx} {K : FR} (hu : X.A.units + 64 < cLine) (h : X.K = K := by rfl) : CallR X (.builtin "sorted") (rSortD K) := by subst h; exact cr_sortedD hu
theorem k_cr_minD {X : Cx} {K : FR} (hu : X.A.units + 64 < cLine) (hc : X.calm = true := by rfl) (h : X.K = K := by rfl) : CallR X (.builtin "min") (rMinD K) := by subst h; exact cr_minD hc hu
theorem k_cr_maxD {X : Cx} {K : FR} (hu : X.A.units + 64 < cLine) (hc : X.calm = true := by rfl) (h : X.K = K := by rfl) : CallR X (.builtin "max") (rMaxD K) := by subst h; exact cr_maxD hc hu
theorem k_pi_comb {X : Cx} {K : FR} {tg a b : Expr} {ta : TA} {x : Str} {p pos : Pos} (hg : Gl X x) (hm : X.mg x = some (.type "itertools.combinations")) (ha : PA X [a, b] ta) (hc : X.calm = true := by rfl) (hdb : (x == ("__debug__" : Str)) = false := by decide) (he : starEach [a, b] X.env = (false, eval a X.env) :: starEach [b] X.env := by rfl) (hpl : (backTo pos (starEach [b] X.env)).any (·.1) = false := by rfl) (h : X.K = K := by rfl) : PI X tg (.Call (.Name x p) [a, b] [] pos) (iComb K ta) := by subst h; exact pi_comb hc hg hm ha hdb he hpl
end Gw

-- GwZ
/-! GwZ: the head's part: what the top has written. -/
namespace Gw
open PySem PySem.Spec PyProof.Rows L2 RZ
open Gw.Enc (enc)
def DefIn (K : FR) (x : Str) (st : Stmt) : Prop := ∃ (f : Addr) (od an : Option Addr) (sl : Array (Option Value)) (oc kV dc pm cd ct : Value),
  PySem.W.nsIn K mainGlobals x = some (some (.ref f)) ∧ K.lookup f = some ⟨oc, od, .func (PySem.W.fnOf x x (defArgs st) (defBody st) (defScope st) .none kV dc pm an cd ct), sl⟩ ∧ PySem.W.codeIn K cd x = true ∧ PySem.W.keepIn K (.ref f) = true
theorem DefIn.of {K : FR} {x : Str} {st : Stmt} {f : Addr} {od an : Option Addr} {sl : Array (Option Value)} {oc kV dc pm cd ct : Value}
    (a : PySem.W.nsIn K mainGlobals x = some (some (.ref f))) (l : K.lookup f = some ⟨oc, od, .func (PySem.W.fnOf x x (defArgs st) (defBody st) (defScope st) .none kV dc pm an cd ct), sl⟩) (c : PySem.W.codeIn K cd x = true) (k : PySem.W.keepIn K (.ref f) = true) : DefIn K x st :=
  ⟨f, od, an, sl, oc, kV, dc, pm, cd, ct, a, l, c, k⟩
theorem DefIn.get {K : FR} {h : Heap} {mg : Str → Option Value} {x : Str} {st : Stmt} (X : K.In h) (G : h.Ns mainGlobals mg) (d : DefIn K x st) :
    ∃ (f : Addr) (an : Option Addr) (kV dc pm cd ct : Value), Fun K x x st f (PySem.W.fnOf x x (defArgs st) (defBody st) (defScope st) .none kV dc pm an cd ct) ∧ mg x = some (.ref f) := by
  obtain ⟨f, od, an, sl, oc, kV, dc, pm, cd, ct, a, l, c, k⟩ := d
  exact ⟨f, an, kV, dc, pm, cd, ct, fun_mk l c k, PySem.W.mg_of X G a⟩
theorem own_script {K : FR} {H : Hp} {a : Addr} {ns : List Int} (h : SqL K H a (ns.map V.int)) : Own K H [some (.ref a)] H [.s ns] where
  len := rfl
  ex := Evl.Ex.refl _
  dat := fun i x e => by
    cases i with
    | zero => cases e
    | succ i => simp at e
  scr := fun i ms e => by
    cases i with
    | zero => cases e; exact ⟨a, rfl, h⟩
    | succ i => simp at e
  rng := fun i lo hi e => by
    cases i with
    | zero => cases e
    | succ i => simp at e
  lst := fun i q ds e => by
    cases i with
    | zero => cases e
    | succ i => simp at e
  inj := fun i j q q' ds es p e => by
    cases i with
    | zero => cases e
    | succ i => simp at e
theorem law_sp {K : FR} {H : Hp} {a : Addr} {ns : List Int} {rel : Rel} (h : SqL K H a (ns.map V.int)) (hr : rel [.s ns] (.d (.bool true)) [.u]) : spG K 1 rel [.ref a] H (fun v _ => v = .bl true) fun _ _ _ => False :=
  ⟨H, [.s ns], .d (.bool true), [.u], own_script h, rfl, hr, fun F' v H' rn rv => by
    have rv' : Dq K F' v (.bool true) := rv
    cases rv'
    rfl⟩
end Gw

-- GwL
/-! GwL: plain lemmas on the mirrors' words; the draws. -/
namespace Gw
open PySem L2
open Gw.Enc (enc)
section
variable {S T α β R : Type}
theorem gd_of {b : Bool} (h : b = true) : gd b = some () := by subst h; rfl
theorem gd_p {p : Prop} [Decidable p] (h : p) : gd (decide p) = some () := gd_of (decide_eq_true h)
theorem bs {o : Option α} {f : α → Option β} {a : α} (h : o = some a) : o.bind f = f a := by subst h; rfl
theorem gdb {b : Bool} {f : Unit → Option β} (h : b = true) : (gd b).bind f = f () := bs (gd_of h)
theorem gdp {p : Prop} [Decidable p] {f : Unit → Option β} (h : p) : (gd (decide p)).bind f = f () := bs (gd_p h)
theorem thenF_nx {o : Option (Ctl S R)} {k : S → Option R} {s : S} (h : o = some (.nx s)) : thenF o k = k s := by subst h; rfl
theorem thenF_rt {o : Option (Ctl S R)} {k : S → Option R} {r : R} (h : o = some (.rt r)) : thenF o k = some r := by subst h; rfl
theorem thenC_nx {o : Option (Ctl S R)} {k : S → Option (Ctl T R)} {s : S} (h : o = some (.nx s)) : thenC o k = k s := by subst h; rfl
theorem thenC_rt {o : Option (Ctl S R)} {k : S → Option (Ctl T R)} {r : R} (h : o = some (.rt r)) : thenC o k = some (.rt r) := by subst h; rfl
theorem loop_nx {f : S → α → Option (Ctl S R)} {x : α} {xs : List α} {s s' : S} (h : f s x = some (.nx s')) : loop f (x :: xs) s = loop f xs s' := by
  rw [loop, h]
  rfl
theorem loop_rt {f : S → α → Option (Ctl S R)} {x : α} {xs : List α} {s : S} {r : R} (h : f s x = some (.rt r)) : loop f (x :: xs) s = some (.rt r) := by
  rw [loop, h]
  rfl
theorem loop_inv {f : S → α → Option (Ctl S R)} (I : S → Prop) : ∀ (xs : List α) (s : S), (∀ s x, x ∈ xs → I s → ∃ s', f s x = some (.nx s') ∧ I s') → I s → ∃ s', loop f xs s = some (.nx s') ∧ I s'
  | [], s, _, i => ⟨s, rfl, i⟩
  | x :: xs, s, h, i => by
    obtain ⟨s1, e, i1⟩ := h s x List.mem_cons_self i
    obtain ⟨s2, e2, i2⟩ := loop_inv I xs s1 (fun s y hy => h s y (List.mem_cons_of_mem _ hy)) i1
    refine ⟨s2, ?_, i2⟩
    unfold loop
    rw [e]
    exact e2
theorem fold_inv {f : S → α → Option S} (I : S → Prop) : ∀ (xs : List α) (s : S), (∀ s x, x ∈ xs → I s → ∃ s', f s x = some s' ∧ I s') → I s → ∃ s', fold f xs s = some s' ∧ I s'
  | [], s, _, i => ⟨s, rfl, i⟩
  | x :: xs, s, h, i => by
    obtain ⟨s1, e, i1⟩ := h s x List.mem_cons_self i
    obtain ⟨s2, e2, i2⟩ := fold_inv I xs s1 (fun s y hy => h s y (List.mem_cons_of_mem _ hy)) i1
    refine ⟨s2, ?_, i2⟩
    unfold fold
    rw [e]
    exact e2
theorem fold_idx {f : S → α → Option S} (I : Nat → S → Prop) : ∀ (xs : List α) (k : Nat) (s : S), (∀ j s x, k ≤ j → j < k + xs.length → x ∈ xs → xs[j - k]? = some x → I j s → ∃ s', f s x = some s' ∧ I (j + 1) s') → I k s → ∃ s', fold f xs s = some s' ∧ I (k + xs.length) s'
  | [], k, s, _, i => ⟨s, rfl, i⟩
  | x :: xs, k, s, h, i => by
    obtain ⟨s1, e, i1⟩ := h k s x (Nat.le_refl _) (by simp) List.mem_cons_self (by simp) i
    obtain ⟨s2, e2, i2⟩ := fold_idx I xs (k + 1) s1 (fun j s y h1 h2 hy hj => h j s y (by omega) (by simp; omega) (List.mem_cons_of_mem _ hy) (by
      have : j - k = (j - (k + 1)) + 1 := by omega
      rw [this, List.getElem?_cons_succ]
      exact hj)) i1
    refine ⟨s2, ?_, by rw [List.length_cons, show k + (xs.length + 1) = k + 1 + xs.length by omega]; exact i2⟩
    unfold fold
    rw [e]
    exact e2
theorem fold_some {f : S → α → Option S} {g : S → α → S} : ∀ (xs : List α) (s : S), (∀ s x, x ∈ xs → f s x = some (g s x)) → fold f xs s = some (xs.foldl g s)
  | [], s, _ => rfl
  | x :: xs, s, h => by
    unfold fold
    rw [h s x List.mem_cons_self]
    exact fold_some xs _ fun s y hy => h s y (List.mem_cons_of_mem _ hy)
theorem fold_congr {f g : S → α → Option S} : ∀ (xs : List α) (s : S), (∀ s x, x ∈ xs → f s x = g s x) → fold f xs s = fold g xs s
  | [], s, _ => rfl
  | x :: xs, s, h => by
    unfold fold
    rw [h s x List.mem_cons_self]
    congr 1
    funext s'
    exact fold_congr xs s' fun s y hy => h s y (List.mem_cons_of_mem _ hy)
theorem fold_app {f : S → α → Option S} : ∀ (xs ys : List α) (s : S), fold f (xs ++ ys) s = (fold f xs s).bind (fold f ys)
  | [], ys, s => rfl
  | x :: xs, ys, s => by
    show (f s x).bind (fun s' => fold f (xs ++ ys) s') = ((f s x).bind fun s' => fold f xs s').bind _
    cases f s x with
    | none => rfl
    | some s' => exact fold_app xs ys s'
theorem loop_congr {f g : S → α → Option (Ctl S R)} : ∀ (xs : List α) (s : S), (∀ s x, x ∈ xs → f s x = g s x) → loop f xs s = loop g xs s
  | [], s, _ => rfl
  | x :: xs, s, h => by
    unfold loop
    rw [h s x List.mem_cons_self]
    congr 1
    funext c
    cases c with
    | nx s' => exact loop_congr xs s' fun s y hy => h s y (List.mem_cons_of_mem _ hy)
    | rt r => rfl
    | bk s' => rfl
theorem mapO_some {f : α → Option β} {g : α → β} : ∀ xs : List α, (∀ x ∈ xs, f x = some (g x)) → mapO f xs = some (xs.map g)
  | [], _ => rfl
  | x :: xs, h => by
    unfold mapO
    rw [h x List.mem_cons_self, mapO_some xs fun y hy => h y (List.mem_cons_of_mem _ hy)]
    rfl
theorem mapO_ex {f : α → Option β} (P : α → β → Prop) : ∀ xs : List α, (∀ x ∈ xs, ∃ y, f x = some y ∧ P x y) → ∃ ys, mapO f xs = some ys ∧ ys.length = xs.length ∧ ∀ (i : Nat) (x : α), xs[i]? = some x → ∃ y, ys[i]? = some y ∧ P x y
  | [], _ => ⟨[], rfl, rfl, fun i x h => by cases h⟩
  | x :: xs, h => by
    obtain ⟨y, e, p⟩ := h x List.mem_cons_self
    obtain ⟨ys, e2, l, q⟩ := mapO_ex P xs fun z hz => h z (List.mem_cons_of_mem _ hz)
    refine ⟨y :: ys, ?_, by rw [List.length_cons, List.length_cons, l], fun i z hz => ?_⟩
    · unfold mapO
      rw [e, e2]
      rfl
    · cases i with
      | zero => cases hz; exact ⟨y, rfl, p⟩
      | succ i => exact q i z hz
theorem mapS_inv {f : S → α → Option (β × S)} (I : S → Prop) (P : α → β → Prop) : ∀ (xs : List α) (s : S), (∀ s x, x ∈ xs → I s → ∃ r, f s x = some r ∧ P x r.1 ∧ I r.2) → I s → ∃ r, mapS f xs s = some r ∧ r.1.length = xs.length ∧ (∀ y ∈ r.1, ∃ x ∈ xs, P x y) ∧ I r.2
  | [], s, _, i => ⟨([], s), rfl, rfl, fun y hy => (by cases hy), i⟩
  | x :: xs, s, h, i => by
    obtain ⟨r, e, p, i1⟩ := h s x List.mem_cons_self i
    obtain ⟨q, e2, l, p2, i2⟩ := mapS_inv I P xs r.2 (fun s y hy => h s y (List.mem_cons_of_mem _ hy)) i1
    refine ⟨(r.1 :: q.1, q.2), ?_, by rw [List.length_cons, List.length_cons, l], fun y hy => ?_, i2⟩
    · unfold mapS
      rw [e]
      show (mapS f xs r.2).bind _ = _
      rw [e2]
      rfl
    · rcases List.mem_cons.mp hy with z | z
      · subst z; exact ⟨x, List.mem_cons_self, p⟩
      · obtain ⟨w, hw, hp⟩ := p2 y z
        exact ⟨w, List.mem_cons_of_mem _ hw, hp⟩
theorem compS_inv {f : S → α → Option (Option β × S)} (I : S → Prop) (P : α → β → Prop) : ∀ (xs : List α) (s : S), (∀ s x, x ∈ xs → I s → ∃ r, f s x = some r ∧ (∀ y, r.1 = some y → P x y) ∧ I r.2) → I s → ∃ r, compS f xs s = some r ∧ r.1.length ≤ xs.length ∧ (∀ y ∈ r.1, ∃ x ∈ xs, P x y) ∧ I r.2
  | [], s, _, i => ⟨([], s), rfl, Nat.le_refl _, fun y hy => (by cases hy), i⟩
  | x :: xs, s, h, i => by
    obtain ⟨r, e, p, i1⟩ := h s x List.mem_cons_self i
    obtain ⟨q, e2, l, p2, i2⟩ := compS_inv I P xs r.2 (fun s y hy => h s y (List.mem_cons_of_mem _ hy)) i1
    have e3 : compS f (x :: xs) s = some (match r.1 with
      | some y => y :: q.1
      | none => q.1, q.2) := by
      show ((f s x).bind fun r => (compS f xs r.2).bind fun p => some (match r.1 with
        | some y => y :: p.1
        | none => p.1, p.2)) = _
      rw [e]
      show ((compS f xs r.2).bind fun p => some (match r.1 with
        | some y => y :: p.1
        | none => p.1, p.2)) = _
      rw [e2]
      rfl
    refine ⟨_, e3, ?_, fun y hy => ?_, i2⟩
    · cases hr : r.1 with
      | none => exact Nat.le_succ_of_le l
      | some y => exact Nat.succ_le_succ l
    · have hy' : y ∈ (match r.1 with
        | some y => y :: q.1
        | none => q.1) := hy
      cases hr : r.1 with
      | none =>
        rw [hr] at hy'
        obtain ⟨w, hw, hp⟩ := p2 y hy'
        exact ⟨w, List.mem_cons_of_mem _ hw, hp⟩
      | some z =>
        rw [hr] at hy'
        rcases List.mem_cons.mp hy' with e | e
        · subst e; exact ⟨x, List.mem_cons_self, p y hr⟩
        · obtain ⟨w, hw, hp⟩ := p2 y e
          exact ⟨w, List.mem_cons_of_mem _ hw, hp⟩
theorem rngO_ok {lo hi : Int} (h : -50000 ≤ lo ∧ lo ≤ 50000 ∧ -50000 ≤ hi ∧ hi ≤ 50000) : rngO lo hi = some (rng lo (hi - lo).toNat) := if_pos h
theorem mem_rng {lo x : Int} {n : Nat} : x ∈ rng lo n ↔ lo ≤ x ∧ x < lo + n := by
  unfold rng
  rw [List.mem_map]
  constructor
  · rintro ⟨i, hi, rfl⟩
    have := List.mem_range.mp hi
    omega
  · intro ⟨h1, h2⟩
    exact ⟨(x - lo).toNat, List.mem_range.mpr (by omega), by omega⟩
theorem rng_get {lo : Int} {n i : Nat} (h : i < n) : (rng lo n)[i]? = some (lo + i) := by
  unfold rng
  rw [List.getElem?_map, List.getElem?_range h]
  rfl
theorem ixN_ok {n : Nat} {i : Int} (h0 : 0 ≤ i) (h1 : i < n) : ixN n i = some i.toNat := by
  unfold ixN
  rw [if_pos h0, if_pos h1]
theorem atI_eq {xs : List α} {i : Int} (h0 : 0 ≤ i) (h1 : i < xs.length) : atI xs i = xs[i.toNat]? := by
  unfold atI
  rw [ixN_ok h0 h1]
  rfl
theorem atI_ok {xs : List α} {i : Int} (h0 : 0 ≤ i) (h1 : i < xs.length) : ∃ v, atI xs i = some v ∧ xs[i.toNat]? = some v ∧ v ∈ xs := by
  have hl : i.toNat < xs.length := by omega
  refine ⟨xs[i.toNat], ?_, List.getElem?_eq_getElem hl, List.getElem_mem hl⟩
  rw [atI_eq h0 h1, List.getElem?_eq_getElem hl]
theorem putO_ok {xs : List α} {i : Int} {a : α} (h0 : 0 ≤ i) (h1 : i < xs.length) : putO xs i a = some (xs.set i.toNat a) := by
  unfold putO
  rw [ixN_ok h0 h1]
  rfl
theorem mulOk_r {x y : Int} (h : y.natAbs < 2 ^ 64) : mulOk x y = true := by
  unfold mulOk
  simp [h]
theorem cut_to {xs : List α} {n : Nat} : cut xs none (some (n : Int)) = xs.take n := by
  unfold cut
  have e0 : HT.sIx xs.length 0 none = 0 := HT.sIx_none ..
  have e1 : HT.sIx xs.length xs.length (some (n : Int)) = min n xs.length := HT.sIx_nat ..
  rw [e0, e1, List.drop_zero, Nat.sub_zero]
  by_cases h : n ≤ xs.length
  · rw [Nat.min_eq_left h]
  · rw [Nat.min_eq_right (by omega), List.take_of_length_le (Nat.le_refl _), List.take_of_length_le (by omega)]
theorem cut_from {xs : List α} {n : Nat} : cut xs (some (n : Int)) none = xs.drop n := by
  unfold cut
  have e0 : HT.sIx xs.length 0 (some (n : Int)) = min n xs.length := HT.sIx_nat ..
  have e1 : HT.sIx xs.length xs.length none = xs.length := HT.sIx_none ..
  rw [e0, e1]
  by_cases h : n ≤ xs.length
  · rw [Nat.min_eq_left h, List.take_of_length_le (by rw [List.length_drop]; exact Nat.le_refl _)]
  · rw [Nat.min_eq_right (by omega), Nat.sub_self, List.take_zero, List.drop_of_length_le (by omega)]
end
/-! the draws -/
def takeO (draws : List Int) (many : Int) : Option (Int × List Int) :=
  cond (decide ((((draws).length : Int) : Int) = 0)) (some (0, draws)) (((draws).getLast?).bind fun v1 => (gd (decide (many ≠ 0))).bind fun _ => some ((Int.fmod v1 many), (draws).dropLast))
theorem take_ok (ds : List Int) {m : Int} (hm : 0 < m) : ∃ r, takeO ds m = some r ∧ 0 ≤ r.1 ∧ r.1 < m := by
  unfold takeO
  cases ds with
  | nil => exact ⟨(0, []), rfl, Int.le_refl _, hm⟩
  | cons d ds =>
    have h1 : (decide ((((d :: ds).length : Int) : Int) = 0)) = false := decide_eq_false (by rw [List.length_cons]; omega)
    rw [h1, cond_false, bs (List.getLast?_eq_some_getLast (List.cons_ne_nil d ds)), gdp (by omega)]
    exact ⟨_, rfl, Int.fmod_nonneg_of_pos _ hm, Int.fmod_lt_of_pos _ hm⟩
theorem pick_ok {α : Type} (ds : List Int) (row : List α) (h : row ≠ []) : ∃ r x, takeO ds (row.length : Int) = some r ∧ atI row r.1 = some x ∧ x ∈ row := by
  have hp : 0 < row.length := List.length_pos_iff.mpr h
  obtain ⟨r, e, h0, h1⟩ := take_ok ds (m := (row.length : Int)) (by omega)
  obtain ⟨x, e2, _, hm⟩ := atI_ok h0 h1
  exact ⟨r, x, e, e2, hm⟩
def drawsO_b1 (j5 : (List Int)) (s8 : (List Int) × (List Int)) (x9 : Int) : Option ((List Int) × (List Int)) :=
  (gd (decide (((j5).length : Int) ≠ 0))).bind fun _ => (some (Int.fmod x9 ((j5).length : Int))).bind fun v11 => (atI j5 v11).bind fun v12 => (cond (decide (((10 : Int) ^ (18 : Int).toNat) ≤ v12)) ((atI s8.1 v11).bind fun v13 => some (decide (0 < v13))) (some false)).bind fun v14 => cond v14 ((atI s8.1 v11).bind fun v15 => (gd (decide ((s8.2).length < LIM))).bind fun _ => (atI s8.1 v11).bind fun v17 => (putO s8.1 v11 (Int.fdiv v17 1000)).bind fun v18 => some (v18, (s8.2 ++ [(Int.fmod v15 1000)]))) ((atI j5 v11).bind fun v19 => (some (Int.fmod (((v19 * 48271) + (x9 * 69621)) + 11) 2147483647)).bind fun v20 => (gd (mulOk v20 v20)).bind fun _ => (gd (decide ((s8.2).length < LIM))).bind fun _ => some (s8.1, (s8.2 ++ [(Int.fmod (((v20 * v20) + (3 * v20)) + x9) 1000003)])))
def drawsO (script : List Int) (many : Int) : Option ((List Int)) :=
  (gd (decide (script.length ≤ LIM))).bind fun _ => (some (List.map (fun (x2 : Int) => (Int.fmod x2 ((1 : Int) * 2 ^ (7200 : Int).toNat))) (cut script none (some 63)))).bind fun v3 => (cond (decide ((((v3).length : Int) : Int) = 0)) ((gd (decide ((v3).length < LIM))).bind fun _ => some (v3 ++ [0])) (some v3) : Option ((List Int))).bind fun (j5 : (List Int)) => (rngO 0 many).bind fun v7 => (fold (drawsO_b1 j5) v7 (j5, ([] : List Int))).bind fun (s23 : (List Int) × (List Int)) => some ((s23.2).reverse)
theorem drawsO_core (j5 : List Int) (h0 : j5 ≠ []) (many : Int) (h1 : 0 ≤ many) (h2 : many ≤ 10000) : ∃ s, fold (drawsO_b1 j5) (rng 0 many.toNat) (j5, []) = some s := by
  have hl : 0 < j5.length := List.length_pos_iff.mpr h0
  obtain ⟨s, e, _⟩ := fold_idx (f := drawsO_b1 j5) (fun k (s : List Int × List Int) => s.1.length = j5.length ∧ s.2.length = k) (rng 0 many.toNat) 0 (j5, []) (fun k s x hk1 hk2 hx hxk i => by
    rw [rng_len] at hk2
    have hx' := mem_rng.mp hx
    have hLIM : LIM = 100000 := rfl
    have p0 := Int.fmod_nonneg_of_pos x (show (0 : Int) < j5.length by omega)
    have p1 := Int.fmod_lt_of_pos x (show (0 : Int) < j5.length by omega)
    obtain ⟨a, ea, _, _⟩ := atI_ok p0 p1
    obtain ⟨b, eb, _, _⟩ := atI_ok (xs := s.1) p0 (by rw [i.1]; exact p1)
    unfold drawsO_b1
    rw [gdp (by omega), bs rfl, bs ea]
    have hc : ∃ c : Bool, (cond (decide (((10 : Int) ^ (18 : Int).toNat) ≤ a)) ((atI s.1 (Int.fmod x j5.length)).bind fun v13 => some (decide (0 < v13))) (some false)) = some c := by
      cases decide (((10 : Int) ^ (18 : Int).toNat) ≤ a) with
      | false => exact ⟨_, rfl⟩
      | true => exact ⟨_, by rw [cond_true, bs eb]⟩
    obtain ⟨c, hc⟩ := hc
    rw [bs hc]
    cases c with
    | true =>
      rw [cond_true, bs eb, gdp (by rw [i.2]; omega), bs eb, bs (putO_ok p0 (by rw [i.1]; exact p1))]
      exact ⟨_, rfl, by rw [List.length_set]; exact i.1, by rw [List.length_append]; show s.2.length + 1 = k + 1; omega⟩
    | false =>
      have q0 := Int.fmod_nonneg_of_pos (((a * 48271) + (x * 69621)) + 11) (show (0 : Int) < 2147483647 by omega)
      have q1 := Int.fmod_lt_of_pos (((a * 48271) + (x * 69621)) + 11) (show (0 : Int) < 2147483647 by omega)
      rw [cond_false, bs ea, bs rfl, gdb (mulOk_r (by omega)), gdp (by rw [i.2]; omega)]
      exact ⟨_, rfl, i.1, by rw [List.length_append]; show s.2.length + 1 = k + 1; omega⟩) ⟨rfl, rfl⟩
  exact ⟨s, e⟩
theorem draws_ok (script : List Int) (hs : script.length ≤ 63) (many : Int) (h1 : 0 ≤ many) (h2 : many ≤ 10000) : ∃ ds, drawsO script many = some ds := by
  have hLIM : LIM = 100000 := rfl
  unfold drawsO
  rw [gdp (by omega), bs rfl]
  have hj : ∃ j5 : List Int, j5 ≠ [] ∧ (cond (decide ((((List.map (fun (x2 : Int) => (Int.fmod x2 ((1 : Int) * 2 ^ (7200 : Int).toNat))) (cut script none (some 63))).length : Int) : Int) = 0)) ((gd (decide ((List.map (fun (x2 : Int) => (Int.fmod x2 ((1 : Int) * 2 ^ (7200 : Int).toNat))) (cut script none (some 63))).length < LIM))).bind fun _ => some (List.map (fun (x2 : Int) => (Int.fmod x2 ((1 : Int) * 2 ^ (7200 : Int).toNat))) (cut script none (some 63)) ++ [0])) (some (List.map (fun (x2 : Int) => (Int.fmod x2 ((1 : Int) * 2 ^ (7200 : Int).toNat))) (cut script none (some 63)))) : Option ((List Int))) = some j5 := by
    have hl : (List.map (fun (x2 : Int) => (Int.fmod x2 ((1 : Int) * 2 ^ (7200 : Int).toNat))) (cut script none (some 63))).length ≤ 63 := by
      rw [List.length_map]
      exact Nat.le_trans (cut_len _ _ _) hs
    generalize List.map (fun (x2 : Int) => (Int.fmod x2 ((1 : Int) * 2 ^ (7200 : Int).toNat))) (cut script none (some 63)) = v at hl
    cases v with
    | nil => exact ⟨[0], List.cons_ne_nil _ _, rfl⟩
    | cons a v =>
      refine ⟨a :: v, List.cons_ne_nil _ _, ?_⟩
      have h1 : (decide ((((a :: v).length : Int) : Int) = 0)) = false := decide_eq_false (by rw [List.length_cons]; omega)
      rw [h1]
      rfl
  obtain ⟨j5, h0, ej⟩ := hj
  obtain ⟨s, es⟩ := drawsO_core j5 h0 many h1 h2
  rw [bs ej, bs (rngO_ok (by omega))]
  rw [Int.sub_zero, bs es]
  exact ⟨_, rfl⟩
end Gw
namespace Gw
open PySem L2
open Gw.Enc (enc)
/-! orders -/
class EncLin (α : Type) [Enc α] [EncOrd α] : Prop where
  irr : ∀ a : α, EncOrd.lt a a = false
  tri : ∀ a b : α, EncOrd.lt a b = false → EncOrd.lt b a = false → a = b
  tr : ∀ a b c : α, EncOrd.lt a b = true → EncOrd.lt b c = true → EncOrd.lt a c = true
instance : EncLin Int where
  irr a := decide_eq_false (Int.lt_irrefl a)
  tri a b h1 h2 := by
    have a1 := of_decide_eq_false h1
    have a2 := of_decide_eq_false h2
    omega
  tr a b c h1 h2 := by
    have a1 := of_decide_eq_true h1
    have a2 := of_decide_eq_true h2
    exact decide_eq_true (by omega)
section
variable {α β : Type} [Enc α] [DecidableEq α] [EncEq α] [EncOrd α] [EncLin α] [Enc β] [DecidableEq β] [EncEq β] [EncOrd β] [EncLin β]
theorem EncLin.ne {a b : α} (h : EncOrd.lt a b = true) : a ≠ b := fun e => by
  subst e
  rw [EncLin.irr] at h
  cases h
theorem EncLin.asym {a b : α} (h : EncOrd.lt a b = true) : EncOrd.lt b a = false := by
  cases h2 : EncOrd.lt b a with
  | false => rfl
  | true =>
    have := EncLin.tr a b a h h2
    rw [EncLin.irr] at this
    cases this
theorem rowLt_irr : ∀ a : List α, rowLt a a = false
  | [] => rfl
  | x :: xs => by rw [rowLt, if_pos rfl, rowLt_irr xs]
theorem rowLt_tri : ∀ a b : List α, rowLt a b = false → rowLt b a = false → a = b
  | [], [], _, _ => rfl
  | [], _ :: _, h, _ => by cases h
  | _ :: _, [], _, h => by cases h
  | x :: xs, y :: ys, h1, h2 => by
    rw [rowLt] at h1 h2
    by_cases c : x = y
    · subst c
      rw [if_pos rfl] at h1 h2
      rw [rowLt_tri xs ys h1 h2]
    · rw [if_neg c] at h1
      rw [if_neg (Ne.symm c)] at h2
      exact absurd (EncLin.tri x y h1 h2) c
theorem rowLt_tr : ∀ a b c : List α, rowLt a b = true → rowLt b c = true → rowLt a c = true
  | [], [], _, h, _ => by cases h
  | [], _ :: _, [], _, h => by cases h
  | [], _ :: _, _ :: _, _, _ => rfl
  | _ :: _, [], _, h, _ => by cases h
  | _ :: _, _ :: _, [], _, h => by cases h
  | x :: xs, y :: ys, z :: zs, h1, h2 => by
    rw [rowLt] at h1 h2 ⊢
    by_cases c1 : x = y
    · subst c1
      rw [if_pos rfl] at h1
      by_cases c2 : x = z
      · rw [if_pos c2] at h2 ⊢
        exact rowLt_tr xs ys zs h1 h2
      · rw [if_neg c2] at h2 ⊢
        exact h2
    · rw [if_neg c1] at h1
      by_cases c2 : y = z
      · subst c2
        rw [if_neg c1]
        exact h1
      · rw [if_neg c2] at h2
        have h3 := EncLin.tr x y z h1 h2
        rw [if_neg (EncLin.ne h3)]
        exact h3
instance : EncLin (List α) := ⟨rowLt_irr, rowLt_tri, rowLt_tr⟩
theorem pair_lt (p q : α × β) : EncOrd.lt p q = (if p.1 = q.1 then (if p.2 = q.2 then false else EncOrd.lt p.2 q.2) else EncOrd.lt p.1 q.1) := rfl
instance : EncLin (α × β) where
  irr a := by rw [pair_lt, if_pos rfl, if_pos rfl]
  tri a b h1 h2 := by
    rw [pair_lt] at h1 h2
    by_cases c : a.1 = b.1
    · rw [if_pos c] at h1
      rw [if_pos c.symm] at h2
      by_cases c2 : a.2 = b.2
      · exact Prod.ext c c2
      · rw [if_neg c2] at h1
        rw [if_neg (Ne.symm c2)] at h2
        exact absurd (EncLin.tri _ _ h1 h2) c2
    · rw [if_neg c] at h1
      rw [if_neg (Ne.symm c)] at h2
      exact absurd (EncLin.tri _ _ h1 h2) c
  tr a b c h1 h2 := by
    rw [pair_lt] at h1 h2 ⊢
    by_cases c1 : a.1 = b.1
    · rw [if_pos c1] at h1
      have k1 : EncOrd.lt a.2 b.2 = true := by
        by_cases z : a.2 = b.2
        · rw [if_pos z] at h1; cases h1
        · rw [if_neg z] at h1; exact h1
      by_cases c2 : b.1 = c.1
      · rw [if_pos c2] at h2
        have k2 : EncOrd.lt b.2 c.2 = true := by
          by_cases z : b.2 = c.2
          · rw [if_pos z] at h2; cases h2
          · rw [if_neg z] at h2; exact h2
        have k3 := EncLin.tr _ _ _ k1 k2
        rw [if_pos (c1.trans c2), if_neg (EncLin.ne k3)]
        exact k3
      · rw [if_neg c2] at h2
        rw [if_neg (by rw [c1]; exact c2), c1]
        exact h2
    · rw [if_neg c1] at h1
      by_cases c2 : b.1 = c.1
      · rw [← c2, if_neg c1]
        exact h1
      · rw [if_neg c2] at h2
        have k3 := EncLin.tr _ _ _ h1 h2
        rw [if_neg (EncLin.ne k3)]
        exact k3
theorem le_tr (a b c : α) (h1 : (!EncOrd.lt b a) = true) (h2 : (!EncOrd.lt c b) = true) : (!EncOrd.lt c a) = true := by
  rw [Bool.not_eq_true'] at h1 h2 ⊢
  cases h3 : EncOrd.lt c a with
  | false => rfl
  | true =>
    cases h4 : EncOrd.lt a b with
    | false =>
      have e := EncLin.tri a b h4 h1
      subst e
      rw [h2] at h3
      cases h3
    | true =>
      have := EncLin.tr c a b h3 h4
      rw [h2] at this
      cases this
theorem le_tot (a b : α) : ((!EncOrd.lt b a) || (!EncOrd.lt a b)) = true := by
  cases h : EncOrd.lt b a with
  | false => rfl
  | true => rw [EncLin.asym h]; rfl
/-- a list that is in order and holds the same items is what sorted gives -/
theorem sort_uniq {l m : List α} (p : m.Perm l) (h : m.Pairwise fun a b => (!EncOrd.lt b a) = true) : l.mergeSort (fun a b => !EncOrd.lt b a) = m := by
  have h1 := List.pairwise_mergeSort (le := fun a b : α => !EncOrd.lt b a) le_tr le_tot l
  have h2 := (List.mergeSort_perm l fun a b : α => !EncOrd.lt b a).trans p.symm
  refine List.Perm.eq_of_pairwise (le := fun a b : α => (!EncOrd.lt b a) = true) (fun a b _ _ x y => ?_) h1 h h2
  rw [Bool.not_eq_true'] at x y
  exact EncLin.tri a b y x
end
end Gw

-- GwB
/-! GwB: rounds of relaxing settle within as many rounds as there are places, if there is any solution. -/
namespace Gw
open PySem L2
open Gw.Enc (enc)
abbrev Ed := T3 Int Int Int
/-- x keeps each bound: x(a) ≤ x(b) + c -/
def Sat (E : List Ed) (x : Int → Int) : Prop := ∀ e ∈ E, x e.a ≤ x e.b + e.c
def mnE (g : Int → Int) (v : Int) : List Ed → Int → Int
  | [], m => m
  | e :: E, m => mnE g v E (if e.a = v then min m (g e.b + e.c) else m)
theorem mnE_le (g : Int → Int) (v : Int) : ∀ (E : List Ed) (m : Int), mnE g v E m ≤ m
  | [], m => Int.le_refl m
  | e :: E, m => by
    have := mnE_le g v E (if e.a = v then min m (g e.b + e.c) else m)
    unfold mnE
    split at this <;> split <;> omega
theorem mnE_all (g : Int → Int) (v : Int) : ∀ (E : List Ed) (m : Int), ∀ e ∈ E, e.a = v → mnE g v E m ≤ g e.b + e.c
  | [], m, e, h, _ => by cases h
  | d :: E, m, e, h, hv => by
    unfold mnE
    rcases List.mem_cons.mp h with z | z
    · subst z
      have := mnE_le g v E (if e.a = v then min m (g e.b + e.c) else m)
      rw [if_pos hv] at this ⊢
      omega
    · exact mnE_all g v E _ e z hv
theorem mnE_is (g : Int → Int) (v : Int) : ∀ (E : List Ed) (m : Int), mnE g v E m = m ∨ ∃ e ∈ E, e.a = v ∧ mnE g v E m = g e.b + e.c
  | [], m => .inl rfl
  | e :: E, m => by
    unfold mnE
    rcases mnE_is g v E (if e.a = v then min m (g e.b + e.c) else m) with z | ⟨d, hd, h1, h2⟩
    · by_cases c : e.a = v
      · rw [if_pos c] at z ⊢
        by_cases c2 : m ≤ g e.b + e.c
        · exact .inl (by rw [z]; omega)
        · exact .inr ⟨e, List.mem_cons_self, c, by rw [z]; omega⟩
      · rw [if_neg c] at z ⊢
        exact .inl z
    · exact .inr ⟨d, List.mem_cons_of_mem _ hd, h1, h2⟩
/-- the least sums of at most k steps -/
def bfA (E : List Ed) : Nat → Int → Int
  | 0, _ => 0
  | k + 1, v => mnE (bfA E k) v E (bfA E k v)
theorem bfA_le (E : List Ed) (k : Nat) (v : Int) : bfA E (k + 1) v ≤ bfA E k v := mnE_le _ _ _ _
theorem bfA_mono (E : List Ed) {j k : Nat} (h : j ≤ k) (v : Int) : bfA E k v ≤ bfA E j v := by
  induction k with
  | zero => rw [Nat.le_zero.mp h]; exact Int.le_refl _
  | succ k ih =>
    by_cases c : j = k + 1
    · rw [c]; exact Int.le_refl _
    · exact Int.le_trans (bfA_le E k v) (ih (by omega))
theorem bfA_edge (E : List Ed) (k : Nat) {e : Ed} (h : e ∈ E) : bfA E (k + 1) e.a ≤ bfA E k e.b + e.c := mnE_all _ _ _ _ e h rfl
/-- whence a change comes -/
theorem bfA_from (E : List Ed) {k : Nat} {v : Int} (h : bfA E (k + 1) v < bfA E k v) : ∃ e ∈ E, e.a = v ∧ bfA E (k + 1) v = bfA E k e.b + e.c ∧ (∀ j, k = j + 1 → bfA E (j + 1) e.b < bfA E j e.b) := by
  rcases mnE_is (bfA E k) v E (bfA E k v) with z | ⟨e, he, h1, h2⟩
  · have : bfA E (k + 1) v = bfA E k v := z
    omega
  · refine ⟨e, he, h1, h2, fun j hj => ?_⟩
    subst hj
    have h3 := bfA_edge E j he
    have h4 := bfA_le E j e.b
    have h5 : bfA E (j + 1 + 1) v = bfA E (j + 1) e.b + e.c := h2
    rw [h1] at h3
    omega
/-- the places of a change, one a round -/
theorem bfA_chain (E : List Ed) : ∀ (k : Nat) (v : Int), bfA E (k + 1) v < bfA E k v → ∃ ch : Nat → Int, ch (k + 1) = v ∧ (∀ j, j ≤ k → ∃ e ∈ E, e.a = ch (j + 1) ∧ e.b = ch j ∧ bfA E (j + 1) (ch (j + 1)) = bfA E j (ch j) + e.c) ∧ ∀ j, j ≤ k → bfA E (j + 1) (ch (j + 1)) < bfA E j (ch (j + 1))
  | 0, v, h => by
    obtain ⟨e, he, h1, h2, _⟩ := bfA_from E h
    refine ⟨fun j => if j = 0 then e.b else v, rfl, fun j hj => ?_, fun j hj => ?_⟩
    · have : j = 0 := by omega
      subst this
      exact ⟨e, he, h1, rfl, h2⟩
    · have : j = 0 := by omega
      subst this
      exact h
  | k + 1, v, h => by
    obtain ⟨e, he, h1, h2, h3⟩ := bfA_from E h
    obtain ⟨ch, c1, c2, c3⟩ := bfA_chain E k e.b (h3 k rfl)
    refine ⟨fun j => if j = k + 2 then v else ch j, if_pos rfl, fun j hj => ?_, fun j hj => ?_⟩
    · by_cases c : j = k + 1
      · subst c
        refine ⟨e, he, ?_, ?_, ?_⟩
        · show e.a = if k + 1 + 1 = k + 2 then v else ch (k + 1 + 1)
          rw [if_pos rfl]; exact h1
        · show e.b = if k + 1 = k + 2 then v else ch (k + 1)
          rw [if_neg (by omega)]; exact c1.symm
        · show bfA E (k + 1 + 1) (if k + 1 + 1 = k + 2 then v else ch (k + 1 + 1)) = bfA E (k + 1) (if k + 1 = k + 2 then v else ch (k + 1)) + e.c
          rw [if_pos rfl, if_neg (by omega), c1]; exact h2
      · obtain ⟨d, hd, d1, d2, d3⟩ := c2 j (by omega)
        refine ⟨d, hd, ?_, ?_, ?_⟩
        · show d.a = if j + 1 = k + 2 then v else ch (j + 1)
          rw [if_neg (by omega)]; exact d1
        · show d.b = if j = k + 2 then v else ch j
          rw [if_neg (by omega)]; exact d2
        · show bfA E (j + 1) (if j + 1 = k + 2 then v else ch (j + 1)) = bfA E j (if j = k + 2 then v else ch j) + d.c
          rw [if_neg (by omega), if_neg (by omega)]; exact d3
    · by_cases c : j = k + 1
      · subst c
        show bfA E (k + 1 + 1) (if k + 1 + 1 = k + 2 then v else ch (k + 1 + 1)) < bfA E (k + 1) (if k + 1 + 1 = k + 2 then v else ch (k + 1 + 1))
        rw [if_pos rfl]; exact h
      · show bfA E (j + 1) (if j + 1 = k + 2 then v else ch (j + 1)) < bfA E j (if j + 1 = k + 2 then v else ch (j + 1))
        rw [if_neg (by omega)]; exact c3 j (by omega)
theorem nodup_le : ∀ (n : Nat) (l : List Int), l.Nodup → (∀ x ∈ l, 0 ≤ x ∧ x < (n : Int)) → l.length ≤ n
  | 0, l, _, h => by
    cases l with
    | nil => exact Nat.le_refl _
    | cons x l =>
      have := h x List.mem_cons_self
      omega
  | n + 1, l, hn, h => by
    have h1 := nodup_le n (l.erase (n : Int)) (hn.erase _) fun x hx => by
      have h2 := h x (List.mem_of_mem_erase hx)
      have h3 : x ≠ (n : Int) := fun z => by
        subst z
        exact (List.Nodup.not_mem_erase hn) hx
      omega
    by_cases c : (n : Int) ∈ l
    · rw [List.length_erase_of_mem c] at h1
      omega
    · rw [List.erase_of_not_mem c] at h1
      omega
/-- if there is a solution, all stands still from round n - 1 on -/
theorem bfA_still (E : List Ed) {n : Nat} (hE : ∀ e ∈ E, (0 ≤ e.a ∧ e.a < (n : Int)) ∧ 0 ≤ e.b ∧ e.b < (n : Int)) {x : Int → Int} (hx : Sat E x) {k : Nat} (hk : n ≤ k + 1) (v : Int) : bfA E (k + 1) v = bfA E k v := by
  by_cases h : bfA E (k + 1) v < bfA E k v
  · exfalso
    obtain ⟨ch, c1, c2, c3⟩ := bfA_chain E k v h
    have up : ∀ i j, i ≤ j → j ≤ k + 1 → bfA E i (ch i) - x (ch i) ≤ bfA E j (ch j) - x (ch j) := by
      intro i j hij
      induction j with
      | zero => intro _; rw [Nat.le_zero.mp hij]; exact Int.le_refl _
      | succ j ih =>
        intro hj
        by_cases c : i = j + 1
        · rw [c]; exact Int.le_refl _
        · have h1 := ih (by omega) (by omega)
          obtain ⟨e, he, e1, e2, e3⟩ := c2 j (by omega)
          have h2 := hx e he
          rw [e1, e2] at h2
          omega
    have inj : ∀ i j, i < j → j ≤ k + 1 → ch i ≠ ch j := fun i j hij hj e => by
      have h1 := up i j (by omega) hj
      rw [e] at h1
      obtain ⟨j', rfl⟩ : ∃ j', j = j' + 1 := ⟨j - 1, by omega⟩
      have h2 := c3 j' (by omega)
      have h3 := bfA_mono E (show i ≤ j' by omega) (ch (j' + 1))
      omega
    have hl := nodup_le n ((List.range (k + 2)).map ch) (by
      rw [List.Nodup, List.pairwise_map]
      refine List.Pairwise.imp_of_mem (fun {a b} ha hb hab => ?_) (List.pairwise_lt_range (n := k + 2))
      exact inj a b hab (by have := List.mem_range.mp hb; omega)) fun y hy => by
        obtain ⟨j, hj, rfl⟩ := List.mem_map.mp hy
        have hj' := List.mem_range.mp hj
        cases j with
        | zero =>
          obtain ⟨e, he, e1, e2, _⟩ := c2 0 (by omega)
          rw [← e2]
          exact (hE e he).2
        | succ j =>
          obtain ⟨e, he, e1, e2, _⟩ := c2 j (by omega)
          rw [← e1]
          exact (hE e he).1
    rw [List.length_map, List.length_range] at hl
    omega
  · have := bfA_le E k v
    omega
theorem bfA_end (E : List Ed) {n : Nat} (hE : ∀ e ∈ E, (0 ≤ e.a ∧ e.a < (n : Int)) ∧ 0 ≤ e.b ∧ e.b < (n : Int)) {x : Int → Int} (hx : Sat E x) {k : Nat} (hk : n ≤ k + 1) : Sat E (bfA E k) := fun e he => by
  have h1 := bfA_edge E k he
  rw [bfA_still E hE hx hk] at h1
  exact h1
/-! lists of numbers -/
def gt' (f : List Int) (v : Int) : Int := f.getD v.toNat 0
def relax (s : List Int) (e : Ed) : List Int := if gt' s e.b + e.c < gt' s e.a then s.set e.a.toNat (gt' s e.b + e.c) else s
def passE (E : List Ed) (s : List Int) : List Int := E.foldl relax s
theorem relax_len (s : List Int) (e : Ed) : (relax s e).length = s.length := by
  unfold relax
  split
  · rw [List.length_set]
  · rfl
theorem passE_len : ∀ (E : List Ed) (s : List Int), (passE E s).length = s.length
  | [], s => rfl
  | e :: E, s => by
    show (passE E (relax s e)).length = _
    rw [passE_len E, relax_len]
theorem gt_set {s : List Int} {a v z : Int} (ha : 0 ≤ a ∧ a < (s.length : Int)) (hv : 0 ≤ v) : gt' (s.set a.toNat z) v = if v = a then z else gt' s v := by
  unfold gt' List.getD
  by_cases c : v = a
  · subst c
    rw [if_pos rfl, List.getElem?_set_self (by omega)]
    rfl
  · rw [if_neg c, List.getElem?_set_ne (by omega)]
theorem relax_at {s : List Int} {e : Ed} (ha : 0 ≤ e.a ∧ e.a < (s.length : Int)) {v : Int} (hv : 0 ≤ v) : gt' (relax s e) v = if v = e.a then min (gt' s v) (gt' s e.b + e.c) else gt' s v := by
  unfold relax
  by_cases c : gt' s e.b + e.c < gt' s e.a
  · rw [if_pos c, gt_set ha hv]
    by_cases c2 : v = e.a
    · rw [if_pos c2, if_pos c2, c2]; omega
    · rw [if_neg c2, if_neg c2]
  · rw [if_neg c]
    by_cases c2 : v = e.a
    · rw [if_pos c2, c2]; omega
    · rw [if_neg c2]
section
variable {n : Nat}
def OkE (n : Nat) (E : List Ed) : Prop := ∀ e ∈ E, (0 ≤ e.a ∧ e.a < (n : Int)) ∧ 0 ≤ e.b ∧ e.b < (n : Int)
theorem relax_ge {L : Int → Int} {s : List Int} {e : Ed} (hs : s.length = n) (he : (0 ≤ e.a ∧ e.a < (n : Int)) ∧ 0 ≤ e.b ∧ e.b < (n : Int)) (hL : L e.a ≤ L e.b + e.c) (h : ∀ v, 0 ≤ v → v < (n : Int) → L v ≤ gt' s v) : ∀ v, 0 ≤ v → v < (n : Int) → L v ≤ gt' (relax s e) v := fun v h0 h1 => by
  rw [relax_at (by rw [hs]; exact he.1) h0]
  have h2 := h v h0 h1
  have h3 := h e.b he.2.1 he.2.2
  by_cases c : v = e.a
  · rw [if_pos c]
    subst c
    omega
  · rw [if_neg c]; exact h2
theorem pass_ge {L : Int → Int} : ∀ (E : List Ed) (s : List Int), s.length = n → OkE n E → Sat E L → (∀ v, 0 ≤ v → v < (n : Int) → L v ≤ gt' s v) → ∀ v, 0 ≤ v → v < (n : Int) → L v ≤ gt' (passE E s) v
  | [], s, _, _, _, h => h
  | e :: E, s, hs, ho, hL, h => pass_ge E (relax s e) (by rw [relax_len, hs]) (fun d hd => ho d (List.mem_cons_of_mem _ hd)) (fun d hd => hL d (List.mem_cons_of_mem _ hd)) (relax_ge hs (ho e List.mem_cons_self) (hL e List.mem_cons_self) h)
theorem relax_dec {s : List Int} {e : Ed} (hs : s.length = n) (he : (0 ≤ e.a ∧ e.a < (n : Int)) ∧ 0 ≤ e.b ∧ e.b < (n : Int)) : ∀ v, 0 ≤ v → v < (n : Int) → gt' (relax s e) v ≤ gt' s v := fun v h0 h1 => by
  rw [relax_at (by rw [hs]; exact he.1) h0]
  split <;> omega
theorem pass_dec : ∀ (E : List Ed) (s : List Int), s.length = n → OkE n E → ∀ v, 0 ≤ v → v < (n : Int) → gt' (passE E s) v ≤ gt' s v
  | [], s, _, _, v, _, _ => Int.le_refl _
  | e :: E, s, hs, ho, v, h0, h1 => Int.le_trans (pass_dec E (relax s e) (by rw [relax_len, hs]) (fun d hd => ho d (List.mem_cons_of_mem _ hd)) v h0 h1) (relax_dec hs (ho e List.mem_cons_self) v h0 h1)
/-- a round is as good as a step of all places at once -/
theorem pass_edge : ∀ (E : List Ed) (s : List Int) (g : Int → Int), s.length = n → OkE n E → (∀ v, 0 ≤ v → v < (n : Int) → gt' s v ≤ g v) → ∀ e ∈ E, gt' (passE E s) e.a ≤ g e.b + e.c
  | [], s, g, _, _, _, e, h => by cases h
  | d :: E, s, g, hs, ho, hg, e, h => by
    have hd := ho d List.mem_cons_self
    have hs' : (relax s d).length = n := by rw [relax_len, hs]
    have ho' : OkE n E := fun d hd => ho d (List.mem_cons_of_mem _ hd)
    rcases List.mem_cons.mp h with z | z
    · subst z
      have h1 := pass_dec E (relax s e) hs' ho' e.a hd.1.1 hd.1.2
      rw [relax_at (by rw [hs]; exact hd.1) hd.1.1, if_pos rfl] at h1
      have h2 := hg e.b hd.2.1 hd.2.2
      show gt' (passE E (relax s e)) e.a ≤ _
      omega
    · exact pass_edge E (relax s d) g hs' ho' (fun v h0 h1 => Int.le_trans (relax_dec hs hd v h0 h1) (hg v h0 h1)) e z
theorem pass_bf (E : List Ed) (s : List Int) (k : Nat) (hs : s.length = n) (ho : OkE n E) (h : ∀ v, 0 ≤ v → v < (n : Int) → gt' s v ≤ bfA E k v) : ∀ v, 0 ≤ v → v < (n : Int) → gt' (passE E s) v ≤ bfA E (k + 1) v := fun v h0 h1 => by
  rcases mnE_is (bfA E k) v E (bfA E k v) with z | ⟨e, he, e1, e2⟩
  · have e3 : bfA E (k + 1) v = bfA E k v := z
    rw [e3]
    exact Int.le_trans (pass_dec E s hs ho v h0 h1) (h v h0 h1)
  · have e3 : bfA E (k + 1) v = bfA E k e.b + e.c := e2
    rw [e3, ← e1]
    exact pass_edge E s (bfA E k) hs ho h e he
/-- where nothing changes, all bounds are kept; and only there -/
theorem pass_same : ∀ (E : List Ed) (s : List Int), s.length = n → OkE n E → Sat E (gt' s) → passE E s = s
  | [], s, _, _, _ => rfl
  | e :: E, s, hs, ho, h => by
    have h1 := h e List.mem_cons_self
    have e1 : relax s e = s := if_neg (by omega)
    show passE E (relax s e) = s
    rw [e1]
    exact pass_same E s hs (fun d hd => ho d (List.mem_cons_of_mem _ hd)) fun d hd => h d (List.mem_cons_of_mem _ hd)
theorem settled (E : List Ed) (ho : OkE n E) {x : Int → Int} (hx : Sat E x) {s : List Int} {k : Nat} (hs : s.length = n) (hk : n ≤ k + 1) (h1 : ∀ v, 0 ≤ v → v < (n : Int) → gt' s v ≤ bfA E k v) (h2 : ∀ v, 0 ≤ v → v < (n : Int) → bfA E k v ≤ gt' s v) : Sat E (gt' s) := fun e he => by
  have a1 := bfA_end E ho hx hk e he
  have a2 := ho e he
  have b1 := h1 e.a a2.1.1 a2.1.2
  have b2 := h2 e.b a2.2.1 a2.2.2
  omega
def itE (E : List Ed) : Nat → List Int → List Int
  | 0, s => s
  | k + 1, s => passE E (itE E k s)
theorem itE_len (E : List Ed) : ∀ (k : Nat) (s : List Int), (itE E k s).length = s.length
  | 0, s => rfl
  | k + 1, s => by
    show (passE E (itE E k s)).length = _
    rw [passE_len, itE_len E k s]
theorem itE_pass (E : List Ed) : ∀ (k : Nat) (s : List Int), itE E k (passE E s) = itE E (k + 1) s
  | 0, s => rfl
  | k + 1, s => by
    show passE E (itE E k (passE E s)) = passE E (itE E (k + 1) s)
    rw [itE_pass E k s]
theorem zero_at (n : Nat) (v : Int) : gt' (List.replicate n 0) v = 0 := by
  unfold gt' List.getD
  rw [List.getElem?_replicate]
  split <;> rfl
/-- a solution there is: after n - 1 rounds all bounds are kept -/
theorem itE_sat (E : List Ed) (ho : OkE n E) {x : Int → Int} (hx : Sat E x) {k : Nat} (hk : n ≤ k + 1) : Sat E (gt' (itE E k (List.replicate n 0))) := by
  have up : ∀ k v, 0 ≤ v → v < (n : Int) → gt' (itE E k (List.replicate n 0)) v ≤ bfA E k v := by
    intro k
    induction k with
    | zero => intro v _ _; show gt' (List.replicate n 0) v ≤ 0; rw [zero_at]; exact Int.le_refl _
    | succ k ih => exact pass_bf E _ k (by rw [itE_len, List.length_replicate]) ho ih
  have hL : Sat E (bfA E k) := bfA_end E ho hx hk
  have lo : ∀ j v, 0 ≤ v → v < (n : Int) → bfA E k v ≤ gt' (itE E j (List.replicate n 0)) v := by
    intro j
    induction j with
    | zero =>
      intro v _ _
      show bfA E k v ≤ gt' (List.replicate n 0) v
      rw [zero_at]
      exact bfA_mono E (Nat.zero_le k) v
    | succ j ih => exact pass_ge E _ (by rw [itE_len, List.length_replicate]) ho hL ih
  exact settled E ho hx (by rw [itE_len, List.length_replicate]) hk (up k) (lo k)
theorem gt_atI {s : List Int} {v : Int} (h0 : 0 ≤ v) (h1 : v < (s.length : Int)) : atI s v = some (gt' s v) := by
  rw [atI_eq h0 h1]
  unfold gt' List.getD
  rw [List.getElem?_eq_getElem (by omega)]
  rfl
/-- a round with its mark -/
theorem round_fold {α : Type} (ed : α → Ed) {f : List Int × Bool → α → Option (List Int × Bool)} : ∀ (rs : List α) (s : List Int) (c : Bool), s.length = n → OkE n (rs.map ed) →
    (∀ s c r, s.length = n → r ∈ rs → f (s, c) r = some (if gt' s (ed r).b + (ed r).c < gt' s (ed r).a then (s.set (ed r).a.toNat (gt' s (ed r).b + (ed r).c), true) else (s, c))) →
    ∃ c', fold f rs (s, c) = some (passE (rs.map ed) s, c') ∧ (c' = false ↔ c = false ∧ Sat (rs.map ed) (gt' s))
  | [], s, c, _, _, _ => ⟨c, rfl, ⟨fun h => ⟨h, fun e he => by cases he⟩, fun h => h.1⟩⟩
  | r :: rs, s, c, hs, ho, hf => by
    have hr := ho (ed r) List.mem_cons_self
    have e0 := hf s c r hs List.mem_cons_self
    have ho' : OkE n (rs.map ed) := fun d hd => ho d (List.mem_cons_of_mem _ hd)
    have hf' := fun s c r' hs hr' => hf s c r' hs (List.mem_cons_of_mem r hr')
    by_cases k : gt' s (ed r).b + (ed r).c < gt' s (ed r).a
    · rw [if_pos k] at e0
      have er : relax s (ed r) = s.set (ed r).a.toNat (gt' s (ed r).b + (ed r).c) := if_pos k
      obtain ⟨c', e1, e2⟩ := round_fold ed rs (relax s (ed r)) true (by rw [relax_len, hs]) ho' hf'
      refine ⟨c', ?_, ⟨fun z => ?_, fun z => ?_⟩⟩
      · show (f (s, c) r).bind _ = _
        rw [bs e0, ← er]
        exact e1
      · have := (e2.mp z).1
        cases this
      · have := z.2 (ed r) List.mem_cons_self
        omega
    · rw [if_neg k] at e0
      have er : relax s (ed r) = s := if_neg k
      obtain ⟨c', e1, e2⟩ := round_fold ed rs s c hs ho' hf'
      refine ⟨c', ?_, ⟨fun z => ?_, fun z => ?_⟩⟩
      · show (f (s, c) r).bind _ = some (passE (rs.map ed) (relax s (ed r)), c')
        rw [bs e0, er]
        exact e1
      · obtain ⟨z1, z2⟩ := e2.mp z
        refine ⟨z1, fun e he => ?_⟩
        rcases List.mem_cons.mp he with y | y
        · subst y; omega
        · exact z2 e y
      · exact e2.mpr ⟨z.1, fun e he => z.2 e (List.mem_cons_of_mem _ he)⟩
/-- rounds until nothing changes -/
theorem rounds_bk {α R : Type} {E : List Ed} (ho : OkE n E) {f : List Int → α → Option (Ctl (List Int) R)} (hf : ∀ s x, s.length = n → ∃ c : Bool, f s x = some (cond c (.nx (passE E s)) (.bk (passE E s))) ∧ (c = false ↔ Sat E (gt' s))) :
    ∀ (xs : List α) (s : List Int), s.length = n → ∃ r, loop f xs s = some (.nx r) ∧ r.length = n ∧ (Sat E (gt' r) ∨ r = itE E xs.length s)
  | [], s, hs => ⟨s, rfl, hs, .inr rfl⟩
  | x :: xs, s, hs => by
    obtain ⟨c, e, hc⟩ := hf s x hs
    cases c with
    | true =>
      obtain ⟨r, e1, e2, e3⟩ := rounds_bk ho hf xs (passE E s) (by rw [passE_len, hs])
      refine ⟨r, by rw [loop_nx e]; exact e1, e2, ?_⟩
      rw [itE_pass] at e3
      exact e3
    | false =>
      have h := hc.mp rfl
      have h2 := pass_same E s hs ho h
      refine ⟨passE E s, by rw [loop, e]; rfl, by rw [passE_len, hs], .inl ?_⟩
      rw [h2]
      exact h
theorem rounds_rt {α : Type} {E : List Ed} (ho : OkE n E) {f : List Int → α → Option (Ctl (List Int) (Option (Ls Int)))} (hf : ∀ s x, s.length = n → ∃ c : Bool, f s x = some (cond c (.nx (passE E s)) (.rt (some (Ls.mk (passE E s))))) ∧ (c = false ↔ Sat E (gt' s))) :
    ∀ (xs : List α) (s : List Int), s.length = n → (∃ r, loop f xs s = some (.rt (some (Ls.mk r))) ∧ Sat E (gt' r)) ∨ (∃ r, loop f xs s = some (.nx r) ∧ ∀ j, j < xs.length → ¬ Sat E (gt' (itE E j s)))
  | [], s, hs => .inr ⟨s, rfl, fun j hj => absurd hj (Nat.not_lt_zero _)⟩
  | x :: xs, s, hs => by
    obtain ⟨c, e, hc⟩ := hf s x hs
    cases c with
    | false =>
      have h := hc.mp rfl
      have h2 := pass_same E s hs ho h
      refine .inl ⟨passE E s, loop_rt e, ?_⟩
      rw [h2]
      exact h
    | true =>
      have hn : ¬ Sat E (gt' s) := fun z => by
        have := hc.mpr z
        cases this
      rcases rounds_rt ho hf xs (passE E s) (by rw [passE_len, hs]) with ⟨r, e1, e2⟩ | ⟨r, e1, e2⟩
      · exact .inl ⟨r, by rw [loop_nx e]; exact e1, e2⟩
      · refine .inr ⟨r, by rw [loop_nx e]; exact e1, fun j hj => ?_⟩
        cases j with
        | zero => exact hn
        | succ j =>
          have := e2 j (by rw [List.length_cons] at hj; omega)
          rw [itE_pass] at this
          exact this
theorem repL_zero {n : Nat} (h : n ≤ 1000) : repL ([0] : List Int) (n : Int) = some (List.replicate n 0) := by
  unfold repL
  rw [if_pos ⟨by omega, by omega, by decide⟩, List.flatten_replicate_singleton]
  congr 2
end
end Gw

-- K61M
/-! the mirrors of law_k61_fewest_that_must_go -/
namespace K61
open PySem PySem.Spec PyProof.Rows L2 RZ Gw
open Gw.Enc (enc)
def m_least_potentials_b1 (s5 : (List Int) × Bool) (x6 : (T3 Int Int Int)) : Option ((List Int) × Bool) :=
  (atI s5.1 x6.b).bind fun v7 => (atI s5.1 x6.a).bind fun v8 => cond (decide ((v7 + x6.c) < v8)) ((atI s5.1 x6.b).bind fun v9 => (putO s5.1 x6.a (v9 + x6.c)).bind fun v10 => some (v10, true)) (some (s5.1, s5.2))
def m_least_potentials_b2 (bounds : (Ls (T3 Int Int Int))) (s3 : (List Int)) (x4 : Int) : Option (Ctl ((List Int)) ((List Int))) :=
  (fold m_least_potentials_b1 bounds.l (s3, false)).bind fun (s11 : (List Int) × Bool) => cond (!s11.2) (some (.bk s11.1)) (some (.nx s11.1))
def m_least_potentials (many : Int) (bounds : (Ls (T3 Int Int Int))) : Option ((List Int)) :=
  (repL ([0] : List Int) many).bind fun v1 => (rngO 0 many).bind fun v2 => thenF (loop (m_least_potentials_b2 bounds) v2 v1) fun (s12 : (List Int)) => some s12
def rel_least_potentials : Rel := fun as r as' => ∃ (many : Int) (bounds : (Ls (T3 Int Int Int))) (res : (List Int)), as = [.d (.int many), .d (enc (bounds : (Ls (T3 Int Int Int))))] ∧ m_least_potentials many bounds = some res ∧ r = .l (List.map enc (res : List Int)) ∧ as' = [.u, .u]
def m_gate_count (book : (T3 (List Int) (List (List Int)) (List Int))) : Option (Int) :=
  some (((book.a).length : Int) + 1)
def rel_gate_count : Rel := fun as r as' => ∃ (book : (T3 (List Int) (List (List Int)) (List Int))) (res : Int), as = [.d (enc (book : (T3 (List Int) (List (List Int)) (List Int))))] ∧ m_gate_count book = some res ∧ r = .d (.int res) ∧ as' = [.u]
def m_day_count (book : (T3 (List Int) (List (List Int)) (List Int))) : Option (Int) :=
  some ((book.b).length : Int)
def rel_day_count : Rel := fun as r as' => ∃ (book : (T3 (List Int) (List (List Int)) (List Int))) (res : Int), as = [.d (enc (book : (T3 (List Int) (List (List Int)) (List Int))))] ∧ m_day_count book = some res ∧ r = .d (.int res) ∧ as' = [.u]
def m_leak_place (book : (T3 (List Int) (List (List Int)) (List Int))) (gate : Int) (day : Int) : Option (Int) :=
  ((cond (decide (day < 0)) (some 0) ((m_day_count book).bind fun v1 => (gd (mulOk gate v1)).bind fun _ => some ((1 + (gate * v1)) + day)) : Option Int)).bind fun v3 => some v3
def rel_leak_place : Rel := fun as r as' => ∃ (book : (T3 (List Int) (List (List Int)) (List Int))) (gate : Int) (day : Int) (res : Int), as = [.d (enc (book : (T3 (List Int) (List (List Int)) (List Int)))), .d (.int gate), .d (.int day)] ∧ m_leak_place book gate day = some res ∧ r = .d (.int res) ∧ as' = [.u, .u, .u]
def m_water_known_c1 (pond : Int) (x2 : (List Int)) : Option Int :=
  (atI x2 pond).bind fun v3 => some v3
def m_water_known (book : (T3 (List Int) (List (List Int)) (List Int))) (day : Int) (pond : Int) : Option (Int) :=
  (atI book.a pond).bind fun v1 => (mapO (m_water_known_c1 pond) (cut book.b none (some (day + 1)))).bind fun v4 => some (v1 + ((v4).sum))
def rel_water_known : Rel := fun as r as' => ∃ (book : (T3 (List Int) (List (List Int)) (List Int))) (day : Int) (pond : Int) (res : Int), as = [.d (enc (book : (T3 (List Int) (List (List Int)) (List Int)))), .d (.int day), .d (.int pond)] ∧ m_water_known book day pond = some res ∧ r = .d (.int res) ∧ as' = [.u, .u, .u]
def m_leak_limits_b1 (book : (T3 (List Int) (List (List Int)) (List Int))) (x5 : Int) (s8 : (List (T3 Int Int Int))) (x9 : Int) : Option ((List (T3 Int Int Int))) :=
  (m_leak_place book x5 (x9 - 1)).bind fun v10 => (m_leak_place book x5 x9).bind fun v11 => (gd (decide ((s8).length < LIM))).bind fun _ => cond (decide (x5 ∈ book.c)) ((m_leak_place book x5 x9).bind fun v13 => (gd (decide (((s8 ++ [(T3.mk v10 v11 0)])).length < LIM))).bind fun _ => some ((s8 ++ [(T3.mk v10 v11 0)]) ++ [(T3.mk v13 0 0)])) (some (s8 ++ [(T3.mk v10 v11 0)]))
def m_leak_limits_b2 (book : (T3 (List Int) (List (List Int)) (List Int))) (s4 : (List (T3 Int Int Int))) (x5 : Int) : Option ((List (T3 Int Int Int))) :=
  (m_day_count book).bind fun v6 => (rngO 0 v6).bind fun v7 => (fold (m_leak_limits_b1 book x5) v7 s4).bind fun (s15 : (List (T3 Int Int Int))) => some s15
def m_leak_limits_b3 (book : (T3 (List Int) (List (List Int)) (List Int))) (s17 : (List (T3 Int Int Int))) (x18 : (T4 Int Int Int Int)) : Option ((List (T3 Int Int Int))) :=
  (m_leak_place book x18.b x18.a).bind fun v19 => (m_leak_place book (x18.b + 1) x18.a).bind fun v20 => (m_water_known book x18.a x18.b).bind fun v21 => (gd (decide ((s17).length < LIM))).bind fun _ => (gd (decide (((s17 ++ [(T3.mk v19 v20 (x18.d - v21))])).length < LIM))).bind fun _ => some ((s17 ++ [(T3.mk v19 v20 (x18.d - v21))]) ++ [(T3.mk v20 v19 (v21 - x18.c))])
def m_leak_limits (book : (T3 (List Int) (List (List Int)) (List Int))) (readings : (List (T4 Int Int Int Int))) : Option ((List (T3 Int Int Int))) :=
  (some ([] : List (T3 Int Int Int))).bind fun v1 => (m_gate_count book).bind fun v2 => (rngO 0 v2).bind fun v3 => (fold (m_leak_limits_b2 book) v3 v1).bind fun (s16 : (List (T3 Int Int Int))) => (fold (m_leak_limits_b3 book) readings s16).bind fun (s24 : (List (T3 Int Int Int))) => some s24
def rel_leak_limits : Rel := fun as r as' => ∃ (book : (T3 (List Int) (List (List Int)) (List Int))) (readings : (List (T4 Int Int Int Int))) (res : (List (T3 Int Int Int))), as = [.d (enc (book : (T3 (List Int) (List (List Int)) (List Int)))), .d (enc (readings : (List (T4 Int Int Int Int))))] ∧ m_leak_limits book readings = some res ∧ r = .l (List.map enc (res : List (T3 Int Int Int))) ∧ as' = [.u, .u]
def m_places_of (book : (T3 (List Int) (List (List Int)) (List Int))) : Option (Int) :=
  (m_gate_count book).bind fun v1 => (m_day_count book).bind fun v2 => (gd (mulOk v1 v2)).bind fun _ => some (1 + (v1 * v2))
def rel_places_of : Rel := fun as r as' => ∃ (book : (T3 (List Int) (List (List Int)) (List Int))) (res : Int), as = [.d (enc (book : (T3 (List Int) (List (List Int)) (List Int))))] ∧ m_places_of book = some res ∧ r = .d (.int res) ∧ as' = [.u]
def m_keeps_all_c1 (numbers : (Ls Int)) (x1 : (T3 Int Int Int)) : Option Bool :=
  (atI numbers.l x1.a).bind fun v2 => (atI numbers.l x1.b).bind fun v3 => some (decide (v2 ≤ (v3 + x1.c)))
def m_keeps_all (numbers : (Ls Int)) (limits : (Ls (T3 Int Int Int))) : Option (Bool) :=
  (mapO (m_keeps_all_c1 numbers) limits.l).bind fun v4 => some ((v4).all id)
def rel_keeps_all : Rel := fun as r as' => ∃ (numbers : (Ls Int)) (limits : (Ls (T3 Int Int Int))) (res : Bool), as = [.d (enc (numbers : (Ls Int))), .d (enc (limits : (Ls (T3 Int Int Int))))] ∧ m_keeps_all numbers limits = some res ∧ r = .d (.bool res) ∧ as' = [.u, .u]
def m_story_of_numbers_c1 (book : (T3 (List Int) (List (List Int)) (List Int))) (numbers : (Ls Int)) (x4 : Int) (x7 : Int) : Option Int :=
  (m_leak_place book x7 x4).bind fun v8 => (atI numbers.l v8).bind fun v9 => (m_leak_place book x7 (x4 - 1)).bind fun v10 => (atI numbers.l v10).bind fun v11 => some (v9 - v11)
def m_story_of_numbers_b2 (book : (T3 (List Int) (List (List Int)) (List Int))) (numbers : (Ls Int)) (s3 : (List (List Int))) (x4 : Int) : Option ((List (List Int))) :=
  (m_gate_count book).bind fun v5 => (rngO 0 v5).bind fun v6 => (mapO (m_story_of_numbers_c1 book numbers x4) v6).bind fun v12 => (gd (decide ((s3).length < LIM))).bind fun _ => some (s3 ++ [v12])
def m_story_of_numbers (book : (T3 (List Int) (List (List Int)) (List Int))) (numbers : (Ls Int)) : Option ((List (List Int))) :=
  (m_day_count book).bind fun v1 => (rngO 0 v1).bind fun v2 => (fold (m_story_of_numbers_b2 book numbers) v2 ([] : List (List Int))).bind fun (s15 : (List (List Int))) => some s15
def rel_story_of_numbers : Rel := fun as r as' => ∃ (book : (T3 (List Int) (List (List Int)) (List Int))) (numbers : (Ls Int)) (res : (List (List Int))), as = [.d (enc (book : (T3 (List Int) (List (List Int)) (List Int)))), .d (enc (numbers : (Ls Int)))] ∧ m_story_of_numbers book numbers = some res ∧ r = .d (enc (res : (List (List Int)))) ∧ as' = [.u, .u]
def m_leak_story (book : (T3 (List Int) (List (List Int)) (List Int))) (readings : (List (T4 Int Int Int Int))) : Option ((Option (List (List Int)))) :=
  (m_leak_limits book readings).bind fun v1 => (m_places_of book).bind fun v2 => (m_least_potentials v2 (Ls.mk v1)).bind fun v3 => (m_keeps_all (Ls.mk v3) (Ls.mk v1)).bind fun v4 => ((cond v4 ((m_story_of_numbers book (Ls.mk v3)).bind fun v5 => some (some v5)) (some (none : (Option (List (List Int))))) : Option (Option (List (List Int))))).bind fun v6 => some v6
def rel_leak_story : Rel := fun as r as' => ∃ (book : (T3 (List Int) (List (List Int)) (List Int))) (readings : (List (T4 Int Int Int Int))) (res : (Option (List (List Int)))), as = [.d (enc (book : (T3 (List Int) (List (List Int)) (List Int)))), .d (enc (readings : (List (T4 Int Int Int Int))))] ∧ m_leak_story book readings = some res ∧ r = .d (enc (res : (Option (List (List Int))))) ∧ as' = [.u, .u]
def m_some_readings_c1 (readings : (List (T4 Int Int Int Int))) (x1 : Int) : Option (T4 Int Int Int Int) :=
  (atI readings x1).bind fun v2 => some v2
def m_some_readings (readings : (List (T4 Int Int Int Int))) (chosen : (Ls Int)) : Option ((List (T4 Int Int Int Int))) :=
  (mapO (m_some_readings_c1 readings) chosen.l).bind fun v3 => some v3
def rel_some_readings : Rel := fun as r as' => ∃ (readings : (List (T4 Int Int Int Int))) (chosen : (Ls Int)) (res : (List (T4 Int Int Int Int))), as = [.d (enc (readings : (List (T4 Int Int Int Int)))), .d (enc (chosen : (Ls Int)))] ∧ m_some_readings readings chosen = some res ∧ r = .d (enc (res : (List (T4 Int Int Int Int)))) ∧ as' = [.u, .u]
def m_fewest_to_go_b1 (book : (T3 (List Int) (List (List Int)) (List Int))) (readings : (List (T4 Int Int Int Int))) (x3 : Int) (s6 : Unit) (x7 : (List Int)) : Option (Ctl (Unit) ((Option (Int × (List Int))))) :=
  (rngO 0 ((readings).length : Int)).bind fun v8 => (some (List.map (fun (x9 : Int) => x9) (List.filter (fun (x9 : Int) => (!decide (x9 ∈ x7))) v8))).bind fun v10 => (m_some_readings readings (Ls.mk v10)).bind fun v11 => (m_leak_story book v11).bind fun v12 => cond ((v12).isSome) (some (.rt (some (x3, x7)))) (some (.nx ()))
def m_fewest_to_go_b2 (book : (T3 (List Int) (List (List Int)) (List Int))) (readings : (List (T4 Int Int Int Int))) (s2 : Unit) (x3 : Int) : Option (Ctl (Unit) ((Option (Int × (List Int))))) :=
  (rngO 0 ((readings).length : Int)).bind fun v4 => (combO v4 x3).bind fun v5 => thenC (loop (m_fewest_to_go_b1 book readings x3) v5 ()) fun (s13 : Unit) => some (.nx ())
def m_fewest_to_go (book : (T3 (List Int) (List (List Int)) (List Int))) (readings : (List (T4 Int Int Int Int))) : Option ((Option (Int × (List Int)))) :=
  (rngO 0 (((readings).length : Int) + 1)).bind fun v1 => thenF (loop (m_fewest_to_go_b2 book readings) v1 ()) fun (s15 : Unit) => some (none : (Option (Int × (List Int))))
def rel_fewest_to_go : Rel := fun as r as' => ∃ (book : (T3 (List Int) (List (List Int)) (List Int))) (readings : (List (T4 Int Int Int Int))) (res : (Option (Int × (List Int)))), as = [.d (enc (book : (T3 (List Int) (List (List Int)) (List Int)))), .d (enc (readings : (List (T4 Int Int Int Int))))] ∧ m_fewest_to_go book readings = some res ∧ r = .d (enc (res : (Option (Int × (List Int))))) ∧ as' = [.u, .u]
def m_law_draws_b1 (j5 : (List Int)) (s8 : (List Int) × (List Int)) (x9 : Int) : Option ((List Int) × (List Int)) :=
  (gd (decide (((j5).length : Int) ≠ 0))).bind fun _ => (some (Int.fmod x9 ((j5).length : Int))).bind fun v11 => (atI j5 v11).bind fun v12 => (cond (decide (((10 : Int) ^ (18 : Int).toNat) ≤ v12)) ((atI s8.1 v11).bind fun v13 => some (decide (0 < v13))) (some false)).bind fun v14 => cond v14 ((atI s8.1 v11).bind fun v15 => (gd (decide ((s8.2).length < LIM))).bind fun _ => (atI s8.1 v11).bind fun v17 => (putO s8.1 v11 (Int.fdiv v17 1000)).bind fun v18 => some (v18, (s8.2 ++ [(Int.fmod v15 1000)]))) ((atI j5 v11).bind fun v19 => (some (Int.fmod (((v19 * 48271) + (x9 * 69621)) + 11) 2147483647)).bind fun v20 => (gd (mulOk v20 v20)).bind fun _ => (gd (decide ((s8.2).length < LIM))).bind fun _ => some (s8.1, (s8.2 ++ [(Int.fmod (((v20 * v20) + (3 * v20)) + x9) 1000003)])))
def m_law_draws (script : List Int) (many : Int) : Option ((List Int)) :=
  (gd (decide (script.length ≤ LIM))).bind fun _ => (some (List.map (fun (x2 : Int) => (Int.fmod x2 ((1 : Int) * 2 ^ (7200 : Int).toNat))) (cut script none (some 63)))).bind fun v3 => (cond (decide ((((v3).length : Int) : Int) = 0)) ((gd (decide ((v3).length < LIM))).bind fun _ => some (v3 ++ [0])) (some v3) : Option ((List Int))).bind fun (j5 : (List Int)) => (rngO 0 many).bind fun v7 => (fold (m_law_draws_b1 j5) v7 (j5, ([] : List Int))).bind fun (s23 : (List Int) × (List Int)) => some ((s23.2).reverse)
def rel__law_draws : Rel := fun as r as' => ∃ (script : List Int) (many : Int) (res : (List Int)), as = [.s script, .d (.int many)] ∧ m_law_draws script many = some res ∧ r = .l (List.map enc (res : List Int)) ∧ as' = [.u, .u]
def m_law_take (draws : List Int) (many : Int) : Option (Int × List Int) :=
  cond (decide ((((draws).length : Int) : Int) = 0)) (some (0, draws)) (((draws).getLast?).bind fun v1 => (gd (decide (many ≠ 0))).bind fun _ => some ((Int.fmod v1 many), (draws).dropLast))
def rel__law_take : Rel := fun as r as' => ∃ (p : Addr) (draws : List Int) (many : Int) (res : Int × List Int), as = [.l (some p) (List.map enc (draws : List Int)), .d (.int many)] ∧ m_law_take draws many = some res ∧ r = .d (.int res.1) ∧ as' = [.l (some p) (List.map enc (res.2 : List Int)), .u]

def m_law_pick {α : Type} (draws : List Int) (row : List α) : Option (α × List Int) :=
  (m_law_take draws (row.length : Int)).bind fun r => (atI row r.1).bind fun x => some (x, r.2)
def rel__law_pick : Rel := fun as r as' => ∃ (p : Addr) (draws : List Int) (d1 : PyData) (ds : List PyData) (res : PyData × List Int), (d1 = .list ds ∨ d1 = .tuple ds) ∧ as = [.l (some p) (List.map enc (draws : List Int)), .d d1] ∧ m_law_pick draws ds = some res ∧ r = .d res.1 ∧ as' = [.l (some p) (List.map enc (res.2 : List Int)), .u]
theorem pick_enc {α : Type} [Enc α] {draws : List Int} {row : List α} {r : α × List Int} (h : m_law_pick draws row = some r) : m_law_pick draws (row.map enc) = some (enc r.1, r.2) := by
  unfold m_law_pick at h ⊢
  obtain ⟨t, h1, h⟩ := bnd h
  obtain ⟨x, h2, h⟩ := bnd h
  cases h
  rw [List.length_map, h1]
  show (atI (row.map enc) t.1).bind _ = _
  rw [atI_enc h2]
  rfl
theorem rel_pickT {α : Type} [Enc α] {p : Addr} {draws : List Int} {row : List α} {r : α × List Int} (h : m_law_pick draws row = some r) : rel__law_pick (.l (some p) (List.map enc (draws : List Int)) :: [enc row].map Slot.d) (.d (enc r.1)) [.l (some p) (List.map enc (r.2 : List Int)), .u] :=
  ⟨p, draws, _, row.map enc, (enc r.1, r.2), .inr rfl, rfl, pick_enc h, rfl, rfl⟩
theorem rel_pickL {α : Type} [Enc α] {p : Addr} {draws : List Int} {row : List α} {r : α × List Int} (h : m_law_pick draws row = some r) : rel__law_pick (.l (some p) (List.map enc (draws : List Int)) :: [enc (Ls.mk row)].map Slot.d) (.d (enc r.1)) [.l (some p) (List.map enc (r.2 : List Int)), .u] :=
  ⟨p, draws, _, row.map enc, (enc r.1, r.2), .inl rfl, rfl, pick_enc h, rfl, rfl⟩

def m_law_shuffled_b1 (s3 : (List Int) × (List (T4 Int Int Int Int)) × (List (T4 Int Int Int Int))) (x4 : Int) : Option ((List Int) × (List (T4 Int Int Int Int)) × (List (T4 Int Int Int Int))) :=
  (m_law_take s3.1 ((s3.2.1).length : Int)).bind fun r5 => (gd (decide (0 ≤ r5.1))).bind fun _ => ((s3.2.1)[(r5.1).toNat]?).bind fun v7 => (gd (decide ((s3.2.2).length < LIM))).bind fun _ => some (r5.2, ((s3.2.1).eraseIdx (r5.1).toNat), (s3.2.2 ++ [v7]))
def m_law_shuffled (draws : List Int) (row : (Ls (T4 Int Int Int Int))) : Option ((List (T4 Int Int Int Int)) × List Int) :=
  (some ([] : List (T4 Int Int Int Int))).bind fun v1 => (rngO 0 ((row.l).length : Int)).bind fun v2 => (fold m_law_shuffled_b1 v2 (draws, row.l, v1)).bind fun (s9 : (List Int) × (List (T4 Int Int Int Int)) × (List (T4 Int Int Int Int))) => some (s9.2.2, s9.1)
def rel__law_shuffled : Rel := fun as r as' => ∃ (p : Addr) (draws : List Int) (row : (Ls (T4 Int Int Int Int))) (res : (List (T4 Int Int Int Int)) × List Int), as = [.l (some p) (List.map enc (draws : List Int)), .d (enc (row : (Ls (T4 Int Int Int Int))))] ∧ m_law_shuffled draws row = some res ∧ r = .l (List.map enc (res.1 : List (T4 Int Int Int Int))) ∧ as' = [.l (some p) (List.map enc (res.2 : List Int)), .u]
def m_law_put (row : (List (T4 Int Int Int Int))) (k : Int) (thing : (T4 Int Int Int Int)) : Option ((List (T4 Int Int Int Int))) :=
  (gd (decide (((cut row none (some k))).length + (([thing] : List (T4 Int Int Int Int))).length ≤ LIM))).bind fun _ => (gd (decide ((((cut row none (some k)) ++ ([thing] : List (T4 Int Int Int Int)))).length + ((cut row (some (k + 1)) none)).length ≤ LIM))).bind fun _ => some (((cut row none (some k)) ++ ([thing] : List (T4 Int Int Int Int))) ++ (cut row (some (k + 1)) none))
def rel__law_put : Rel := fun as r as' => ∃ (row : (List (T4 Int Int Int Int))) (k : Int) (thing : (T4 Int Int Int Int)) (res : (List (T4 Int Int Int Int))), as = [.d (enc (row : (List (T4 Int Int Int Int)))), .d (.int k), .d (enc (thing : (T4 Int Int Int Int)))] ∧ m_law_put row k thing = some res ∧ r = .d (enc (res : (List (T4 Int Int Int Int)))) ∧ as' = [.u, .u, .u]
def m_law_scale (draws : List Int) : Option (Int × List Int) :=
  (m_law_take draws 7).bind fun r1 => cond (decide ((r1.1 : Int) = 0)) ((m_law_pick r1.2 ([1000003, (((10 : Int) ^ (15 : Int).toNat) + 37), (((10 : Int) ^ (40 : Int).toNat) + 121)] : List Int)).bind fun r2 => some (r2.1, r2.2)) (some (1, r1.2))
def rel__law_scale : Rel := fun as r as' => ∃ (p : Addr) (draws : List Int) (res : Int × List Int), as = [.l (some p) (List.map enc (draws : List Int))] ∧ m_law_scale draws = some res ∧ r = .d (.int res.1) ∧ as' = [.l (some p) (List.map enc (res.2 : List Int))]
def m_law_leak_book_c1 (scale : Int) (s5 : (List Int)) (x6 : Int) : Option (Int × (List Int)) :=
  (m_law_take s5 12).bind fun r7 => (gd (mulOk scale (r7.1 - 2))).bind fun _ => some ((scale * (r7.1 - 2)), r7.2)
def m_law_leak_book_c2 (scale : Int) (s19 : (List Int)) (x20 : Int) : Option (Int × (List Int)) :=
  (m_law_take s19 7).bind fun r21 => (gd (mulOk scale (r21.1 - 3))).bind fun _ => some ((scale * (r21.1 - 3)), r21.2)
def m_law_leak_book_b3 (ponds : Int) (scale : Int) (s13 : (List Int) × (List (List Int))) (x14 : Int) : Option ((List Int) × (List (List Int))) :=
  (rngO 0 ponds).bind fun v15 => (mapS (m_law_leak_book_c2 scale) v15 s13.1).bind fun r25 => (gd (decide ((s13.2).length < LIM))).bind fun _ => some (r25.2, (s13.2 ++ [r25.1]))
def m_law_leak_book_c4 (s31 : (List Int)) (x32 : Int) : Option (Option Int × (List Int)) :=
  (m_law_take s31 4).bind fun r33 => cond (decide ((r33.1 : Int) = 0)) (some (some x32, r33.2)) (some (none, r33.2))
def m_law_leak_book (draws : List Int) (ponds : Int) (days : Int) (scale : Int) : Option ((T3 (List Int) (List (List Int)) (List Int)) × List Int) :=
  (rngO 0 ponds).bind fun v1 => (mapS (m_law_leak_book_c1 scale) v1 draws).bind fun r11 => (rngO 0 days).bind fun v12 => (fold (m_law_leak_book_b3 ponds scale) v12 (r11.2, ([] : List (List Int)))).bind fun (s27 : (List Int) × (List (List Int))) => (rngO 0 (ponds + 1)).bind fun v28 => (compS m_law_leak_book_c4 v28 s27.1).bind fun r36 => some ((T3.mk r11.1 s27.2 r36.1), r36.2)
def rel__law_leak_book : Rel := fun as r as' => ∃ (p : Addr) (draws : List Int) (ponds : Int) (days : Int) (scale : Int) (res : (T3 (List Int) (List (List Int)) (List Int)) × List Int), as = [.l (some p) (List.map enc (draws : List Int)), .d (.int ponds), .d (.int days), .d (.int scale)] ∧ m_law_leak_book draws ponds days scale = some res ∧ r = .d (enc (res.1 : (T3 (List Int) (List (List Int)) (List Int)))) ∧ as' = [.l (some p) (List.map enc (res.2 : List Int)), .u, .u, .u]
def m_law_drawn_story_c1 (scale : Int) (s7 : (List Int)) (x8 : Int) : Option (Int × (List Int)) :=
  (m_law_take s7 4).bind fun r9 => (gd (mulOk scale r9.1)).bind fun _ => some ((scale * r9.1), r9.2)
def m_law_drawn_story_c2 (book : (T3 (List Int) (List (List Int)) (List Int))) (r13 : List Int × (List Int)) (x15 : Int) : Option Int :=
  (atI r13.1 x15).bind fun v16 => (gd (mulOk v16 (if (!decide (x15 ∈ book.c)) then (1 : Int) else 0))).bind fun _ => some (v16 * (if (!decide (x15 ∈ book.c)) then (1 : Int) else 0))
def m_law_drawn_story_b3 (book : (T3 (List Int) (List (List Int)) (List Int))) (scale : Int) (s1 : (List Int) × (List (List Int))) (x2 : (List Int)) : Option ((List Int) × (List (List Int))) :=
  (rngO 0 (((book.a).length : Int) + 1)).bind fun v3 => (mapS (m_law_drawn_story_c1 scale) v3 s1.1).bind fun r13 => (rngO 0 ((r13.1).length : Int)).bind fun v14 => (mapO (m_law_drawn_story_c2 book r13) v14).bind fun v18 => (gd (decide ((s1.2).length < LIM))).bind fun _ => some (r13.2, (s1.2 ++ [v18]))
def m_law_drawn_story (draws : List Int) (book : (T3 (List Int) (List (List Int)) (List Int))) (scale : Int) : Option ((List (List Int)) × List Int) :=
  (fold (m_law_drawn_story_b3 book scale) book.b (draws, ([] : List (List Int)))).bind fun (s21 : (List Int) × (List (List Int))) => some (s21.2, s21.1)
def rel__law_drawn_story : Rel := fun as r as' => ∃ (p : Addr) (draws : List Int) (book : (T3 (List Int) (List (List Int)) (List Int))) (scale : Int) (res : (List (List Int)) × List Int), as = [.l (some p) (List.map enc (draws : List Int)), .d (enc (book : (T3 (List Int) (List (List Int)) (List Int)))), .d (.int scale)] ∧ m_law_drawn_story draws book scale = some res ∧ r = .d (enc (res.1 : (List (List Int)))) ∧ as' = [.l (some p) (List.map enc (res.2 : List Int)), .u, .u]
def m_law_pond_waters_b1 (book : (T3 (List Int) (List (List Int)) (List Int))) (story : (List (List Int))) (x3 : Int) (s5 : (List Int)) (x6 : Int) : Option ((List Int)) :=
  (atI s5 x6).bind fun v7 => (atI book.b x3).bind fun v8 => (atI v8 x6).bind fun v9 => (atI story x3).bind fun v10 => (atI v10 x6).bind fun v11 => (atI story x3).bind fun v12 => (atI v12 (x6 + 1)).bind fun v13 => (putO s5 x6 (((v7 + v9) + v11) - v13)).bind fun v14 => some v14
def m_law_pond_waters_b2 (book : (T3 (List Int) (List (List Int)) (List Int))) (story : (List (List Int))) (s2 : (List (List Int)) × (List Int)) (x3 : Int) : Option ((List (List Int)) × (List Int)) :=
  (rngO 0 ((s2.2).length : Int)).bind fun v4 => (fold (m_law_pond_waters_b1 book story x3) v4 s2.2).bind fun (s15 : (List Int)) => (gd (decide ((s2.1).length < LIM))).bind fun _ => some ((s2.1 ++ [s15]), s15)
def m_law_pond_waters (book : (T3 (List Int) (List (List Int)) (List Int))) (story : (List (List Int))) : Option ((List (List Int))) :=
  (rngO 0 ((story).length : Int)).bind fun v1 => (fold (m_law_pond_waters_b2 book story) v1 (([] : List (List Int)), book.a)).bind fun (s17 : (List (List Int)) × (List Int)) => some s17.1
def rel__law_pond_waters : Rel := fun as r as' => ∃ (book : (T3 (List Int) (List (List Int)) (List Int))) (story : (List (List Int))) (res : (List (List Int))), as = [.d (enc (book : (T3 (List Int) (List (List Int)) (List Int)))), .d (enc (story : (List (List Int))))] ∧ m_law_pond_waters book story = some res ∧ r = .l (List.map enc (res : List (List Int))) ∧ as' = [.u, .u]
def m_law_without_leaks (book : (T3 (List Int) (List (List Int)) (List Int))) : Option ((List (List Int))) :=
  (repO ([0] : List Int) (((book.a).length : Int) + 1)).bind fun v1 => (repO ([v1] : List (List Int)) ((book.b).length : Int)).bind fun v2 => some v2
def rel__law_without_leaks : Rel := fun as r as' => ∃ (book : (T3 (List Int) (List (List Int)) (List Int))) (res : (List (List Int))), as = [.d (enc (book : (T3 (List Int) (List (List Int)) (List Int))))] ∧ m_law_without_leaks book = some res ∧ r = .d (enc (res : (List (List Int)))) ∧ as' = [.u]
def m_law_kept_readings_b1 (book : (T3 (List Int) (List (List Int)) (List Int))) (scale : Int) (v1 : (List (List Int))) (s4 : (List Int) × (List (T4 Int Int Int Int))) (x5 : Int) : Option ((List Int) × (List (T4 Int Int Int Int))) :=
  (m_law_take s4.1 ((book.b).length : Int)).bind fun r6 => (m_law_take r6.2 ((book.a).length : Int)).bind fun r7 => (atI v1 r6.1).bind fun v8 => (atI v8 r7.1).bind fun v9 => (m_law_pick r7.2 ([0, 0, 1, 3] : List Int)).bind fun r10 => (gd (mulOk scale r10.1)).bind fun _ => (atI v1 r6.1).bind fun v12 => (atI v12 r7.1).bind fun v13 => (m_law_pick r10.2 ([0, 0, 2, 1] : List Int)).bind fun r14 => (gd (mulOk scale r14.1)).bind fun _ => (gd (decide ((s4.2).length < LIM))).bind fun _ => some (r14.2, (s4.2 ++ [(T4.mk r6.1 r7.1 (v9 - (scale * r10.1)) (v13 + (scale * r14.1)))]))
def m_law_kept_readings (draws : List Int) (book : (T3 (List Int) (List (List Int)) (List Int))) (story : (List (List Int))) (many : Int) (scale : Int) : Option ((List (T4 Int Int Int Int)) × List Int) :=
  (m_law_pond_waters book story).bind fun v1 => (some ([] : List (T4 Int Int Int Int))).bind fun v2 => (rngO 0 many).bind fun v3 => (fold (m_law_kept_readings_b1 book scale v1) v3 (draws, v2)).bind fun (s17 : (List Int) × (List (T4 Int Int Int Int))) => some (s17.2, s17.1)
def rel__law_kept_readings : Rel := fun as r as' => ∃ (p : Addr) (draws : List Int) (book : (T3 (List Int) (List (List Int)) (List Int))) (story : (List (List Int))) (many : Int) (scale : Int) (res : (List (T4 Int Int Int Int)) × List Int), as = [.l (some p) (List.map enc (draws : List Int)), .d (enc (book : (T3 (List Int) (List (List Int)) (List Int)))), .d (enc (story : (List (List Int)))), .d (.int many), .d (.int scale)] ∧ m_law_kept_readings draws book story many scale = some res ∧ r = .d (enc (res.1 : (List (T4 Int Int Int Int)))) ∧ as' = [.l (some p) (List.map enc (res.2 : List Int)), .u, .u, .u, .u]
def m_law_moved_reading (draws : List Int) (readings : (List (T4 Int Int Int Int))) (scale : Int) : Option ((List (T4 Int Int Int Int)) × List Int) :=
  cond (decide ((((readings).length : Int) : Int) = 0)) (some (readings, draws)) ((m_law_take draws ((readings).length : Int)).bind fun r1 => (atI readings r1.1).bind fun v2 => (m_law_pick r1.2 ([1, (-1), 2, (-3), 9, (-20)] : List Int)).bind fun r3 => (gd (mulOk scale r3.1)).bind fun _ => (m_law_put readings r1.1 (T4.mk v2.a v2.b (v2.c + (scale * r3.1)) (v2.d + (scale * r3.1)))).bind fun v5 => some (v5, r3.2))
def rel__law_moved_reading : Rel := fun as r as' => ∃ (p : Addr) (draws : List Int) (readings : (List (T4 Int Int Int Int))) (scale : Int) (res : (List (T4 Int Int Int Int)) × List Int), as = [.l (some p) (List.map enc (draws : List Int)), .d (enc (readings : (List (T4 Int Int Int Int)))), .d (.int scale)] ∧ m_law_moved_reading draws readings scale = some res ∧ r = .d (enc (res.1 : (List (T4 Int Int Int Int)))) ∧ as' = [.l (some p) (List.map enc (res.2 : List Int)), .u, .u]
def m_law_against (draws : List Int) (readings : (List (T4 Int Int Int Int))) (scale : Int) : Option ((T4 Int Int Int Int) × List Int) :=
  (m_law_pick draws readings).bind fun r1 => (m_law_take r1.2 3).bind fun r2 => (gd (mulOk scale r2.1)).bind fun _ => (some ((r1.1.d + 1) + (scale * r2.1))).bind fun v4 => (m_law_take r2.2 3).bind fun r5 => (gd (mulOk scale r5.1)).bind fun _ => some ((T4.mk r1.1.a r1.1.b v4 (v4 + (scale * r5.1))), r5.2)
def rel__law_against : Rel := fun as r as' => ∃ (p : Addr) (draws : List Int) (readings : (List (T4 Int Int Int Int))) (scale : Int) (res : (T4 Int Int Int Int) × List Int), as = [.l (some p) (List.map enc (draws : List Int)), .d (enc (readings : (List (T4 Int Int Int Int)))), .d (.int scale)] ∧ m_law_against draws readings scale = some res ∧ r = .d (enc (res.1 : (T4 Int Int Int Int))) ∧ as' = [.l (some p) (List.map enc (res.2 : List Int)), .u, .u]
def m_law_leak_node (book : (T3 (List Int) (List (List Int)) (List Int))) (gate : Int) (days : Int) : Option (Int) :=
  cond (decide ((days : Int) = 0)) (some 0) ((gd (mulOk (days - 1) (((book.a).length : Int) + 1))).bind fun _ => some ((1 + ((days - 1) * (((book.a).length : Int) + 1))) + gate))
def rel__law_leak_node : Rel := fun as r as' => ∃ (book : (T3 (List Int) (List (List Int)) (List Int))) (gate : Int) (days : Int) (res : Int), as = [.d (enc (book : (T3 (List Int) (List (List Int)) (List Int)))), .d (.int gate), .d (.int days)] ∧ m_law_leak_node book gate days = some res ∧ r = .d (.int res) ∧ as' = [.u, .u, .u]
def m_law_leak_nodes (book : (T3 (List Int) (List (List Int)) (List Int))) : Option (Int) :=
  (gd (mulOk ((book.b).length : Int) (((book.a).length : Int) + 1))).bind fun _ => some (1 + (((book.b).length : Int) * (((book.a).length : Int) + 1)))
def rel__law_leak_nodes : Rel := fun as r as' => ∃ (book : (T3 (List Int) (List (List Int)) (List Int))) (res : Int), as = [.d (enc (book : (T3 (List Int) (List (List Int)) (List Int))))] ∧ m_law_leak_nodes book = some res ∧ r = .d (.int res) ∧ as' = [.u]
def m_law_leak_rules_b1 (book : (T3 (List Int) (List (List Int)) (List Int))) (x4 : Int) (s6 : (List (T3 Int Int Int))) (x7 : Int) : Option ((List (T3 Int Int Int))) :=
  (m_law_leak_node book x7 x4).bind fun v8 => (m_law_leak_node book x7 (x4 - 1)).bind fun v9 => (gd (decide ((s6).length < LIM))).bind fun _ => cond (decide (x7 ∈ book.c)) ((gd (decide (((s6 ++ [(T3.mk v8 v9 0)])).length < LIM))).bind fun _ => some ((s6 ++ [(T3.mk v8 v9 0)]) ++ [(T3.mk v9 v8 0)])) (some (s6 ++ [(T3.mk v8 v9 0)]))
def m_law_leak_rules_b2 (book : (T3 (List Int) (List (List Int)) (List Int))) (s3 : (List (T3 Int Int Int))) (x4 : Int) : Option ((List (T3 Int Int Int))) :=
  (rngO 0 (((book.a).length : Int) + 1)).bind fun v5 => (fold (m_law_leak_rules_b1 book x4) v5 s3).bind fun (s12 : (List (T3 Int Int Int))) => some s12
def m_law_leak_rules_b3 (book : (T3 (List Int) (List (List Int)) (List Int))) (v15 : (List (List Int))) (s16 : (List (T3 Int Int Int))) (x17 : (T4 Int Int Int Int)) : Option ((List (T3 Int Int Int))) :=
  (m_law_leak_node book x17.b (x17.a + 1)).bind fun v18 => (m_law_leak_node book (x17.b + 1) (x17.a + 1)).bind fun v19 => (atI v15 x17.a).bind fun v20 => (atI v20 x17.b).bind fun v21 => (gd (decide ((s16).length < LIM))).bind fun _ => (atI v15 x17.a).bind fun v23 => (atI v23 x17.b).bind fun v24 => (gd (decide (((s16 ++ [(T3.mk v19 v18 (x17.d - v21))])).length < LIM))).bind fun _ => some ((s16 ++ [(T3.mk v19 v18 (x17.d - v21))]) ++ [(T3.mk v18 v19 (v24 - x17.c))])
def m_law_leak_rules (book : (T3 (List Int) (List (List Int)) (List Int))) (readings : (List (T4 Int Int Int Int))) : Option ((List (T3 Int Int Int))) :=
  (some ([] : List (T3 Int Int Int))).bind fun v1 => (rngO 1 (((book.b).length : Int) + 1)).bind fun v2 => (fold (m_law_leak_rules_b2 book) v2 v1).bind fun (s13 : (List (T3 Int Int Int))) => (m_law_without_leaks book).bind fun v14 => (m_law_pond_waters book v14).bind fun v15 => (fold (m_law_leak_rules_b3 book v15) readings s13).bind fun (s26 : (List (T3 Int Int Int))) => some s26
def rel__law_leak_rules : Rel := fun as r as' => ∃ (book : (T3 (List Int) (List (List Int)) (List Int))) (readings : (List (T4 Int Int Int Int))) (res : (List (T3 Int Int Int))), as = [.d (enc (book : (T3 (List Int) (List (List Int)) (List Int)))), .d (enc (readings : (List (T4 Int Int Int Int))))] ∧ m_law_leak_rules book readings = some res ∧ r = .l (List.map enc (res : List (T3 Int Int Int))) ∧ as' = [.u, .u]
def m_law_leak_ranks_b1 (s5 : (List Int) × Bool) (x6 : (T3 Int Int Int)) : Option ((List Int) × Bool) :=
  (atI s5.1 x6.a).bind fun v7 => (atI s5.1 x6.b).bind fun v8 => cond (decide ((v7 + x6.c) < v8)) ((atI s5.1 x6.a).bind fun v9 => (putO s5.1 x6.b (v9 + x6.c)).bind fun v10 => some (v10, true)) (some (s5.1, s5.2))
def m_law_leak_ranks_b2 (rules : (Ls (T3 Int Int Int))) (s3 : (List Int)) (x4 : Int) : Option (Ctl ((List Int)) ((Option (Ls Int)))) :=
  (fold m_law_leak_ranks_b1 rules.l (s3, false)).bind fun (s11 : (List Int) × Bool) => cond (!s11.2) (some (.rt (some (Ls.mk s11.1)))) (some (.nx s11.1))
def m_law_leak_ranks (rules : (Ls (T3 Int Int Int))) (many : Int) : Option ((Option (Ls Int))) :=
  (repL ([0] : List Int) many).bind fun v1 => (rngO 0 (many + 2)).bind fun v2 => thenF (loop (m_law_leak_ranks_b2 rules) v2 v1) fun (s12 : (List Int)) => some (none : (Option (Ls Int)))
def rel__law_leak_ranks : Rel := fun as r as' => ∃ (rules : (Ls (T3 Int Int Int))) (many : Int) (res : (Option (Ls Int))), as = [.d (enc (rules : (Ls (T3 Int Int Int)))), .d (.int many)] ∧ m_law_leak_ranks rules many = some res ∧ r = .d (enc (res : (Option (Ls Int)))) ∧ as' = [.u, .u]
def m_law_can_fit (book : (T3 (List Int) (List (List Int)) (List Int))) (readings : (List (T4 Int Int Int Int))) : Option (Bool) :=
  (m_law_leak_rules book readings).bind fun v1 => (m_law_leak_nodes book).bind fun v2 => (m_law_leak_ranks (Ls.mk v1) v2).bind fun v3 => some ((v3).isSome)
def rel__law_can_fit : Rel := fun as r as' => ∃ (book : (T3 (List Int) (List (List Int)) (List Int))) (readings : (List (T4 Int Int Int Int))) (res : Bool), as = [.d (enc (book : (T3 (List Int) (List (List Int)) (List Int)))), .d (enc (readings : (List (T4 Int Int Int Int))))] ∧ m_law_can_fit book readings = some res ∧ r = .d (.bool res) ∧ as' = [.u, .u]
def m_law_index_sets_c1 (x4 : Int) (x5 : (List Int)) : Option (List Int) :=
  (gd (decide ((x5).length + (([x4] : List Int)).length ≤ LIM))).bind fun _ => some (x5 ++ ([x4] : List Int))
def m_law_index_sets_b2 (s3 : (Ls (List Int))) (x4 : Int) : Option ((Ls (List Int))) :=
  (mapO (m_law_index_sets_c1 x4) s3.l).bind fun v7 => (gd (decide ((s3.l).length + (v7).length ≤ LIM))).bind fun _ => some (Ls.mk (s3.l ++ v7))
def m_law_index_sets (many : Int) : Option ((List (List Int))) :=
  (some (Ls.mk ([([] : List Int)] : List (List Int)))).bind fun v1 => (rngO 0 many).bind fun v2 => (fold m_law_index_sets_b2 v2 v1).bind fun (s10 : (Ls (List Int))) => (sortO (List.map (fun (x11 : (List Int)) => (((x11).length : Int), x11)) s10.l)).bind fun v12 => some (List.map (fun (x13 : (Int × (List Int))) => x13.2) v12)
def rel__law_index_sets : Rel := fun as r as' => ∃ (many : Int) (res : (List (List Int))), as = [.d (.int many)] ∧ m_law_index_sets many = some res ∧ r = .l (List.map enc (res : List (List Int))) ∧ as' = [.u]
def m_law_leak_scene (draws : List Int) (ponds : Int) (days : Int) (many : Int) : Option ((L4' (T3 (List Int) (List (List Int)) (List Int)) (List (List Int)) (List (T4 Int Int Int Int)) Int) × List Int) :=
  (m_law_scale draws).bind fun r1 => (m_law_leak_book r1.2 ponds days r1.1).bind fun r2 => (m_law_drawn_story r2.2 r2.1 r1.1).bind fun r3 => (m_law_kept_readings r3.2 r2.1 r3.1 many r1.1).bind fun r4 => some ((L4'.mk r2.1 r3.1 r4.1 r1.1), r4.2)
def rel__law_leak_scene : Rel := fun as r as' => ∃ (p : Addr) (draws : List Int) (ponds : Int) (days : Int) (many : Int) (res : (L4' (T3 (List Int) (List (List Int)) (List Int)) (List (List Int)) (List (T4 Int Int Int Int)) Int) × List Int), as = [.l (some p) (List.map enc (draws : List Int)), .d (.int ponds), .d (.int days), .d (.int many)] ∧ m_law_leak_scene draws ponds days many = some res ∧ r = .d (enc (res.1 : (L4' (T3 (List Int) (List (List Int)) (List Int)) (List (List Int)) (List (T4 Int Int Int Int)) Int))) ∧ as' = [.l (some p) (List.map enc (res.2 : List Int)), .u, .u, .u]
def m_law_closed_scene_c1 (v4 : (T3 (List Int) (List (List Int)) (List Int))) (v7 : (List Int)) (r8 : Int × List Int) (x10 : Int) : Option (T4 Int Int Int Int) :=
  (atI v7 x10).bind fun v11 => (atI v7 x10).bind fun v12 => some (T4.mk (((v4.b).length : Int) - 1) x10 (v11 + (if (decide ((x10 : Int) = r8.1)) then (1 : Int) else 0)) (v12 + (if (decide ((x10 : Int) = r8.1)) then (1 : Int) else 0)))
def m_law_closed_scene (draws : List Int) : Option ((L2' (T3 (List Int) (List (List Int)) (List Int)) (List (T4 Int Int Int Int))) × List Int) :=
  (m_law_take draws 4).bind fun r1 => (m_law_take r1.2 2).bind fun r2 => (m_law_leak_book r2.2 (1 + r1.1) (1 + r2.1) 1).bind fun r3 => (some (T3.mk r3.1.a r3.1.b ([0, (1 + r1.1)] : List Int))).bind fun v4 => (m_law_drawn_story r3.2 v4 1).bind fun r5 => (m_law_pond_waters v4 r5.1).bind fun v6 => (atI v6 (-1)).bind fun v7 => (m_law_take r5.2 (1 + r1.1)).bind fun r8 => (rngO 0 (1 + r1.1)).bind fun v9 => (mapO (m_law_closed_scene_c1 v4 v7 r8) v9).bind fun v13 => (m_law_shuffled r8.2 (Ls.mk v13)).bind fun r15 => some ((L2'.mk v4 r15.1), r15.2)
def rel__law_closed_scene : Rel := fun as r as' => ∃ (p : Addr) (draws : List Int) (res : (L2' (T3 (List Int) (List (List Int)) (List Int)) (List (T4 Int Int Int Int))) × List Int), as = [.l (some p) (List.map enc (draws : List Int))] ∧ m_law_closed_scene draws = some res ∧ r = .d (enc (res.1 : (L2' (T3 (List Int) (List (List Int)) (List Int)) (List (T4 Int Int Int Int))))) ∧ as' = [.l (some p) (List.map enc (res.2 : List Int))]
def m_law_others_c1 (row : (List (T4 Int Int Int Int))) (gone : (List Int)) (x2 : Int) : Option (Option (T4 Int Int Int Int)) :=
  cond (!decide (x2 ∈ gone)) ((atI row x2).bind fun v3 => some (some v3)) (some none)
def m_law_others (row : (List (T4 Int Int Int Int))) (gone : (List Int)) : Option ((List (T4 Int Int Int Int))) :=
  (rngO 0 ((row).length : Int)).bind fun v1 => (filO (m_law_others_c1 row gone) v1).bind fun v4 => some v4
def rel__law_others : Rel := fun as r as' => ∃ (row : (List (T4 Int Int Int Int))) (gone : (List Int)) (res : (List (T4 Int Int Int Int))), as = [.d (enc (row : (List (T4 Int Int Int Int)))), .d (enc (gone : (List Int)))] ∧ m_law_others row gone = some res ∧ r = .d (enc (res : (List (T4 Int Int Int Int)))) ∧ as' = [.u, .u]
def m_law_fewest_go_b1 (book : (T3 (List Int) (List (List Int)) (List Int))) (readings : (List (T4 Int Int Int Int))) (most : Int) (s2 : Unit) (x3 : (List Int)) : Option (Ctl (Unit) ((Option (Int × (List Int))))) :=
  cond (decide (most < ((x3).length : Int))) (some (.bk ())) ((m_law_others readings x3).bind fun v4 => (m_law_can_fit book v4).bind fun v5 => cond v5 (some (.rt (some (((x3).length : Int), x3)))) (some (.nx ())))
def m_law_fewest_go (book : (T3 (List Int) (List (List Int)) (List Int))) (readings : (List (T4 Int Int Int Int))) (most : Int) : Option ((Option (Int × (List Int)))) :=
  (m_law_index_sets ((readings).length : Int)).bind fun v1 => thenF (loop (m_law_fewest_go_b1 book readings most) v1 ()) fun (s6 : Unit) => some (none : (Option (Int × (List Int))))
def rel__law_fewest_go : Rel := fun as r as' => ∃ (book : (T3 (List Int) (List (List Int)) (List Int))) (readings : (List (T4 Int Int Int Int))) (most : Int) (res : (Option (Int × (List Int)))), as = [.d (enc (book : (T3 (List Int) (List (List Int)) (List Int)))), .d (enc (readings : (List (T4 Int Int Int Int)))), .d (.int most)] ∧ m_law_fewest_go book readings most = some res ∧ r = .d (enc (res : (Option (Int × (List Int))))) ∧ as' = [.u, .u, .u]
def m_law_b1 (r7 : (L4' (T3 (List Int) (List (List Int)) (List Int)) (List (List Int)) (List (T4 Int Int Int Int)) Int) × List Int) (s11 : (List Int) × (List (T4 Int Int Int Int))) (x12 : Int) : Option ((List Int) × (List (T4 Int Int Int Int))) :=
  (m_law_moved_reading s11.1 s11.2 r7.1.d).bind fun r13 => some (r13.2, r13.1)
def m_law_b2 (s3 : (List Int)) (x4 : Int) : Option (Ctl ((List Int)) (Bool)) :=
  (m_law_take s3 3).bind fun r5 => (m_law_take r5.2 2).bind fun r6 => (m_law_leak_scene r6.2 (1 + r5.1) (1 + r6.1) 5).bind fun r7 => (m_law_take r7.2 5).bind fun r8 => (some (cut r7.1.c none (some (1 + r8.1)))).bind fun v9 => (rngO 0 x4).bind fun v10 => (fold (m_law_b1 r7) v10 (r8.2, v9)).bind fun (s14 : (List Int) × (List (T4 Int Int Int Int))) => (cond (decide ((x4 : Int) = 2)) ((m_law_take s14.1 (((s14.2).length : Int) + 1)).bind fun r21 => (m_law_against r21.2 s14.2 r7.1.d).bind fun r22 => (gd (decide (((cut s14.2 none (some r21.1))).length + (([r22.1] : List (T4 Int Int Int Int))).length ≤ LIM))).bind fun _ => (gd (decide ((((cut s14.2 none (some r21.1)) ++ ([r22.1] : List (T4 Int Int Int Int)))).length + ((cut s14.2 (some r21.1) none)).length ≤ LIM))).bind fun _ => (some (((cut s14.2 none (some r21.1)) ++ ([r22.1] : List (T4 Int Int Int Int))) ++ (cut s14.2 (some r21.1) none))).bind fun v25 => some (r22.2, v25)) (some (s14.1, s14.2)) : Option ((List Int) × (List (T4 Int Int Int Int)))).bind fun (j20 : (List Int) × (List (T4 Int Int Int Int))) => (m_fewest_to_go r7.1.a j20.2).bind fun v26 => (m_law_fewest_go r7.1.a j20.2 6).bind fun v27 => (sameO (α := (Option (Int × (List Int)))) v26 v27).bind fun v28 => cond (!v28) (some (.rt false)) (some (.nx j20.1))
def m_law (script : List Int) : Option (Bool) :=
  (m_law_draws script 420).bind fun v1 => (rngO 0 3).bind fun v2 => thenF (loop m_law_b2 v2 v1) fun (s29 : (List Int)) => (m_law_take s29 5).bind fun r30 => (m_law_take r30.2 4).bind fun r31 => (m_law_leak_scene r31.2 (1 + r30.1) (1 + r31.1) 9).bind fun r32 => (m_fewest_to_go r32.1.a r32.1.c).bind fun v33 => (sameO (α := (Option (Int × (List Int)))) v33 (some (0, ([] : List Int)))).bind fun v34 => cond (!v34) (some false) ((m_law_take r32.2 10).bind fun r35 => (m_law_against r35.2 r32.1.c r32.1.d).bind fun r36 => (gd (decide (((cut r32.1.c none (some r35.1))).length + (([r36.1] : List (T4 Int Int Int Int))).length ≤ LIM))).bind fun _ => (gd (decide ((((cut r32.1.c none (some r35.1)) ++ ([r36.1] : List (T4 Int Int Int Int)))).length + ((cut r32.1.c (some r35.1) none)).length ≤ LIM))).bind fun _ => (some (((cut r32.1.c none (some r35.1)) ++ ([r36.1] : List (T4 Int Int Int Int))) ++ (cut r32.1.c (some r35.1) none))).bind fun v39 => (m_fewest_to_go r32.1.a v39).bind fun v40 => (m_law_fewest_go r32.1.a v39 1).bind fun v41 => (sameO (α := (Option (Int × (List Int)))) v40 v41).bind fun v42 => cond (!v42) (some false) ((m_law_closed_scene r36.2).bind fun r43 => (m_fewest_to_go r43.1.a r43.1.b).bind fun v44 => (m_law_fewest_go r43.1.a r43.1.b 4).bind fun v45 => (sameO (α := (Option (Int × (List Int)))) v44 v45).bind fun v46 => some v46))
def rel_law : Rel := fun as r as' => ∃ (script : List Int) (res : Bool), as = [.s script] ∧ m_law script = some res ∧ r = .d (.bool res) ∧ as' = [.u]
end K61

-- K61B
namespace K61
open PySem PySem.Spec PyProof.Rows L2 RZ Gw
open Gw.Enc (enc)
def topS (i : Nat) : Stmt := PySem.Challenge.pw_saltbysteps_k61_fewest_that_must_go.main.body.getD i (.Pass ⟨0, 0, 0, 0⟩)
structure Bt (mg : Str → Option Value) : Prop where
  b_all : mg "all" = none
  b_bool : mg "bool" = none
  b_int : mg "int" = none
  b_isinstance : mg "isinstance" = none
  b_len : mg "len" = none
  b_list : mg "list" = none
  b_range : mg "range" = none
  b_sorted : mg "sorted" = none
  b_str : mg "str" = none
  b_sum : mg "sum" = none
  b_tuple : mg "tuple" = none
end K61

-- K61P00
namespace K61
open PySem PySem.Spec PyProof.Rows L2 RZ Gw
open Gw.Enc (enc)
/-! least_potentials -/
abbrev s_least_potentials : Stmt := topS 2
abbrev N_least_potentials : List Str := ["many", "bounds", "told", "_", "changed", "low", "high", "more"]
abbrev P_least_potentials : List Str := ["many", "bounds"]
theorem sc_least_potentials : FnScope N_least_potentials P_least_potentials (defScope s_least_potentials) := ⟨rfl, rfl, rfl, by decide +kernel, rfl, by decide +kernel, by decide +kernel⟩
theorem ok_least_potentials {P : Program} {w : World} {K : FR} {mg : Str → Option Value} {base : Heap} (B : Bt mg) {f : Addr} {fd : FuncData} (F : Fun K "least_potentials" "least_potentials" s_least_potentials f fd) : FnOk P w K mg base CX0 1 f fd P_least_potentials (spG K P_least_potentials.length rel_least_potentials) := by
  refine fn_ok F sc_least_potentials fun cdv A outer s H E hr as r as' hrel hlen => ?_
  have nd := sc_least_potentials.nd
  have hu := room_u64 hr
  have hu1 := room_u65 hr
  obtain ⟨many, bounds, res, rfl, hm, rfl, rfl⟩ := hrel
  refine ⟨_, pss_cons (ps_set (i := 2) nd rfl (by first | exact Or.inl rfl | exact Or.inr rfl) (pe_op op_rep (pe_lst (pa_cons (pe_int) pa_nil)) (pv 0))) (pss_cons (ps_for PassesOwn.never rfl (pi_range1 (by rfl) B.b_range (pa_cons (pv 0) pa_nil)) (pg_name (i := 3) nd rfl (by first | exact Or.inl rfl | exact Or.inr rfl)) (pss_cons (ps_set (i := 4) nd rfl (by first | exact Or.inl rfl | exact Or.inr rfl) (pe_bl)) (pss_cons (ps_for PassesOwn.never rfl (k_pi_list (K := K) (pv 1)) (k_pg_tup (K := K) (n := 3) rfl (pgs_cons (pg_name (i := 5) nd rfl (by first | exact Or.inl rfl | exact Or.inr rfl)) (pgs_cons (pg_name (i := 6) nd rfl (by first | exact Or.inl rfl | exact Or.inr rfl)) (pgs_cons (pg_name (i := 7) nd rfl (by first | exact Or.inl rfl | exact Or.inr rfl)) (pgs_nil))))) (pss_one (ps_if (pt_cmpR (op_lt) (pe_op op_add (pe_ix (k_ix_list (K := K)) (pv 2) (pv 6) (fun _ _ => rfl)) (pv 7)) (pe_ix (k_ix_list (K := K)) (pv 2) (pv 5) (fun _ _ => rfl)) (nomark _)) (pss_cons (ps_asg (pe_op op_add (pe_ix (k_ix_list (K := K)) (pv 2) (pv 6) (fun _ _ => rfl)) (pv 7)) (pg_sub (pv 2) (pv 5) set_list)) (pss_one (ps_set (i := 4) nd rfl (by first | exact Or.inl rfl | exact Or.inr rfl) (pe_bl)))) (pss_nil)))) (pss_one (ps_if (pt_not (pt_val (pv 4))) (pss_one ps_break) (pss_nil)))))) (pss_one (ps_ret (pv 2)))), ?_⟩
  unfold m_least_potentials at hm
  show BV K _ [.d (.int many), .d (enc (bounds : (Ls (T3 Int Int Int)))), .u, .u, .u, .u, .u, .u] _
  obtain ⟨v1, g1, hm⟩ := bnd hm
  refine bv_setL (i := 2) (ef_repL (l := ([0] : List Int)) g1 (EF.dat (ef_list (l := ([0] : List Int)) (ed_1 (ev_i)) (by show 1 ≤ LIM; decide))) (ev_v (i := 0) rfl)) ?_
  show BV K _ [.d (.int many), .d (enc (bounds : (Ls (T3 Int Int Int)))), .l none (List.map enc (v1 : List Int)), .u, .u, .u, .u, .u] _
  obtain ⟨v2, g2, hm⟩ := bnd hm
  obtain ⟨c13, gc13, hm⟩ := bnd hm
  refine bv_forq (env1 := [.d (.int many), .d (enc (bounds : (Ls (T3 Int Int Int)))), .l none (List.map enc (v1 : List Int)), .u, .u, .u, .u, .u]) (xs := v2) (fun (s : (List Int)) => [.d (.int many), .d (enc (bounds : (Ls (T3 Int Int Int)))), .l none (List.map enc (s : List Int)), .u, .u, .u, .u, .u]) (fun (ρ : (List Int)) r e => r = .l (List.map enc (ρ : List Int)) ∧ EndOk [.d (.int many), .d (enc (bounds : (Ls (T3 Int Int Int))))] [.u, .u] e) (ei_R1 (ed_1 (ev_v (i := 0) rfl)) g2) ⟨.inr rfl, .inr rfl, .inr rfl, .inl rfl, .inl rfl, .inl rfl, .inl rfl, .inl rfl, trivial⟩ gc13 (fun s3 x4 c hm => ?_) (fun ρ r e hc hρ => ?_) (fun s12 hc => ?_)
  · refine ⟨_, _, eg_n 3, ?_⟩
    show BV K _ [.d (.int many), .d (enc (bounds : (Ls (T3 Int Int Int)))), .l none (List.map enc (s3 : List Int)), .d (.int x4), .u, .u, .u, .u] _
    unfold m_least_potentials_b2 at hm
    refine bv_set (i := 4) (d := (.bool false)) (ev_b) ?_
    show BV K _ [.d (.int many), .d (enc (bounds : (Ls (T3 Int Int Int)))), .l none (List.map enc (s3 : List Int)), .d (.int x4), .d (.bool false), .u, .u, .u] _
    obtain ⟨s11, gs11, hm⟩ := bnd hm
    refine bv_foldq (env1 := [.d (.int many), .d (enc (bounds : (Ls (T3 Int Int Int)))), .l none (List.map enc (s3 : List Int)), .d (.int x4), .d (.bool false), .u, .u, .u]) (xs := bounds.l) (fun (s : (List Int) × Bool) => [.d (.int many), .d (enc (bounds : (Ls (T3 Int Int Int)))), .l none (List.map enc (s.1 : List Int)), .d (.int x4), .d (.bool s.2), .u, .u, .u]) (ei_L (ev_v (i := 1) rfl)) ⟨.inr rfl, .inr rfl, .inr rfl, .inr rfl, .inr rfl, .inl rfl, .inl rfl, .inl rfl, trivial⟩ gs11 (fun s5 x6 s_n hm => ?_) ?_
    · refine ⟨_, _, eg_p3 (p := x6) (egs_cons (eg_n 5) (egs_cons (eg_n 6) (egs_cons (eg_n 7) (egs_nil)))), ?_⟩
      show BV K _ [.d (.int many), .d (enc (bounds : (Ls (T3 Int Int Int)))), .l none (List.map enc (s5.1 : List Int)), .d (.int x4), .d (.bool s5.2), .d (.int x6.a), .d (.int x6.b), .d (.int x6.c)] _
      unfold m_least_potentials_b1 at hm
      obtain ⟨v7, g7, hm⟩ := bnd hm
      obtain ⟨v8, g8, hm⟩ := bnd hm
      refine bv_if (env1 := [.d (.int many), .d (enc (bounds : (Ls (T3 Int Int Int)))), .l none (List.map enc (s5.1 : List Int)), .d (.int x4), .d (.bool s5.2), .d (.int x6.a), .d (.int x6.b), .d (.int x6.c)]) (et_cmp (ev_lt (ev_add (EV.ofI (ev_atOs (i := 2) (l := s5.1) rfl (ev_v (i := 6) rfl) g7)) (ev_v (i := 7) rfl)) (EV.ofI (ev_atOs (i := 2) (l := s5.1) rfl (ev_v (i := 5) rfl) g8)))) (fun hb => ?_) (fun hb => ?_)
      · have hm := cond_t hb hm
        obtain ⟨v9, g9, hm⟩ := bnd hm
        obtain ⟨v10, g10, hm⟩ := bnd hm
        refine bv_putS (i := 2) (l := s5.1) (l0 := s5.1) (a := (v9 + x6.c)) g10 (ev_add (EV.ofI (ev_atOs (i := 2) (l := s5.1) rfl (ev_v (i := 6) rfl) g9)) (ev_v (i := 7) rfl)) rfl (ev_v (i := 5) rfl) rfl ?_
        show BV K _ [.d (.int many), .d (enc (bounds : (Ls (T3 Int Int Int)))), .l none (List.map enc (v10 : List Int)), .d (.int x4), .d (.bool s5.2), .d (.int x6.a), .d (.int x6.b), .d (.int x6.c)] _
        refine bv_set1 (i := 4) (d := (.bool true)) (ev_b) ?_
        have hm := Option.some.inj hm; subst hm
        show Le [.d (.int many), .d (enc (bounds : (Ls (T3 Int Int Int)))), .l none (List.map enc (v10 : List Int)), .d (.int x4), .d (.bool true), .d (.int x6.a), .d (.int x6.b), .d (.int x6.c)] [.d (.int many), .d (enc (bounds : (Ls (T3 Int Int Int)))), .l none (List.map enc ((v10, true).1 : List Int)), .d (.int x4), .d (.bool ((v10, true).2)), .u, .u, .u]
        exact ⟨.inr rfl, .inr rfl, .inr rfl, .inr rfl, .inr rfl, .inl rfl, .inl rfl, .inl rfl, trivial⟩
      · have hm := cond_f hb hm
        refine bv_nil ?_
        have hm := Option.some.inj hm; subst hm
        show Le [.d (.int many), .d (enc (bounds : (Ls (T3 Int Int Int)))), .l none (List.map enc (s5.1 : List Int)), .d (.int x4), .d (.bool s5.2), .d (.int x6.a), .d (.int x6.b), .d (.int x6.c)] [.d (.int many), .d (enc (bounds : (Ls (T3 Int Int Int)))), .l none (List.map enc ((s5.1, s5.2).1 : List Int)), .d (.int x4), .d (.bool ((s5.1, s5.2).2)), .u, .u, .u]
        exact ⟨.inr rfl, .inr rfl, .inr rfl, .inr rfl, .inr rfl, .inl rfl, .inl rfl, .inl rfl, trivial⟩
    show BV K _ [.d (.int many), .d (enc (bounds : (Ls (T3 Int Int Int)))), .l none (List.map enc (s11.1 : List Int)), .d (.int x4), .d (.bool s11.2), .u, .u, .u] _
    refine bv_if (env1 := [.d (.int many), .d (enc (bounds : (Ls (T3 Int Int Int)))), .l none (List.map enc (s11.1 : List Int)), .d (.int x4), .d (.bool s11.2), .u, .u, .u]) (et_not (et_val (ev_v (i := 4) rfl))) (fun hb => ?_) (fun hb => ?_)
    · have hm := cond_t hb hm
      refine bv_brk ?_
      have hm := Option.some.inj hm; subst hm
      refine ⟨_, rfl, ?_⟩
      show Le [.d (.int many), .d (enc (bounds : (Ls (T3 Int Int Int)))), .l none (List.map enc (s11.1 : List Int)), .d (.int x4), .d (.bool s11.2), .u, .u, .u] [.d (.int many), .d (enc (bounds : (Ls (T3 Int Int Int)))), .l none (List.map enc (s11.1 : List Int)), .u, .u, .u, .u, .u]
      exact ⟨.inr rfl, .inr rfl, .inr rfl, .inl rfl, .inl rfl, .inl rfl, .inl rfl, .inl rfl, trivial⟩
    · have hm := cond_f hb hm
      refine bv_nil ?_
      have hm := Option.some.inj hm; subst hm
      refine ⟨_, rfl, ?_⟩
      show Le [.d (.int many), .d (enc (bounds : (Ls (T3 Int Int Int)))), .l none (List.map enc (s11.1 : List Int)), .d (.int x4), .d (.bool s11.2), .u, .u, .u] [.d (.int many), .d (enc (bounds : (Ls (T3 Int Int Int)))), .l none (List.map enc (s11.1 : List Int)), .u, .u, .u, .u, .u]
      exact ⟨.inr rfl, .inr rfl, .inr rfl, .inl rfl, .inl rfl, .inl rfl, .inl rfl, .inl rfl, trivial⟩
  · subst hc
    have hm := Option.some.inj hm; subst hm
    exact hρ
  subst hc
  have hm := hm
  show BV K _ [.d (.int many), .d (enc (bounds : (Ls (T3 Int Int Int)))), .l none (List.map enc (s12 : List Int)), .u, .u, .u, .u, .u] _
  refine bv_retO (i := 2) rfl ?_
  have hm := Option.some.inj hm; subst hm
  exact ⟨rfl, ⟨.inl ⟨rfl, fun _ _ z => by cases z⟩, .inl ⟨rfl, fun _ _ z => by cases z⟩, trivial⟩⟩
end K61

-- K61P01
namespace K61
open PySem PySem.Spec PyProof.Rows L2 RZ Gw
open Gw.Enc (enc)
/-! gate_count -/
abbrev s_gate_count : Stmt := topS 4
abbrev N_gate_count : List Str := ["book"]
abbrev P_gate_count : List Str := ["book"]
theorem sc_gate_count : FnScope N_gate_count P_gate_count (defScope s_gate_count) := ⟨rfl, rfl, rfl, by decide +kernel, rfl, by decide +kernel, by decide +kernel⟩
theorem ok_gate_count {P : Program} {w : World} {K : FR} {mg : Str → Option Value} {base : Heap} (B : Bt mg) {f : Addr} {fd : FuncData} (F : Fun K "gate_count" "gate_count" s_gate_count f fd) : FnOk P w K mg base CX0 1 f fd P_gate_count (spG K P_gate_count.length rel_gate_count) := by
  refine fn_ok F sc_gate_count fun cdv A outer s H E hr as r as' hrel hlen => ?_
  have nd := sc_gate_count.nd
  have hu := room_u64 hr
  have hu1 := room_u65 hr
  obtain ⟨book, res, rfl, hm, rfl, rfl⟩ := hrel
  refine ⟨_, pss_one (ps_ret (pe_op op_add (pe_callB ((k_cr_lenS (K := K))) (by rfl) B.b_len PySem.boot_len (pa_cons (pe_ix (k_ix_tup (K := K)) (pv 0) pe_int (fun _ _ => rfl)) pa_nil)) (pe_int))), ?_⟩
  unfold m_gate_count at hm
  show BV K _ [.d (enc (book : (T3 (List Int) (List (List Int)) (List Int))))] _
  refine bv_ret (d := (.int (((book.a).length : Int) + 1))) (ev_add (ev_len (l := book.a) (ev_3a (p := book) (ev_v (i := 0) rfl))) (ev_i)) ?_
  have hm := Option.some.inj hm; subst hm
  exact ⟨rfl, ⟨.inl ⟨rfl, fun _ _ z => by cases z⟩, trivial⟩⟩
end K61

-- K61P02
namespace K61
open PySem PySem.Spec PyProof.Rows L2 RZ Gw
open Gw.Enc (enc)
/-! day_count -/
abbrev s_day_count : Stmt := topS 5
abbrev N_day_count : List Str := ["book"]
abbrev P_day_count : List Str := ["book"]
theorem sc_day_count : FnScope N_day_count P_day_count (defScope s_day_count) := ⟨rfl, rfl, rfl, by decide +kernel, rfl, by decide +kernel, by decide +kernel⟩
theorem ok_day_count {P : Program} {w : World} {K : FR} {mg : Str → Option Value} {base : Heap} (B : Bt mg) {f : Addr} {fd : FuncData} (F : Fun K "day_count" "day_count" s_day_count f fd) : FnOk P w K mg base CX0 1 f fd P_day_count (spG K P_day_count.length rel_day_count) := by
  refine fn_ok F sc_day_count fun cdv A outer s H E hr as r as' hrel hlen => ?_
  have nd := sc_day_count.nd
  have hu := room_u64 hr
  have hu1 := room_u65 hr
  obtain ⟨book, res, rfl, hm, rfl, rfl⟩ := hrel
  refine ⟨_, pss_one (ps_ret (pe_callB ((k_cr_lenS (K := K))) (by rfl) B.b_len PySem.boot_len (pa_cons (pe_ix (k_ix_tup (K := K)) (pv 0) pe_int (fun _ _ => rfl)) pa_nil))), ?_⟩
  unfold m_day_count at hm
  show BV K _ [.d (enc (book : (T3 (List Int) (List (List Int)) (List Int))))] _
  refine bv_ret (d := (.int ((book.b).length : Int))) (ev_len (l := book.b) (ev_3b (p := book) (ev_v (i := 0) rfl))) ?_
  have hm := Option.some.inj hm; subst hm
  exact ⟨rfl, ⟨.inl ⟨rfl, fun _ _ z => by cases z⟩, trivial⟩⟩
end K61

-- K61P03
namespace K61
open PySem PySem.Spec PyProof.Rows L2 RZ Gw
open Gw.Enc (enc)
/-! leak_place -/
abbrev s_leak_place : Stmt := topS 6
abbrev N_leak_place : List Str := ["book", "gate", "day"]
abbrev P_leak_place : List Str := ["book", "gate", "day"]
theorem sc_leak_place : FnScope N_leak_place P_leak_place (defScope s_leak_place) := ⟨rfl, rfl, rfl, by decide +kernel, rfl, by decide +kernel, by decide +kernel⟩
theorem ok_leak_place {P : Program} {w : World} {K : FR} {mg : Str → Option Value} {base : Heap} (B : Bt mg) (c_day_count : Cal P w K mg base "day_count" P_day_count 1 rel_day_count) {f : Addr} {fd : FuncData} (F : Fun K "leak_place" "leak_place" s_leak_place f fd) : FnOk P w K mg base CX0 2 f fd P_leak_place (spG K P_leak_place.length rel_leak_place) := by
  obtain ⟨f_day_count, fd_day_count, F_day_count, m_day_count, k_day_count, b_day_count⟩ := c_day_count.ex
  refine fn_ok F sc_leak_place fun cdv A outer s H E hr as r as' hrel hlen => ?_
  have nd := sc_leak_place.nd
  have hu := room_u64 hr
  have hu1 := room_u65 hr
  obtain ⟨book, gate, day, res, rfl, hm, rfl, rfl⟩ := hrel
  refine ⟨_, pss_one (ps_ret (pe_ifExp (pt_cmpR (op_lt) (pv 2) (pe_int) (nomark _)) (pe_int) (pe_op op_add (pe_op op_add (pe_int) (pe_op op_mulXX (pv 1) (pe_call F_day_count (hr.mono (by decide)) (by rfl) m_day_count k_day_count b_day_count .nil pass0 (pa_cons (pv 0) pa_nil)))) (pv 2)))), ?_⟩
  unfold m_leak_place at hm
  show BV K _ [.d (enc (book : (T3 (List Int) (List (List Int)) (List Int)))), .d (.int gate), .d (.int day)] _
  obtain ⟨v3, g3, hm⟩ := bnd hm
  refine bv_ret (d := (.int v3)) (ev_if (env2 := [.d (enc (book : (T3 (List Int) (List (List Int)) (List Int)))), .d (.int gate), .d (.int day)]) (d := (.int v3)) (et_cmp (ev_lt (ev_v (i := 2) rfl) (ev_i))) (fun hb => by have hm := cond_t hb g3; have hm := Option.some.inj hm; subst hm; exact ev_i) (fun hb => by have hm := cond_f hb g3; obtain ⟨v1, g1, hm⟩ := bnd hm; obtain ⟨k2, hm⟩ := bndg hm; have hm := Option.some.inj hm; subst hm; exact ev_add (ev_add (ev_i) (ev_mul k2 (ev_v (i := 1) rfl) (ev_call (rel := rel_day_count) rfl (ed_1 (ev_v (i := 0) rfl)) ⟨book, v1, rfl, g1, rfl, rfl⟩))) (ev_v (i := 2) rfl))) ?_
  have hm := Option.some.inj hm; subst hm
  exact ⟨rfl, ⟨.inl ⟨rfl, fun _ _ z => by cases z⟩, .inl ⟨rfl, fun _ _ z => by cases z⟩, .inl ⟨rfl, fun _ _ z => by cases z⟩, trivial⟩⟩
end K61

-- K61P04
namespace K61
open PySem PySem.Spec PyProof.Rows L2 RZ Gw
open Gw.Enc (enc)
/-! water_known -/
abbrev s_water_known : Stmt := topS 7
abbrev N_water_known : List Str := ["book", "day", "pond", "changes"]
abbrev P_water_known : List Str := ["book", "day", "pond"]
theorem sc_water_known : FnScope N_water_known P_water_known (defScope s_water_known) := ⟨rfl, rfl, rfl, by decide +kernel, rfl, by decide +kernel, by decide +kernel⟩
theorem ok_water_known {P : Program} {w : World} {K : FR} {mg : Str → Option Value} {base : Heap} (B : Bt mg) {f : Addr} {fd : FuncData} (F : Fun K "water_known" "water_known" s_water_known f fd) : FnOk P w K mg base CX0 1 f fd P_water_known (spG K P_water_known.length rel_water_known) := by
  refine fn_ok F sc_water_known fun cdv A outer s H E hr as r as' hrel hlen => ?_
  have nd := sc_water_known.nd
  have hu := room_u64 hr
  have hu1 := room_u65 hr
  obtain ⟨book, day, pond, res, rfl, hm, rfl, rfl⟩ := hrel
  refine ⟨_, pss_one (ps_ret (pe_op op_add (pe_ix (k_ix_tup (K := K)) (pe_ix (k_ix_tup (K := K)) (pv 0) pe_int (fun _ _ => rfl)) (pv 2) (fun _ _ => rfl)) (pe_callB (k_cr_sum (K := K)) (by rfl) B.b_sum (by decide +kernel) (pa_cons (pe_lc (own := [("changes", 3)]) rfl nd (k_pi_tup (K := K) (pe_slice (k_sl_tupA (K := K)) (pe_ix (k_ix_tup (K := K)) (pv 0) pe_int (fun _ _ => rfl)) (po_none) (po_some (pe_op op_add (pv 1) (pe_int))))) (blkOk_by (own := [("changes", 3)]) (N := N_water_known) (sc := defScope s_water_known) (by decide +kernel)) (fun _ _ _ _ _ => pg_name (i := 3) nd rfl (by first | exact Or.inl rfl | exact Or.inr rfl)) (fun _ _ _ _ _ => pts_nil) (fun _ _ _ _ _ => pe_ix (k_ix_tup (K := K)) (pv 3) (pv 2) (fun _ _ => rfl))) pa_nil)))), ?_⟩
  unfold m_water_known at hm
  show BV K _ [.d (enc (book : (T3 (List Int) (List (List Int)) (List Int)))), .d (.int day), .d (.int pond), .u] _
  obtain ⟨v1, g1, hm⟩ := bnd hm
  obtain ⟨v4, g4, hm⟩ := bnd hm
  refine bv_ret (d := (.int (v1 + ((v4).sum)))) (ev_add (EV.ofI (ev_at (l := book.a) (ev_3a (p := book) (ev_v (i := 0) rfl)) (ev_v (i := 2) rfl) g1)) (ev_sum (ns := v4) (ef_mapO (env1 := [.d (enc (book : (T3 (List Int) (List (List Int)) (List Int)))), .d (.int day), .d (.int pond), .u]) (xs := (cut book.b none (some (day + 1)))) [.d (enc (book : (T3 (List Int) (List (List Int)) (List Int)))), .d (.int day), .d (.int pond), .u] (ei_T (ev_sl (l := book.b) (ev_3b (p := book) (ev_v (i := 0) rfl)) (eo_none) (eo_some (ev_add (ev_v (i := 1) rfl) (ev_i))))) ⟨.inr rfl, .inr rfl, .inr rfl, .inl rfl, trivial⟩ rfl g4 (fun x2 y5 hm => by unfold m_water_known_c1 at hm; obtain ⟨v3, g3, hm⟩ := bnd hm; have hm := Option.some.inj hm; subst hm; exact ⟨_, _, _, eg_n 3, (by decide), EV.ofI (ev_at (l := x2) (ev_v (i := 3) rfl) (ev_v (i := 2) rfl) g3), ⟨.inr rfl, .inr rfl, .inr rfl, .inl rfl, trivial⟩⟩)))) ?_
  have hm := Option.some.inj hm; subst hm
  exact ⟨rfl, ⟨.inl ⟨rfl, fun _ _ z => by cases z⟩, .inl ⟨rfl, fun _ _ z => by cases z⟩, .inl ⟨rfl, fun _ _ z => by cases z⟩, trivial⟩⟩
end K61

-- K61P05
namespace K61
open PySem PySem.Spec PyProof.Rows L2 RZ Gw
open Gw.Enc (enc)
/-! leak_limits -/
abbrev s_leak_limits : Stmt := topS 8
abbrev N_leak_limits : List Str := ["book", "readings", "told", "gate", "day", "pond", "low", "high", "known", "into", "out"]
abbrev P_leak_limits : List Str := ["book", "readings"]
theorem sc_leak_limits : FnScope N_leak_limits P_leak_limits (defScope s_leak_limits) := ⟨rfl, rfl, rfl, by decide +kernel, rfl, by decide +kernel, by decide +kernel⟩
theorem ok_leak_limits {P : Program} {w : World} {K : FR} {mg : Str → Option Value} {base : Heap} (B : Bt mg) (c_gate_count : Cal P w K mg base "gate_count" P_gate_count 1 rel_gate_count) (c_day_count : Cal P w K mg base "day_count" P_day_count 1 rel_day_count) (c_leak_place : Cal P w K mg base "leak_place" P_leak_place 2 rel_leak_place) (c_water_known : Cal P w K mg base "water_known" P_water_known 1 rel_water_known) {f : Addr} {fd : FuncData} (F : Fun K "leak_limits" "leak_limits" s_leak_limits f fd) : FnOk P w K mg base CX0 3 f fd P_leak_limits (spG K P_leak_limits.length rel_leak_limits) := by
  obtain ⟨f_gate_count, fd_gate_count, F_gate_count, m_gate_count, k_gate_count, b_gate_count⟩ := c_gate_count.ex
  obtain ⟨f_day_count, fd_day_count, F_day_count, m_day_count, k_day_count, b_day_count⟩ := c_day_count.ex
  obtain ⟨f_leak_place, fd_leak_place, F_leak_place, m_leak_place, k_leak_place, b_leak_place⟩ := c_leak_place.ex
  obtain ⟨f_water_known, fd_water_known, F_water_known, m_water_known, k_water_known, b_water_known⟩ := c_water_known.ex
  refine fn_ok F sc_leak_limits fun cdv A outer s H E hr as r as' hrel hlen => ?_
  have nd := sc_leak_limits.nd
  have hu := room_u64 hr
  have hu1 := room_u65 hr
  obtain ⟨book, readings, res, rfl, hm, rfl, rfl⟩ := hrel
  refine ⟨_, pss_cons (ps_set (i := 2) nd rfl (by first | exact Or.inl rfl | exact Or.inr rfl) (pe_lst (pa_nil))) (pss_cons (ps_for PassesOwn.never rfl (pi_range1 (by rfl) B.b_range (pa_cons (pe_call F_gate_count (hr.mono (by decide)) (by rfl) m_gate_count k_gate_count b_gate_count .nil pass0 (pa_cons (pv 0) pa_nil)) pa_nil)) (pg_name (i := 3) nd rfl (by first | exact Or.inl rfl | exact Or.inr rfl)) (pss_one (ps_for PassesOwn.never rfl (pi_range1 (by rfl) B.b_range (pa_cons (pe_call F_day_count (hr.mono (by decide)) (by rfl) m_day_count k_day_count b_day_count .nil pass0 (pa_cons (pv 0) pa_nil)) pa_nil)) (pg_name (i := 4) nd rfl (by first | exact Or.inl rfl | exact Or.inr rfl)) (pss_cons (ps_expr (pe_bm PySem.F.plainAttrs_list PySem.F.slot_list_append PySem.F.type_list_append mt_append (pv 2) (pa_cons (pe_tup (pa_cons (pe_call F_leak_place (hr.mono (by decide)) (by rfl) m_leak_place k_leak_place b_leak_place .nil pass0 (pa_cons (pv 0) (pa_cons (pv 3) (pa_cons (pe_op op_sub (pv 4) (pe_int)) pa_nil)))) (pa_cons (pe_call F_leak_place (hr.mono (by decide)) (by rfl) m_leak_place k_leak_place b_leak_place .nil pass0 (pa_cons (pv 0) (pa_cons (pv 3) (pa_cons (pv 4) pa_nil)))) (pa_cons (pe_int) pa_nil)))) pa_nil))) (pss_one (ps_if (pt_cmpR ((k_op_in_seq (K := K))) (pv 3) (pe_ix (k_ix_tup (K := K)) (pv 0) pe_int (fun _ _ => rfl)) (by rfl)) (pss_one (ps_expr (pe_bm PySem.F.plainAttrs_list PySem.F.slot_list_append PySem.F.type_list_append mt_append (pv 2) (pa_cons (pe_tup (pa_cons (pe_call F_leak_place (hr.mono (by decide)) (by rfl) m_leak_place k_leak_place b_leak_place .nil pass0 (pa_cons (pv 0) (pa_cons (pv 3) (pa_cons (pv 4) pa_nil)))) (pa_cons (pe_int) (pa_cons (pe_int) pa_nil)))) pa_nil)))) (pss_nil))))))) (pss_cons (ps_for PassesOwn.never rfl (k_pi_tup (K := K) (pv 1)) (k_pg_tup (K := K) (n := 4) rfl (pgs_cons (pg_name (i := 4) nd rfl (by first | exact Or.inl rfl | exact Or.inr rfl)) (pgs_cons (pg_name (i := 5) nd rfl (by first | exact Or.inl rfl | exact Or.inr rfl)) (pgs_cons (pg_name (i := 6) nd rfl (by first | exact Or.inl rfl | exact Or.inr rfl)) (pgs_cons (pg_name (i := 7) nd rfl (by first | exact Or.inl rfl | exact Or.inr rfl)) (pgs_nil)))))) (pss_cons (ps_par (i := 9) (j := 10) rfl nd rfl rfl (by decide) rfl rfl (pa_cons (pe_call F_leak_place (hr.mono (by decide)) (by rfl) m_leak_place k_leak_place b_leak_place .nil pass0 (pa_cons (pv 0) (pa_cons (pv 5) (pa_cons (pv 4) pa_nil)))) (pa_cons (pe_call F_leak_place (hr.mono (by decide)) (by rfl) m_leak_place k_leak_place b_leak_place .nil pass0 (pa_cons (pv 0) (pa_cons (pe_op op_add (pv 5) (pe_int)) (pa_cons (pv 4) pa_nil)))) pa_nil)) (by rfl)) (pss_cons (ps_set (i := 8) nd rfl (by first | exact Or.inl rfl | exact Or.inr rfl) (pe_call F_water_known (hr.mono (by decide)) (by rfl) m_water_known k_water_known b_water_known .nil pass0 (pa_cons (pv 0) (pa_cons (pv 4) (pa_cons (pv 5) pa_nil))))) (pss_cons (ps_expr (pe_bm PySem.F.plainAttrs_list PySem.F.slot_list_append PySem.F.type_list_append mt_append (pv 2) (pa_cons (pe_tup (pa_cons (pv 9) (pa_cons (pv 10) (pa_cons (pe_op op_sub (pv 7) (pv 8)) pa_nil)))) pa_nil))) (pss_one (ps_expr (pe_bm PySem.F.plainAttrs_list PySem.F.slot_list_append PySem.F.type_list_append mt_append (pv 2) (pa_cons (pe_tup (pa_cons (pv 10) (pa_cons (pv 9) (pa_cons (pe_op op_sub (pv 8) (pv 6)) pa_nil)))) pa_nil)))))))) (pss_one (ps_ret (pv 2))))), ?_⟩
  unfold m_leak_limits at hm
  show BV K _ [.d (enc (book : (T3 (List Int) (List (List Int)) (List Int)))), .d (enc (readings : (List (T4 Int Int Int Int)))), .u, .u, .u, .u, .u, .u, .u, .u, .u] _
  obtain ⟨v1, g1, hm⟩ := bnd hm
  refine bv_setL (i := 2) (EF.to (l := ([] : List (T3 Int Int Int))) (ef_list (l := ([] : List (T3 Int Int Int))) (ed_nil) (by show 0 ≤ LIM; decide)) (Option.some.inj g1)) ?_
  show BV K _ [.d (enc (book : (T3 (List Int) (List (List Int)) (List Int)))), .d (enc (readings : (List (T4 Int Int Int Int)))), .l none (List.map enc (v1 : List (T3 Int Int Int))), .u, .u, .u, .u, .u, .u, .u, .u] _
  obtain ⟨v2, g2, hm⟩ := bnd hm
  obtain ⟨v3, g3, hm⟩ := bnd hm
  obtain ⟨s16, gs16, hm⟩ := bnd hm
  refine bv_foldq (env1 := [.d (enc (book : (T3 (List Int) (List (List Int)) (List Int)))), .d (enc (readings : (List (T4 Int Int Int Int)))), .l none (List.map enc (v1 : List (T3 Int Int Int))), .u, .u, .u, .u, .u, .u, .u, .u]) (xs := v3) (fun (s : (List (T3 Int Int Int))) => [.d (enc (book : (T3 (List Int) (List (List Int)) (List Int)))), .d (enc (readings : (List (T4 Int Int Int Int)))), .l none (List.map enc (s : List (T3 Int Int Int))), .u, .u, .u, .u, .u, .u, .u, .u]) (ei_R1 (ed_1 (ev_call (rel := rel_gate_count) rfl (ed_1 (ev_v (i := 0) rfl)) ⟨book, v2, rfl, g2, rfl, rfl⟩)) g3) ⟨.inr rfl, .inr rfl, .inr rfl, .inl rfl, .inl rfl, .inl rfl, .inl rfl, .inl rfl, .inl rfl, .inl rfl, .inl rfl, trivial⟩ gs16 (fun s4 x5 s_n hm => ?_) ?_
  · refine ⟨_, _, eg_n 3, ?_⟩
    show BV K _ [.d (enc (book : (T3 (List Int) (List (List Int)) (List Int)))), .d (enc (readings : (List (T4 Int Int Int Int)))), .l none (List.map enc (s4 : List (T3 Int Int Int))), .d (.int x5), .u, .u, .u, .u, .u, .u, .u] _
    unfold m_leak_limits_b2 at hm
    obtain ⟨v6, g6, hm⟩ := bnd hm
    obtain ⟨v7, g7, hm⟩ := bnd hm
    obtain ⟨s15, gs15, hm⟩ := bnd hm
    refine bv_fold (env1 := [.d (enc (book : (T3 (List Int) (List (List Int)) (List Int)))), .d (enc (readings : (List (T4 Int Int Int Int)))), .l none (List.map enc (s4 : List (T3 Int Int Int))), .d (.int x5), .u, .u, .u, .u, .u, .u, .u]) (xs := v7) (fun (s : (List (T3 Int Int Int))) => [.d (enc (book : (T3 (List Int) (List (List Int)) (List Int)))), .d (enc (readings : (List (T4 Int Int Int Int)))), .l none (List.map enc (s : List (T3 Int Int Int))), .d (.int x5), .u, .u, .u, .u, .u, .u, .u]) (ei_R1 (ed_1 (ev_call (rel := rel_day_count) rfl (ed_1 (ev_v (i := 0) rfl)) ⟨book, v6, rfl, g6, rfl, rfl⟩)) g7) ⟨.inr rfl, .inr rfl, .inr rfl, .inr rfl, .inl rfl, .inl rfl, .inl rfl, .inl rfl, .inl rfl, .inl rfl, .inl rfl, trivial⟩ gs15 (fun s8 x9 s_n hm => ?_) ?_
    · refine ⟨_, _, eg_n 4, ?_⟩
      show BV K _ [.d (enc (book : (T3 (List Int) (List (List Int)) (List Int)))), .d (enc (readings : (List (T4 Int Int Int Int)))), .l none (List.map enc (s8 : List (T3 Int Int Int))), .d (.int x5), .d (.int x9), .u, .u, .u, .u, .u, .u] _
      unfold m_leak_limits_b1 at hm
      obtain ⟨v10, g10, hm⟩ := bnd hm
      obtain ⟨v11, g11, hm⟩ := bnd hm
      obtain ⟨k12, hm⟩ := bndg hm
      refine bv_drop (ev_appS (i := 2) (l := s8) k12 rfl (ev_t3 (α := Int) (β := Int) (γ := Int) (p := v10) (r := v11) (s := 0) (ev_call (rel := rel_leak_place) rfl (ed_c (ev_v (i := 0) rfl) (ed_c (ev_v (i := 3) rfl) (ed_1 (ev_sub (ev_v (i := 4) rfl) (ev_i))))) ⟨book, x5, (x9 - 1), v10, rfl, g10, rfl, rfl⟩) (ev_call (rel := rel_leak_place) rfl (ed_c (ev_v (i := 0) rfl) (ed_c (ev_v (i := 3) rfl) (ed_1 (ev_v (i := 4) rfl)))) ⟨book, x5, x9, v11, rfl, g11, rfl, rfl⟩) (ev_i)) rfl) ?_
      show BV K _ [.d (enc (book : (T3 (List Int) (List (List Int)) (List Int)))), .d (enc (readings : (List (T4 Int Int Int Int)))), .l none (List.map enc ((s8 ++ [(T3.mk v10 v11 0)]) : List (T3 Int Int Int))), .d (.int x5), .d (.int x9), .u, .u, .u, .u, .u, .u] _
      refine bv_if (env1 := [.d (enc (book : (T3 (List Int) (List (List Int)) (List Int)))), .d (enc (readings : (List (T4 Int Int Int Int)))), .l none (List.map enc ((s8 ++ [(T3.mk v10 v11 0)]) : List (T3 Int Int Int))), .d (.int x5), .d (.int x9), .u, .u, .u, .u, .u, .u]) (et_cmp (ev_inT (a := x5) (l := book.c) (ev_v (i := 3) rfl) (ev_3c (p := book) (ev_v (i := 0) rfl)))) (fun hb => ?_) (fun hb => ?_)
      · have hm := cond_t hb hm
        obtain ⟨v13, g13, hm⟩ := bnd hm
        obtain ⟨k14, hm⟩ := bndg hm
        refine bv_drop1 (ev_appS (i := 2) (l := (s8 ++ [(T3.mk v10 v11 0)])) k14 rfl (ev_t3 (α := Int) (β := Int) (γ := Int) (p := v13) (r := 0) (s := 0) (ev_call (rel := rel_leak_place) rfl (ed_c (ev_v (i := 0) rfl) (ed_c (ev_v (i := 3) rfl) (ed_1 (ev_v (i := 4) rfl)))) ⟨book, x5, x9, v13, rfl, g13, rfl, rfl⟩) (ev_i) (ev_i)) rfl) ?_
        have hm := Option.some.inj hm; subst hm
        show Le [.d (enc (book : (T3 (List Int) (List (List Int)) (List Int)))), .d (enc (readings : (List (T4 Int Int Int Int)))), .l none (List.map enc (((s8 ++ [(T3.mk v10 v11 0)]) ++ [(T3.mk v13 0 0)]) : List (T3 Int Int Int))), .d (.int x5), .d (.int x9), .u, .u, .u, .u, .u, .u] [.d (enc (book : (T3 (List Int) (List (List Int)) (List Int)))), .d (enc (readings : (List (T4 Int Int Int Int)))), .l none (List.map enc (((s8 ++ [(T3.mk v10 v11 0)]) ++ [(T3.mk v13 0 0)]) : List (T3 Int Int Int))), .d (.int x5), .u, .u, .u, .u, .u, .u, .u]
        exact ⟨.inr rfl, .inr rfl, .inr rfl, .inr rfl, .inl rfl, .inl rfl, .inl rfl, .inl rfl, .inl rfl, .inl rfl, .inl rfl, trivial⟩
      · have hm := cond_f hb hm
        refine bv_nil ?_
        have hm := Option.some.inj hm; subst hm
        show Le [.d (enc (book : (T3 (List Int) (List (List Int)) (List Int)))), .d (enc (readings : (List (T4 Int Int Int Int)))), .l none (List.map enc ((s8 ++ [(T3.mk v10 v11 0)]) : List (T3 Int Int Int))), .d (.int x5), .d (.int x9), .u, .u, .u, .u, .u, .u] [.d (enc (book : (T3 (List Int) (List (List Int)) (List Int)))), .d (enc (readings : (List (T4 Int Int Int Int)))), .l none (List.map enc ((s8 ++ [(T3.mk v10 v11 0)]) : List (T3 Int Int Int))), .d (.int x5), .u, .u, .u, .u, .u, .u, .u]
        exact ⟨.inr rfl, .inr rfl, .inr rfl, .inr rfl, .inl rfl, .inl rfl, .inl rfl, .inl rfl, .inl rfl, .inl rfl, .inl rfl, trivial⟩
    have hm := Option.some.inj hm; subst hm
    show Le [.d (enc (book : (T3 (List Int) (List (List Int)) (List Int)))), .d (enc (readings : (List (T4 Int Int Int Int)))), .l none (List.map enc (s15 : List (T3 Int Int Int))), .d (.int x5), .u, .u, .u, .u, .u, .u, .u] [.d (enc (book : (T3 (List Int) (List (List Int)) (List Int)))), .d (enc (readings : (List (T4 Int Int Int Int)))), .l none (List.map enc (s15 : List (T3 Int Int Int))), .u, .u, .u, .u, .u, .u, .u, .u]
    exact ⟨.inr rfl, .inr rfl, .inr rfl, .inl rfl, .inl rfl, .inl rfl, .inl rfl, .inl rfl, .inl rfl, .inl rfl, .inl rfl, trivial⟩
  show BV K _ [.d (enc (book : (T3 (List Int) (List (List Int)) (List Int)))), .d (enc (readings : (List (T4 Int Int Int Int)))), .l none (List.map enc (s16 : List (T3 Int Int Int))), .u, .u, .u, .u, .u, .u, .u, .u] _
  obtain ⟨s24, gs24, hm⟩ := bnd hm
  refine bv_foldq (env1 := [.d (enc (book : (T3 (List Int) (List (List Int)) (List Int)))), .d (enc (readings : (List (T4 Int Int Int Int)))), .l none (List.map enc (s16 : List (T3 Int Int Int))), .u, .u, .u, .u, .u, .u, .u, .u]) (xs := readings) (fun (s : (List (T3 Int Int Int))) => [.d (enc (book : (T3 (List Int) (List (List Int)) (List Int)))), .d (enc (readings : (List (T4 Int Int Int Int)))), .l none (List.map enc (s : List (T3 Int Int Int))), .u, .u, .u, .u, .u, .u, .u, .u]) (ei_T (ev_v (i := 1) rfl)) ⟨.inr rfl, .inr rfl, .inr rfl, .inl rfl, .inl rfl, .inl rfl, .inl rfl, .inl rfl, .inl rfl, .inl rfl, .inl rfl, trivial⟩ gs24 (fun s17 x18 s_n hm => ?_) ?_
  · refine ⟨_, _, eg_p4 (p := x18) (egs_cons (eg_n 4) (egs_cons (eg_n 5) (egs_cons (eg_n 6) (egs_cons (eg_n 7) (egs_nil))))), ?_⟩
    show BV K _ [.d (enc (book : (T3 (List Int) (List (List Int)) (List Int)))), .d (enc (readings : (List (T4 Int Int Int Int)))), .l none (List.map enc (s17 : List (T3 Int Int Int))), .u, .d (.int x18.a), .d (.int x18.b), .d (.int x18.c), .d (.int x18.d), .u, .u, .u] _
    unfold m_leak_limits_b3 at hm
    obtain ⟨v19, g19, hm⟩ := bnd hm
    obtain ⟨v20, g20, hm⟩ := bnd hm
    refine bv_par (d := (.int v19)) (e := (.int v20)) (i := 9) (j := 10) (ed_c (ev_call (rel := rel_leak_place) rfl (ed_c (ev_v (i := 0) rfl) (ed_c (ev_v (i := 5) rfl) (ed_1 (ev_v (i := 4) rfl)))) ⟨book, x18.b, x18.a, v19, rfl, g19, rfl, rfl⟩) (ed_1 (ev_call (rel := rel_leak_place) rfl (ed_c (ev_v (i := 0) rfl) (ed_c (ev_add (ev_v (i := 5) rfl) (ev_i)) (ed_1 (ev_v (i := 4) rfl)))) ⟨book, (x18.b + 1), x18.a, v20, rfl, g20, rfl, rfl⟩))) ?_
    show BV K _ [.d (enc (book : (T3 (List Int) (List (List Int)) (List Int)))), .d (enc (readings : (List (T4 Int Int Int Int)))), .l none (List.map enc (s17 : List (T3 Int Int Int))), .u, .d (.int x18.a), .d (.int x18.b), .d (.int x18.c), .d (.int x18.d), .u, .d (.int v19), .d (.int v20)] _
    obtain ⟨v21, g21, hm⟩ := bnd hm
    refine bv_set (i := 8) (d := (.int v21)) (ev_call (rel := rel_water_known) rfl (ed_c (ev_v (i := 0) rfl) (ed_c (ev_v (i := 4) rfl) (ed_1 (ev_v (i := 5) rfl)))) ⟨book, x18.a, x18.b, v21, rfl, g21, rfl, rfl⟩) ?_
    show BV K _ [.d (enc (book : (T3 (List Int) (List (List Int)) (List Int)))), .d (enc (readings : (List (T4 Int Int Int Int)))), .l none (List.map enc (s17 : List (T3 Int Int Int))), .u, .d (.int x18.a), .d (.int x18.b), .d (.int x18.c), .d (.int x18.d), .d (.int v21), .d (.int v19), .d (.int v20)] _
    obtain ⟨k22, hm⟩ := bndg hm
    refine bv_drop (ev_appS (i := 2) (l := s17) k22 rfl (ev_t3 (α := Int) (β := Int) (γ := Int) (p := v19) (r := v20) (s := (x18.d - v21)) (ev_v (i := 9) rfl) (ev_v (i := 10) rfl) (ev_sub (ev_v (i := 7) rfl) (ev_v (i := 8) rfl))) rfl) ?_
    show BV K _ [.d (enc (book : (T3 (List Int) (List (List Int)) (List Int)))), .d (enc (readings : (List (T4 Int Int Int Int)))), .l none (List.map enc ((s17 ++ [(T3.mk v19 v20 (x18.d - v21))]) : List (T3 Int Int Int))), .u, .d (.int x18.a), .d (.int x18.b), .d (.int x18.c), .d (.int x18.d), .d (.int v21), .d (.int v19), .d (.int v20)] _
    obtain ⟨k23, hm⟩ := bndg hm
    refine bv_drop1 (ev_appS (i := 2) (l := (s17 ++ [(T3.mk v19 v20 (x18.d - v21))])) k23 rfl (ev_t3 (α := Int) (β := Int) (γ := Int) (p := v20) (r := v19) (s := (v21 - x18.c)) (ev_v (i := 10) rfl) (ev_v (i := 9) rfl) (ev_sub (ev_v (i := 8) rfl) (ev_v (i := 6) rfl))) rfl) ?_
    have hm := Option.some.inj hm; subst hm
    show Le [.d (enc (book : (T3 (List Int) (List (List Int)) (List Int)))), .d (enc (readings : (List (T4 Int Int Int Int)))), .l none (List.map enc (((s17 ++ [(T3.mk v19 v20 (x18.d - v21))]) ++ [(T3.mk v20 v19 (v21 - x18.c))]) : List (T3 Int Int Int))), .u, .d (.int x18.a), .d (.int x18.b), .d (.int x18.c), .d (.int x18.d), .d (.int v21), .d (.int v19), .d (.int v20)] [.d (enc (book : (T3 (List Int) (List (List Int)) (List Int)))), .d (enc (readings : (List (T4 Int Int Int Int)))), .l none (List.map enc (((s17 ++ [(T3.mk v19 v20 (x18.d - v21))]) ++ [(T3.mk v20 v19 (v21 - x18.c))]) : List (T3 Int Int Int))), .u, .u, .u, .u, .u, .u, .u, .u]
    exact ⟨.inr rfl, .inr rfl, .inr rfl, .inl rfl, .inl rfl, .inl rfl, .inl rfl, .inl rfl, .inl rfl, .inl rfl, .inl rfl, trivial⟩
  show BV K _ [.d (enc (book : (T3 (List Int) (List (List Int)) (List Int)))), .d (enc (readings : (List (T4 Int Int Int Int)))), .l none (List.map enc (s24 : List (T3 Int Int Int))), .u, .u, .u, .u, .u, .u, .u, .u] _
  refine bv_retO (i := 2) rfl ?_
  have hm := Option.some.inj hm; subst hm
  exact ⟨rfl, ⟨.inl ⟨rfl, fun _ _ z => by cases z⟩, .inl ⟨rfl, fun _ _ z => by cases z⟩, trivial⟩⟩
end K61

-- K61P06
namespace K61
open PySem PySem.Spec PyProof.Rows L2 RZ Gw
open Gw.Enc (enc)
/-! places_of -/
abbrev s_places_of : Stmt := topS 9
abbrev N_places_of : List Str := ["book"]
abbrev P_places_of : List Str := ["book"]
theorem sc_places_of : FnScope N_places_of P_places_of (defScope s_places_of) := ⟨rfl, rfl, rfl, by decide +kernel, rfl, by decide +kernel, by decide +kernel⟩
theorem ok_places_of {P : Program} {w : World} {K : FR} {mg : Str → Option Value} {base : Heap} (B : Bt mg) (c_gate_count : Cal P w K mg base "gate_count" P_gate_count 1 rel_gate_count) (c_day_count : Cal P w K mg base "day_count" P_day_count 1 rel_day_count) {f : Addr} {fd : FuncData} (F : Fun K "places_of" "places_of" s_places_of f fd) : FnOk P w K mg base CX0 2 f fd P_places_of (spG K P_places_of.length rel_places_of) := by
  obtain ⟨f_gate_count, fd_gate_count, F_gate_count, m_gate_count, k_gate_count, b_gate_count⟩ := c_gate_count.ex
  obtain ⟨f_day_count, fd_day_count, F_day_count, m_day_count, k_day_count, b_day_count⟩ := c_day_count.ex
  refine fn_ok F sc_places_of fun cdv A outer s H E hr as r as' hrel hlen => ?_
  have nd := sc_places_of.nd
  have hu := room_u64 hr
  have hu1 := room_u65 hr
  obtain ⟨book, res, rfl, hm, rfl, rfl⟩ := hrel
  refine ⟨_, pss_one (ps_ret (pe_op op_add (pe_int) (pe_op op_mulXX (pe_call F_gate_count (hr.mono (by decide)) (by rfl) m_gate_count k_gate_count b_gate_count .nil pass0 (pa_cons (pv 0) pa_nil)) (pe_call F_day_count (hr.mono (by decide)) (by rfl) m_day_count k_day_count b_day_count .nil pass0 (pa_cons (pv 0) pa_nil))))), ?_⟩
  unfold m_places_of at hm
  show BV K _ [.d (enc (book : (T3 (List Int) (List (List Int)) (List Int))))] _
  obtain ⟨v1, g1, hm⟩ := bnd hm
  obtain ⟨v2, g2, hm⟩ := bnd hm
  obtain ⟨k3, hm⟩ := bndg hm
  refine bv_ret (d := (.int (1 + (v1 * v2)))) (ev_add (ev_i) (ev_mul k3 (ev_call (rel := rel_gate_count) rfl (ed_1 (ev_v (i := 0) rfl)) ⟨book, v1, rfl, g1, rfl, rfl⟩) (ev_call (rel := rel_day_count) rfl (ed_1 (ev_v (i := 0) rfl)) ⟨book, v2, rfl, g2, rfl, rfl⟩))) ?_
  have hm := Option.some.inj hm; subst hm
  exact ⟨rfl, ⟨.inl ⟨rfl, fun _ _ z => by cases z⟩, trivial⟩⟩
end K61

-- K61P07
namespace K61
open PySem PySem.Spec PyProof.Rows L2 RZ Gw
open Gw.Enc (enc)
/-! keeps_all -/
abbrev s_keeps_all : Stmt := topS 10
abbrev N_keeps_all : List Str := ["numbers", "limits", "low", "high", "more"]
abbrev P_keeps_all : List Str := ["numbers", "limits"]
theorem sc_keeps_all : FnScope N_keeps_all P_keeps_all (defScope s_keeps_all) := ⟨rfl, rfl, rfl, by decide +kernel, rfl, by decide +kernel, by decide +kernel⟩
theorem ok_keeps_all {P : Program} {w : World} {K : FR} {mg : Str → Option Value} {base : Heap} (B : Bt mg) {f : Addr} {fd : FuncData} (F : Fun K "keeps_all" "keeps_all" s_keeps_all f fd) : FnOk P w K mg base CX0 1 f fd P_keeps_all (spG K P_keeps_all.length rel_keeps_all) := by
  refine fn_ok F sc_keeps_all fun cdv A outer s H E hr as r as' hrel hlen => ?_
  have nd := sc_keeps_all.nd
  have hu := room_u64 hr
  have hu1 := room_u65 hr
  obtain ⟨numbers, limits, res, rfl, hm, rfl, rfl⟩ := hrel
  refine ⟨_, pss_one (ps_ret (pe_callB (k_cr_all (K := K)) (by rfl) B.b_all (by decide +kernel) (pa_cons (pe_lc (own := [("low", 2), ("high", 3), ("more", 4)]) rfl nd (k_pi_list (K := K) (pv 1)) (blkOk_by (own := [("low", 2), ("high", 3), ("more", 4)]) (N := N_keeps_all) (sc := defScope s_keeps_all) (by decide +kernel)) (fun _ _ _ _ _ => k_pg_tup (K := K) (n := 3) rfl (pgs_cons (pg_name (i := 2) nd rfl (by first | exact Or.inl rfl | exact Or.inr rfl)) (pgs_cons (pg_name (i := 3) nd rfl (by first | exact Or.inl rfl | exact Or.inr rfl)) (pgs_cons (pg_name (i := 4) nd rfl (by first | exact Or.inl rfl | exact Or.inr rfl)) (pgs_nil))))) (fun _ _ _ _ _ => pts_nil) (fun _ _ _ _ _ => pe_cmpR (op_le) (pe_ix (k_ix_list (K := K)) (pv 0) (pv 2) (fun _ _ => rfl)) (pe_op op_add (pe_ix (k_ix_list (K := K)) (pv 0) (pv 3) (fun _ _ => rfl)) (pv 4)) (nomark _))) pa_nil))), ?_⟩
  unfold m_keeps_all at hm
  show BV K _ [.d (enc (numbers : (Ls Int))), .d (enc (limits : (Ls (T3 Int Int Int)))), .u, .u, .u] _
  obtain ⟨v4, g4, hm⟩ := bnd hm
  refine bv_ret (d := (.bool ((v4).all id))) (ev_all (bs := v4) (ef_mapO (env1 := [.d (enc (numbers : (Ls Int))), .d (enc (limits : (Ls (T3 Int Int Int)))), .u, .u, .u]) (xs := limits.l) [.d (enc (numbers : (Ls Int))), .d (enc (limits : (Ls (T3 Int Int Int)))), .u, .u, .u] (ei_L (ev_v (i := 1) rfl)) ⟨.inr rfl, .inr rfl, .inl rfl, .inl rfl, .inl rfl, trivial⟩ rfl g4 (fun x1 y5 hm => by unfold m_keeps_all_c1 at hm; obtain ⟨v2, g2, hm⟩ := bnd hm; obtain ⟨v3, g3, hm⟩ := bnd hm; have hm := Option.some.inj hm; subst hm; exact ⟨_, _, _, eg_p3 (p := x1) (egs_cons (eg_n 2) (egs_cons (eg_n 3) (egs_cons (eg_n 4) (egs_nil)))), (by decide), ev_le (EV.ofI (ev_atL (l := numbers.l) (ev_v (i := 0) rfl) (ev_v (i := 2) rfl) g2)) (ev_add (EV.ofI (ev_atL (l := numbers.l) (ev_v (i := 0) rfl) (ev_v (i := 3) rfl) g3)) (ev_v (i := 4) rfl)), ⟨.inr rfl, .inr rfl, .inl rfl, .inl rfl, .inl rfl, trivial⟩⟩))) ?_
  have hm := Option.some.inj hm; subst hm
  exact ⟨rfl, ⟨.inl ⟨rfl, fun _ _ z => by cases z⟩, .inl ⟨rfl, fun _ _ z => by cases z⟩, trivial⟩⟩
end K61

-- K61P08
namespace K61
open PySem PySem.Spec PyProof.Rows L2 RZ Gw
open Gw.Enc (enc)
/-! story_of_numbers -/
abbrev s_story_of_numbers : Stmt := topS 11
abbrev N_story_of_numbers : List Str := ["book", "numbers", "told", "day", "gate"]
abbrev P_story_of_numbers : List Str := ["book", "numbers"]
theorem sc_story_of_numbers : FnScope N_story_of_numbers P_story_of_numbers (defScope s_story_of_numbers) := ⟨rfl, rfl, rfl, by decide +kernel, rfl, by decide +kernel, by decide +kernel⟩
theorem ok_story_of_numbers {P : Program} {w : World} {K : FR} {mg : Str → Option Value} {base : Heap} (B : Bt mg) (c_day_count : Cal P w K mg base "day_count" P_day_count 1 rel_day_count) (c_gate_count : Cal P w K mg base "gate_count" P_gate_count 1 rel_gate_count) (c_leak_place : Cal P w K mg base "leak_place" P_leak_place 2 rel_leak_place) {f : Addr} {fd : FuncData} (F : Fun K "story_of_numbers" "story_of_numbers" s_story_of_numbers f fd) : FnOk P w K mg base CX0 3 f fd P_story_of_numbers (spG K P_story_of_numbers.length rel_story_of_numbers) := by
  obtain ⟨f_day_count, fd_day_count, F_day_count, m_day_count, k_day_count, b_day_count⟩ := c_day_count.ex
  obtain ⟨f_gate_count, fd_gate_count, F_gate_count, m_gate_count, k_gate_count, b_gate_count⟩ := c_gate_count.ex
  obtain ⟨f_leak_place, fd_leak_place, F_leak_place, m_leak_place, k_leak_place, b_leak_place⟩ := c_leak_place.ex
  refine fn_ok F sc_story_of_numbers fun cdv A outer s H E hr as r as' hrel hlen => ?_
  have nd := sc_story_of_numbers.nd
  have hu := room_u64 hr
  have hu1 := room_u65 hr
  obtain ⟨book, numbers, res, rfl, hm, rfl, rfl⟩ := hrel
  refine ⟨_, pss_cons (ps_set (i := 2) nd rfl (by first | exact Or.inl rfl | exact Or.inr rfl) (pe_lst (pa_nil))) (pss_cons (ps_for PassesOwn.never rfl (pi_range1 (by rfl) B.b_range (pa_cons (pe_call F_day_count (hr.mono (by decide)) (by rfl) m_day_count k_day_count b_day_count .nil pass0 (pa_cons (pv 0) pa_nil)) pa_nil)) (pg_name (i := 3) nd rfl (by first | exact Or.inl rfl | exact Or.inr rfl)) (pss_one (ps_expr (pe_bm PySem.F.plainAttrs_list PySem.F.slot_list_append PySem.F.type_list_append mt_append (pv 2) (pa_cons (pe_callTy ((k_cr_tupS (K := K))) (by rfl) B.b_tuple (by decide +kernel) (pa_cons (pe_lc (own := [("gate", 4)]) rfl nd (pi_range1 (by rfl) B.b_range (pa_cons (pe_call F_gate_count (hr.mono (by decide)) (by rfl) m_gate_count k_gate_count b_gate_count .nil pass0 (pa_cons (pv 0) pa_nil)) pa_nil)) (blkOk_by (own := [("gate", 4)]) (N := N_story_of_numbers) (sc := defScope s_story_of_numbers) (by decide +kernel)) (fun _ _ _ _ _ => pg_name (i := 4) nd rfl (by first | exact Or.inl rfl | exact Or.inr rfl)) (fun _ _ _ _ _ => pts_nil) (fun _ _ _ _ _ => pe_op op_sub (pe_ix (k_ix_list (K := K)) (pv 1) (pe_call F_leak_place (hr.mono (by decide)) (by rfl) m_leak_place k_leak_place b_leak_place .nil pass0 (pa_cons (pv 0) (pa_cons (pv 4) (pa_cons (pv 3) pa_nil)))) (fun _ _ => rfl)) (pe_ix (k_ix_list (K := K)) (pv 1) (pe_call F_leak_place (hr.mono (by decide)) (by rfl) m_leak_place k_leak_place b_leak_place .nil pass0 (pa_cons (pv 0) (pa_cons (pv 4) (pa_cons (pe_op op_sub (pv 3) (pe_int)) pa_nil)))) (fun _ _ => rfl)))) pa_nil)) pa_nil))))) (pss_one (ps_ret (pe_callTy ((k_cr_tupS (K := K))) (by rfl) B.b_tuple (by decide +kernel) (pa_cons (pv 2) pa_nil))))), ?_⟩
  unfold m_story_of_numbers at hm
  show BV K _ [.d (enc (book : (T3 (List Int) (List (List Int)) (List Int)))), .d (enc (numbers : (Ls Int))), .u, .u, .u] _
  refine bv_setL (i := 2) (ef_list (l := ([] : List (List Int))) (ed_nil) (by show 0 ≤ LIM; decide)) ?_
  show BV K _ [.d (enc (book : (T3 (List Int) (List (List Int)) (List Int)))), .d (enc (numbers : (Ls Int))), .l none (List.map enc (([] : List (List Int)) : List (List Int))), .u, .u] _
  obtain ⟨v1, g1, hm⟩ := bnd hm
  obtain ⟨v2, g2, hm⟩ := bnd hm
  obtain ⟨s15, gs15, hm⟩ := bnd hm
  refine bv_foldq (env1 := [.d (enc (book : (T3 (List Int) (List (List Int)) (List Int)))), .d (enc (numbers : (Ls Int))), .l none (List.map enc (([] : List (List Int)) : List (List Int))), .u, .u]) (xs := v2) (fun (s : (List (List Int))) => [.d (enc (book : (T3 (List Int) (List (List Int)) (List Int)))), .d (enc (numbers : (Ls Int))), .l none (List.map enc (s : List (List Int))), .u, .u]) (ei_R1 (ed_1 (ev_call (rel := rel_day_count) rfl (ed_1 (ev_v (i := 0) rfl)) ⟨book, v1, rfl, g1, rfl, rfl⟩)) g2) ⟨.inr rfl, .inr rfl, .inr rfl, .inl rfl, .inl rfl, trivial⟩ gs15 (fun s3 x4 s_n hm => ?_) ?_
  · refine ⟨_, _, eg_n 3, ?_⟩
    show BV K _ [.d (enc (book : (T3 (List Int) (List (List Int)) (List Int)))), .d (enc (numbers : (Ls Int))), .l none (List.map enc (s3 : List (List Int))), .d (.int x4), .u] _
    unfold m_story_of_numbers_b2 at hm
    obtain ⟨v5, g5, hm⟩ := bnd hm
    obtain ⟨v6, g6, hm⟩ := bnd hm
    obtain ⟨v12, g12, hm⟩ := bnd hm
    obtain ⟨k14, hm⟩ := bndg hm
    refine bv_drop1 (ev_appS (i := 2) (l := s3) k14 rfl (ev_tupF (ef_mapO (env1 := [.d (enc (book : (T3 (List Int) (List (List Int)) (List Int)))), .d (enc (numbers : (Ls Int))), .l none (List.map enc (s3 : List (List Int))), .d (.int x4), .u]) (xs := v6) [.d (enc (book : (T3 (List Int) (List (List Int)) (List Int)))), .d (enc (numbers : (Ls Int))), .l none (List.map enc (s3 : List (List Int))), .d (.int x4), .u] (ei_R1 (ed_1 (ev_call (rel := rel_gate_count) rfl (ed_1 (ev_v (i := 0) rfl)) ⟨book, v5, rfl, g5, rfl, rfl⟩)) g6) ⟨.inr rfl, .inr rfl, .inr rfl, .inr rfl, .inl rfl, trivial⟩ rfl g12 (fun x7 y13 hm => by unfold m_story_of_numbers_c1 at hm; obtain ⟨v8, g8, hm⟩ := bnd hm; obtain ⟨v9, g9, hm⟩ := bnd hm; obtain ⟨v10, g10, hm⟩ := bnd hm; obtain ⟨v11, g11, hm⟩ := bnd hm; have hm := Option.some.inj hm; subst hm; exact ⟨_, _, _, eg_n 4, (by decide), ev_sub (EV.ofI (ev_atL (l := numbers.l) (ev_v (i := 1) rfl) (ev_call (rel := rel_leak_place) rfl (ed_c (ev_v (i := 0) rfl) (ed_c (ev_v (i := 4) rfl) (ed_1 (ev_v (i := 3) rfl)))) ⟨book, x7, x4, v8, rfl, g8, rfl, rfl⟩) g9)) (EV.ofI (ev_atL (l := numbers.l) (ev_v (i := 1) rfl) (ev_call (rel := rel_leak_place) rfl (ed_c (ev_v (i := 0) rfl) (ed_c (ev_v (i := 4) rfl) (ed_1 (ev_sub (ev_v (i := 3) rfl) (ev_i))))) ⟨book, x7, (x4 - 1), v10, rfl, g10, rfl, rfl⟩) g11)), ⟨.inr rfl, .inr rfl, .inr rfl, .inr rfl, .inl rfl, trivial⟩⟩))) rfl) ?_
    have hm := Option.some.inj hm; subst hm
    show Le [.d (enc (book : (T3 (List Int) (List (List Int)) (List Int)))), .d (enc (numbers : (Ls Int))), .l none (List.map enc ((s3 ++ [v12]) : List (List Int))), .d (.int x4), .u] [.d (enc (book : (T3 (List Int) (List (List Int)) (List Int)))), .d (enc (numbers : (Ls Int))), .l none (List.map enc ((s3 ++ [v12]) : List (List Int))), .u, .u]
    exact ⟨.inr rfl, .inr rfl, .inr rfl, .inl rfl, .inl rfl, trivial⟩
  show BV K _ [.d (enc (book : (T3 (List Int) (List (List Int)) (List Int)))), .d (enc (numbers : (Ls Int))), .l none (List.map enc (s15 : List (List Int))), .u, .u] _
  refine bv_ret (d := (enc (s15 : (List (List Int))))) (ev_tupO (i := 2) rfl) ?_
  have hm := Option.some.inj hm; subst hm
  exact ⟨rfl, ⟨.inl ⟨rfl, fun _ _ z => by cases z⟩, .inl ⟨rfl, fun _ _ z => by cases z⟩, trivial⟩⟩
end K61

-- K61P09
namespace K61
open PySem PySem.Spec PyProof.Rows L2 RZ Gw
open Gw.Enc (enc)
/-! leak_story -/
abbrev s_leak_story : Stmt := topS 12
abbrev N_leak_story : List Str := ["book", "readings", "limits", "numbers"]
abbrev P_leak_story : List Str := ["book", "readings"]
theorem sc_leak_story : FnScope N_leak_story P_leak_story (defScope s_leak_story) := ⟨rfl, rfl, rfl, by decide +kernel, rfl, by decide +kernel, by decide +kernel⟩
theorem ok_leak_story {P : Program} {w : World} {K : FR} {mg : Str → Option Value} {base : Heap} (B : Bt mg) (c_leak_limits : Cal P w K mg base "leak_limits" P_leak_limits 3 rel_leak_limits) (c_least_potentials : Cal P w K mg base "least_potentials" P_least_potentials 1 rel_least_potentials) (c_places_of : Cal P w K mg base "places_of" P_places_of 2 rel_places_of) (c_keeps_all : Cal P w K mg base "keeps_all" P_keeps_all 1 rel_keeps_all) (c_story_of_numbers : Cal P w K mg base "story_of_numbers" P_story_of_numbers 3 rel_story_of_numbers) {f : Addr} {fd : FuncData} (F : Fun K "leak_story" "leak_story" s_leak_story f fd) : FnOk P w K mg base CX0 4 f fd P_leak_story (spG K P_leak_story.length rel_leak_story) := by
  obtain ⟨f_leak_limits, fd_leak_limits, F_leak_limits, m_leak_limits, k_leak_limits, b_leak_limits⟩ := c_leak_limits.ex
  obtain ⟨f_least_potentials, fd_least_potentials, F_least_potentials, m_least_potentials, k_least_potentials, b_least_potentials⟩ := c_least_potentials.ex
  obtain ⟨f_places_of, fd_places_of, F_places_of, m_places_of, k_places_of, b_places_of⟩ := c_places_of.ex
  obtain ⟨f_keeps_all, fd_keeps_all, F_keeps_all, m_keeps_all, k_keeps_all, b_keeps_all⟩ := c_keeps_all.ex
  obtain ⟨f_story_of_numbers, fd_story_of_numbers, F_story_of_numbers, m_story_of_numbers, k_story_of_numbers, b_story_of_numbers⟩ := c_story_of_numbers.ex
  refine fn_ok F sc_leak_story fun cdv A outer s H E hr as r as' hrel hlen => ?_
  have nd := sc_leak_story.nd
  have hu := room_u64 hr
  have hu1 := room_u65 hr
  obtain ⟨book, readings, res, rfl, hm, rfl, rfl⟩ := hrel
  refine ⟨_, pss_cons (ps_set (i := 2) nd rfl (by first | exact Or.inl rfl | exact Or.inr rfl) (pe_call F_leak_limits (hr.mono (by decide)) (by rfl) m_leak_limits k_leak_limits b_leak_limits .nil pass0 (pa_cons (pv 0) (pa_cons (pv 1) pa_nil)))) (pss_cons (ps_set (i := 3) nd rfl (by first | exact Or.inl rfl | exact Or.inr rfl) (pe_call F_least_potentials (hr.mono (by decide)) (by rfl) m_least_potentials k_least_potentials b_least_potentials .nil pass0 (pa_cons (pe_call F_places_of (hr.mono (by decide)) (by rfl) m_places_of k_places_of b_places_of .nil pass0 (pa_cons (pv 0) pa_nil)) (pa_cons (pv 2) pa_nil)))) (pss_one (ps_ret (pe_ifExp (pt_val (pe_call F_keeps_all (hr.mono (by decide)) (by rfl) m_keeps_all k_keeps_all b_keeps_all .nil pass0 (pa_cons (pv 3) (pa_cons (pv 2) pa_nil)))) (pe_call F_story_of_numbers (hr.mono (by decide)) (by rfl) m_story_of_numbers k_story_of_numbers b_story_of_numbers .nil pass0 (pa_cons (pv 0) (pa_cons (pv 3) pa_nil))) (pe_non))))), ?_⟩
  unfold m_leak_story at hm
  show BV K _ [.d (enc (book : (T3 (List Int) (List (List Int)) (List Int)))), .d (enc (readings : (List (T4 Int Int Int Int)))), .u, .u] _
  obtain ⟨v1, g1, hm⟩ := bnd hm
  refine bv_set (i := 2) (d := (enc ((Ls.mk v1) : (Ls (T3 Int Int Int))))) (EF.dat (ef_call (rel := rel_leak_limits) rfl (ed_c (ev_v (i := 0) rfl) (ed_1 (ev_v (i := 1) rfl))) ⟨book, readings, v1, rfl, g1, rfl, rfl⟩)) ?_
  show BV K _ [.d (enc (book : (T3 (List Int) (List (List Int)) (List Int)))), .d (enc (readings : (List (T4 Int Int Int Int)))), .d (enc ((Ls.mk v1) : (Ls (T3 Int Int Int)))), .u] _
  obtain ⟨v2, g2, hm⟩ := bnd hm
  obtain ⟨v3, g3, hm⟩ := bnd hm
  refine bv_set (i := 3) (d := (enc ((Ls.mk v3) : (Ls Int)))) (EF.dat (ef_call (rel := rel_least_potentials) rfl (ed_c (ev_call (rel := rel_places_of) rfl (ed_1 (ev_v (i := 0) rfl)) ⟨book, v2, rfl, g2, rfl, rfl⟩) (ed_1 (ev_v (i := 2) rfl))) ⟨v2, (Ls.mk v1), v3, rfl, g3, rfl, rfl⟩)) ?_
  show BV K _ [.d (enc (book : (T3 (List Int) (List (List Int)) (List Int)))), .d (enc (readings : (List (T4 Int Int Int Int)))), .d (enc ((Ls.mk v1) : (Ls (T3 Int Int Int)))), .d (enc ((Ls.mk v3) : (Ls Int)))] _
  obtain ⟨v4, g4, hm⟩ := bnd hm
  obtain ⟨v6, g6, hm⟩ := bnd hm
  refine bv_ret (d := (enc (v6 : (Option (List (List Int)))))) (ev_if (env2 := [.d (enc (book : (T3 (List Int) (List (List Int)) (List Int)))), .d (enc (readings : (List (T4 Int Int Int Int)))), .d (enc ((Ls.mk v1) : (Ls (T3 Int Int Int)))), .d (enc ((Ls.mk v3) : (Ls Int)))]) (d := (enc (v6 : (Option (List (List Int)))))) (et_val (ev_call (rel := rel_keeps_all) rfl (ed_c (ev_v (i := 3) rfl) (ed_1 (ev_v (i := 2) rfl))) ⟨(Ls.mk v3), (Ls.mk v1), v4, rfl, g4, rfl, rfl⟩)) (fun hb => by have hm := cond_t hb g6; obtain ⟨v5, g5, hm⟩ := bnd hm; have hm := Option.some.inj hm; subst hm; exact ev_call (rel := rel_story_of_numbers) rfl (ed_c (ev_v (i := 0) rfl) (ed_1 (ev_v (i := 3) rfl))) ⟨book, (Ls.mk v3), v5, rfl, g5, rfl, rfl⟩) (fun hb => by have hm := cond_f hb g6; have hm := Option.some.inj hm; subst hm; exact ev_n)) ?_
  have hm := Option.some.inj hm; subst hm
  exact ⟨rfl, ⟨.inl ⟨rfl, fun _ _ z => by cases z⟩, .inl ⟨rfl, fun _ _ z => by cases z⟩, trivial⟩⟩
end K61

-- K61P10
namespace K61
open PySem PySem.Spec PyProof.Rows L2 RZ Gw
open Gw.Enc (enc)
/-! some_readings -/
abbrev s_some_readings : Stmt := topS 13
abbrev N_some_readings : List Str := ["readings", "chosen", "index"]
abbrev P_some_readings : List Str := ["readings", "chosen"]
theorem sc_some_readings : FnScope N_some_readings P_some_readings (defScope s_some_readings) := ⟨rfl, rfl, rfl, by decide +kernel, rfl, by decide +kernel, by decide +kernel⟩
theorem ok_some_readings {P : Program} {w : World} {K : FR} {mg : Str → Option Value} {base : Heap} (B : Bt mg) {f : Addr} {fd : FuncData} (F : Fun K "some_readings" "some_readings" s_some_readings f fd) : FnOk P w K mg base CX0 1 f fd P_some_readings (spG K P_some_readings.length rel_some_readings) := by
  refine fn_ok F sc_some_readings fun cdv A outer s H E hr as r as' hrel hlen => ?_
  have nd := sc_some_readings.nd
  have hu := room_u64 hr
  have hu1 := room_u65 hr
  obtain ⟨readings, chosen, res, rfl, hm, rfl, rfl⟩ := hrel
  refine ⟨_, pss_one (ps_ret (pe_callTy ((k_cr_tupS (K := K))) (by rfl) B.b_tuple (by decide +kernel) (pa_cons (pe_lc (own := [("index", 2)]) rfl nd (k_pi_list (K := K) (pv 1)) (blkOk_by (own := [("index", 2)]) (N := N_some_readings) (sc := defScope s_some_readings) (by decide +kernel)) (fun _ _ _ _ _ => pg_name (i := 2) nd rfl (by first | exact Or.inl rfl | exact Or.inr rfl)) (fun _ _ _ _ _ => pts_nil) (fun _ _ _ _ _ => pe_ix (k_ix_tup (K := K)) (pv 0) (pv 2) (fun _ _ => rfl))) pa_nil))), ?_⟩
  unfold m_some_readings at hm
  show BV K _ [.d (enc (readings : (List (T4 Int Int Int Int)))), .d (enc (chosen : (Ls Int))), .u] _
  obtain ⟨v3, g3, hm⟩ := bnd hm
  refine bv_ret (d := (enc (v3 : (List (T4 Int Int Int Int))))) (ev_tupF (ef_mapO (env1 := [.d (enc (readings : (List (T4 Int Int Int Int)))), .d (enc (chosen : (Ls Int))), .u]) (xs := chosen.l) [.d (enc (readings : (List (T4 Int Int Int Int)))), .d (enc (chosen : (Ls Int))), .u] (ei_L (ev_v (i := 1) rfl)) ⟨.inr rfl, .inr rfl, .inl rfl, trivial⟩ rfl g3 (fun x1 y4 hm => by unfold m_some_readings_c1 at hm; obtain ⟨v2, g2, hm⟩ := bnd hm; have hm := Option.some.inj hm; subst hm; exact ⟨_, _, _, eg_n 2, (by decide), ev_at (l := readings) (ev_v (i := 0) rfl) (ev_v (i := 2) rfl) g2, ⟨.inr rfl, .inr rfl, .inl rfl, trivial⟩⟩))) ?_
  have hm := Option.some.inj hm; subst hm
  exact ⟨rfl, ⟨.inl ⟨rfl, fun _ _ z => by cases z⟩, .inl ⟨rfl, fun _ _ z => by cases z⟩, trivial⟩⟩
end K61

-- K61P11
namespace K61
open PySem PySem.Spec PyProof.Rows L2 RZ Gw
open Gw.Enc (enc)
/-! fewest_to_go -/
abbrev s_fewest_to_go : Stmt := topS 14
abbrev N_fewest_to_go : List Str := ["book", "readings", "many", "gone", "kept", "index"]
abbrev P_fewest_to_go : List Str := ["book", "readings"]
theorem sc_fewest_to_go : FnScope N_fewest_to_go P_fewest_to_go (defScope s_fewest_to_go) := ⟨rfl, rfl, rfl, by decide +kernel, rfl, by decide +kernel, by decide +kernel⟩
theorem ok_fewest_to_go {P : Program} {w : World} {K : FR} {mg : Str → Option Value} {base : Heap} (B : Bt mg) (c_leak_story : Cal P w K mg base "leak_story" P_leak_story 4 rel_leak_story) (c_some_readings : Cal P w K mg base "some_readings" P_some_readings 1 rel_some_readings) (m_combinations : mg "combinations" = some (.type "itertools.combinations")) {f : Addr} {fd : FuncData} (F : Fun K "fewest_to_go" "fewest_to_go" s_fewest_to_go f fd) : FnOk P w K mg base CX0 5 f fd P_fewest_to_go (spG K P_fewest_to_go.length rel_fewest_to_go) := by
  obtain ⟨f_leak_story, fd_leak_story, F_leak_story, m_leak_story, k_leak_story, b_leak_story⟩ := c_leak_story.ex
  obtain ⟨f_some_readings, fd_some_readings, F_some_readings, m_some_readings, k_some_readings, b_some_readings⟩ := c_some_readings.ex
  refine fn_ok F sc_fewest_to_go fun cdv A outer s H E hr as r as' hrel hlen => ?_
  have nd := sc_fewest_to_go.nd
  have hu := room_u64 hr
  have hu1 := room_u65 hr
  obtain ⟨book, readings, res, rfl, hm, rfl, rfl⟩ := hrel
  refine ⟨_, pss_cons (ps_for PassesOwn.never rfl (pi_range1 (by rfl) B.b_range (pa_cons (pe_op op_add (pe_callB ((k_cr_lenS (K := K))) (by rfl) B.b_len PySem.boot_len (pa_cons (pv 1) pa_nil)) (pe_int)) pa_nil)) (pg_name (i := 2) nd rfl (by first | exact Or.inl rfl | exact Or.inr rfl)) (pss_one (ps_for PassesOwn.never rfl (k_pi_comb (K := K) (by rfl) m_combinations (pa_cons (pe_callTy (cr_rng1) (by rfl) B.b_range boot_range (pa_cons (pe_callB ((k_cr_lenS (K := K))) (by rfl) B.b_len PySem.boot_len (pa_cons (pv 1) pa_nil)) pa_nil)) (pa_cons (pv 2) pa_nil))) (pg_name (i := 3) nd rfl (by first | exact Or.inl rfl | exact Or.inr rfl)) (pss_cons (ps_setLc (i := 4) (own := [("index", 5)]) rfl nd rfl rfl (sw_true rfl rfl rfl (by decide +kernel)) (pi_range1 (by rfl) B.b_range (pa_cons (pe_callB ((k_cr_lenS (K := K))) (by rfl) B.b_len PySem.boot_len (pa_cons (pv 1) pa_nil)) pa_nil)) (blkOk_by (own := [("index", 5)]) (N := N_fewest_to_go) (sc := defScope s_fewest_to_go) (by decide +kernel)) (fun _ _ _ _ _ => pg_name (i := 5) nd rfl (by first | exact Or.inl rfl | exact Or.inr rfl)) (fun _ _ _ _ _ => pts_one (pt_cmpR ((k_op_notIn_seq (K := K))) (pv 5) (pv 3) (by rfl))) (fun _ _ _ _ _ => pv 5)) (pss_one (ps_if (pt_cmpR (op_not0) (pe_call F_leak_story (hr.mono (by decide)) (by rfl) m_leak_story k_leak_story b_leak_story .nil pass0 (pa_cons (pv 0) (pa_cons (pe_call F_some_readings (hr.mono (by decide)) (by rfl) m_some_readings k_some_readings b_some_readings .nil pass0 (pa_cons (pv 1) (pa_cons (pv 4) pa_nil))) pa_nil))) (pe_non) (nomark _)) (pss_one (ps_ret (pe_tup (pa_cons (pv 2) (pa_cons (pv 3) pa_nil))))) (pss_nil))))))) (pss_one (ps_ret (pe_non))), ?_⟩
  unfold m_fewest_to_go at hm
  show BV K _ [.d (enc (book : (T3 (List Int) (List (List Int)) (List Int)))), .d (enc (readings : (List (T4 Int Int Int Int)))), .u, .u, .u, .u] _
  obtain ⟨v1, g1, hm⟩ := bnd hm
  obtain ⟨c16, gc16, hm⟩ := bnd hm
  refine bv_forq (env1 := [.d (enc (book : (T3 (List Int) (List (List Int)) (List Int)))), .d (enc (readings : (List (T4 Int Int Int Int)))), .u, .u, .u, .u]) (xs := v1) (fun (s : Unit) => [.d (enc (book : (T3 (List Int) (List (List Int)) (List Int)))), .d (enc (readings : (List (T4 Int Int Int Int)))), .u, .u, .u, .u]) (fun (ρ : (Option (Int × (List Int)))) r e => r = .d (enc (ρ : (Option (Int × (List Int))))) ∧ EndOk [.d (enc (book : (T3 (List Int) (List (List Int)) (List Int)))), .d (enc (readings : (List (T4 Int Int Int Int))))] [.u, .u] e) (ei_R1 (ed_1 (ev_add (ev_len (l := readings) (ev_v (i := 1) rfl)) (ev_i))) g1) ⟨.inr rfl, .inr rfl, .inl rfl, .inl rfl, .inl rfl, .inl rfl, trivial⟩ gc16 (fun s2 x3 c hm => ?_) (fun ρ r e hc hρ => ?_) (fun s15 hc => ?_)
  · refine ⟨_, _, eg_n 2, ?_⟩
    show BV K _ [.d (enc (book : (T3 (List Int) (List (List Int)) (List Int)))), .d (enc (readings : (List (T4 Int Int Int Int)))), .d (.int x3), .u, .u, .u] _
    unfold m_fewest_to_go_b2 at hm
    obtain ⟨v4, g4, hm⟩ := bnd hm
    obtain ⟨v5, g5, hm⟩ := bnd hm
    obtain ⟨c14, gc14, hm⟩ := bnd hm
    refine bv_for (env1 := [.d (enc (book : (T3 (List Int) (List (List Int)) (List Int)))), .d (enc (readings : (List (T4 Int Int Int Int)))), .d (.int x3), .u, .u, .u]) (xs := v5) (fun (s : Unit) => [.d (enc (book : (T3 (List Int) (List (List Int)) (List Int)))), .d (enc (readings : (List (T4 Int Int Int Int)))), .d (.int x3), .u, .u, .u]) (fun (ρ : (Option (Int × (List Int)))) r e => r = .d (enc (ρ : (Option (Int × (List Int))))) ∧ EndOk [.d (enc (book : (T3 (List Int) (List (List Int)) (List Int)))), .d (enc (readings : (List (T4 Int Int Int Int))))] [.u, .u] e) (ei_combR (er_range1 (ed_1 (ev_len (l := readings) (ev_v (i := 1) rfl)))) (ev_v (i := 2) rfl) g4 g5) ⟨.inr rfl, .inr rfl, .inr rfl, .inl rfl, .inl rfl, .inl rfl, trivial⟩ gc14 (fun s6 x7 c hm => ?_) (fun s13 hc => ?_) (fun ρ r e hc hρ => ?_)
    · refine ⟨_, _, eg_n 3, ?_⟩
      show BV K _ [.d (enc (book : (T3 (List Int) (List (List Int)) (List Int)))), .d (enc (readings : (List (T4 Int Int Int Int)))), .d (.int x3), .d (enc (x7 : (List Int))), .u, .u] _
      unfold m_fewest_to_go_b1 at hm
      obtain ⟨v8, g8, hm⟩ := bnd hm
      obtain ⟨v10, g10, hm⟩ := bnd hm
      refine bv_set (i := 4) (d := (enc ((Ls.mk v10) : (Ls Int)))) (EF.dat (EF.to (l := (List.map (fun (x9 : Int) => x9) (List.filter (fun (x9 : Int) => (!decide (x9 ∈ x7))) v8))) (ef_fil (env1 := [.d (enc (book : (T3 (List Int) (List (List Int)) (List Int)))), .d (enc (readings : (List (T4 Int Int Int Int)))), .d (.int x3), .d (enc (x7 : (List Int))), .u, .u]) (xs := v8) (fun (x9 : Int) => (!decide (x9 ∈ x7))) (fun (x9 : Int) => x9) [.d (enc (book : (T3 (List Int) (List (List Int)) (List Int)))), .d (enc (readings : (List (T4 Int Int Int Int)))), .d (.int x3), .d (enc (x7 : (List Int))), .u, .u] (ei_R1 (ed_1 (ev_len (l := readings) (ev_v (i := 1) rfl))) g8) ⟨.inr rfl, .inr rfl, .inr rfl, .inr rfl, .inl rfl, .inl rfl, trivial⟩ rfl (fun x9 => ⟨_, _, _, eg_n 5, (by decide), et_cmp (ev_ninT (a := x9) (l := x7) (ev_v (i := 5) rfl) (ev_v (i := 3) rfl)), ev_v (i := 5) rfl, ⟨.inr rfl, .inr rfl, .inr rfl, .inr rfl, .inl rfl, .inl rfl, trivial⟩, ⟨.inr rfl, .inr rfl, .inr rfl, .inr rfl, .inl rfl, .inl rfl, trivial⟩⟩)) (Option.some.inj g10))) ?_
      show BV K _ [.d (enc (book : (T3 (List Int) (List (List Int)) (List Int)))), .d (enc (readings : (List (T4 Int Int Int Int)))), .d (.int x3), .d (enc (x7 : (List Int))), .d (enc ((Ls.mk v10) : (Ls Int))), .u] _
      obtain ⟨v11, g11, hm⟩ := bnd hm
      obtain ⟨v12, g12, hm⟩ := bnd hm
      refine bv_if (env1 := [.d (enc (book : (T3 (List Int) (List (List Int)) (List Int)))), .d (enc (readings : (List (T4 Int Int Int Int)))), .d (.int x3), .d (enc (x7 : (List Int))), .d (enc ((Ls.mk v10) : (Ls Int))), .u]) (et_cmp (ev_notN (o := v12) (ev_call (rel := rel_leak_story) rfl (ed_c (ev_v (i := 0) rfl) (ed_1 (ev_call (rel := rel_some_readings) rfl (ed_c (ev_v (i := 1) rfl) (ed_1 (ev_v (i := 4) rfl))) ⟨readings, (Ls.mk v10), v11, rfl, g11, rfl, rfl⟩))) ⟨book, v11, v12, rfl, g12, rfl, rfl⟩))) (fun hb => ?_) (fun hb => ?_)
      · have hm := cond_t hb hm
        refine bv_ret (d := (enc ((some (x3, x7)) : (Option (Int × (List Int)))))) (ev_t2 (α := Int) (β := (List Int)) (p := x3) (r := x7) (ev_v (i := 2) rfl) (ev_v (i := 3) rfl)) ?_
        have hm := Option.some.inj hm; subst hm
        exact ⟨_, rfl, rfl, ⟨.inl ⟨rfl, fun _ _ z => by cases z⟩, .inl ⟨rfl, fun _ _ z => by cases z⟩, trivial⟩⟩
      · have hm := cond_f hb hm
        refine bv_nil ?_
        have hm := Option.some.inj hm; subst hm
        refine ⟨_, rfl, ?_⟩
        show Le [.d (enc (book : (T3 (List Int) (List (List Int)) (List Int)))), .d (enc (readings : (List (T4 Int Int Int Int)))), .d (.int x3), .d (enc (x7 : (List Int))), .d (enc ((Ls.mk v10) : (Ls Int))), .u] [.d (enc (book : (T3 (List Int) (List (List Int)) (List Int)))), .d (enc (readings : (List (T4 Int Int Int Int)))), .d (.int x3), .u, .u, .u]
        exact ⟨.inr rfl, .inr rfl, .inr rfl, .inl rfl, .inl rfl, .inl rfl, trivial⟩
    · subst hc
      have hm := hm
      have hm := Option.some.inj hm; subst hm
      refine ⟨_, rfl, ?_⟩
      show Le [.d (enc (book : (T3 (List Int) (List (List Int)) (List Int)))), .d (enc (readings : (List (T4 Int Int Int Int)))), .d (.int x3), .u, .u, .u] [.d (enc (book : (T3 (List Int) (List (List Int)) (List Int)))), .d (enc (readings : (List (T4 Int Int Int Int)))), .u, .u, .u, .u]
      exact ⟨.inr rfl, .inr rfl, .inl rfl, .inl rfl, .inl rfl, .inl rfl, trivial⟩
    · subst hc
      have hm := Option.some.inj hm; subst hm
      exact ⟨_, rfl, hρ⟩
  · subst hc
    have hm := Option.some.inj hm; subst hm
    exact hρ
  subst hc
  have hm := hm
  show BV K _ [.d (enc (book : (T3 (List Int) (List (List Int)) (List Int)))), .d (enc (readings : (List (T4 Int Int Int Int)))), .u, .u, .u, .u] _
  refine bv_ret (d := (enc ((none : (Option (Int × (List Int)))) : (Option (Int × (List Int)))))) (ev_n) ?_
  have hm := Option.some.inj hm; subst hm
  exact ⟨rfl, ⟨.inl ⟨rfl, fun _ _ z => by cases z⟩, .inl ⟨rfl, fun _ _ z => by cases z⟩, trivial⟩⟩
end K61

-- K61P12
namespace K61
open PySem PySem.Spec PyProof.Rows L2 RZ Gw
open Gw.Enc (enc)
/-! _law_draws -/
abbrev s__law_draws : Stmt := topS 16
abbrev N__law_draws : List Str := ["script", "many", "cells", "left", "draws", "k", "place", "cell", "mixed"]
abbrev P__law_draws : List Str := ["script", "many"]
theorem sc__law_draws : FnScope N__law_draws P__law_draws (defScope s__law_draws) := ⟨rfl, rfl, rfl, by decide +kernel, rfl, by decide +kernel, by decide +kernel⟩
theorem ok__law_draws {P : Program} {w : World} {K : FR} {mg : Str → Option Value} {base : Heap} (B : Bt mg) {f : Addr} {fd : FuncData} (F : Fun K "_law_draws" "_law_draws" s__law_draws f fd) : FnOk P w K mg base CX0 1 f fd P__law_draws (spG K P__law_draws.length rel__law_draws) := by
  refine fn_ok F sc__law_draws fun cdv A outer s H E hr as r as' hrel hlen => ?_
  have nd := sc__law_draws.nd
  have hu := room_u64 hr
  have hu1 := room_u65 hr
  obtain ⟨script, many, res, rfl, hm, rfl, rfl⟩ := hrel
  refine ⟨_, pss_cons (ps_setLc (i := 2) (own := [("cell", 7)]) rfl nd rfl rfl (sw_true rfl rfl rfl (by decide +kernel)) (k_pi_list (K := K) (pe_slice (k_sl_list (K := K)) (pv 0) (po_none) (po_some (pe_int)))) (blkOk_by (own := [("cell", 7)]) (N := N__law_draws) (sc := defScope s__law_draws) (by decide +kernel)) (fun _ _ _ _ _ => pg_name (i := 7) nd rfl (by first | exact Or.inl rfl | exact Or.inr rfl)) (fun _ _ _ _ _ => pts_nil) (fun _ _ _ _ _ => pe_op op_modN (pe_callTy (cr_int1) (by rfl) B.b_int (by decide +kernel) (pa_cons (pv 7) pa_nil)) (pe_op op_shl (pe_int) (pe_int)))) (pss_cons (ps_if (pt_cmpR (k_op_eqD (K := K) hu) (pe_callB ((k_cr_lenS (K := K))) (by rfl) B.b_len PySem.boot_len (pa_cons (pv 2) pa_nil)) (pe_int) (nomark _)) (pss_one (ps_expr (pe_bm PySem.F.plainAttrs_list PySem.F.slot_list_append PySem.F.type_list_append mt_append (pv 2) (pa_cons (pe_int) pa_nil)))) (pss_nil)) (pss_cons (ps_set (i := 3) nd rfl (by first | exact Or.inl rfl | exact Or.inr rfl) (pe_callTy ((k_cr_lstS (K := K))) (by rfl) B.b_list (by decide +kernel) (pa_cons (pv 2) pa_nil))) (pss_cons (ps_set (i := 4) nd rfl (by first | exact Or.inl rfl | exact Or.inr rfl) (pe_lst (pa_nil))) (pss_cons (ps_for PassesOwn.never rfl (pi_range1 (by rfl) B.b_range (pa_cons (pv 1) pa_nil)) (pg_name (i := 5) nd rfl (by first | exact Or.inl rfl | exact Or.inr rfl)) (pss_cons (ps_set (i := 6) nd rfl (by first | exact Or.inl rfl | exact Or.inr rfl) (pe_op op_modN (pe_callTy (cr_int1) (by rfl) B.b_int (by decide +kernel) (pa_cons (pv 5) pa_nil)) (pe_callB ((k_cr_lenS (K := K))) (by rfl) B.b_len PySem.boot_len (pa_cons (pv 2) pa_nil)))) (pss_one (ps_if (PW.pt (pw_and (pt_cmpR (op_ge) (pe_ix (k_ix_list (K := K)) (pv 2) (pv 6) (fun _ _ => rfl)) (pe_op op_pow (pe_int) (pe_int)) (nomark _)) (pw_and1 (pt_cmpR (op_gt) (pe_ix (k_ix_list (K := K)) (pv 3) (pv 6) (fun _ _ => rfl)) (pe_int) (nomark _))))) (pss_cons (ps_expr (pe_bm PySem.F.plainAttrs_list PySem.F.slot_list_append PySem.F.type_list_append mt_append (pv 4) (pa_cons (pe_op op_modN (pe_callTy (cr_int1) (by rfl) B.b_int (by decide +kernel) (pa_cons (pe_ix (k_ix_list (K := K)) (pv 3) (pv 6) (fun _ _ => rfl)) pa_nil)) (pe_int)) pa_nil))) (pss_one (ps_asg (pe_op op_fdivN (pe_ix (k_ix_list (K := K)) (pv 3) (pv 6) (fun _ _ => rfl)) (pe_int)) (pg_sub (pv 3) (pv 6) set_list)))) (pss_cons (ps_set (i := 8) nd rfl (by first | exact Or.inl rfl | exact Or.inr rfl) (pe_op op_modN (pe_callTy (cr_int1) (by rfl) B.b_int (by decide +kernel) (pa_cons (pe_op op_add (pe_op op_add (pe_op op_mulXX (pe_ix (k_ix_list (K := K)) (pv 2) (pv 6) (fun _ _ => rfl)) (pe_int)) (pe_op op_mulXX (pv 5) (pe_int))) (pe_int)) pa_nil)) (pe_int))) (pss_one (ps_expr (pe_bm PySem.F.plainAttrs_list PySem.F.slot_list_append PySem.F.type_list_append mt_append (pv 4) (pa_cons (pe_op op_modN (pe_callTy (cr_int1) (by rfl) B.b_int (by decide +kernel) (pa_cons (pe_op op_add (pe_op op_add (pe_op op_mulXX (pv 8) (pv 8)) (pe_op op_mulXX (pe_int) (pv 8))) (pv 5)) pa_nil)) (pe_int)) pa_nil))))))))) (pss_cons (ps_expr (pe_bm0 PySem.F.plainAttrs_list PySem.F.slot_list_reverse PySem.F.type_list_reverse mt_reverse (pv 4))) (pss_one (ps_ret (pv 4)))))))), ?_⟩
  unfold m_law_draws at hm
  show BV K _ [.s script, .d (.int many), .u, .u, .u, .u, .u, .u, .u] _
  obtain ⟨k1, hm⟩ := bndg hm
  obtain ⟨v3, g3, hm⟩ := bnd hm
  refine bv_setL (i := 2) (EF.to (l := (List.map (fun (x2 : Int) => (Int.fmod x2 ((1 : Int) * 2 ^ (7200 : Int).toNat))) (cut script none (some 63)))) (ef_map (env1 := [.s script, .d (.int many), .u, .u, .u, .u, .u, .u, .u]) (xs := (cut script none (some 63))) (fun (x2 : Int) => (Int.fmod x2 ((1 : Int) * 2 ^ (7200 : Int).toNat))) [.s script, .d (.int many), .u, .u, .u, .u, .u, .u, .u] (ei_F (ef_slS (i := 0) (ns := script) rfl (of_decide_eq_true k1) (eo_none) (eo_some (ev_i)))) ⟨.inr rfl, .inr rfl, .inl rfl, .inl rfl, .inl rfl, .inl rfl, .inl rfl, .inl rfl, .inl rfl, trivial⟩ rfl (fun x2 => ⟨_, _, _, eg_n 7, (by decide), ev_mod (by decide) (ev_intI (ed_1 (ev_v (i := 7) rfl))) (ev_shl ⟨by decide, by decide, by decide⟩ (ev_i) (ev_i)), ⟨.inr rfl, .inr rfl, .inl rfl, .inl rfl, .inl rfl, .inl rfl, .inl rfl, .inl rfl, .inl rfl, trivial⟩⟩)) (Option.some.inj g3)) ?_
  show BV K _ [.s script, .d (.int many), .l none (List.map enc (v3 : List Int)), .u, .u, .u, .u, .u, .u] _
  obtain ⟨j5, gj5, hm⟩ := bnd hm
  refine bv_seq (M := fun e => Le e [.s script, .d (.int many), .l none (List.map enc (j5 : List Int)), .u, .u, .u, .u, .u, .u]) (bv_if (env1 := [.s script, .d (.int many), .l none (List.map enc (v3 : List Int)), .u, .u, .u, .u, .u, .u]) (et_cmp (ev_eq (α := Int) (x := ((v3).length : Int)) (y := 0) (ev_lenOs (i := 2) (l := v3) rfl) (ev_i))) (fun hb => ?_) (fun hb => ?_)) (fun e he => bv_le he ?_)
  · have hm := cond_t hb gj5
    obtain ⟨k6, hm⟩ := bndg hm
    refine bv_drop1 (ev_appS (i := 2) (l := v3) k6 rfl (ev_i) rfl) ?_
    have hm := Option.some.inj hm; subst hm
    show Le [.s script, .d (.int many), .l none (List.map enc ((v3 ++ [0]) : List Int)), .u, .u, .u, .u, .u, .u] [.s script, .d (.int many), .l none (List.map enc ((v3 ++ [0]) : List Int)), .u, .u, .u, .u, .u, .u]
    exact ⟨.inr rfl, .inr rfl, .inr rfl, .inl rfl, .inl rfl, .inl rfl, .inl rfl, .inl rfl, .inl rfl, trivial⟩
  · have hm := cond_f hb gj5
    refine bv_nil ?_
    have hm := Option.some.inj hm; subst hm
    show Le [.s script, .d (.int many), .l none (List.map enc (v3 : List Int)), .u, .u, .u, .u, .u, .u] [.s script, .d (.int many), .l none (List.map enc (v3 : List Int)), .u, .u, .u, .u, .u, .u]
    exact ⟨.inr rfl, .inr rfl, .inr rfl, .inl rfl, .inl rfl, .inl rfl, .inl rfl, .inl rfl, .inl rfl, trivial⟩
  refine bv_setL (i := 3) (ef_ofO (i := 2) rfl) ?_
  show BV K _ [.s script, .d (.int many), .l none (List.map enc (j5 : List Int)), .l none (List.map enc (j5 : List Int)), .u, .u, .u, .u, .u] _
  refine bv_setL (i := 4) (ef_list (l := ([] : List Int)) (ed_nil) (by show 0 ≤ LIM; decide)) ?_
  show BV K _ [.s script, .d (.int many), .l none (List.map enc (j5 : List Int)), .l none (List.map enc (j5 : List Int)), .l none (List.map enc (([] : List Int) : List Int)), .u, .u, .u, .u] _
  obtain ⟨v7, g7, hm⟩ := bnd hm
  obtain ⟨s23, gs23, hm⟩ := bnd hm
  refine bv_foldq (env1 := [.s script, .d (.int many), .l none (List.map enc (j5 : List Int)), .l none (List.map enc (j5 : List Int)), .l none (List.map enc (([] : List Int) : List Int)), .u, .u, .u, .u]) (xs := v7) (fun (s : (List Int) × (List Int)) => [.s script, .d (.int many), .l none (List.map enc (j5 : List Int)), .l none (List.map enc (s.1 : List Int)), .l none (List.map enc (s.2 : List Int)), .u, .u, .u, .u]) (ei_R1 (ed_1 (ev_v (i := 1) rfl)) g7) ⟨.inr rfl, .inr rfl, .inr rfl, .inr rfl, .inr rfl, .inl rfl, .inl rfl, .inl rfl, .inl rfl, trivial⟩ gs23 (fun s8 x9 s_n hm => ?_) ?_
  · refine ⟨_, _, eg_n 5, ?_⟩
    show BV K _ [.s script, .d (.int many), .l none (List.map enc (j5 : List Int)), .l none (List.map enc (s8.1 : List Int)), .l none (List.map enc (s8.2 : List Int)), .d (.int x9), .u, .u, .u] _
    unfold m_law_draws_b1 at hm
    obtain ⟨k10, hm⟩ := bndg hm
    obtain ⟨v11, g11, hm⟩ := bnd hm
    refine bv_set (i := 6) (d := (.int v11)) (EV.ofI (EV.to (α := Int) (a := (Int.fmod x9 ((j5).length : Int))) (ev_mod (of_decide_eq_true k10) (ev_intI (ed_1 (ev_v (i := 5) rfl))) (ev_lenOs (i := 2) (l := j5) rfl)) (Option.some.inj g11))) ?_
    show BV K _ [.s script, .d (.int many), .l none (List.map enc (j5 : List Int)), .l none (List.map enc (s8.1 : List Int)), .l none (List.map enc (s8.2 : List Int)), .d (.int x9), .d (.int v11), .u, .u] _
    obtain ⟨v12, g12, hm⟩ := bnd hm
    obtain ⟨v14, g14, hm⟩ := bnd hm
    refine bv_if (env1 := [.s script, .d (.int many), .l none (List.map enc (j5 : List Int)), .l none (List.map enc (s8.1 : List Int)), .l none (List.map enc (s8.2 : List Int)), .d (.int x9), .d (.int v11), .u, .u]) (et_andO (c := v14) (et_cmp (ev_ge (EV.ofI (ev_atOs (i := 2) (l := j5) rfl (ev_v (i := 6) rfl) g12)) (ev_pow ⟨by decide, by decide, by decide⟩ (ev_i) (ev_i)))) (fun hb => by have hm := cond_t hb g14; obtain ⟨v13, g13, hm⟩ := bnd hm; have hm := Option.some.inj hm; subst hm; exact et_cmp (ev_gt (EV.ofI (ev_atOs (i := 3) (l := s8.1) rfl (ev_v (i := 6) rfl) g13)) (ev_i))) (fun hb => by have hm := cond_f hb g14; exact (Option.some.inj hm).symm)) (fun hb => ?_) (fun hb => ?_)
    · have hm := cond_t hb hm
      obtain ⟨v15, g15, hm⟩ := bnd hm
      obtain ⟨k16, hm⟩ := bndg hm
      refine bv_drop (ev_appS (i := 4) (l := s8.2) k16 rfl (ev_mod (by decide) (ev_intI (ed_1 (EV.ofI (ev_atOs (i := 3) (l := s8.1) rfl (ev_v (i := 6) rfl) g15)))) (ev_i)) rfl) ?_
      show BV K _ [.s script, .d (.int many), .l none (List.map enc (j5 : List Int)), .l none (List.map enc (s8.1 : List Int)), .l none (List.map enc ((s8.2 ++ [(Int.fmod v15 1000)]) : List Int)), .d (.int x9), .d (.int v11), .u, .u] _
      obtain ⟨v17, g17, hm⟩ := bnd hm
      obtain ⟨v18, g18, hm⟩ := bnd hm
      refine bv_putS1 (i := 3) (l := s8.1) (l0 := s8.1) (a := (Int.fdiv v17 1000)) g18 (ev_fdiv (by decide) (EV.ofI (ev_atOs (i := 3) (l := s8.1) rfl (ev_v (i := 6) rfl) g17)) (ev_i)) rfl (ev_v (i := 6) rfl) rfl ?_
      have hm := Option.some.inj hm; subst hm
      show Le [.s script, .d (.int many), .l none (List.map enc (j5 : List Int)), .l none (List.map enc (v18 : List Int)), .l none (List.map enc ((s8.2 ++ [(Int.fmod v15 1000)]) : List Int)), .d (.int x9), .d (.int v11), .u, .u] [.s script, .d (.int many), .l none (List.map enc (j5 : List Int)), .l none (List.map enc ((v18, (s8.2 ++ [(Int.fmod v15 1000)])).1 : List Int)), .l none (List.map enc ((v18, (s8.2 ++ [(Int.fmod v15 1000)])).2 : List Int)), .u, .u, .u, .u]
      exact ⟨.inr rfl, .inr rfl, .inr rfl, .inr rfl, .inr rfl, .inl rfl, .inl rfl, .inl rfl, .inl rfl, trivial⟩
    · have hm := cond_f hb hm
      obtain ⟨v19, g19, hm⟩ := bnd hm
      obtain ⟨v20, g20, hm⟩ := bnd hm
      refine bv_set (i := 8) (d := (.int v20)) (EV.ofI (EV.to (α := Int) (a := (Int.fmod (((v19 * 48271) + (x9 * 69621)) + 11) 2147483647)) (ev_mod (by decide) (ev_intI (ed_1 (ev_add (ev_add (ev_mul (mul_r (by decide)) (EV.ofI (ev_atOs (i := 2) (l := j5) rfl (ev_v (i := 6) rfl) g19)) (ev_i)) (ev_mul (mul_r (by decide)) (ev_v (i := 5) rfl) (ev_i))) (ev_i)))) (ev_i)) (Option.some.inj g20))) ?_
      show BV K _ [.s script, .d (.int many), .l none (List.map enc (j5 : List Int)), .l none (List.map enc (s8.1 : List Int)), .l none (List.map enc (s8.2 : List Int)), .d (.int x9), .d (.int v11), .u, .d (.int v20)] _
      obtain ⟨k21, hm⟩ := bndg hm
      obtain ⟨k22, hm⟩ := bndg hm
      refine bv_drop1 (ev_appS (i := 4) (l := s8.2) k22 rfl (ev_mod (by decide) (ev_intI (ed_1 (ev_add (ev_add (ev_mul k21 (ev_v (i := 8) rfl) (ev_v (i := 8) rfl)) (ev_mul (mul_l (by decide)) (ev_i) (ev_v (i := 8) rfl))) (ev_v (i := 5) rfl)))) (ev_i)) rfl) ?_
      have hm := Option.some.inj hm; subst hm
      show Le [.s script, .d (.int many), .l none (List.map enc (j5 : List Int)), .l none (List.map enc (s8.1 : List Int)), .l none (List.map enc ((s8.2 ++ [(Int.fmod (((v20 * v20) + (3 * v20)) + x9) 1000003)]) : List Int)), .d (.int x9), .d (.int v11), .u, .d (.int v20)] [.s script, .d (.int many), .l none (List.map enc (j5 : List Int)), .l none (List.map enc ((s8.1, (s8.2 ++ [(Int.fmod (((v20 * v20) + (3 * v20)) + x9) 1000003)])).1 : List Int)), .l none (List.map enc ((s8.1, (s8.2 ++ [(Int.fmod (((v20 * v20) + (3 * v20)) + x9) 1000003)])).2 : List Int)), .u, .u, .u, .u]
      exact ⟨.inr rfl, .inr rfl, .inr rfl, .inr rfl, .inr rfl, .inl rfl, .inl rfl, .inl rfl, .inl rfl, trivial⟩
  show BV K _ [.s script, .d (.int many), .l none (List.map enc (j5 : List Int)), .l none (List.map enc (s23.1 : List Int)), .l none (List.map enc (s23.2 : List Int)), .u, .u, .u, .u] _
  refine bv_drop (ev_revS (i := 4) (l := s23.2) rfl) ?_
  show BV K _ [.s script, .d (.int many), .l none (List.map enc (j5 : List Int)), .l none (List.map enc (s23.1 : List Int)), .l none (List.map enc ((s23.2).reverse : List Int)), .u, .u, .u, .u] _
  refine bv_retO (i := 4) rfl ?_
  have hm := Option.some.inj hm; subst hm
  exact ⟨rfl, ⟨.inl ⟨rfl, fun _ _ z => by cases z⟩, .inl ⟨rfl, fun _ _ z => by cases z⟩, trivial⟩⟩
end K61

-- K61P13
namespace K61
open PySem PySem.Spec PyProof.Rows L2 RZ Gw
open Gw.Enc (enc)
/-! _law_take -/
abbrev s__law_take : Stmt := topS 17
abbrev N__law_take : List Str := ["draws", "many"]
abbrev P__law_take : List Str := ["draws", "many"]
theorem sc__law_take : FnScope N__law_take P__law_take (defScope s__law_take) := ⟨rfl, rfl, rfl, by decide +kernel, rfl, by decide +kernel, by decide +kernel⟩
theorem ok__law_take {P : Program} {w : World} {K : FR} {mg : Str → Option Value} {base : Heap} (B : Bt mg) {f : Addr} {fd : FuncData} (F : Fun K "_law_take" "_law_take" s__law_take f fd) : FnOk P w K mg base CX0 1 f fd P__law_take (spG K P__law_take.length rel__law_take) := by
  refine fn_ok F sc__law_take fun cdv A outer s H E hr as r as' hrel hlen => ?_
  have nd := sc__law_take.nd
  have hu := room_u64 hr
  have hu1 := room_u65 hr
  obtain ⟨p, draws, many, res, rfl, hm, rfl, rfl⟩ := hrel
  refine ⟨_, pss_cons (ps_if (pt_cmpR (k_op_eqD (K := K) hu) (pe_callB ((k_cr_lenS (K := K))) (by rfl) B.b_len PySem.boot_len (pa_cons (pv 0) pa_nil)) (pe_int) (nomark _)) (pss_one (ps_ret (pe_int))) pss_nil) (pss_one (ps_ret (pe_op op_modN (pe_callTy (cr_int1) (by rfl) B.b_int (by decide +kernel) (pa_cons (pe_bm0 PySem.F.plainAttrs_list PySem.F.slot_list_pop PySem.F.type_list_pop mt_pop (pv 0)) pa_nil)) (pv 1)))), ?_⟩
  unfold m_law_take at hm
  show BV K _ [.l (some p) (List.map enc (draws : List Int)), .d (.int many)] _
  refine bv_ifx (env1 := [.l (some p) (List.map enc (draws : List Int)), .d (.int many)]) (et_cmp (ev_eq (α := Int) (x := ((draws).length : Int)) (y := 0) (ev_lenOs (i := 0) (l := draws) rfl) (ev_i))) (fun hb => ?_) (fun hb => ?_)
  · have hm := cond_t hb hm
    refine bv_ret (d := (.int 0)) (ev_i) ?_
    have hm := Option.some.inj hm; subst hm
    exact ⟨rfl, ⟨.inr ⟨_, _, _, rfl, rfl, rfl⟩, .inl ⟨rfl, fun _ _ z => by cases z⟩, trivial⟩⟩
  have hm := cond_f hb hm
  obtain ⟨v1, g1, hm⟩ := bnd hm
  obtain ⟨k2, hm⟩ := bndg hm
  refine bv_ret (d := (.int (Int.fmod v1 many))) (ev_mod (of_decide_eq_true k2) (ev_intI (ed_1 (EV.ofI (ev_popS (i := 0) (l := draws) g1 rfl)))) (ev_v (i := 1) rfl)) ?_
  have hm := Option.some.inj hm; subst hm
  exact ⟨rfl, ⟨.inr ⟨_, _, _, rfl, rfl, rfl⟩, .inl ⟨rfl, fun _ _ z => by cases z⟩, trivial⟩⟩
end K61

-- K61P14
namespace K61
open PySem PySem.Spec PyProof.Rows L2 RZ Gw
open Gw.Enc (enc)
/-! _law_pick -/

abbrev s__law_pick : Stmt := topS 18
abbrev N__law_pick : List Str := ["draws", "row"]
abbrev P__law_pick : List Str := ["draws", "row"]
theorem sc__law_pick : FnScope N__law_pick P__law_pick (defScope s__law_pick) := ⟨rfl, rfl, rfl, by decide +kernel, rfl, by decide +kernel, by decide +kernel⟩
theorem ok__law_pick {P : Program} {w : World} {K : FR} {mg : Str → Option Value} {base : Heap} (B : Bt mg) (c__law_take : Cal P w K mg base "_law_take" P__law_take 1 rel__law_take) {f : Addr} {fd : FuncData} (F : Fun K "_law_pick" "_law_pick" s__law_pick f fd) : FnOk P w K mg base CX0 2 f fd P__law_pick (spG K P__law_pick.length rel__law_pick) := by
  obtain ⟨f__law_take, fd__law_take, F__law_take, m__law_take, k__law_take, b__law_take⟩ := c__law_take.ex
  refine fn_ok F sc__law_pick fun cdv A outer s H E hr as r as' hrel hlen => ?_
  obtain ⟨p, draws, d1, ds, res, hd, rfl, hm, rfl, rfl⟩ := hrel
  refine ⟨_, pss_one (ps_ret (pe_ix ix_seq (pv 1) (pe_call F__law_take (hr.mono (by decide)) (by rfl) m__law_take k__law_take b__law_take .nil pass0 (pa_cons (pv 0) (pa_cons (pe_callB cr_lenS (by rfl) B.b_len PySem.boot_len (pa_cons (pv 1) pa_nil)) pa_nil))) (fun _ _ => rfl))), ?_⟩
  unfold m_law_pick at hm
  obtain ⟨t, h1, hm⟩ := bnd hm
  obtain ⟨x, h2, hm⟩ := bnd hm
  cases hm
  show BV K _ [.l (some p) (List.map enc (draws : List Int)), .d d1] _
  refine bv_ret (d := x) (ev_ixS hd (ev_v (i := 1) rfl) (ev_callL (i := 0) (rel := rel__law_take) rfl rfl (ed_1 (ev_lenS hd (ev_v (i := 1) rfl))) rfl (fun p => ⟨p, draws, (ds.length : Int), t, rfl, h1, rfl, rfl⟩)) h2) ?_
  exact ⟨rfl, ⟨.inr ⟨_, _, _, rfl, rfl, rfl⟩, .inl ⟨rfl, fun _ _ z => by cases z⟩, trivial⟩⟩

end K61

-- K61P15
namespace K61
open PySem PySem.Spec PyProof.Rows L2 RZ Gw
open Gw.Enc (enc)
/-! _law_same -/

abbrev s__law_same : Stmt := topS 19
abbrev N__law_same : List Str := ["actual", "due", "k"]
abbrev P__law_same : List Str := ["actual", "due"]
theorem sc__law_same : FnScope N__law_same P__law_same (defScope s__law_same) := ⟨rfl, rfl, rfl, by decide +kernel, rfl, by decide +kernel, by decide +kernel⟩
abbrev rel__law_same : Rel := relSame 9
theorem ok__law_same_n {P : Program} {w : World} {K : FR} {mg : Str → Option Value} {base : Heap} (B : Bt mg) {f : Addr} {fd : FuncData} (F : Fun K "_law_same" "_law_same" s__law_same f fd) (g : mg "_law_same" = some (.ref f)) (b : Binds K fd P__law_same []) :
    ∀ n, n ≤ 60 → FnOk P w K mg base CX0 (n + 1) f fd P__law_same (spG K P__law_same.length (relSame n)) := by
  intro n
  induction n with
  | zero =>
    intro _
    refine fn_ok F sc__law_same fun cdv A outer s H E hr as r as' hrel hlen => ?_
    have nd := sc__law_same.nd
    have hu := room_u64 hr
    obtain ⟨d, hd, rfl, rfl, rfl⟩ := hrel
    have hs : scalD d = true := by
      rcases okB_kind hd with h | h
      · exact h
      · obtain ⟨m, _, e, _⟩ := okB_seq hd h
        cases e
    have hq : isSeqD d = false := by cases d <;> first | rfl | cases hs
    have hsh := okB_shaped 0 d (by decide) hd hs
    obtain ⟨k1, k2, k3, k4, k5⟩ := kit1 d (.inl hs)
    refine ⟨_, pss_cons (ps_if (pt_val (pe_callB call_isiT (by rfl) B.b_isinstance (by decide +kernel) (pa_cons (pv 1) (pa_cons (pe_tup (pa_cons (pe_bltn (v := .ty "tuple") (u := .type "tuple") (by rfl) B.b_tuple (by decide +kernel) rfl) (pa_cons (pe_bltn (v := .ty "list") (u := .type "list") (by rfl) B.b_list (by decide +kernel) rfl) pa_nil))) pa_nil)))) pss_never pss_nil) (pss_cons (ps_if (PW.pt (pw_or (pt_cmpR (k_op_neD (K := K) hu) (pe_callB (k_call_isi (K := K)) (by rfl) B.b_isinstance (by decide +kernel) (pa_cons (pv 0) (pa_cons (pe_bltn (v := .ty "bool") (u := .type "bool") (by rfl) B.b_bool (by decide +kernel) rfl) pa_nil))) (pe_callB (k_call_isi (K := K)) (by rfl) B.b_isinstance (by decide +kernel) (pa_cons (pv 1) (pa_cons (pe_bltn (v := .ty "bool") (u := .type "bool") (by rfl) B.b_bool (by decide +kernel) rfl) pa_nil))) (nomark _)) (pw_or1 (pt_cmpR (k_op_neD (K := K) hu) (pe_callB (k_call_isi (K := K)) (by rfl) B.b_isinstance (by decide +kernel) (pa_cons (pv 0) (pa_cons (pe_bltn (v := .ty "int") (u := .type "int") (by rfl) B.b_int (by decide +kernel) rfl) pa_nil))) (pe_callB (k_call_isi (K := K)) (by rfl) B.b_isinstance (by decide +kernel) (pa_cons (pv 1) (pa_cons (pe_bltn (v := .ty "int") (u := .type "int") (by rfl) B.b_int (by decide +kernel) rfl) pa_nil))) (nomark _))))) (pss_one (ps_ret pe_bl)) pss_nil) (pss_cons (ps_if (PW.pt (pw_or (pt_cmpR (k_op_neD (K := K) hu) (pe_callB (k_call_isi (K := K)) (by rfl) B.b_isinstance (by decide +kernel) (pa_cons (pv 0) (pa_cons (pe_bltn (v := .ty "str") (u := .type "str") (by rfl) B.b_str (by decide +kernel) rfl) pa_nil))) (pe_callB (k_call_isi (K := K)) (by rfl) B.b_isinstance (by decide +kernel) (pa_cons (pv 1) (pa_cons (pe_bltn (v := .ty "str") (u := .type "str") (by rfl) B.b_str (by decide +kernel) rfl) pa_nil))) (nomark _)) (pw_or1 (pt_cmpR (k_op_neD (K := K) hu) (pe_cmpR op_is0 (pv 0) pe_non (nomark _)) (pe_cmpR op_is0 (pv 1) pe_non (nomark _)) (nomark _))))) (pss_one (ps_ret pe_bl)) pss_nil) (pss_one (ps_ret (pe_cmpR (k_op_eqD (K := K) hu) (pv 0) (pv 1) (nomark _)))))), ?_⟩
    show BV K _ [.d d, .d d, .u] _
    refine bv_ifx (et_val (ev_isi2 (ev_v (i := 1) rfl) (kit2 d (.inl hs)))) (fun h => by rw [hq] at h; cases h) (fun _ => ?_)
    exact bv_ifx (et_or (et_cmp (ev_ne (α := Bool) (ev_isi (ev_v (i := 0) rfl) k3) (ev_isi (ev_v (i := 1) rfl) k3))) (fun _ => et_cmp (ev_ne (α := Bool) (ev_isi (ev_v (i := 0) rfl) k4) (ev_isi (ev_v (i := 1) rfl) k4)))) (fun h => by simp at h) (fun _ => bv_ifx (et_or (et_cmp (ev_ne (α := Bool) (ev_isi (ev_v (i := 0) rfl) k5) (ev_isi (ev_v (i := 1) rfl) k5))) (fun _ => et_cmp (ev_ne (α := Bool) (ev_isND (ev_v (i := 0) rfl)) (ev_isND (ev_v (i := 1) rfl))))) (fun h => by simp at h) (fun _ => bv_ret ((ev_eqDD hsh hsh (ev_v (i := 0) rfl) (ev_v (i := 1) rfl)).is (by rw [eqv_refl_scal 0 d hs])) ⟨rfl, ⟨.inl ⟨rfl, fun _ _ z => by cases z⟩, .inl ⟨rfl, fun _ _ z => by cases z⟩, trivial⟩⟩))
  | succ n ih =>
    intro hn
    obtain ⟨f_s, fd_s, F_s, m_s, k_s, b_s⟩ := (cal_mk F g b (ih (by omega))).ex
    refine fn_ok F sc__law_same fun cdv A outer s H E hr as r as' hrel hlen => ?_
    have nd := sc__law_same.nd
    have hu := room_u64 hr
    obtain ⟨d, hd, rfl, rfl, rfl⟩ := hrel
    obtain ⟨k1, k2, k3, k4, k5⟩ := kit1 d (okB_kind hd)
    refine ⟨_, pss_cons (ps_if (pt_val (pe_callB call_isiT (by rfl) B.b_isinstance (by decide +kernel) (pa_cons (pv 1) (pa_cons (pe_tup (pa_cons (pe_bltn (v := .ty "tuple") (u := .type "tuple") (by rfl) B.b_tuple (by decide +kernel) rfl) (pa_cons (pe_bltn (v := .ty "list") (u := .type "list") (by rfl) B.b_list (by decide +kernel) rfl) pa_nil))) pa_nil)))) (pss_cons (ps_if (PW.pt (pw_or (pt_cmpR (k_op_neD (K := K) hu) (pe_callB (k_call_isi (K := K)) (by rfl) B.b_isinstance (by decide +kernel) (pa_cons (pv 0) (pa_cons (pe_bltn (v := .ty "tuple") (u := .type "tuple") (by rfl) B.b_tuple (by decide +kernel) rfl) pa_nil))) (pe_callB (k_call_isi (K := K)) (by rfl) B.b_isinstance (by decide +kernel) (pa_cons (pv 1) (pa_cons (pe_bltn (v := .ty "tuple") (u := .type "tuple") (by rfl) B.b_tuple (by decide +kernel) rfl) pa_nil))) (nomark _)) (pw_or1 (pt_cmpR (k_op_neD (K := K) hu) (pe_callB (k_call_isi (K := K)) (by rfl) B.b_isinstance (by decide +kernel) (pa_cons (pv 0) (pa_cons (pe_bltn (v := .ty "list") (u := .type "list") (by rfl) B.b_list (by decide +kernel) rfl) pa_nil))) (pe_callB (k_call_isi (K := K)) (by rfl) B.b_isinstance (by decide +kernel) (pa_cons (pv 1) (pa_cons (pe_bltn (v := .ty "list") (u := .type "list") (by rfl) B.b_list (by decide +kernel) rfl) pa_nil))) (nomark _))))) (pss_one (ps_ret pe_bl)) pss_nil) (pss_cons (ps_if (pt_cmpR (k_op_neD (K := K) hu) (pe_callB (k_cr_lenS (K := K)) (by rfl) B.b_len PySem.boot_len (pa_cons (pv 0) pa_nil)) (pe_callB (k_cr_lenS (K := K)) (by rfl) B.b_len PySem.boot_len (pa_cons (pv 1) pa_nil)) (nomark _)) (pss_one (ps_ret pe_bl)) pss_nil) (pss_one (ps_ret (pe_cmpR (k_op_notIn_seq (K := K)) pe_bl (pe_lc (own := [("k", 2)]) rfl nd (pi_range1 (by rfl) B.b_range (pa_cons (pe_callB (k_cr_lenS (K := K)) (by rfl) B.b_len PySem.boot_len (pa_cons (pv 1) pa_nil)) pa_nil)) (blkOk_by (own := [("k", 2)]) (N := N__law_same) (sc := defScope s__law_same) (by decide +kernel)) (fun _ _ _ _ _ => pg_name (i := 2) nd rfl (by first | exact Or.inl rfl | exact Or.inr rfl)) (fun _ _ _ _ _ => pts_nil) (fun _ _ _ _ _ => pe_call F_s (hr.mono (by omega)) (by rfl) m_s k_s b_s .nil pass0 (pa_cons (pe_ix (k_ix_seq (K := K)) (pv 0) (pv 2) (fun _ _ => rfl)) (pa_cons (pe_ix (k_ix_seq (K := K)) (pv 1) (pv 2) (fun _ _ => rfl)) pa_nil)))) (by rfl)))))) pss_nil) (pss_cons (ps_if (PW.pt (pw_or (pt_cmpR (k_op_neD (K := K) hu) (pe_callB (k_call_isi (K := K)) (by rfl) B.b_isinstance (by decide +kernel) (pa_cons (pv 0) (pa_cons (pe_bltn (v := .ty "bool") (u := .type "bool") (by rfl) B.b_bool (by decide +kernel) rfl) pa_nil))) (pe_callB (k_call_isi (K := K)) (by rfl) B.b_isinstance (by decide +kernel) (pa_cons (pv 1) (pa_cons (pe_bltn (v := .ty "bool") (u := .type "bool") (by rfl) B.b_bool (by decide +kernel) rfl) pa_nil))) (nomark _)) (pw_or1 (pt_cmpR (k_op_neD (K := K) hu) (pe_callB (k_call_isi (K := K)) (by rfl) B.b_isinstance (by decide +kernel) (pa_cons (pv 0) (pa_cons (pe_bltn (v := .ty "int") (u := .type "int") (by rfl) B.b_int (by decide +kernel) rfl) pa_nil))) (pe_callB (k_call_isi (K := K)) (by rfl) B.b_isinstance (by decide +kernel) (pa_cons (pv 1) (pa_cons (pe_bltn (v := .ty "int") (u := .type "int") (by rfl) B.b_int (by decide +kernel) rfl) pa_nil))) (nomark _))))) (pss_one (ps_ret pe_bl)) pss_nil) (pss_cons (ps_if (PW.pt (pw_or (pt_cmpR (k_op_neD (K := K) hu) (pe_callB (k_call_isi (K := K)) (by rfl) B.b_isinstance (by decide +kernel) (pa_cons (pv 0) (pa_cons (pe_bltn (v := .ty "str") (u := .type "str") (by rfl) B.b_str (by decide +kernel) rfl) pa_nil))) (pe_callB (k_call_isi (K := K)) (by rfl) B.b_isinstance (by decide +kernel) (pa_cons (pv 1) (pa_cons (pe_bltn (v := .ty "str") (u := .type "str") (by rfl) B.b_str (by decide +kernel) rfl) pa_nil))) (nomark _)) (pw_or1 (pt_cmpR (k_op_neD (K := K) hu) (pe_cmpR op_is0 (pv 0) pe_non (nomark _)) (pe_cmpR op_is0 (pv 1) pe_non (nomark _)) (nomark _))))) (pss_one (ps_ret pe_bl)) pss_nil) (pss_one (ps_ret (pe_cmpR (k_op_eqD (K := K) hu) (pv 0) (pv 1) (nomark _)))))), ?_⟩
    show BV K _ [.d d, .d d, .u] _
    refine bv_ifx (et_val (ev_isi2 (ev_v (i := 1) rfl) (kit2 d (okB_kind hd)))) (fun h => ?_) (fun h => ?_)
    · obtain ⟨m, ds, e, hds, hl, hall⟩ := okB_seq hd h
      cases e
      refine bv_ifx (et_or (et_cmp (ev_ne (α := Bool) (ev_isi (ev_v (i := 0) rfl) k1) (ev_isi (ev_v (i := 1) rfl) k1))) (fun _ => et_cmp (ev_ne (α := Bool) (ev_isi (ev_v (i := 0) rfl) k2) (ev_isi (ev_v (i := 1) rfl) k2)))) (fun h => ?_) (fun _ => ?_)
      · simp at h
      refine bv_ifx (et_cmp (ev_ne (α := Int) (ev_lenS hds (ev_v (i := 0) rfl)) (ev_lenS hds (ev_v (i := 1) rfl)))) (fun h => ?_) (fun _ => ?_)
      · simp at h
      have key : ∀ xs : List Int, (∀ x ∈ xs, 0 ≤ x ∧ x < (ds.length : Int)) → filO (α := Int) (β := Bool) (fun x => (atI ds x).bind fun e => if okB n e = true then some (some true) else none) xs = some (List.replicate xs.length true) := by
        intro xs
        induction xs with
        | nil => intro _; rfl
        | cons x xs ihx =>
          intro hx
          obtain ⟨h0, h1⟩ := hx x List.mem_cons_self
          have hj : x.toNat < ds.length := by omega
          have e : atI ds x = some ds[x.toNat] := by
            have := atI_nat (xs := ds) (List.getElem?_eq_getElem hj)
            rw [Int.toNat_of_nonneg h0] at this
            exact this
          unfold filO
          rw [e]
          show ((if okB n ds[x.toNat] = true then some (some true) else none) : Option (Option Bool)).bind _ = _
          rw [if_pos (hall _ (List.getElem_mem hj)), ihx fun y hy => hx y (List.mem_cons_of_mem _ hy)]
          rfl
      have hrr : filO (α := Int) (β := Bool) (fun x => (atI ds x).bind fun e => if okB n e = true then some (some true) else none) (rng 0 ds.length) = some (List.replicate (rng 0 ds.length).length true) := key _ fun x hx => by
        unfold rng at hx
        obtain ⟨i, hi, rfl⟩ := List.mem_map.mp hx
        have := List.mem_range.mp hi
        omega
      have rest := ev_ninL (K := K) (a := false) (l := List.replicate (rng 0 ds.length).length true) (ta := tC (.bl false)) (env := [.d d, .d d, .u]) ev_b (EF.dat (ef_filO (K := K) (vs := [2]) (g := gName 2) (tt := tYes) (xs := rng 0 ds.length) [.d d, .d d, .u] (ei_R1 (ed_1 (ev_lenS hds (ev_v (i := 1) rfl))) (rngO_zero _ hl)) ⟨.inr rfl, .inr rfl, .inl rfl, trivial⟩ rfl hrr (fun x y hm => by
          obtain ⟨e, he, hm⟩ := bnd hm
          split at hm
          · rename_i hok
            cases hm
            exact ⟨_, _, true, _, eg_n 2, by decide, et_yes, .inl ⟨rfl, true, _, rfl, ev_call (rel := relSame n) (ds := [e, e]) (n := P__law_same.length) (E := E) rfl (ed_c (ev_ixS hds (ev_v (i := 0) rfl) (ev_v (i := 2) rfl) he) (ed_1 (ev_ixS hds (ev_v (i := 1) rfl) (ev_v (i := 2) rfl) he))) ⟨e, hok, rfl, rfl, rfl⟩, ⟨.inr rfl, .inr rfl, .inl rfl, trivial⟩⟩⟩
          · cases hm)))
      refine bv_ret rest ⟨?_, ⟨.inl ⟨rfl, fun _ _ z => by cases z⟩, .inl ⟨rfl, fun _ _ z => by cases z⟩, trivial⟩⟩
      have : (!decide (false ∈ List.replicate (rng 0 ds.length).length true)) = true := by simp [List.mem_replicate]
      rw [this]
    · have hs : scalD d = true := by
        rcases okB_kind hd with h' | h'
        · exact h'
        · rw [h'] at h; cases h
      have hsh := okB_shaped (n + 1) d hn hd hs
      exact bv_ifx (et_or (et_cmp (ev_ne (α := Bool) (ev_isi (ev_v (i := 0) rfl) k3) (ev_isi (ev_v (i := 1) rfl) k3))) (fun _ => et_cmp (ev_ne (α := Bool) (ev_isi (ev_v (i := 0) rfl) k4) (ev_isi (ev_v (i := 1) rfl) k4)))) (fun h => by simp at h) (fun _ => bv_ifx (et_or (et_cmp (ev_ne (α := Bool) (ev_isi (ev_v (i := 0) rfl) k5) (ev_isi (ev_v (i := 1) rfl) k5))) (fun _ => et_cmp (ev_ne (α := Bool) (ev_isND (ev_v (i := 0) rfl)) (ev_isND (ev_v (i := 1) rfl))))) (fun h => by simp at h) (fun _ => bv_ret ((ev_eqDD hsh hsh (ev_v (i := 0) rfl) (ev_v (i := 1) rfl)).is (by rw [eqv_refl_scal 0 d hs])) ⟨rfl, ⟨.inl ⟨rfl, fun _ _ z => by cases z⟩, .inl ⟨rfl, fun _ _ z => by cases z⟩, trivial⟩⟩))
theorem ok__law_same {P : Program} {w : World} {K : FR} {mg : Str → Option Value} {base : Heap} (B : Bt mg) {f : Addr} {fd : FuncData} (F : Fun K "_law_same" "_law_same" s__law_same f fd) (g : mg "_law_same" = some (.ref f)) (b : Binds K fd P__law_same []) : FnOk P w K mg base CX0 10 f fd P__law_same (spG K P__law_same.length rel__law_same) := ok__law_same_n B F g b 9 (by decide)
theorem rel_same {α : Type} [Enc α] [DecidableEq α] {x y : α} {b : Bool} (h : sameO x y = some b) : rel__law_same ([enc x, enc y].map Slot.d) (.d (.bool b)) [.u, .u] := rel_sameN h

end K61

-- K61P16
namespace K61
open PySem PySem.Spec PyProof.Rows L2 RZ Gw
open Gw.Enc (enc)
/-! _law_shuffled -/
abbrev s__law_shuffled : Stmt := topS 20
abbrev N__law_shuffled : List Str := ["draws", "row", "left", "told", "k"]
abbrev P__law_shuffled : List Str := ["draws", "row"]
theorem sc__law_shuffled : FnScope N__law_shuffled P__law_shuffled (defScope s__law_shuffled) := ⟨rfl, rfl, rfl, by decide +kernel, rfl, by decide +kernel, by decide +kernel⟩
theorem ok__law_shuffled {P : Program} {w : World} {K : FR} {mg : Str → Option Value} {base : Heap} (B : Bt mg) (c__law_take : Cal P w K mg base "_law_take" P__law_take 1 rel__law_take) {f : Addr} {fd : FuncData} (F : Fun K "_law_shuffled" "_law_shuffled" s__law_shuffled f fd) : FnOk P w K mg base CX0 2 f fd P__law_shuffled (spG K P__law_shuffled.length rel__law_shuffled) := by
  obtain ⟨f__law_take, fd__law_take, F__law_take, m__law_take, k__law_take, b__law_take⟩ := c__law_take.ex
  refine fn_ok F sc__law_shuffled fun cdv A outer s H E hr as r as' hrel hlen => ?_
  have nd := sc__law_shuffled.nd
  have hu := room_u64 hr
  have hu1 := room_u65 hr
  obtain ⟨p, draws, row, res, rfl, hm, rfl, rfl⟩ := hrel
  refine ⟨_, pss_cons (ps_set (i := 2) nd rfl (by first | exact Or.inl rfl | exact Or.inr rfl) (pe_callTy ((k_cr_lstS (K := K))) (by rfl) B.b_list (by decide +kernel) (pa_cons (pv 1) pa_nil))) (pss_cons (ps_set (i := 3) nd rfl (by first | exact Or.inl rfl | exact Or.inr rfl) (pe_lst (pa_nil))) (pss_cons (ps_for PassesOwn.never rfl (pi_range1 (by rfl) B.b_range (pa_cons (pe_callB ((k_cr_lenS (K := K))) (by rfl) B.b_len PySem.boot_len (pa_cons (pv 2) pa_nil)) pa_nil)) (pg_name (i := 4) nd rfl (by first | exact Or.inl rfl | exact Or.inr rfl)) (pss_one (ps_expr (pe_bm PySem.F.plainAttrs_list PySem.F.slot_list_append PySem.F.type_list_append mt_append (pv 3) (pa_cons (pe_bm PySem.F.plainAttrs_list PySem.F.slot_list_pop PySem.F.type_list_pop mt_popAt (pv 2) (pa_cons (pe_call F__law_take (hr.mono (by decide)) (by rfl) m__law_take k__law_take b__law_take .nil pass0 (pa_cons (pv 0) (pa_cons (pe_callB ((k_cr_lenS (K := K))) (by rfl) B.b_len PySem.boot_len (pa_cons (pv 2) pa_nil)) pa_nil))) pa_nil)) pa_nil))))) (pss_one (ps_ret (pv 3))))), ?_⟩
  unfold m_law_shuffled at hm
  show BV K _ [.l (some p) (List.map enc (draws : List Int)), .d (enc (row : (Ls (T4 Int Int Int Int)))), .u, .u, .u] _
  refine bv_setL (i := 2) (ef_of (ev_v (i := 1) rfl) (.inr rfl)) ?_
  show BV K _ [.l (some p) (List.map enc (draws : List Int)), .d (enc (row : (Ls (T4 Int Int Int Int)))), .l none (List.map enc (row.l : List (T4 Int Int Int Int))), .u, .u] _
  obtain ⟨v1, g1, hm⟩ := bnd hm
  refine bv_setL (i := 3) (EF.to (l := ([] : List (T4 Int Int Int Int))) (ef_list (l := ([] : List (T4 Int Int Int Int))) (ed_nil) (by show 0 ≤ LIM; decide)) (Option.some.inj g1)) ?_
  show BV K _ [.l (some p) (List.map enc (draws : List Int)), .d (enc (row : (Ls (T4 Int Int Int Int)))), .l none (List.map enc (row.l : List (T4 Int Int Int Int))), .l none (List.map enc (v1 : List (T4 Int Int Int Int))), .u] _
  obtain ⟨v2, g2, hm⟩ := bnd hm
  obtain ⟨s9, gs9, hm⟩ := bnd hm
  refine bv_foldq (env1 := [.l (some p) (List.map enc (draws : List Int)), .d (enc (row : (Ls (T4 Int Int Int Int)))), .l none (List.map enc (row.l : List (T4 Int Int Int Int))), .l none (List.map enc (v1 : List (T4 Int Int Int Int))), .u]) (xs := v2) (fun (s : (List Int) × (List (T4 Int Int Int Int)) × (List (T4 Int Int Int Int))) => [.l (some p) (List.map enc (s.1 : List Int)), .d (enc (row : (Ls (T4 Int Int Int Int)))), .l none (List.map enc (s.2.1 : List (T4 Int Int Int Int))), .l none (List.map enc (s.2.2 : List (T4 Int Int Int Int))), .u]) (ei_R1 (ed_1 (ev_lenOs (i := 2) (l := row.l) rfl)) g2) ⟨.inr rfl, .inr rfl, .inr rfl, .inr rfl, .inl rfl, trivial⟩ gs9 (fun s3 x4 s_n hm => ?_) ?_
  · refine ⟨_, _, eg_n 4, ?_⟩
    show BV K _ [.l (some p) (List.map enc (s3.1 : List Int)), .d (enc (row : (Ls (T4 Int Int Int Int)))), .l none (List.map enc (s3.2.1 : List (T4 Int Int Int Int))), .l none (List.map enc (s3.2.2 : List (T4 Int Int Int Int))), .d (.int x4)] _
    unfold m_law_shuffled_b1 at hm
    obtain ⟨r5, g5, hm⟩ := bnd hm
    obtain ⟨k6, hm⟩ := bndg hm
    obtain ⟨v7, g7, hm⟩ := bnd hm
    obtain ⟨k8, hm⟩ := bndg hm
    refine bv_drop1 (ev_appS (i := 3) (l := s3.2.2) k8 rfl (ev_popAtS (i := 2) (l := s3.2.1) (j := (r5.1).toNat) g7 rfl ((ev_callL (i := 0) (rel := rel__law_take) rfl rfl (ed_1 (ev_lenOs (i := 2) (l := s3.2.1) rfl)) rfl (fun p => ⟨p, s3.1, ((s3.2.1).length : Int), r5, rfl, g5, rfl, rfl⟩)).is (by rw [Int.toNat_of_nonneg (of_decide_eq_true k6)])) rfl) rfl) ?_
    have hm := Option.some.inj hm; subst hm
    show Le [.l (some p) (List.map enc (r5.2 : List Int)), .d (enc (row : (Ls (T4 Int Int Int Int)))), .l none (List.map enc (((s3.2.1).eraseIdx (r5.1).toNat) : List (T4 Int Int Int Int))), .l none (List.map enc ((s3.2.2 ++ [v7]) : List (T4 Int Int Int Int))), .d (.int x4)] [.l (some p) (List.map enc ((r5.2, ((s3.2.1).eraseIdx (r5.1).toNat), (s3.2.2 ++ [v7])).1 : List Int)), .d (enc (row : (Ls (T4 Int Int Int Int)))), .l none (List.map enc ((r5.2, ((s3.2.1).eraseIdx (r5.1).toNat), (s3.2.2 ++ [v7])).2.1 : List (T4 Int Int Int Int))), .l none (List.map enc ((r5.2, ((s3.2.1).eraseIdx (r5.1).toNat), (s3.2.2 ++ [v7])).2.2 : List (T4 Int Int Int Int))), .u]
    exact ⟨.inr rfl, .inr rfl, .inr rfl, .inr rfl, .inl rfl, trivial⟩
  show BV K _ [.l (some p) (List.map enc (s9.1 : List Int)), .d (enc (row : (Ls (T4 Int Int Int Int)))), .l none (List.map enc (s9.2.1 : List (T4 Int Int Int Int))), .l none (List.map enc (s9.2.2 : List (T4 Int Int Int Int))), .u] _
  refine bv_retO (i := 3) rfl ?_
  have hm := Option.some.inj hm; subst hm
  exact ⟨rfl, ⟨.inr ⟨_, _, _, rfl, rfl, rfl⟩, .inl ⟨rfl, fun _ _ z => by cases z⟩, trivial⟩⟩
end K61

-- K61P17
namespace K61
open PySem PySem.Spec PyProof.Rows L2 RZ Gw
open Gw.Enc (enc)
/-! _law_put -/
abbrev s__law_put : Stmt := topS 21
abbrev N__law_put : List Str := ["row", "k", "thing"]
abbrev P__law_put : List Str := ["row", "k", "thing"]
theorem sc__law_put : FnScope N__law_put P__law_put (defScope s__law_put) := ⟨rfl, rfl, rfl, by decide +kernel, rfl, by decide +kernel, by decide +kernel⟩
theorem ok__law_put {P : Program} {w : World} {K : FR} {mg : Str → Option Value} {base : Heap} (B : Bt mg) {f : Addr} {fd : FuncData} (F : Fun K "_law_put" "_law_put" s__law_put f fd) : FnOk P w K mg base CX0 1 f fd P__law_put (spG K P__law_put.length rel__law_put) := by
  refine fn_ok F sc__law_put fun cdv A outer s H E hr as r as' hrel hlen => ?_
  have nd := sc__law_put.nd
  have hu := room_u64 hr
  have hu1 := room_u65 hr
  obtain ⟨row, k, thing, res, rfl, hm, rfl, rfl⟩ := hrel
  refine ⟨_, pss_one (ps_ret (pe_op (k_op_catA (K := K)) (pe_op (k_op_catA (K := K)) (pe_slice (k_sl_tupA (K := K)) (pv 0) (po_none) (po_some (pv 1))) (pe_tup (pa_cons (pv 2) pa_nil))) (pe_slice (k_sl_tupA (K := K)) (pv 0) (po_some (pe_op op_add (pv 1) (pe_int))) (po_none)))), ?_⟩
  unfold m_law_put at hm
  show BV K _ [.d (enc (row : (List (T4 Int Int Int Int)))), .d (.int k), .d (enc (thing : (T4 Int Int Int Int)))] _
  obtain ⟨k1, hm⟩ := bndg hm
  obtain ⟨k2, hm⟩ := bndg hm
  refine bv_ret (d := (enc ((((cut row none (some k)) ++ ([thing] : List (T4 Int Int Int Int))) ++ (cut row (some (k + 1)) none)) : (List (T4 Int Int Int Int))))) (ev_cat k2 (ev_cat k1 (ev_sl (l := row) (ev_v (i := 0) rfl) (eo_none) (eo_some (ev_v (i := 1) rfl))) (ev_seq (l := ([thing] : List (T4 Int Int Int Int))) (ed_1 (ev_v (i := 2) rfl)) (by show 1 ≤ LIM; decide))) (ev_sl (l := row) (ev_v (i := 0) rfl) (eo_some (ev_add (ev_v (i := 1) rfl) (ev_i))) (eo_none))) ?_
  have hm := Option.some.inj hm; subst hm
  exact ⟨rfl, ⟨.inl ⟨rfl, fun _ _ z => by cases z⟩, .inl ⟨rfl, fun _ _ z => by cases z⟩, .inl ⟨rfl, fun _ _ z => by cases z⟩, trivial⟩⟩
end K61

-- K61P18
namespace K61
open PySem PySem.Spec PyProof.Rows L2 RZ Gw
open Gw.Enc (enc)
/-! _law_scale -/
abbrev s__law_scale : Stmt := topS 22
abbrev N__law_scale : List Str := ["draws"]
abbrev P__law_scale : List Str := ["draws"]
theorem sc__law_scale : FnScope N__law_scale P__law_scale (defScope s__law_scale) := ⟨rfl, rfl, rfl, by decide +kernel, rfl, by decide +kernel, by decide +kernel⟩
theorem ok__law_scale {P : Program} {w : World} {K : FR} {mg : Str → Option Value} {base : Heap} (B : Bt mg) (c__law_take : Cal P w K mg base "_law_take" P__law_take 1 rel__law_take) (c__law_pick : Cal P w K mg base "_law_pick" P__law_pick 2 rel__law_pick) {f : Addr} {fd : FuncData} (F : Fun K "_law_scale" "_law_scale" s__law_scale f fd) : FnOk P w K mg base CX0 3 f fd P__law_scale (spG K P__law_scale.length rel__law_scale) := by
  obtain ⟨f__law_take, fd__law_take, F__law_take, m__law_take, k__law_take, b__law_take⟩ := c__law_take.ex
  obtain ⟨f__law_pick, fd__law_pick, F__law_pick, m__law_pick, k__law_pick, b__law_pick⟩ := c__law_pick.ex
  refine fn_ok F sc__law_scale fun cdv A outer s H E hr as r as' hrel hlen => ?_
  have nd := sc__law_scale.nd
  have hu := room_u64 hr
  have hu1 := room_u65 hr
  obtain ⟨p, draws, res, rfl, hm, rfl, rfl⟩ := hrel
  refine ⟨_, pss_cons (ps_if (pt_cmpR (k_op_eqD (K := K) hu) (pe_call F__law_take (hr.mono (by decide)) (by rfl) m__law_take k__law_take b__law_take .nil pass0 (pa_cons (pv 0) (pa_cons (pe_int) pa_nil))) (pe_int) (nomark _)) (pss_one (ps_ret (pe_call F__law_pick (hr.mono (by decide)) (by rfl) m__law_pick k__law_pick b__law_pick .nil pass0 (pa_cons (pv 0) (pa_cons (pe_lst (pa_cons (pe_int) (pa_cons (pe_op op_add (pe_op op_pow (pe_int) (pe_int)) (pe_int)) (pa_cons (pe_op op_add (pe_op op_pow (pe_int) (pe_int)) (pe_int)) pa_nil)))) pa_nil))))) pss_nil) (pss_one (ps_ret (pe_int))), ?_⟩
  unfold m_law_scale at hm
  show BV K _ [.l (some p) (List.map enc (draws : List Int))] _
  obtain ⟨r1, g1, hm⟩ := bnd hm
  refine bv_ifx (env1 := [.l (some p) (List.map enc (r1.2 : List Int))]) (et_cmp (ev_eq (α := Int) (x := r1.1) (y := 0) (ev_callL (i := 0) (rel := rel__law_take) rfl rfl (ed_1 (ev_i)) rfl (fun p => ⟨p, draws, 7, r1, rfl, g1, rfl, rfl⟩)) (ev_i))) (fun hb => ?_) (fun hb => ?_)
  · have hm := cond_t hb hm
    obtain ⟨r2, g2, hm⟩ := bnd hm
    refine bv_ret (d := (.int r2.1)) (ev_callL (i := 0) (rel := rel__law_pick) rfl rfl (ed_1 (EF.dat (ef_list (l := ([1000003, (((10 : Int) ^ (15 : Int).toNat) + 37), (((10 : Int) ^ (40 : Int).toNat) + 121)] : List Int)) (ed_c (ev_i) (ed_c (ev_add (ev_pow ⟨by decide, by decide, by decide⟩ (ev_i) (ev_i)) (ev_i)) (ed_1 (ev_add (ev_pow ⟨by decide, by decide, by decide⟩ (ev_i) (ev_i)) (ev_i))))) (by show 3 ≤ LIM; decide)))) rfl (fun p => rel_pickL (row := ([1000003, (((10 : Int) ^ (15 : Int).toNat) + 37), (((10 : Int) ^ (40 : Int).toNat) + 121)] : List Int)) g2)) ?_
    have hm := Option.some.inj hm; subst hm
    exact ⟨rfl, ⟨.inr ⟨_, _, _, rfl, rfl, rfl⟩, trivial⟩⟩
  have hm := cond_f hb hm
  refine bv_ret (d := (.int 1)) (ev_i) ?_
  have hm := Option.some.inj hm; subst hm
  exact ⟨rfl, ⟨.inr ⟨_, _, _, rfl, rfl, rfl⟩, trivial⟩⟩
end K61

-- K61P19
namespace K61
open PySem PySem.Spec PyProof.Rows L2 RZ Gw
open Gw.Enc (enc)
/-! _law_leak_book -/
abbrev s__law_leak_book : Stmt := topS 23
abbrev N__law_leak_book : List Str := ["draws", "ponds", "days", "scale", "starts", "changes", "day", "tight", "k", "gate"]
abbrev P__law_leak_book : List Str := ["draws", "ponds", "days", "scale"]
theorem sc__law_leak_book : FnScope N__law_leak_book P__law_leak_book (defScope s__law_leak_book) := ⟨rfl, rfl, rfl, by decide +kernel, rfl, by decide +kernel, by decide +kernel⟩
theorem ok__law_leak_book {P : Program} {w : World} {K : FR} {mg : Str → Option Value} {base : Heap} (B : Bt mg) (c__law_take : Cal P w K mg base "_law_take" P__law_take 1 rel__law_take) {f : Addr} {fd : FuncData} (F : Fun K "_law_leak_book" "_law_leak_book" s__law_leak_book f fd) : FnOk P w K mg base CX0 2 f fd P__law_leak_book (spG K P__law_leak_book.length rel__law_leak_book) := by
  obtain ⟨f__law_take, fd__law_take, F__law_take, m__law_take, k__law_take, b__law_take⟩ := c__law_take.ex
  refine fn_ok F sc__law_leak_book fun cdv A outer s H E hr as r as' hrel hlen => ?_
  have nd := sc__law_leak_book.nd
  have hu := room_u64 hr
  have hu1 := room_u65 hr
  obtain ⟨p, draws, ponds, days, scale, res, rfl, hm, rfl, rfl⟩ := hrel
  refine ⟨_, pss_cons (ps_set (i := 4) nd rfl (by first | exact Or.inl rfl | exact Or.inr rfl) (pe_callTy ((k_cr_tupS (K := K))) (by rfl) B.b_tuple (by decide +kernel) (pa_cons (pe_lc (own := [("k", 8)]) rfl nd (pi_range1 (by rfl) B.b_range (pa_cons (pv 1) pa_nil)) (blkOk_by (own := [("k", 8)]) (N := N__law_leak_book) (sc := defScope s__law_leak_book) (by decide +kernel)) (fun _ _ _ _ _ => pg_name (i := 8) nd rfl (by first | exact Or.inl rfl | exact Or.inr rfl)) (fun _ _ _ _ _ => pts_nil) (fun _ _ _ _ _ => pe_op op_mulXX (pv 3) (pe_op op_sub (pe_call F__law_take (hr.mono (by decide)) (by rfl) m__law_take k__law_take b__law_take .nil pass0 (pa_cons (pv 0) (pa_cons (pe_int) pa_nil))) (pe_int)))) pa_nil))) (pss_cons (ps_set (i := 5) nd rfl (by first | exact Or.inl rfl | exact Or.inr rfl) (pe_lst (pa_nil))) (pss_cons (ps_for PassesOwn.never rfl (pi_range1 (by rfl) B.b_range (pa_cons (pv 2) pa_nil)) (pg_name (i := 6) nd rfl (by first | exact Or.inl rfl | exact Or.inr rfl)) (pss_one (ps_expr (pe_bm PySem.F.plainAttrs_list PySem.F.slot_list_append PySem.F.type_list_append mt_append (pv 5) (pa_cons (pe_callTy ((k_cr_tupS (K := K))) (by rfl) B.b_tuple (by decide +kernel) (pa_cons (pe_lc (own := [("k", 8)]) rfl nd (pi_range1 (by rfl) B.b_range (pa_cons (pv 1) pa_nil)) (blkOk_by (own := [("k", 8)]) (N := N__law_leak_book) (sc := defScope s__law_leak_book) (by decide +kernel)) (fun _ _ _ _ _ => pg_name (i := 8) nd rfl (by first | exact Or.inl rfl | exact Or.inr rfl)) (fun _ _ _ _ _ => pts_nil) (fun _ _ _ _ _ => pe_op op_mulXX (pv 3) (pe_op op_sub (pe_call F__law_take (hr.mono (by decide)) (by rfl) m__law_take k__law_take b__law_take .nil pass0 (pa_cons (pv 0) (pa_cons (pe_int) pa_nil))) (pe_int)))) pa_nil)) pa_nil))))) (pss_cons (ps_set (i := 7) nd rfl (by first | exact Or.inl rfl | exact Or.inr rfl) (pe_callTy ((k_cr_tupS (K := K))) (by rfl) B.b_tuple (by decide +kernel) (pa_cons (pe_lc (own := [("gate", 9)]) rfl nd (pi_range1 (by rfl) B.b_range (pa_cons (pe_op op_add (pv 1) (pe_int)) pa_nil)) (blkOk_by (own := [("gate", 9)]) (N := N__law_leak_book) (sc := defScope s__law_leak_book) (by decide +kernel)) (fun _ _ _ _ _ => pg_name (i := 9) nd rfl (by first | exact Or.inl rfl | exact Or.inr rfl)) (fun _ _ _ _ _ => pts_one (pt_cmpR (k_op_eqD (K := K) hu) (pe_call F__law_take (hr.mono (by decide)) (by rfl) m__law_take k__law_take b__law_take .nil pass0 (pa_cons (pv 0) (pa_cons (pe_int) pa_nil))) (pe_int) (nomark _))) (fun _ _ _ _ _ => pv 9)) pa_nil))) (pss_one (ps_ret (pe_tup (pa_cons (pv 4) (pa_cons (pe_callTy ((k_cr_tupS (K := K))) (by rfl) B.b_tuple (by decide +kernel) (pa_cons (pv 5) pa_nil)) (pa_cons (pv 7) pa_nil))))))))), ?_⟩
  unfold m_law_leak_book at hm
  show BV K _ [.l (some p) (List.map enc (draws : List Int)), .d (.int ponds), .d (.int days), .d (.int scale), .u, .u, .u, .u, .u, .u] _
  obtain ⟨v1, g1, hm⟩ := bnd hm
  obtain ⟨r11, g11, hm⟩ := bnd hm
  refine bv_set (i := 4) (d := (enc (r11.1 : (List Int)))) (ev_tupF (ef_mapS (env1 := [.l (some p) (List.map enc (draws : List Int)), .d (.int ponds), .d (.int days), .d (.int scale), .u, .u, .u, .u, .u, .u]) (xs := v1) (s0 := draws) (s1 := r11.2) (fun (s : (List Int)) => [.l (some p) (List.map enc (s : List Int)), .d (.int ponds), .d (.int days), .d (.int scale), .u, .u, .u, .u, .u, .u]) (ei_R1 (ed_1 (ev_v (i := 1) rfl)) g1) ⟨.inr rfl, .inr rfl, .inr rfl, .inr rfl, .inl rfl, .inl rfl, .inl rfl, .inl rfl, .inl rfl, .inl rfl, trivial⟩ (fun _ => rfl) g11 (fun s5 x6 y9 s10 hm => by unfold m_law_leak_book_c1 at hm; obtain ⟨r7, g7, hm⟩ := bnd hm; obtain ⟨k8, hm⟩ := bndg hm; obtain ⟨hy, hs⟩ := Prod.mk.inj (Option.some.inj hm); subst hy; subst hs; exact ⟨_, _, _, eg_n 8, (by decide), ev_mul k8 (ev_v (i := 3) rfl) (ev_sub (ev_callL (i := 0) (rel := rel__law_take) rfl rfl (ed_1 (ev_i)) rfl (fun p => ⟨p, s5, 12, r7, rfl, g7, rfl, rfl⟩)) (ev_i)), ⟨.inr rfl, .inr rfl, .inr rfl, .inr rfl, .inl rfl, .inl rfl, .inl rfl, .inl rfl, .inl rfl, .inl rfl, trivial⟩⟩))) ?_
  show BV K _ [.l (some p) (List.map enc (r11.2 : List Int)), .d (.int ponds), .d (.int days), .d (.int scale), .d (enc (r11.1 : (List Int))), .u, .u, .u, .u, .u] _
  refine bv_setL (i := 5) (ef_list (l := ([] : List (List Int))) (ed_nil) (by show 0 ≤ LIM; decide)) ?_
  show BV K _ [.l (some p) (List.map enc (r11.2 : List Int)), .d (.int ponds), .d (.int days), .d (.int scale), .d (enc (r11.1 : (List Int))), .l none (List.map enc (([] : List (List Int)) : List (List Int))), .u, .u, .u, .u] _
  obtain ⟨v12, g12, hm⟩ := bnd hm
  obtain ⟨s27, gs27, hm⟩ := bnd hm
  refine bv_foldq (env1 := [.l (some p) (List.map enc (r11.2 : List Int)), .d (.int ponds), .d (.int days), .d (.int scale), .d (enc (r11.1 : (List Int))), .l none (List.map enc (([] : List (List Int)) : List (List Int))), .u, .u, .u, .u]) (xs := v12) (fun (s : (List Int) × (List (List Int))) => [.l (some p) (List.map enc (s.1 : List Int)), .d (.int ponds), .d (.int days), .d (.int scale), .d (enc (r11.1 : (List Int))), .l none (List.map enc (s.2 : List (List Int))), .u, .u, .u, .u]) (ei_R1 (ed_1 (ev_v (i := 2) rfl)) g12) ⟨.inr rfl, .inr rfl, .inr rfl, .inr rfl, .inr rfl, .inr rfl, .inl rfl, .inl rfl, .inl rfl, .inl rfl, trivial⟩ gs27 (fun s13 x14 s_n hm => ?_) ?_
  · refine ⟨_, _, eg_n 6, ?_⟩
    show BV K _ [.l (some p) (List.map enc (s13.1 : List Int)), .d (.int ponds), .d (.int days), .d (.int scale), .d (enc (r11.1 : (List Int))), .l none (List.map enc (s13.2 : List (List Int))), .d (.int x14), .u, .u, .u] _
    unfold m_law_leak_book_b3 at hm
    obtain ⟨v15, g15, hm⟩ := bnd hm
    obtain ⟨r25, g25, hm⟩ := bnd hm
    obtain ⟨k26, hm⟩ := bndg hm
    refine bv_drop1 (ev_appS (i := 5) (l := s13.2) k26 rfl (ev_tupF (ef_mapS (env1 := [.l (some p) (List.map enc (s13.1 : List Int)), .d (.int ponds), .d (.int days), .d (.int scale), .d (enc (r11.1 : (List Int))), .l none (List.map enc (s13.2 : List (List Int))), .d (.int x14), .u, .u, .u]) (xs := v15) (s0 := s13.1) (s1 := r25.2) (fun (s : (List Int)) => [.l (some p) (List.map enc (s : List Int)), .d (.int ponds), .d (.int days), .d (.int scale), .d (enc (r11.1 : (List Int))), .l none (List.map enc (s13.2 : List (List Int))), .d (.int x14), .u, .u, .u]) (ei_R1 (ed_1 (ev_v (i := 1) rfl)) g15) ⟨.inr rfl, .inr rfl, .inr rfl, .inr rfl, .inr rfl, .inr rfl, .inr rfl, .inl rfl, .inl rfl, .inl rfl, trivial⟩ (fun _ => rfl) g25 (fun s19 x20 y23 s24 hm => by unfold m_law_leak_book_c2 at hm; obtain ⟨r21, g21, hm⟩ := bnd hm; obtain ⟨k22, hm⟩ := bndg hm; obtain ⟨hy, hs⟩ := Prod.mk.inj (Option.some.inj hm); subst hy; subst hs; exact ⟨_, _, _, eg_n 8, (by decide), ev_mul k22 (ev_v (i := 3) rfl) (ev_sub (ev_callL (i := 0) (rel := rel__law_take) rfl rfl (ed_1 (ev_i)) rfl (fun p => ⟨p, s19, 7, r21, rfl, g21, rfl, rfl⟩)) (ev_i)), ⟨.inr rfl, .inr rfl, .inr rfl, .inr rfl, .inr rfl, .inr rfl, .inr rfl, .inl rfl, .inl rfl, .inl rfl, trivial⟩⟩))) rfl) ?_
    have hm := Option.some.inj hm; subst hm
    show Le [.l (some p) (List.map enc (r25.2 : List Int)), .d (.int ponds), .d (.int days), .d (.int scale), .d (enc (r11.1 : (List Int))), .l none (List.map enc ((s13.2 ++ [r25.1]) : List (List Int))), .d (.int x14), .u, .u, .u] [.l (some p) (List.map enc ((r25.2, (s13.2 ++ [r25.1])).1 : List Int)), .d (.int ponds), .d (.int days), .d (.int scale), .d (enc (r11.1 : (List Int))), .l none (List.map enc ((r25.2, (s13.2 ++ [r25.1])).2 : List (List Int))), .u, .u, .u, .u]
    exact ⟨.inr rfl, .inr rfl, .inr rfl, .inr rfl, .inr rfl, .inr rfl, .inl rfl, .inl rfl, .inl rfl, .inl rfl, trivial⟩
  show BV K _ [.l (some p) (List.map enc (s27.1 : List Int)), .d (.int ponds), .d (.int days), .d (.int scale), .d (enc (r11.1 : (List Int))), .l none (List.map enc (s27.2 : List (List Int))), .u, .u, .u, .u] _
  obtain ⟨v28, g28, hm⟩ := bnd hm
  obtain ⟨r36, g36, hm⟩ := bnd hm
  refine bv_set (i := 7) (d := (enc (r36.1 : (List Int)))) (ev_tupF (ef_filS (env1 := [.l (some p) (List.map enc (s27.1 : List Int)), .d (.int ponds), .d (.int days), .d (.int scale), .d (enc (r11.1 : (List Int))), .l none (List.map enc (s27.2 : List (List Int))), .u, .u, .u, .u]) (xs := v28) (s0 := s27.1) (s1 := r36.2) (fun (s : (List Int)) => [.l (some p) (List.map enc (s : List Int)), .d (.int ponds), .d (.int days), .d (.int scale), .d (enc (r11.1 : (List Int))), .l none (List.map enc (s27.2 : List (List Int))), .u, .u, .u, .u]) (ei_R1 (ed_1 (ev_add (ev_v (i := 1) rfl) (ev_i))) g28) ⟨.inr rfl, .inr rfl, .inr rfl, .inr rfl, .inr rfl, .inr rfl, .inl rfl, .inl rfl, .inl rfl, .inl rfl, trivial⟩ (fun _ => rfl) g36 (fun s31 x32 y34 hm => by unfold m_law_leak_book_c4 at hm; obtain ⟨r33, g33, hm⟩ := bnd hm; by_cases hb : (decide ((r33.1 : Int) = 0)) = true; (have hm := cond_t hb hm; have hm := Option.some.inj hm; subst hm; exact ⟨_, _, true, _, eg_n 9, (by decide), (et_cmp (ev_eq (α := Int) (x := r33.1) (y := 0) (ev_callL (i := 0) (rel := rel__law_take) rfl rfl (ed_1 (ev_i)) rfl (fun p => ⟨p, s31, 4, r33, rfl, g33, rfl, rfl⟩)) (ev_i))).is hb, .inl ⟨rfl, _, _, rfl, ev_v (i := 9) rfl, ⟨.inr rfl, .inr rfl, .inr rfl, .inr rfl, .inr rfl, .inr rfl, .inl rfl, .inl rfl, .inl rfl, .inl rfl, trivial⟩⟩⟩); (rw [Bool.not_eq_true] at hb; have hm := cond_f hb hm; have hm := Option.some.inj hm; subst hm; exact ⟨_, _, false, _, eg_n 9, (by decide), (et_cmp (ev_eq (α := Int) (x := r33.1) (y := 0) (ev_callL (i := 0) (rel := rel__law_take) rfl rfl (ed_1 (ev_i)) rfl (fun p => ⟨p, s31, 4, r33, rfl, g33, rfl, rfl⟩)) (ev_i))).is hb, .inr ⟨rfl, rfl, ⟨.inr rfl, .inr rfl, .inr rfl, .inr rfl, .inr rfl, .inr rfl, .inl rfl, .inl rfl, .inl rfl, .inl rfl, trivial⟩⟩⟩)))) ?_
  show BV K _ [.l (some p) (List.map enc (r36.2 : List Int)), .d (.int ponds), .d (.int days), .d (.int scale), .d (enc (r11.1 : (List Int))), .l none (List.map enc (s27.2 : List (List Int))), .u, .d (enc (r36.1 : (List Int))), .u, .u] _
  refine bv_ret (d := (enc ((T3.mk r11.1 s27.2 r36.1) : (T3 (List Int) (List (List Int)) (List Int))))) (ev_t3 (α := (List Int)) (β := (List (List Int))) (γ := (List Int)) (p := r11.1) (r := s27.2) (s := r36.1) (ev_v (i := 4) rfl) (ev_tupO (i := 5) rfl) (ev_v (i := 7) rfl)) ?_
  have hm := Option.some.inj hm; subst hm
  exact ⟨rfl, ⟨.inr ⟨_, _, _, rfl, rfl, rfl⟩, .inl ⟨rfl, fun _ _ z => by cases z⟩, .inl ⟨rfl, fun _ _ z => by cases z⟩, .inl ⟨rfl, fun _ _ z => by cases z⟩, trivial⟩⟩
end K61

-- K61P20
namespace K61
open PySem PySem.Spec PyProof.Rows L2 RZ Gw
open Gw.Enc (enc)
/-! _law_drawn_story -/
abbrev s__law_drawn_story : Stmt := topS 24
abbrev N__law_drawn_story : List Str := ["draws", "book", "scale", "told", "day", "row", "gate"]
abbrev P__law_drawn_story : List Str := ["draws", "book", "scale"]
theorem sc__law_drawn_story : FnScope N__law_drawn_story P__law_drawn_story (defScope s__law_drawn_story) := ⟨rfl, rfl, rfl, by decide +kernel, rfl, by decide +kernel, by decide +kernel⟩
theorem ok__law_drawn_story {P : Program} {w : World} {K : FR} {mg : Str → Option Value} {base : Heap} (B : Bt mg) (c__law_take : Cal P w K mg base "_law_take" P__law_take 1 rel__law_take) {f : Addr} {fd : FuncData} (F : Fun K "_law_drawn_story" "_law_drawn_story" s__law_drawn_story f fd) : FnOk P w K mg base CX0 2 f fd P__law_drawn_story (spG K P__law_drawn_story.length rel__law_drawn_story) := by
  obtain ⟨f__law_take, fd__law_take, F__law_take, m__law_take, k__law_take, b__law_take⟩ := c__law_take.ex
  refine fn_ok F sc__law_drawn_story fun cdv A outer s H E hr as r as' hrel hlen => ?_
  have nd := sc__law_drawn_story.nd
  have hu := room_u64 hr
  have hu1 := room_u65 hr
  obtain ⟨p, draws, book, scale, res, rfl, hm, rfl, rfl⟩ := hrel
  refine ⟨_, pss_cons (ps_set (i := 3) nd rfl (by first | exact Or.inl rfl | exact Or.inr rfl) (pe_lst (pa_nil))) (pss_cons (ps_for PassesOwn.never rfl (k_pi_tup (K := K) (pe_ix (k_ix_tup (K := K)) (pv 1) pe_int (fun _ _ => rfl))) (pg_name (i := 4) nd rfl (by first | exact Or.inl rfl | exact Or.inr rfl)) (pss_cons (ps_set (i := 5) nd rfl (by first | exact Or.inl rfl | exact Or.inr rfl) (pe_lc (own := [("gate", 6)]) rfl nd (pi_range1 (by rfl) B.b_range (pa_cons (pe_op op_add (pe_callB ((k_cr_lenS (K := K))) (by rfl) B.b_len PySem.boot_len (pa_cons (pe_ix (k_ix_tup (K := K)) (pv 1) pe_int (fun _ _ => rfl)) pa_nil)) (pe_int)) pa_nil)) (blkOk_by (own := [("gate", 6)]) (N := N__law_drawn_story) (sc := defScope s__law_drawn_story) (by decide +kernel)) (fun _ _ _ _ _ => pg_name (i := 6) nd rfl (by first | exact Or.inl rfl | exact Or.inr rfl)) (fun _ _ _ _ _ => pts_nil) (fun _ _ _ _ _ => pe_op op_mulXX (pv 2) (pe_call F__law_take (hr.mono (by decide)) (by rfl) m__law_take k__law_take b__law_take .nil pass0 (pa_cons (pv 0) (pa_cons (pe_int) pa_nil)))))) (pss_one (ps_expr (pe_bm PySem.F.plainAttrs_list PySem.F.slot_list_append PySem.F.type_list_append mt_append (pv 3) (pa_cons (pe_callTy ((k_cr_tupS (K := K))) (by rfl) B.b_tuple (by decide +kernel) (pa_cons (pe_lc (own := [("gate", 6)]) rfl nd (pi_range1 (by rfl) B.b_range (pa_cons (pe_callB ((k_cr_lenS (K := K))) (by rfl) B.b_len PySem.boot_len (pa_cons (pv 5) pa_nil)) pa_nil)) (blkOk_by (own := [("gate", 6)]) (N := N__law_drawn_story) (sc := defScope s__law_drawn_story) (by decide +kernel)) (fun _ _ _ _ _ => pg_name (i := 6) nd rfl (by first | exact Or.inl rfl | exact Or.inr rfl)) (fun _ _ _ _ _ => pts_nil) (fun _ _ _ _ _ => pe_op op_mulXX (pe_ix (k_ix_list (K := K)) (pv 5) (pv 6) (fun _ _ => rfl)) (pe_callTy (cr_int1) (by rfl) B.b_int (by decide +kernel) (pa_cons (pe_cmpR ((k_op_notIn_seq (K := K))) (pv 6) (pe_ix (k_ix_tup (K := K)) (pv 1) pe_int (fun _ _ => rfl)) (by rfl)) pa_nil)))) pa_nil)) pa_nil)))))) (pss_one (ps_ret (pe_callTy ((k_cr_tupS (K := K))) (by rfl) B.b_tuple (by decide +kernel) (pa_cons (pv 3) pa_nil))))), ?_⟩
  unfold m_law_drawn_story at hm
  show BV K _ [.l (some p) (List.map enc (draws : List Int)), .d (enc (book : (T3 (List Int) (List (List Int)) (List Int)))), .d (.int scale), .u, .u, .u, .u] _
  refine bv_setL (i := 3) (ef_list (l := ([] : List (List Int))) (ed_nil) (by show 0 ≤ LIM; decide)) ?_
  show BV K _ [.l (some p) (List.map enc (draws : List Int)), .d (enc (book : (T3 (List Int) (List (List Int)) (List Int)))), .d (.int scale), .l none (List.map enc (([] : List (List Int)) : List (List Int))), .u, .u, .u] _
  obtain ⟨s21, gs21, hm⟩ := bnd hm
  refine bv_foldq (env1 := [.l (some p) (List.map enc (draws : List Int)), .d (enc (book : (T3 (List Int) (List (List Int)) (List Int)))), .d (.int scale), .l none (List.map enc (([] : List (List Int)) : List (List Int))), .u, .u, .u]) (xs := book.b) (fun (s : (List Int) × (List (List Int))) => [.l (some p) (List.map enc (s.1 : List Int)), .d (enc (book : (T3 (List Int) (List (List Int)) (List Int)))), .d (.int scale), .l none (List.map enc (s.2 : List (List Int))), .u, .u, .u]) (ei_T (ev_3b (p := book) (ev_v (i := 1) rfl))) ⟨.inr rfl, .inr rfl, .inr rfl, .inr rfl, .inl rfl, .inl rfl, .inl rfl, trivial⟩ gs21 (fun s1 x2 s_n hm => ?_) ?_
  · refine ⟨_, _, eg_n 4, ?_⟩
    show BV K _ [.l (some p) (List.map enc (s1.1 : List Int)), .d (enc (book : (T3 (List Int) (List (List Int)) (List Int)))), .d (.int scale), .l none (List.map enc (s1.2 : List (List Int))), .d (enc (x2 : (List Int))), .u, .u] _
    unfold m_law_drawn_story_b3 at hm
    obtain ⟨v3, g3, hm⟩ := bnd hm
    obtain ⟨r13, g13, hm⟩ := bnd hm
    refine bv_set (i := 5) (d := (enc ((Ls.mk r13.1) : (Ls Int)))) (EF.dat (ef_mapS (env1 := [.l (some p) (List.map enc (s1.1 : List Int)), .d (enc (book : (T3 (List Int) (List (List Int)) (List Int)))), .d (.int scale), .l none (List.map enc (s1.2 : List (List Int))), .d (enc (x2 : (List Int))), .u, .u]) (xs := v3) (s0 := s1.1) (s1 := r13.2) (fun (s : (List Int)) => [.l (some p) (List.map enc (s : List Int)), .d (enc (book : (T3 (List Int) (List (List Int)) (List Int)))), .d (.int scale), .l none (List.map enc (s1.2 : List (List Int))), .d (enc (x2 : (List Int))), .u, .u]) (ei_R1 (ed_1 (ev_add (ev_len (l := book.a) (ev_3a (p := book) (ev_v (i := 1) rfl))) (ev_i))) g3) ⟨.inr rfl, .inr rfl, .inr rfl, .inr rfl, .inr rfl, .inl rfl, .inl rfl, trivial⟩ (fun _ => rfl) g13 (fun s7 x8 y11 s12 hm => by unfold m_law_drawn_story_c1 at hm; obtain ⟨r9, g9, hm⟩ := bnd hm; obtain ⟨k10, hm⟩ := bndg hm; obtain ⟨hy, hs⟩ := Prod.mk.inj (Option.some.inj hm); subst hy; subst hs; exact ⟨_, _, _, eg_n 6, (by decide), ev_mul k10 (ev_v (i := 2) rfl) (ev_callL (i := 0) (rel := rel__law_take) rfl rfl (ed_1 (ev_i)) rfl (fun p => ⟨p, s7, 4, r9, rfl, g9, rfl, rfl⟩)), ⟨.inr rfl, .inr rfl, .inr rfl, .inr rfl, .inr rfl, .inl rfl, .inl rfl, trivial⟩⟩))) ?_
    show BV K _ [.l (some p) (List.map enc (r13.2 : List Int)), .d (enc (book : (T3 (List Int) (List (List Int)) (List Int)))), .d (.int scale), .l none (List.map enc (s1.2 : List (List Int))), .d (enc (x2 : (List Int))), .d (enc ((Ls.mk r13.1) : (Ls Int))), .u] _
    obtain ⟨v14, g14, hm⟩ := bnd hm
    obtain ⟨v18, g18, hm⟩ := bnd hm
    obtain ⟨k20, hm⟩ := bndg hm
    refine bv_drop1 (ev_appS (i := 3) (l := s1.2) k20 rfl (ev_tupF (ef_mapO (env1 := [.l (some p) (List.map enc (r13.2 : List Int)), .d (enc (book : (T3 (List Int) (List (List Int)) (List Int)))), .d (.int scale), .l none (List.map enc (s1.2 : List (List Int))), .d (enc (x2 : (List Int))), .d (enc ((Ls.mk r13.1) : (Ls Int))), .u]) (xs := v14) [.l (some p) (List.map enc (r13.2 : List Int)), .d (enc (book : (T3 (List Int) (List (List Int)) (List Int)))), .d (.int scale), .l none (List.map enc (s1.2 : List (List Int))), .d (enc (x2 : (List Int))), .d (enc ((Ls.mk r13.1) : (Ls Int))), .u] (ei_R1 (ed_1 (ev_lenLs (l := r13.1) (ev_v (i := 5) rfl))) g14) ⟨.inr rfl, .inr rfl, .inr rfl, .inr rfl, .inr rfl, .inr rfl, .inl rfl, trivial⟩ rfl g18 (fun x15 y19 hm => by unfold m_law_drawn_story_c2 at hm; obtain ⟨v16, g16, hm⟩ := bnd hm; obtain ⟨k17, hm⟩ := bndg hm; have hm := Option.some.inj hm; subst hm; exact ⟨_, _, _, eg_n 6, (by decide), ev_mul k17 (EV.ofI (ev_atL (l := r13.1) (ev_v (i := 5) rfl) (ev_v (i := 6) rfl) g16)) (ev_intB (ed_1 (ev_ninT (a := x15) (l := book.c) (ev_v (i := 6) rfl) (ev_3c (p := book) (ev_v (i := 1) rfl))))), ⟨.inr rfl, .inr rfl, .inr rfl, .inr rfl, .inr rfl, .inr rfl, .inl rfl, trivial⟩⟩))) rfl) ?_
    have hm := Option.some.inj hm; subst hm
    show Le [.l (some p) (List.map enc (r13.2 : List Int)), .d (enc (book : (T3 (List Int) (List (List Int)) (List Int)))), .d (.int scale), .l none (List.map enc ((s1.2 ++ [v18]) : List (List Int))), .d (enc (x2 : (List Int))), .d (enc ((Ls.mk r13.1) : (Ls Int))), .u] [.l (some p) (List.map enc ((r13.2, (s1.2 ++ [v18])).1 : List Int)), .d (enc (book : (T3 (List Int) (List (List Int)) (List Int)))), .d (.int scale), .l none (List.map enc ((r13.2, (s1.2 ++ [v18])).2 : List (List Int))), .u, .u, .u]
    exact ⟨.inr rfl, .inr rfl, .inr rfl, .inr rfl, .inl rfl, .inl rfl, .inl rfl, trivial⟩
  show BV K _ [.l (some p) (List.map enc (s21.1 : List Int)), .d (enc (book : (T3 (List Int) (List (List Int)) (List Int)))), .d (.int scale), .l none (List.map enc (s21.2 : List (List Int))), .u, .u, .u] _
  refine bv_ret (d := (enc (s21.2 : (List (List Int))))) (ev_tupO (i := 3) rfl) ?_
  have hm := Option.some.inj hm; subst hm
  exact ⟨rfl, ⟨.inr ⟨_, _, _, rfl, rfl, rfl⟩, .inl ⟨rfl, fun _ _ z => by cases z⟩, .inl ⟨rfl, fun _ _ z => by cases z⟩, trivial⟩⟩
end K61

-- K61P21
namespace K61
open PySem PySem.Spec PyProof.Rows L2 RZ Gw
open Gw.Enc (enc)
/-! _law_pond_waters -/
abbrev s__law_pond_waters : Stmt := topS 25
abbrev N__law_pond_waters : List Str := ["book", "story", "told", "here", "day", "k"]
abbrev P__law_pond_waters : List Str := ["book", "story"]
theorem sc__law_pond_waters : FnScope N__law_pond_waters P__law_pond_waters (defScope s__law_pond_waters) := ⟨rfl, rfl, rfl, by decide +kernel, rfl, by decide +kernel, by decide +kernel⟩
theorem ok__law_pond_waters {P : Program} {w : World} {K : FR} {mg : Str → Option Value} {base : Heap} (B : Bt mg) {f : Addr} {fd : FuncData} (F : Fun K "_law_pond_waters" "_law_pond_waters" s__law_pond_waters f fd) : FnOk P w K mg base CX0 1 f fd P__law_pond_waters (spG K P__law_pond_waters.length rel__law_pond_waters) := by
  refine fn_ok F sc__law_pond_waters fun cdv A outer s H E hr as r as' hrel hlen => ?_
  have nd := sc__law_pond_waters.nd
  have hu := room_u64 hr
  have hu1 := room_u65 hr
  obtain ⟨book, story, res, rfl, hm, rfl, rfl⟩ := hrel
  refine ⟨_, pss_cons (ps_set (i := 2) nd rfl (by first | exact Or.inl rfl | exact Or.inr rfl) (pe_lst (pa_nil))) (pss_cons (ps_set (i := 3) nd rfl (by first | exact Or.inl rfl | exact Or.inr rfl) (pe_callTy ((k_cr_lstS (K := K))) (by rfl) B.b_list (by decide +kernel) (pa_cons (pe_ix (k_ix_tup (K := K)) (pv 0) pe_int (fun _ _ => rfl)) pa_nil))) (pss_cons (ps_for PassesOwn.never rfl (pi_range1 (by rfl) B.b_range (pa_cons (pe_callB ((k_cr_lenS (K := K))) (by rfl) B.b_len PySem.boot_len (pa_cons (pv 1) pa_nil)) pa_nil)) (pg_name (i := 4) nd rfl (by first | exact Or.inl rfl | exact Or.inr rfl)) (pss_cons (ps_for PassesOwn.never rfl (pi_range1 (by rfl) B.b_range (pa_cons (pe_callB ((k_cr_lenS (K := K))) (by rfl) B.b_len PySem.boot_len (pa_cons (pv 3) pa_nil)) pa_nil)) (pg_name (i := 5) nd rfl (by first | exact Or.inl rfl | exact Or.inr rfl)) (pss_one (ps_asg (pe_op op_sub (pe_op op_add (pe_op op_add (pe_ix (k_ix_list (K := K)) (pv 3) (pv 5) (fun _ _ => rfl)) (pe_ix (k_ix_tup (K := K)) (pe_ix (k_ix_tup (K := K)) (pe_ix (k_ix_tup (K := K)) (pv 0) pe_int (fun _ _ => rfl)) (pv 4) (fun _ _ => rfl)) (pv 5) (fun _ _ => rfl))) (pe_ix (k_ix_tup (K := K)) (pe_ix (k_ix_tup (K := K)) (pv 1) (pv 4) (fun _ _ => rfl)) (pv 5) (fun _ _ => rfl))) (pe_ix (k_ix_tup (K := K)) (pe_ix (k_ix_tup (K := K)) (pv 1) (pv 4) (fun _ _ => rfl)) (pe_op op_add (pv 5) (pe_int)) (fun _ _ => rfl))) (pg_sub (pv 3) (pv 5) set_list)))) (pss_one (ps_expr (pe_bm PySem.F.plainAttrs_list PySem.F.slot_list_append PySem.F.type_list_append mt_append (pv 2) (pa_cons (pe_callTy ((k_cr_tupS (K := K))) (by rfl) B.b_tuple (by decide +kernel) (pa_cons (pv 3) pa_nil)) pa_nil)))))) (pss_one (ps_ret (pv 2))))), ?_⟩
  unfold m_law_pond_waters at hm
  show BV K _ [.d (enc (book : (T3 (List Int) (List (List Int)) (List Int)))), .d (enc (story : (List (List Int)))), .u, .u, .u, .u] _
  refine bv_setL (i := 2) (ef_list (l := ([] : List (List Int))) (ed_nil) (by show 0 ≤ LIM; decide)) ?_
  show BV K _ [.d (enc (book : (T3 (List Int) (List (List Int)) (List Int)))), .d (enc (story : (List (List Int)))), .l none (List.map enc (([] : List (List Int)) : List (List Int))), .u, .u, .u] _
  refine bv_setL (i := 3) (ef_of (ev_3a (p := book) (ev_v (i := 0) rfl)) (.inl rfl)) ?_
  show BV K _ [.d (enc (book : (T3 (List Int) (List (List Int)) (List Int)))), .d (enc (story : (List (List Int)))), .l none (List.map enc (([] : List (List Int)) : List (List Int))), .l none (List.map enc (book.a : List Int)), .u, .u] _
  obtain ⟨v1, g1, hm⟩ := bnd hm
  obtain ⟨s17, gs17, hm⟩ := bnd hm
  refine bv_foldq (env1 := [.d (enc (book : (T3 (List Int) (List (List Int)) (List Int)))), .d (enc (story : (List (List Int)))), .l none (List.map enc (([] : List (List Int)) : List (List Int))), .l none (List.map enc (book.a : List Int)), .u, .u]) (xs := v1) (fun (s : (List (List Int)) × (List Int)) => [.d (enc (book : (T3 (List Int) (List (List Int)) (List Int)))), .d (enc (story : (List (List Int)))), .l none (List.map enc (s.1 : List (List Int))), .l none (List.map enc (s.2 : List Int)), .u, .u]) (ei_R1 (ed_1 (ev_len (l := story) (ev_v (i := 1) rfl))) g1) ⟨.inr rfl, .inr rfl, .inr rfl, .inr rfl, .inl rfl, .inl rfl, trivial⟩ gs17 (fun s2 x3 s_n hm => ?_) ?_
  · refine ⟨_, _, eg_n 4, ?_⟩
    show BV K _ [.d (enc (book : (T3 (List Int) (List (List Int)) (List Int)))), .d (enc (story : (List (List Int)))), .l none (List.map enc (s2.1 : List (List Int))), .l none (List.map enc (s2.2 : List Int)), .d (.int x3), .u] _
    unfold m_law_pond_waters_b2 at hm
    obtain ⟨v4, g4, hm⟩ := bnd hm
    obtain ⟨s15, gs15, hm⟩ := bnd hm
    refine bv_foldq (env1 := [.d (enc (book : (T3 (List Int) (List (List Int)) (List Int)))), .d (enc (story : (List (List Int)))), .l none (List.map enc (s2.1 : List (List Int))), .l none (List.map enc (s2.2 : List Int)), .d (.int x3), .u]) (xs := v4) (fun (s : (List Int)) => [.d (enc (book : (T3 (List Int) (List (List Int)) (List Int)))), .d (enc (story : (List (List Int)))), .l none (List.map enc (s2.1 : List (List Int))), .l none (List.map enc (s : List Int)), .d (.int x3), .u]) (ei_R1 (ed_1 (ev_lenOs (i := 3) (l := s2.2) rfl)) g4) ⟨.inr rfl, .inr rfl, .inr rfl, .inr rfl, .inr rfl, .inl rfl, trivial⟩ gs15 (fun s5 x6 s_n hm => ?_) ?_
    · refine ⟨_, _, eg_n 5, ?_⟩
      show BV K _ [.d (enc (book : (T3 (List Int) (List (List Int)) (List Int)))), .d (enc (story : (List (List Int)))), .l none (List.map enc (s2.1 : List (List Int))), .l none (List.map enc (s5 : List Int)), .d (.int x3), .d (.int x6)] _
      unfold m_law_pond_waters_b1 at hm
      obtain ⟨v7, g7, hm⟩ := bnd hm
      obtain ⟨v8, g8, hm⟩ := bnd hm
      obtain ⟨v9, g9, hm⟩ := bnd hm
      obtain ⟨v10, g10, hm⟩ := bnd hm
      obtain ⟨v11, g11, hm⟩ := bnd hm
      obtain ⟨v12, g12, hm⟩ := bnd hm
      obtain ⟨v13, g13, hm⟩ := bnd hm
      obtain ⟨v14, g14, hm⟩ := bnd hm
      refine bv_putS1 (i := 3) (l := s5) (l0 := s5) (a := (((v7 + v9) + v11) - v13)) g14 (ev_sub (ev_add (ev_add (EV.ofI (ev_atOs (i := 3) (l := s5) rfl (ev_v (i := 5) rfl) g7)) (EV.ofI (ev_at (l := v8) (ev_at (l := book.b) (ev_3b (p := book) (ev_v (i := 0) rfl)) (ev_v (i := 4) rfl) g8) (ev_v (i := 5) rfl) g9))) (EV.ofI (ev_at (l := v10) (ev_at (l := story) (ev_v (i := 1) rfl) (ev_v (i := 4) rfl) g10) (ev_v (i := 5) rfl) g11))) (EV.ofI (ev_at (l := v12) (ev_at (l := story) (ev_v (i := 1) rfl) (ev_v (i := 4) rfl) g12) (ev_add (ev_v (i := 5) rfl) (ev_i)) g13))) rfl (ev_v (i := 5) rfl) rfl ?_
      have hm := Option.some.inj hm; subst hm
      show Le [.d (enc (book : (T3 (List Int) (List (List Int)) (List Int)))), .d (enc (story : (List (List Int)))), .l none (List.map enc (s2.1 : List (List Int))), .l none (List.map enc (v14 : List Int)), .d (.int x3), .d (.int x6)] [.d (enc (book : (T3 (List Int) (List (List Int)) (List Int)))), .d (enc (story : (List (List Int)))), .l none (List.map enc (s2.1 : List (List Int))), .l none (List.map enc (v14 : List Int)), .d (.int x3), .u]
      exact ⟨.inr rfl, .inr rfl, .inr rfl, .inr rfl, .inr rfl, .inl rfl, trivial⟩
    show BV K _ [.d (enc (book : (T3 (List Int) (List (List Int)) (List Int)))), .d (enc (story : (List (List Int)))), .l none (List.map enc (s2.1 : List (List Int))), .l none (List.map enc (s15 : List Int)), .d (.int x3), .u] _
    obtain ⟨k16, hm⟩ := bndg hm
    refine bv_drop1 (ev_appS (i := 2) (l := s2.1) k16 rfl (ev_tupO (i := 3) rfl) rfl) ?_
    have hm := Option.some.inj hm; subst hm
    show Le [.d (enc (book : (T3 (List Int) (List (List Int)) (List Int)))), .d (enc (story : (List (List Int)))), .l none (List.map enc ((s2.1 ++ [s15]) : List (List Int))), .l none (List.map enc (s15 : List Int)), .d (.int x3), .u] [.d (enc (book : (T3 (List Int) (List (List Int)) (List Int)))), .d (enc (story : (List (List Int)))), .l none (List.map enc (((s2.1 ++ [s15]), s15).1 : List (List Int))), .l none (List.map enc (((s2.1 ++ [s15]), s15).2 : List Int)), .u, .u]
    exact ⟨.inr rfl, .inr rfl, .inr rfl, .inr rfl, .inl rfl, .inl rfl, trivial⟩
  show BV K _ [.d (enc (book : (T3 (List Int) (List (List Int)) (List Int)))), .d (enc (story : (List (List Int)))), .l none (List.map enc (s17.1 : List (List Int))), .l none (List.map enc (s17.2 : List Int)), .u, .u] _
  refine bv_retO (i := 2) rfl ?_
  have hm := Option.some.inj hm; subst hm
  exact ⟨rfl, ⟨.inl ⟨rfl, fun _ _ z => by cases z⟩, .inl ⟨rfl, fun _ _ z => by cases z⟩, trivial⟩⟩
end K61

-- K61P22
namespace K61
open PySem PySem.Spec PyProof.Rows L2 RZ Gw
open Gw.Enc (enc)
/-! _law_without_leaks -/
abbrev s__law_without_leaks : Stmt := topS 26
abbrev N__law_without_leaks : List Str := ["book"]
abbrev P__law_without_leaks : List Str := ["book"]
theorem sc__law_without_leaks : FnScope N__law_without_leaks P__law_without_leaks (defScope s__law_without_leaks) := ⟨rfl, rfl, rfl, by decide +kernel, rfl, by decide +kernel, by decide +kernel⟩
theorem ok__law_without_leaks {P : Program} {w : World} {K : FR} {mg : Str → Option Value} {base : Heap} (B : Bt mg) {f : Addr} {fd : FuncData} (F : Fun K "_law_without_leaks" "_law_without_leaks" s__law_without_leaks f fd) : FnOk P w K mg base CX0 1 f fd P__law_without_leaks (spG K P__law_without_leaks.length rel__law_without_leaks) := by
  refine fn_ok F sc__law_without_leaks fun cdv A outer s H E hr as r as' hrel hlen => ?_
  have nd := sc__law_without_leaks.nd
  have hu := room_u64 hr
  have hu1 := room_u65 hr
  obtain ⟨book, res, rfl, hm, rfl, rfl⟩ := hrel
  refine ⟨_, pss_one (ps_ret (pe_op (k_op_repA (K := K)) (pe_tup (pa_cons (pe_op (k_op_repA (K := K)) (pe_tup (pa_cons (pe_int) pa_nil)) (pe_op op_add (pe_callB ((k_cr_lenS (K := K))) (by rfl) B.b_len PySem.boot_len (pa_cons (pe_ix (k_ix_tup (K := K)) (pv 0) pe_int (fun _ _ => rfl)) pa_nil)) (pe_int))) pa_nil)) (pe_callB ((k_cr_lenS (K := K))) (by rfl) B.b_len PySem.boot_len (pa_cons (pe_ix (k_ix_tup (K := K)) (pv 0) pe_int (fun _ _ => rfl)) pa_nil)))), ?_⟩
  unfold m_law_without_leaks at hm
  show BV K _ [.d (enc (book : (T3 (List Int) (List (List Int)) (List Int))))] _
  obtain ⟨v1, g1, hm⟩ := bnd hm
  obtain ⟨v2, g2, hm⟩ := bnd hm
  refine bv_ret (d := (enc (v2 : (List (List Int))))) (ev_rep g2 (ev_seq (l := ([v1] : List (List Int))) (ed_1 (ev_rep g1 (ev_seq (l := ([0] : List Int)) (ed_1 (ev_i)) (by show 1 ≤ LIM; decide)) (ev_add (ev_len (l := book.a) (ev_3a (p := book) (ev_v (i := 0) rfl))) (ev_i)))) (by show 1 ≤ LIM; decide)) (ev_len (l := book.b) (ev_3b (p := book) (ev_v (i := 0) rfl)))) ?_
  have hm := Option.some.inj hm; subst hm
  exact ⟨rfl, ⟨.inl ⟨rfl, fun _ _ z => by cases z⟩, trivial⟩⟩
end K61

-- K61P23
namespace K61
open PySem PySem.Spec PyProof.Rows L2 RZ Gw
open Gw.Enc (enc)
/-! _law_kept_readings -/
abbrev s__law_kept_readings : Stmt := topS 27
abbrev N__law_kept_readings : List Str := ["draws", "book", "story", "many", "scale", "waters", "told", "k", "day", "pond", "low"]
abbrev P__law_kept_readings : List Str := ["draws", "book", "story", "many", "scale"]
theorem sc__law_kept_readings : FnScope N__law_kept_readings P__law_kept_readings (defScope s__law_kept_readings) := ⟨rfl, rfl, rfl, by decide +kernel, rfl, by decide +kernel, by decide +kernel⟩
theorem ok__law_kept_readings {P : Program} {w : World} {K : FR} {mg : Str → Option Value} {base : Heap} (B : Bt mg) (c__law_pond_waters : Cal P w K mg base "_law_pond_waters" P__law_pond_waters 1 rel__law_pond_waters) (c__law_take : Cal P w K mg base "_law_take" P__law_take 1 rel__law_take) (c__law_pick : Cal P w K mg base "_law_pick" P__law_pick 2 rel__law_pick) {f : Addr} {fd : FuncData} (F : Fun K "_law_kept_readings" "_law_kept_readings" s__law_kept_readings f fd) : FnOk P w K mg base CX0 3 f fd P__law_kept_readings (spG K P__law_kept_readings.length rel__law_kept_readings) := by
  obtain ⟨f__law_pond_waters, fd__law_pond_waters, F__law_pond_waters, m__law_pond_waters, k__law_pond_waters, b__law_pond_waters⟩ := c__law_pond_waters.ex
  obtain ⟨f__law_take, fd__law_take, F__law_take, m__law_take, k__law_take, b__law_take⟩ := c__law_take.ex
  obtain ⟨f__law_pick, fd__law_pick, F__law_pick, m__law_pick, k__law_pick, b__law_pick⟩ := c__law_pick.ex
  refine fn_ok F sc__law_kept_readings fun cdv A outer s H E hr as r as' hrel hlen => ?_
  have nd := sc__law_kept_readings.nd
  have hu := room_u64 hr
  have hu1 := room_u65 hr
  obtain ⟨p, draws, book, story, many, scale, res, rfl, hm, rfl, rfl⟩ := hrel
  refine ⟨_, pss_cons (ps_set (i := 5) nd rfl (by first | exact Or.inl rfl | exact Or.inr rfl) (pe_call F__law_pond_waters (hr.mono (by decide)) (by rfl) m__law_pond_waters k__law_pond_waters b__law_pond_waters .nil pass0 (pa_cons (pv 1) (pa_cons (pv 2) pa_nil)))) (pss_cons (ps_set (i := 6) nd rfl (by first | exact Or.inl rfl | exact Or.inr rfl) (pe_lst (pa_nil))) (pss_cons (ps_for PassesOwn.never rfl (pi_range1 (by rfl) B.b_range (pa_cons (pv 3) pa_nil)) (pg_name (i := 7) nd rfl (by first | exact Or.inl rfl | exact Or.inr rfl)) (pss_cons (ps_set (i := 8) nd rfl (by first | exact Or.inl rfl | exact Or.inr rfl) (pe_call F__law_take (hr.mono (by decide)) (by rfl) m__law_take k__law_take b__law_take .nil pass0 (pa_cons (pv 0) (pa_cons (pe_callB ((k_cr_lenS (K := K))) (by rfl) B.b_len PySem.boot_len (pa_cons (pe_ix (k_ix_tup (K := K)) (pv 1) pe_int (fun _ _ => rfl)) pa_nil)) pa_nil)))) (pss_cons (ps_set (i := 9) nd rfl (by first | exact Or.inl rfl | exact Or.inr rfl) (pe_call F__law_take (hr.mono (by decide)) (by rfl) m__law_take k__law_take b__law_take .nil pass0 (pa_cons (pv 0) (pa_cons (pe_callB ((k_cr_lenS (K := K))) (by rfl) B.b_len PySem.boot_len (pa_cons (pe_ix (k_ix_tup (K := K)) (pv 1) pe_int (fun _ _ => rfl)) pa_nil)) pa_nil)))) (pss_cons (ps_set (i := 10) nd rfl (by first | exact Or.inl rfl | exact Or.inr rfl) (pe_op op_sub (pe_ix (k_ix_tup (K := K)) (pe_ix (k_ix_list (K := K)) (pv 5) (pv 8) (fun _ _ => rfl)) (pv 9) (fun _ _ => rfl)) (pe_op op_mulXX (pv 4) (pe_call F__law_pick (hr.mono (by decide)) (by rfl) m__law_pick k__law_pick b__law_pick .nil pass0 (pa_cons (pv 0) (pa_cons (pe_lst (pa_cons (pe_int) (pa_cons (pe_int) (pa_cons (pe_int) (pa_cons (pe_int) pa_nil))))) pa_nil)))))) (pss_one (ps_expr (pe_bm PySem.F.plainAttrs_list PySem.F.slot_list_append PySem.F.type_list_append mt_append (pv 6) (pa_cons (pe_tup (pa_cons (pv 8) (pa_cons (pv 9) (pa_cons (pv 10) (pa_cons (pe_op op_add (pe_ix (k_ix_tup (K := K)) (pe_ix (k_ix_list (K := K)) (pv 5) (pv 8) (fun _ _ => rfl)) (pv 9) (fun _ _ => rfl)) (pe_op op_mulXX (pv 4) (pe_call F__law_pick (hr.mono (by decide)) (by rfl) m__law_pick k__law_pick b__law_pick .nil pass0 (pa_cons (pv 0) (pa_cons (pe_lst (pa_cons (pe_int) (pa_cons (pe_int) (pa_cons (pe_int) (pa_cons (pe_int) pa_nil))))) pa_nil))))) pa_nil))))) pa_nil)))))))) (pss_one (ps_ret (pe_callTy ((k_cr_tupS (K := K))) (by rfl) B.b_tuple (by decide +kernel) (pa_cons (pv 6) pa_nil)))))), ?_⟩
  unfold m_law_kept_readings at hm
  show BV K _ [.l (some p) (List.map enc (draws : List Int)), .d (enc (book : (T3 (List Int) (List (List Int)) (List Int)))), .d (enc (story : (List (List Int)))), .d (.int many), .d (.int scale), .u, .u, .u, .u, .u, .u] _
  obtain ⟨v1, g1, hm⟩ := bnd hm
  refine bv_set (i := 5) (d := (enc ((Ls.mk v1) : (Ls (List Int))))) (EF.dat (ef_call (rel := rel__law_pond_waters) rfl (ed_c (ev_v (i := 1) rfl) (ed_1 (ev_v (i := 2) rfl))) ⟨book, story, v1, rfl, g1, rfl, rfl⟩)) ?_
  show BV K _ [.l (some p) (List.map enc (draws : List Int)), .d (enc (book : (T3 (List Int) (List (List Int)) (List Int)))), .d (enc (story : (List (List Int)))), .d (.int many), .d (.int scale), .d (enc ((Ls.mk v1) : (Ls (List Int)))), .u, .u, .u, .u, .u] _
  obtain ⟨v2, g2, hm⟩ := bnd hm
  refine bv_setL (i := 6) (EF.to (l := ([] : List (T4 Int Int Int Int))) (ef_list (l := ([] : List (T4 Int Int Int Int))) (ed_nil) (by show 0 ≤ LIM; decide)) (Option.some.inj g2)) ?_
  show BV K _ [.l (some p) (List.map enc (draws : List Int)), .d (enc (book : (T3 (List Int) (List (List Int)) (List Int)))), .d (enc (story : (List (List Int)))), .d (.int many), .d (.int scale), .d (enc ((Ls.mk v1) : (Ls (List Int)))), .l none (List.map enc (v2 : List (T4 Int Int Int Int))), .u, .u, .u, .u] _
  obtain ⟨v3, g3, hm⟩ := bnd hm
  obtain ⟨s17, gs17, hm⟩ := bnd hm
  refine bv_foldq (env1 := [.l (some p) (List.map enc (draws : List Int)), .d (enc (book : (T3 (List Int) (List (List Int)) (List Int)))), .d (enc (story : (List (List Int)))), .d (.int many), .d (.int scale), .d (enc ((Ls.mk v1) : (Ls (List Int)))), .l none (List.map enc (v2 : List (T4 Int Int Int Int))), .u, .u, .u, .u]) (xs := v3) (fun (s : (List Int) × (List (T4 Int Int Int Int))) => [.l (some p) (List.map enc (s.1 : List Int)), .d (enc (book : (T3 (List Int) (List (List Int)) (List Int)))), .d (enc (story : (List (List Int)))), .d (.int many), .d (.int scale), .d (enc ((Ls.mk v1) : (Ls (List Int)))), .l none (List.map enc (s.2 : List (T4 Int Int Int Int))), .u, .u, .u, .u]) (ei_R1 (ed_1 (ev_v (i := 3) rfl)) g3) ⟨.inr rfl, .inr rfl, .inr rfl, .inr rfl, .inr rfl, .inr rfl, .inr rfl, .inl rfl, .inl rfl, .inl rfl, .inl rfl, trivial⟩ gs17 (fun s4 x5 s_n hm => ?_) ?_
  · refine ⟨_, _, eg_n 7, ?_⟩
    show BV K _ [.l (some p) (List.map enc (s4.1 : List Int)), .d (enc (book : (T3 (List Int) (List (List Int)) (List Int)))), .d (enc (story : (List (List Int)))), .d (.int many), .d (.int scale), .d (enc ((Ls.mk v1) : (Ls (List Int)))), .l none (List.map enc (s4.2 : List (T4 Int Int Int Int))), .d (.int x5), .u, .u, .u] _
    unfold m_law_kept_readings_b1 at hm
    obtain ⟨r6, g6, hm⟩ := bnd hm
    refine bv_set (i := 8) (d := (.int r6.1)) (ev_callL (i := 0) (rel := rel__law_take) rfl rfl (ed_1 (ev_len (l := book.b) (ev_3b (p := book) (ev_v (i := 1) rfl)))) rfl (fun p => ⟨p, s4.1, ((book.b).length : Int), r6, rfl, g6, rfl, rfl⟩)) ?_
    show BV K _ [.l (some p) (List.map enc (r6.2 : List Int)), .d (enc (book : (T3 (List Int) (List (List Int)) (List Int)))), .d (enc (story : (List (List Int)))), .d (.int many), .d (.int scale), .d (enc ((Ls.mk v1) : (Ls (List Int)))), .l none (List.map enc (s4.2 : List (T4 Int Int Int Int))), .d (.int x5), .d (.int r6.1), .u, .u] _
    obtain ⟨r7, g7, hm⟩ := bnd hm
    refine bv_set (i := 9) (d := (.int r7.1)) (ev_callL (i := 0) (rel := rel__law_take) rfl rfl (ed_1 (ev_len (l := book.a) (ev_3a (p := book) (ev_v (i := 1) rfl)))) rfl (fun p => ⟨p, r6.2, ((book.a).length : Int), r7, rfl, g7, rfl, rfl⟩)) ?_
    show BV K _ [.l (some p) (List.map enc (r7.2 : List Int)), .d (enc (book : (T3 (List Int) (List (List Int)) (List Int)))), .d (enc (story : (List (List Int)))), .d (.int many), .d (.int scale), .d (enc ((Ls.mk v1) : (Ls (List Int)))), .l none (List.map enc (s4.2 : List (T4 Int Int Int Int))), .d (.int x5), .d (.int r6.1), .d (.int r7.1), .u] _
    obtain ⟨v8, g8, hm⟩ := bnd hm
    obtain ⟨v9, g9, hm⟩ := bnd hm
    obtain ⟨r10, g10, hm⟩ := bnd hm
    obtain ⟨k11, hm⟩ := bndg hm
    refine bv_set (i := 10) (d := (.int (v9 - (scale * r10.1)))) (ev_sub (EV.ofI (ev_at (l := v8) (ev_atL (l := v1) (ev_v (i := 5) rfl) (ev_v (i := 8) rfl) g8) (ev_v (i := 9) rfl) g9)) (ev_mul k11 (ev_v (i := 4) rfl) (ev_callL (i := 0) (rel := rel__law_pick) rfl rfl (ed_1 (EF.dat (ef_list (l := ([0, 0, 1, 3] : List Int)) (ed_c (ev_i) (ed_c (ev_i) (ed_c (ev_i) (ed_1 (ev_i))))) (by show 4 ≤ LIM; decide)))) rfl (fun p => rel_pickL (row := ([0, 0, 1, 3] : List Int)) g10)))) ?_
    show BV K _ [.l (some p) (List.map enc (r10.2 : List Int)), .d (enc (book : (T3 (List Int) (List (List Int)) (List Int)))), .d (enc (story : (List (List Int)))), .d (.int many), .d (.int scale), .d (enc ((Ls.mk v1) : (Ls (List Int)))), .l none (List.map enc (s4.2 : List (T4 Int Int Int Int))), .d (.int x5), .d (.int r6.1), .d (.int r7.1), .d (.int (v9 - (scale * r10.1)))] _
    obtain ⟨v12, g12, hm⟩ := bnd hm
    obtain ⟨v13, g13, hm⟩ := bnd hm
    obtain ⟨r14, g14, hm⟩ := bnd hm
    obtain ⟨k15, hm⟩ := bndg hm
    obtain ⟨k16, hm⟩ := bndg hm
    refine bv_drop1 (ev_appS (i := 6) (l := s4.2) k16 rfl (ev_t4 (α := Int) (β := Int) (γ := Int) (δ := Int) (p := r6.1) (r := r7.1) (s := (v9 - (scale * r10.1))) (z := (v13 + (scale * r14.1))) (ev_v (i := 8) rfl) (ev_v (i := 9) rfl) (ev_v (i := 10) rfl) (ev_add (EV.ofI (ev_at (l := v12) (ev_atL (l := v1) (ev_v (i := 5) rfl) (ev_v (i := 8) rfl) g12) (ev_v (i := 9) rfl) g13)) (ev_mul k15 (ev_v (i := 4) rfl) (ev_callL (i := 0) (rel := rel__law_pick) rfl rfl (ed_1 (EF.dat (ef_list (l := ([0, 0, 2, 1] : List Int)) (ed_c (ev_i) (ed_c (ev_i) (ed_c (ev_i) (ed_1 (ev_i))))) (by show 4 ≤ LIM; decide)))) rfl (fun p => rel_pickL (row := ([0, 0, 2, 1] : List Int)) g14))))) rfl) ?_
    have hm := Option.some.inj hm; subst hm
    show Le [.l (some p) (List.map enc (r14.2 : List Int)), .d (enc (book : (T3 (List Int) (List (List Int)) (List Int)))), .d (enc (story : (List (List Int)))), .d (.int many), .d (.int scale), .d (enc ((Ls.mk v1) : (Ls (List Int)))), .l none (List.map enc ((s4.2 ++ [(T4.mk r6.1 r7.1 (v9 - (scale * r10.1)) (v13 + (scale * r14.1)))]) : List (T4 Int Int Int Int))), .d (.int x5), .d (.int r6.1), .d (.int r7.1), .d (.int (v9 - (scale * r10.1)))] [.l (some p) (List.map enc ((r14.2, (s4.2 ++ [(T4.mk r6.1 r7.1 (v9 - (scale * r10.1)) (v13 + (scale * r14.1)))])).1 : List Int)), .d (enc (book : (T3 (List Int) (List (List Int)) (List Int)))), .d (enc (story : (List (List Int)))), .d (.int many), .d (.int scale), .d (enc ((Ls.mk v1) : (Ls (List Int)))), .l none (List.map enc ((r14.2, (s4.2 ++ [(T4.mk r6.1 r7.1 (v9 - (scale * r10.1)) (v13 + (scale * r14.1)))])).2 : List (T4 Int Int Int Int))), .u, .u, .u, .u]
    exact ⟨.inr rfl, .inr rfl, .inr rfl, .inr rfl, .inr rfl, .inr rfl, .inr rfl, .inl rfl, .inl rfl, .inl rfl, .inl rfl, trivial⟩
  show BV K _ [.l (some p) (List.map enc (s17.1 : List Int)), .d (enc (book : (T3 (List Int) (List (List Int)) (List Int)))), .d (enc (story : (List (List Int)))), .d (.int many), .d (.int scale), .d (enc ((Ls.mk v1) : (Ls (List Int)))), .l none (List.map enc (s17.2 : List (T4 Int Int Int Int))), .u, .u, .u, .u] _
  refine bv_ret (d := (enc (s17.2 : (List (T4 Int Int Int Int))))) (ev_tupO (i := 6) rfl) ?_
  have hm := Option.some.inj hm; subst hm
  exact ⟨rfl, ⟨.inr ⟨_, _, _, rfl, rfl, rfl⟩, .inl ⟨rfl, fun _ _ z => by cases z⟩, .inl ⟨rfl, fun _ _ z => by cases z⟩, .inl ⟨rfl, fun _ _ z => by cases z⟩, .inl ⟨rfl, fun _ _ z => by cases z⟩, trivial⟩⟩
end K61

-- K61P24
namespace K61
open PySem PySem.Spec PyProof.Rows L2 RZ Gw
open Gw.Enc (enc)
/-! _law_moved_reading -/
abbrev s__law_moved_reading : Stmt := topS 28
abbrev N__law_moved_reading : List Str := ["draws", "readings", "scale", "k", "by", "day", "pond", "low", "high"]
abbrev P__law_moved_reading : List Str := ["draws", "readings", "scale"]
theorem sc__law_moved_reading : FnScope N__law_moved_reading P__law_moved_reading (defScope s__law_moved_reading) := ⟨rfl, rfl, rfl, by decide +kernel, rfl, by decide +kernel, by decide +kernel⟩
theorem ok__law_moved_reading {P : Program} {w : World} {K : FR} {mg : Str → Option Value} {base : Heap} (B : Bt mg) (c__law_take : Cal P w K mg base "_law_take" P__law_take 1 rel__law_take) (c__law_pick : Cal P w K mg base "_law_pick" P__law_pick 2 rel__law_pick) (c__law_put : Cal P w K mg base "_law_put" P__law_put 1 rel__law_put) {f : Addr} {fd : FuncData} (F : Fun K "_law_moved_reading" "_law_moved_reading" s__law_moved_reading f fd) : FnOk P w K mg base CX0 3 f fd P__law_moved_reading (spG K P__law_moved_reading.length rel__law_moved_reading) := by
  obtain ⟨f__law_take, fd__law_take, F__law_take, m__law_take, k__law_take, b__law_take⟩ := c__law_take.ex
  obtain ⟨f__law_pick, fd__law_pick, F__law_pick, m__law_pick, k__law_pick, b__law_pick⟩ := c__law_pick.ex
  obtain ⟨f__law_put, fd__law_put, F__law_put, m__law_put, k__law_put, b__law_put⟩ := c__law_put.ex
  refine fn_ok F sc__law_moved_reading fun cdv A outer s H E hr as r as' hrel hlen => ?_
  have nd := sc__law_moved_reading.nd
  have hu := room_u64 hr
  have hu1 := room_u65 hr
  obtain ⟨p, draws, readings, scale, res, rfl, hm, rfl, rfl⟩ := hrel
  refine ⟨_, pss_cons (ps_if (pt_cmpR (k_op_eqD (K := K) hu) (pe_callB ((k_cr_lenS (K := K))) (by rfl) B.b_len PySem.boot_len (pa_cons (pv 1) pa_nil)) (pe_int) (nomark _)) (pss_one (ps_ret (pv 1))) pss_nil) (pss_cons (ps_set (i := 3) nd rfl (by first | exact Or.inl rfl | exact Or.inr rfl) (pe_call F__law_take (hr.mono (by decide)) (by rfl) m__law_take k__law_take b__law_take .nil pass0 (pa_cons (pv 0) (pa_cons (pe_callB ((k_cr_lenS (K := K))) (by rfl) B.b_len PySem.boot_len (pa_cons (pv 1) pa_nil)) pa_nil)))) (pss_cons (ps_asg (pe_ix (k_ix_tup (K := K)) (pv 1) (pv 3) (fun _ _ => rfl)) (k_pg_tup (K := K) (n := 4) rfl (pgs_cons (pg_name (i := 5) nd rfl (by first | exact Or.inl rfl | exact Or.inr rfl)) (pgs_cons (pg_name (i := 6) nd rfl (by first | exact Or.inl rfl | exact Or.inr rfl)) (pgs_cons (pg_name (i := 7) nd rfl (by first | exact Or.inl rfl | exact Or.inr rfl)) (pgs_cons (pg_name (i := 8) nd rfl (by first | exact Or.inl rfl | exact Or.inr rfl)) (pgs_nil))))))) (pss_cons (ps_set (i := 4) nd rfl (by first | exact Or.inl rfl | exact Or.inr rfl) (pe_op op_mulXX (pv 2) (pe_call F__law_pick (hr.mono (by decide)) (by rfl) m__law_pick k__law_pick b__law_pick .nil pass0 (pa_cons (pv 0) (pa_cons (pe_lst (pa_cons (pe_int) (pa_cons (pe_un un_neg (pe_int)) (pa_cons (pe_int) (pa_cons (pe_un un_neg (pe_int)) (pa_cons (pe_int) (pa_cons (pe_un un_neg (pe_int)) pa_nil))))))) pa_nil))))) (pss_one (ps_ret (pe_call F__law_put (hr.mono (by decide)) (by rfl) m__law_put k__law_put b__law_put .nil pass0 (pa_cons (pv 1) (pa_cons (pv 3) (pa_cons (pe_tup (pa_cons (pv 5) (pa_cons (pv 6) (pa_cons (pe_op op_add (pv 7) (pv 4)) (pa_cons (pe_op op_add (pv 8) (pv 4)) pa_nil))))) pa_nil))))))))), ?_⟩
  unfold m_law_moved_reading at hm
  show BV K _ [.l (some p) (List.map enc (draws : List Int)), .d (enc (readings : (List (T4 Int Int Int Int)))), .d (.int scale), .u, .u, .u, .u, .u, .u] _
  refine bv_ifx (env1 := [.l (some p) (List.map enc (draws : List Int)), .d (enc (readings : (List (T4 Int Int Int Int)))), .d (.int scale), .u, .u, .u, .u, .u, .u]) (et_cmp (ev_eq (α := Int) (x := ((readings).length : Int)) (y := 0) (ev_len (l := readings) (ev_v (i := 1) rfl)) (ev_i))) (fun hb => ?_) (fun hb => ?_)
  · have hm := cond_t hb hm
    refine bv_ret (d := (enc (readings : (List (T4 Int Int Int Int))))) (ev_v (i := 1) rfl) ?_
    have hm := Option.some.inj hm; subst hm
    exact ⟨rfl, ⟨.inr ⟨_, _, _, rfl, rfl, rfl⟩, .inl ⟨rfl, fun _ _ z => by cases z⟩, .inl ⟨rfl, fun _ _ z => by cases z⟩, trivial⟩⟩
  have hm := cond_f hb hm
  obtain ⟨r1, g1, hm⟩ := bnd hm
  refine bv_set (i := 3) (d := (.int r1.1)) (ev_callL (i := 0) (rel := rel__law_take) rfl rfl (ed_1 (ev_len (l := readings) (ev_v (i := 1) rfl))) rfl (fun p => ⟨p, draws, ((readings).length : Int), r1, rfl, g1, rfl, rfl⟩)) ?_
  show BV K _ [.l (some p) (List.map enc (r1.2 : List Int)), .d (enc (readings : (List (T4 Int Int Int Int)))), .d (.int scale), .d (.int r1.1), .u, .u, .u, .u, .u] _
  obtain ⟨v2, g2, hm⟩ := bnd hm
  refine bv_tgt (d := (enc (v2 : (T4 Int Int Int Int)))) (ev_at (l := readings) (ev_v (i := 1) rfl) (ev_v (i := 3) rfl) g2) (eg_p4 (p := v2) (egs_cons (eg_n 5) (egs_cons (eg_n 6) (egs_cons (eg_n 7) (egs_cons (eg_n 8) (egs_nil)))))) ?_
  show BV K _ [.l (some p) (List.map enc (r1.2 : List Int)), .d (enc (readings : (List (T4 Int Int Int Int)))), .d (.int scale), .d (.int r1.1), .u, .d (.int v2.a), .d (.int v2.b), .d (.int v2.c), .d (.int v2.d)] _
  obtain ⟨r3, g3, hm⟩ := bnd hm
  obtain ⟨k4, hm⟩ := bndg hm
  refine bv_set (i := 4) (d := (.int (scale * r3.1))) (ev_mul k4 (ev_v (i := 2) rfl) (ev_callL (i := 0) (rel := rel__law_pick) rfl rfl (ed_1 (EF.dat (ef_list (l := ([1, (-1), 2, (-3), 9, (-20)] : List Int)) (ed_c (ev_i) (ed_c (ev_neg (ev_i)) (ed_c (ev_i) (ed_c (ev_neg (ev_i)) (ed_c (ev_i) (ed_1 (ev_neg (ev_i)))))))) (by show 6 ≤ LIM; decide)))) rfl (fun p => rel_pickL (row := ([1, (-1), 2, (-3), 9, (-20)] : List Int)) g3))) ?_
  show BV K _ [.l (some p) (List.map enc (r3.2 : List Int)), .d (enc (readings : (List (T4 Int Int Int Int)))), .d (.int scale), .d (.int r1.1), .d (.int (scale * r3.1)), .d (.int v2.a), .d (.int v2.b), .d (.int v2.c), .d (.int v2.d)] _
  obtain ⟨v5, g5, hm⟩ := bnd hm
  refine bv_ret (d := (enc (v5 : (List (T4 Int Int Int Int))))) (ev_call (rel := rel__law_put) rfl (ed_c (ev_v (i := 1) rfl) (ed_c (ev_v (i := 3) rfl) (ed_1 (ev_t4 (α := Int) (β := Int) (γ := Int) (δ := Int) (p := v2.a) (r := v2.b) (s := (v2.c + (scale * r3.1))) (z := (v2.d + (scale * r3.1))) (ev_v (i := 5) rfl) (ev_v (i := 6) rfl) (ev_add (ev_v (i := 7) rfl) (ev_v (i := 4) rfl)) (ev_add (ev_v (i := 8) rfl) (ev_v (i := 4) rfl)))))) ⟨readings, r1.1, (T4.mk v2.a v2.b (v2.c + (scale * r3.1)) (v2.d + (scale * r3.1))), v5, rfl, g5, rfl, rfl⟩) ?_
  have hm := Option.some.inj hm; subst hm
  exact ⟨rfl, ⟨.inr ⟨_, _, _, rfl, rfl, rfl⟩, .inl ⟨rfl, fun _ _ z => by cases z⟩, .inl ⟨rfl, fun _ _ z => by cases z⟩, trivial⟩⟩
end K61

-- K61P25
namespace K61
open PySem PySem.Spec PyProof.Rows L2 RZ Gw
open Gw.Enc (enc)
/-! _law_against -/
abbrev s__law_against : Stmt := topS 29
abbrev N__law_against : List Str := ["draws", "readings", "scale", "above", "day", "pond", "low", "high"]
abbrev P__law_against : List Str := ["draws", "readings", "scale"]
theorem sc__law_against : FnScope N__law_against P__law_against (defScope s__law_against) := ⟨rfl, rfl, rfl, by decide +kernel, rfl, by decide +kernel, by decide +kernel⟩
theorem ok__law_against {P : Program} {w : World} {K : FR} {mg : Str → Option Value} {base : Heap} (B : Bt mg) (c__law_pick : Cal P w K mg base "_law_pick" P__law_pick 2 rel__law_pick) (c__law_take : Cal P w K mg base "_law_take" P__law_take 1 rel__law_take) {f : Addr} {fd : FuncData} (F : Fun K "_law_against" "_law_against" s__law_against f fd) : FnOk P w K mg base CX0 3 f fd P__law_against (spG K P__law_against.length rel__law_against) := by
  obtain ⟨f__law_pick, fd__law_pick, F__law_pick, m__law_pick, k__law_pick, b__law_pick⟩ := c__law_pick.ex
  obtain ⟨f__law_take, fd__law_take, F__law_take, m__law_take, k__law_take, b__law_take⟩ := c__law_take.ex
  refine fn_ok F sc__law_against fun cdv A outer s H E hr as r as' hrel hlen => ?_
  have nd := sc__law_against.nd
  have hu := room_u64 hr
  have hu1 := room_u65 hr
  obtain ⟨p, draws, readings, scale, res, rfl, hm, rfl, rfl⟩ := hrel
  refine ⟨_, pss_cons (ps_asg (pe_call F__law_pick (hr.mono (by decide)) (by rfl) m__law_pick k__law_pick b__law_pick .nil pass0 (pa_cons (pv 0) (pa_cons (pv 1) pa_nil))) (k_pg_tup (K := K) (n := 4) rfl (pgs_cons (pg_name (i := 4) nd rfl (by first | exact Or.inl rfl | exact Or.inr rfl)) (pgs_cons (pg_name (i := 5) nd rfl (by first | exact Or.inl rfl | exact Or.inr rfl)) (pgs_cons (pg_name (i := 6) nd rfl (by first | exact Or.inl rfl | exact Or.inr rfl)) (pgs_cons (pg_name (i := 7) nd rfl (by first | exact Or.inl rfl | exact Or.inr rfl)) (pgs_nil))))))) (pss_cons (ps_set (i := 3) nd rfl (by first | exact Or.inl rfl | exact Or.inr rfl) (pe_op op_add (pe_op op_add (pv 7) (pe_int)) (pe_op op_mulXX (pv 2) (pe_call F__law_take (hr.mono (by decide)) (by rfl) m__law_take k__law_take b__law_take .nil pass0 (pa_cons (pv 0) (pa_cons (pe_int) pa_nil)))))) (pss_one (ps_ret (pe_tup (pa_cons (pv 4) (pa_cons (pv 5) (pa_cons (pv 3) (pa_cons (pe_op op_add (pv 3) (pe_op op_mulXX (pv 2) (pe_call F__law_take (hr.mono (by decide)) (by rfl) m__law_take k__law_take b__law_take .nil pass0 (pa_cons (pv 0) (pa_cons (pe_int) pa_nil))))) pa_nil)))))))), ?_⟩
  unfold m_law_against at hm
  show BV K _ [.l (some p) (List.map enc (draws : List Int)), .d (enc (readings : (List (T4 Int Int Int Int)))), .d (.int scale), .u, .u, .u, .u, .u] _
  obtain ⟨r1, g1, hm⟩ := bnd hm
  refine bv_tgt (d := (enc (r1.1 : (T4 Int Int Int Int)))) (ev_callL (i := 0) (rel := rel__law_pick) rfl rfl (ed_1 (ev_v (i := 1) rfl)) rfl (fun p => rel_pickT (row := readings) g1)) (eg_p4 (p := r1.1) (egs_cons (eg_n 4) (egs_cons (eg_n 5) (egs_cons (eg_n 6) (egs_cons (eg_n 7) (egs_nil)))))) ?_
  show BV K _ [.l (some p) (List.map enc (r1.2 : List Int)), .d (enc (readings : (List (T4 Int Int Int Int)))), .d (.int scale), .u, .d (.int r1.1.a), .d (.int r1.1.b), .d (.int r1.1.c), .d (.int r1.1.d)] _
  obtain ⟨r2, g2, hm⟩ := bnd hm
  obtain ⟨k3, hm⟩ := bndg hm
  obtain ⟨v4, g4, hm⟩ := bnd hm
  refine bv_set (i := 3) (d := (.int v4)) (EV.ofI (EV.to (α := Int) (a := ((r1.1.d + 1) + (scale * r2.1))) (ev_add (ev_add (ev_v (i := 7) rfl) (ev_i)) (ev_mul k3 (ev_v (i := 2) rfl) (ev_callL (i := 0) (rel := rel__law_take) rfl rfl (ed_1 (ev_i)) rfl (fun p => ⟨p, r1.2, 3, r2, rfl, g2, rfl, rfl⟩)))) (Option.some.inj g4))) ?_
  show BV K _ [.l (some p) (List.map enc (r2.2 : List Int)), .d (enc (readings : (List (T4 Int Int Int Int)))), .d (.int scale), .d (.int v4), .d (.int r1.1.a), .d (.int r1.1.b), .d (.int r1.1.c), .d (.int r1.1.d)] _
  obtain ⟨r5, g5, hm⟩ := bnd hm
  obtain ⟨k6, hm⟩ := bndg hm
  refine bv_ret (d := (enc ((T4.mk r1.1.a r1.1.b v4 (v4 + (scale * r5.1))) : (T4 Int Int Int Int)))) (ev_t4 (α := Int) (β := Int) (γ := Int) (δ := Int) (p := r1.1.a) (r := r1.1.b) (s := v4) (z := (v4 + (scale * r5.1))) (ev_v (i := 4) rfl) (ev_v (i := 5) rfl) (ev_v (i := 3) rfl) (ev_add (ev_v (i := 3) rfl) (ev_mul k6 (ev_v (i := 2) rfl) (ev_callL (i := 0) (rel := rel__law_take) rfl rfl (ed_1 (ev_i)) rfl (fun p => ⟨p, r2.2, 3, r5, rfl, g5, rfl, rfl⟩))))) ?_
  have hm := Option.some.inj hm; subst hm
  exact ⟨rfl, ⟨.inr ⟨_, _, _, rfl, rfl, rfl⟩, .inl ⟨rfl, fun _ _ z => by cases z⟩, .inl ⟨rfl, fun _ _ z => by cases z⟩, trivial⟩⟩
end K61

-- K61P26
namespace K61
open PySem PySem.Spec PyProof.Rows L2 RZ Gw
open Gw.Enc (enc)
/-! _law_leak_node -/
abbrev s__law_leak_node : Stmt := topS 30
abbrev N__law_leak_node : List Str := ["book", "gate", "days"]
abbrev P__law_leak_node : List Str := ["book", "gate", "days"]
theorem sc__law_leak_node : FnScope N__law_leak_node P__law_leak_node (defScope s__law_leak_node) := ⟨rfl, rfl, rfl, by decide +kernel, rfl, by decide +kernel, by decide +kernel⟩
theorem ok__law_leak_node {P : Program} {w : World} {K : FR} {mg : Str → Option Value} {base : Heap} (B : Bt mg) {f : Addr} {fd : FuncData} (F : Fun K "_law_leak_node" "_law_leak_node" s__law_leak_node f fd) : FnOk P w K mg base CX0 1 f fd P__law_leak_node (spG K P__law_leak_node.length rel__law_leak_node) := by
  refine fn_ok F sc__law_leak_node fun cdv A outer s H E hr as r as' hrel hlen => ?_
  have nd := sc__law_leak_node.nd
  have hu := room_u64 hr
  have hu1 := room_u65 hr
  obtain ⟨book, gate, days, res, rfl, hm, rfl, rfl⟩ := hrel
  refine ⟨_, pss_cons (ps_if (pt_cmpR (k_op_eqD (K := K) hu) (pv 2) (pe_int) (nomark _)) (pss_one (ps_ret (pe_int))) pss_nil) (pss_one (ps_ret (pe_op op_add (pe_op op_add (pe_int) (pe_op op_mulXX (pe_op op_sub (pv 2) (pe_int)) (pe_op op_add (pe_callB ((k_cr_lenS (K := K))) (by rfl) B.b_len PySem.boot_len (pa_cons (pe_ix (k_ix_tup (K := K)) (pv 0) pe_int (fun _ _ => rfl)) pa_nil)) (pe_int)))) (pv 1)))), ?_⟩
  unfold m_law_leak_node at hm
  show BV K _ [.d (enc (book : (T3 (List Int) (List (List Int)) (List Int)))), .d (.int gate), .d (.int days)] _
  refine bv_ifx (env1 := [.d (enc (book : (T3 (List Int) (List (List Int)) (List Int)))), .d (.int gate), .d (.int days)]) (et_cmp (ev_eq (α := Int) (x := days) (y := 0) (ev_v (i := 2) rfl) (ev_i))) (fun hb => ?_) (fun hb => ?_)
  · have hm := cond_t hb hm
    refine bv_ret (d := (.int 0)) (ev_i) ?_
    have hm := Option.some.inj hm; subst hm
    exact ⟨rfl, ⟨.inl ⟨rfl, fun _ _ z => by cases z⟩, .inl ⟨rfl, fun _ _ z => by cases z⟩, .inl ⟨rfl, fun _ _ z => by cases z⟩, trivial⟩⟩
  have hm := cond_f hb hm
  obtain ⟨k1, hm⟩ := bndg hm
  refine bv_ret (d := (.int ((1 + ((days - 1) * (((book.a).length : Int) + 1))) + gate))) (ev_add (ev_add (ev_i) (ev_mul k1 (ev_sub (ev_v (i := 2) rfl) (ev_i)) (ev_add (ev_len (l := book.a) (ev_3a (p := book) (ev_v (i := 0) rfl))) (ev_i)))) (ev_v (i := 1) rfl)) ?_
  have hm := Option.some.inj hm; subst hm
  exact ⟨rfl, ⟨.inl ⟨rfl, fun _ _ z => by cases z⟩, .inl ⟨rfl, fun _ _ z => by cases z⟩, .inl ⟨rfl, fun _ _ z => by cases z⟩, trivial⟩⟩
end K61

-- K61P27
namespace K61
open PySem PySem.Spec PyProof.Rows L2 RZ Gw
open Gw.Enc (enc)
/-! _law_leak_nodes -/
abbrev s__law_leak_nodes : Stmt := topS 31
abbrev N__law_leak_nodes : List Str := ["book"]
abbrev P__law_leak_nodes : List Str := ["book"]
theorem sc__law_leak_nodes : FnScope N__law_leak_nodes P__law_leak_nodes (defScope s__law_leak_nodes) := ⟨rfl, rfl, rfl, by decide +kernel, rfl, by decide +kernel, by decide +kernel⟩
theorem ok__law_leak_nodes {P : Program} {w : World} {K : FR} {mg : Str → Option Value} {base : Heap} (B : Bt mg) {f : Addr} {fd : FuncData} (F : Fun K "_law_leak_nodes" "_law_leak_nodes" s__law_leak_nodes f fd) : FnOk P w K mg base CX0 1 f fd P__law_leak_nodes (spG K P__law_leak_nodes.length rel__law_leak_nodes) := by
  refine fn_ok F sc__law_leak_nodes fun cdv A outer s H E hr as r as' hrel hlen => ?_
  have nd := sc__law_leak_nodes.nd
  have hu := room_u64 hr
  have hu1 := room_u65 hr
  obtain ⟨book, res, rfl, hm, rfl, rfl⟩ := hrel
  refine ⟨_, pss_one (ps_ret (pe_op op_add (pe_int) (pe_op op_mulXX (pe_callB ((k_cr_lenS (K := K))) (by rfl) B.b_len PySem.boot_len (pa_cons (pe_ix (k_ix_tup (K := K)) (pv 0) pe_int (fun _ _ => rfl)) pa_nil)) (pe_op op_add (pe_callB ((k_cr_lenS (K := K))) (by rfl) B.b_len PySem.boot_len (pa_cons (pe_ix (k_ix_tup (K := K)) (pv 0) pe_int (fun _ _ => rfl)) pa_nil)) (pe_int))))), ?_⟩
  unfold m_law_leak_nodes at hm
  show BV K _ [.d (enc (book : (T3 (List Int) (List (List Int)) (List Int))))] _
  obtain ⟨k1, hm⟩ := bndg hm
  refine bv_ret (d := (.int (1 + (((book.b).length : Int) * (((book.a).length : Int) + 1))))) (ev_add (ev_i) (ev_mul k1 (ev_len (l := book.b) (ev_3b (p := book) (ev_v (i := 0) rfl))) (ev_add (ev_len (l := book.a) (ev_3a (p := book) (ev_v (i := 0) rfl))) (ev_i)))) ?_
  have hm := Option.some.inj hm; subst hm
  exact ⟨rfl, ⟨.inl ⟨rfl, fun _ _ z => by cases z⟩, trivial⟩⟩
end K61

-- K61P28
namespace K61
open PySem PySem.Spec PyProof.Rows L2 RZ Gw
open Gw.Enc (enc)
/-! _law_leak_rules -/
abbrev s__law_leak_rules : Stmt := topS 32
abbrev N__law_leak_rules : List Str := ["book", "readings", "rules", "days", "dry", "gate", "day", "pond", "low", "high", "into", "out", "here", "ahead"]
abbrev P__law_leak_rules : List Str := ["book", "readings"]
theorem sc__law_leak_rules : FnScope N__law_leak_rules P__law_leak_rules (defScope s__law_leak_rules) := ⟨rfl, rfl, rfl, by decide +kernel, rfl, by decide +kernel, by decide +kernel⟩
theorem ok__law_leak_rules {P : Program} {w : World} {K : FR} {mg : Str → Option Value} {base : Heap} (B : Bt mg) (c__law_leak_node : Cal P w K mg base "_law_leak_node" P__law_leak_node 1 rel__law_leak_node) (c__law_pond_waters : Cal P w K mg base "_law_pond_waters" P__law_pond_waters 1 rel__law_pond_waters) (c__law_without_leaks : Cal P w K mg base "_law_without_leaks" P__law_without_leaks 1 rel__law_without_leaks) {f : Addr} {fd : FuncData} (F : Fun K "_law_leak_rules" "_law_leak_rules" s__law_leak_rules f fd) : FnOk P w K mg base CX0 2 f fd P__law_leak_rules (spG K P__law_leak_rules.length rel__law_leak_rules) := by
  obtain ⟨f__law_leak_node, fd__law_leak_node, F__law_leak_node, m__law_leak_node, k__law_leak_node, b__law_leak_node⟩ := c__law_leak_node.ex
  obtain ⟨f__law_pond_waters, fd__law_pond_waters, F__law_pond_waters, m__law_pond_waters, k__law_pond_waters, b__law_pond_waters⟩ := c__law_pond_waters.ex
  obtain ⟨f__law_without_leaks, fd__law_without_leaks, F__law_without_leaks, m__law_without_leaks, k__law_without_leaks, b__law_without_leaks⟩ := c__law_without_leaks.ex
  refine fn_ok F sc__law_leak_rules fun cdv A outer s H E hr as r as' hrel hlen => ?_
  have nd := sc__law_leak_rules.nd
  have hu := room_u64 hr
  have hu1 := room_u65 hr
  obtain ⟨book, readings, res, rfl, hm, rfl, rfl⟩ := hrel
  refine ⟨_, pss_cons (ps_set (i := 2) nd rfl (by first | exact Or.inl rfl | exact Or.inr rfl) (pe_lst (pa_nil))) (pss_cons (ps_for PassesOwn.never rfl (pi_range2 (by rfl) B.b_range (pa_cons (pe_int) (pa_cons (pe_op op_add (pe_callB ((k_cr_lenS (K := K))) (by rfl) B.b_len PySem.boot_len (pa_cons (pe_ix (k_ix_tup (K := K)) (pv 0) pe_int (fun _ _ => rfl)) pa_nil)) (pe_int)) pa_nil))) (pg_name (i := 3) nd rfl (by first | exact Or.inl rfl | exact Or.inr rfl)) (pss_one (ps_for PassesOwn.never rfl (pi_range1 (by rfl) B.b_range (pa_cons (pe_op op_add (pe_callB ((k_cr_lenS (K := K))) (by rfl) B.b_len PySem.boot_len (pa_cons (pe_ix (k_ix_tup (K := K)) (pv 0) pe_int (fun _ _ => rfl)) pa_nil)) (pe_int)) pa_nil)) (pg_name (i := 5) nd rfl (by first | exact Or.inl rfl | exact Or.inr rfl)) (pss_cons (ps_set (i := 12) nd rfl (by first | exact Or.inl rfl | exact Or.inr rfl) (pe_call F__law_leak_node (hr.mono (by decide)) (by rfl) m__law_leak_node k__law_leak_node b__law_leak_node .nil pass0 (pa_cons (pv 0) (pa_cons (pv 5) (pa_cons (pv 3) pa_nil))))) (pss_cons (ps_set (i := 13) nd rfl (by first | exact Or.inl rfl | exact Or.inr rfl) (pe_call F__law_leak_node (hr.mono (by decide)) (by rfl) m__law_leak_node k__law_leak_node b__law_leak_node .nil pass0 (pa_cons (pv 0) (pa_cons (pv 5) (pa_cons (pe_op op_sub (pv 3) (pe_int)) pa_nil))))) (pss_cons (ps_expr (pe_bm PySem.F.plainAttrs_list PySem.F.slot_list_append PySem.F.type_list_append mt_append (pv 2) (pa_cons (pe_tup (pa_cons (pv 12) (pa_cons (pv 13) (pa_cons (pe_int) pa_nil)))) pa_nil))) (pss_one (ps_if (pt_cmpR ((k_op_in_seq (K := K))) (pv 5) (pe_ix (k_ix_tup (K := K)) (pv 0) pe_int (fun _ _ => rfl)) (by rfl)) (pss_one (ps_expr (pe_bm PySem.F.plainAttrs_list PySem.F.slot_list_append PySem.F.type_list_append mt_append (pv 2) (pa_cons (pe_tup (pa_cons (pv 13) (pa_cons (pv 12) (pa_cons (pe_int) pa_nil)))) pa_nil)))) (pss_nil))))))))) (pss_cons (ps_set (i := 4) nd rfl (by first | exact Or.inl rfl | exact Or.inr rfl) (pe_call F__law_pond_waters (hr.mono (by decide)) (by rfl) m__law_pond_waters k__law_pond_waters b__law_pond_waters .nil pass0 (pa_cons (pv 0) (pa_cons (pe_call F__law_without_leaks (hr.mono (by decide)) (by rfl) m__law_without_leaks k__law_without_leaks b__law_without_leaks .nil pass0 (pa_cons (pv 0) pa_nil)) pa_nil)))) (pss_cons (ps_for PassesOwn.never rfl (k_pi_tup (K := K) (pv 1)) (k_pg_tup (K := K) (n := 4) rfl (pgs_cons (pg_name (i := 6) nd rfl (by first | exact Or.inl rfl | exact Or.inr rfl)) (pgs_cons (pg_name (i := 7) nd rfl (by first | exact Or.inl rfl | exact Or.inr rfl)) (pgs_cons (pg_name (i := 8) nd rfl (by first | exact Or.inl rfl | exact Or.inr rfl)) (pgs_cons (pg_name (i := 9) nd rfl (by first | exact Or.inl rfl | exact Or.inr rfl)) (pgs_nil)))))) (pss_cons (ps_set (i := 10) nd rfl (by first | exact Or.inl rfl | exact Or.inr rfl) (pe_call F__law_leak_node (hr.mono (by decide)) (by rfl) m__law_leak_node k__law_leak_node b__law_leak_node .nil pass0 (pa_cons (pv 0) (pa_cons (pv 7) (pa_cons (pe_op op_add (pv 6) (pe_int)) pa_nil))))) (pss_cons (ps_set (i := 11) nd rfl (by first | exact Or.inl rfl | exact Or.inr rfl) (pe_call F__law_leak_node (hr.mono (by decide)) (by rfl) m__law_leak_node k__law_leak_node b__law_leak_node .nil pass0 (pa_cons (pv 0) (pa_cons (pe_op op_add (pv 7) (pe_int)) (pa_cons (pe_op op_add (pv 6) (pe_int)) pa_nil))))) (pss_cons (ps_expr (pe_bm PySem.F.plainAttrs_list PySem.F.slot_list_append PySem.F.type_list_append mt_append (pv 2) (pa_cons (pe_tup (pa_cons (pv 11) (pa_cons (pv 10) (pa_cons (pe_op op_sub (pv 9) (pe_ix (k_ix_tup (K := K)) (pe_ix (k_ix_list (K := K)) (pv 4) (pv 6) (fun _ _ => rfl)) (pv 7) (fun _ _ => rfl))) pa_nil)))) pa_nil))) (pss_one (ps_expr (pe_bm PySem.F.plainAttrs_list PySem.F.slot_list_append PySem.F.type_list_append mt_append (pv 2) (pa_cons (pe_tup (pa_cons (pv 10) (pa_cons (pv 11) (pa_cons (pe_op op_sub (pe_ix (k_ix_tup (K := K)) (pe_ix (k_ix_list (K := K)) (pv 4) (pv 6) (fun _ _ => rfl)) (pv 7) (fun _ _ => rfl)) (pv 8)) pa_nil)))) pa_nil)))))))) (pss_one (ps_ret (pv 2)))))), ?_⟩
  unfold m_law_leak_rules at hm
  show BV K _ [.d (enc (book : (T3 (List Int) (List (List Int)) (List Int)))), .d (enc (readings : (List (T4 Int Int Int Int)))), .u, .u, .u, .u, .u, .u, .u, .u, .u, .u, .u, .u] _
  obtain ⟨v1, g1, hm⟩ := bnd hm
  refine bv_setL (i := 2) (EF.to (l := ([] : List (T3 Int Int Int))) (ef_list (l := ([] : List (T3 Int Int Int))) (ed_nil) (by show 0 ≤ LIM; decide)) (Option.some.inj g1)) ?_
  show BV K _ [.d (enc (book : (T3 (List Int) (List (List Int)) (List Int)))), .d (enc (readings : (List (T4 Int Int Int Int)))), .l none (List.map enc (v1 : List (T3 Int Int Int))), .u, .u, .u, .u, .u, .u, .u, .u, .u, .u, .u] _
  obtain ⟨v2, g2, hm⟩ := bnd hm
  obtain ⟨s13, gs13, hm⟩ := bnd hm
  refine bv_foldq (env1 := [.d (enc (book : (T3 (List Int) (List (List Int)) (List Int)))), .d (enc (readings : (List (T4 Int Int Int Int)))), .l none (List.map enc (v1 : List (T3 Int Int Int))), .u, .u, .u, .u, .u, .u, .u, .u, .u, .u, .u]) (xs := v2) (fun (s : (List (T3 Int Int Int))) => [.d (enc (book : (T3 (List Int) (List (List Int)) (List Int)))), .d (enc (readings : (List (T4 Int Int Int Int)))), .l none (List.map enc (s : List (T3 Int Int Int))), .u, .u, .u, .u, .u, .u, .u, .u, .u, .u, .u]) (ei_R2 (ed_c (ev_i) (ed_1 (ev_add (ev_len (l := book.b) (ev_3b (p := book) (ev_v (i := 0) rfl))) (ev_i)))) g2) ⟨.inr rfl, .inr rfl, .inr rfl, .inl rfl, .inl rfl, .inl rfl, .inl rfl, .inl rfl, .inl rfl, .inl rfl, .inl rfl, .inl rfl, .inl rfl, .inl rfl, trivial⟩ gs13 (fun s3 x4 s_n hm => ?_) ?_
  · refine ⟨_, _, eg_n 3, ?_⟩
    show BV K _ [.d (enc (book : (T3 (List Int) (List (List Int)) (List Int)))), .d (enc (readings : (List (T4 Int Int Int Int)))), .l none (List.map enc (s3 : List (T3 Int Int Int))), .d (.int x4), .u, .u, .u, .u, .u, .u, .u, .u, .u, .u] _
    unfold m_law_leak_rules_b2 at hm
    obtain ⟨v5, g5, hm⟩ := bnd hm
    obtain ⟨s12, gs12, hm⟩ := bnd hm
    refine bv_fold (env1 := [.d (enc (book : (T3 (List Int) (List (List Int)) (List Int)))), .d (enc (readings : (List (T4 Int Int Int Int)))), .l none (List.map enc (s3 : List (T3 Int Int Int))), .d (.int x4), .u, .u, .u, .u, .u, .u, .u, .u, .u, .u]) (xs := v5) (fun (s : (List (T3 Int Int Int))) => [.d (enc (book : (T3 (List Int) (List (List Int)) (List Int)))), .d (enc (readings : (List (T4 Int Int Int Int)))), .l none (List.map enc (s : List (T3 Int Int Int))), .d (.int x4), .u, .u, .u, .u, .u, .u, .u, .u, .u, .u]) (ei_R1 (ed_1 (ev_add (ev_len (l := book.a) (ev_3a (p := book) (ev_v (i := 0) rfl))) (ev_i))) g5) ⟨.inr rfl, .inr rfl, .inr rfl, .inr rfl, .inl rfl, .inl rfl, .inl rfl, .inl rfl, .inl rfl, .inl rfl, .inl rfl, .inl rfl, .inl rfl, .inl rfl, trivial⟩ gs12 (fun s6 x7 s_n hm => ?_) ?_
    · refine ⟨_, _, eg_n 5, ?_⟩
      show BV K _ [.d (enc (book : (T3 (List Int) (List (List Int)) (List Int)))), .d (enc (readings : (List (T4 Int Int Int Int)))), .l none (List.map enc (s6 : List (T3 Int Int Int))), .d (.int x4), .u, .d (.int x7), .u, .u, .u, .u, .u, .u, .u, .u] _
      unfold m_law_leak_rules_b1 at hm
      obtain ⟨v8, g8, hm⟩ := bnd hm
      refine bv_set (i := 12) (d := (.int v8)) (ev_call (rel := rel__law_leak_node) rfl (ed_c (ev_v (i := 0) rfl) (ed_c (ev_v (i := 5) rfl) (ed_1 (ev_v (i := 3) rfl)))) ⟨book, x7, x4, v8, rfl, g8, rfl, rfl⟩) ?_
      show BV K _ [.d (enc (book : (T3 (List Int) (List (List Int)) (List Int)))), .d (enc (readings : (List (T4 Int Int Int Int)))), .l none (List.map enc (s6 : List (T3 Int Int Int))), .d (.int x4), .u, .d (.int x7), .u, .u, .u, .u, .u, .u, .d (.int v8), .u] _
      obtain ⟨v9, g9, hm⟩ := bnd hm
      refine bv_set (i := 13) (d := (.int v9)) (ev_call (rel := rel__law_leak_node) rfl (ed_c (ev_v (i := 0) rfl) (ed_c (ev_v (i := 5) rfl) (ed_1 (ev_sub (ev_v (i := 3) rfl) (ev_i))))) ⟨book, x7, (x4 - 1), v9, rfl, g9, rfl, rfl⟩) ?_
      show BV K _ [.d (enc (book : (T3 (List Int) (List (List Int)) (List Int)))), .d (enc (readings : (List (T4 Int Int Int Int)))), .l none (List.map enc (s6 : List (T3 Int Int Int))), .d (.int x4), .u, .d (.int x7), .u, .u, .u, .u, .u, .u, .d (.int v8), .d (.int v9)] _
      obtain ⟨k10, hm⟩ := bndg hm
      refine bv_drop (ev_appS (i := 2) (l := s6) k10 rfl (ev_t3 (α := Int) (β := Int) (γ := Int) (p := v8) (r := v9) (s := 0) (ev_v (i := 12) rfl) (ev_v (i := 13) rfl) (ev_i)) rfl) ?_
      show BV K _ [.d (enc (book : (T3 (List Int) (List (List Int)) (List Int)))), .d (enc (readings : (List (T4 Int Int Int Int)))), .l none (List.map enc ((s6 ++ [(T3.mk v8 v9 0)]) : List (T3 Int Int Int))), .d (.int x4), .u, .d (.int x7), .u, .u, .u, .u, .u, .u, .d (.int v8), .d (.int v9)] _
      refine bv_if (env1 := [.d (enc (book : (T3 (List Int) (List (List Int)) (List Int)))), .d (enc (readings : (List (T4 Int Int Int Int)))), .l none (List.map enc ((s6 ++ [(T3.mk v8 v9 0)]) : List (T3 Int Int Int))), .d (.int x4), .u, .d (.int x7), .u, .u, .u, .u, .u, .u, .d (.int v8), .d (.int v9)]) (et_cmp (ev_inT (a := x7) (l := book.c) (ev_v (i := 5) rfl) (ev_3c (p := book) (ev_v (i := 0) rfl)))) (fun hb => ?_) (fun hb => ?_)
      · have hm := cond_t hb hm
        obtain ⟨k11, hm⟩ := bndg hm
        refine bv_drop1 (ev_appS (i := 2) (l := (s6 ++ [(T3.mk v8 v9 0)])) k11 rfl (ev_t3 (α := Int) (β := Int) (γ := Int) (p := v9) (r := v8) (s := 0) (ev_v (i := 13) rfl) (ev_v (i := 12) rfl) (ev_i)) rfl) ?_
        have hm := Option.some.inj hm; subst hm
        show Le [.d (enc (book : (T3 (List Int) (List (List Int)) (List Int)))), .d (enc (readings : (List (T4 Int Int Int Int)))), .l none (List.map enc (((s6 ++ [(T3.mk v8 v9 0)]) ++ [(T3.mk v9 v8 0)]) : List (T3 Int Int Int))), .d (.int x4), .u, .d (.int x7), .u, .u, .u, .u, .u, .u, .d (.int v8), .d (.int v9)] [.d (enc (book : (T3 (List Int) (List (List Int)) (List Int)))), .d (enc (readings : (List (T4 Int Int Int Int)))), .l none (List.map enc (((s6 ++ [(T3.mk v8 v9 0)]) ++ [(T3.mk v9 v8 0)]) : List (T3 Int Int Int))), .d (.int x4), .u, .u, .u, .u, .u, .u, .u, .u, .u, .u]
        exact ⟨.inr rfl, .inr rfl, .inr rfl, .inr rfl, .inl rfl, .inl rfl, .inl rfl, .inl rfl, .inl rfl, .inl rfl, .inl rfl, .inl rfl, .inl rfl, .inl rfl, trivial⟩
      · have hm := cond_f hb hm
        refine bv_nil ?_
        have hm := Option.some.inj hm; subst hm
        show Le [.d (enc (book : (T3 (List Int) (List (List Int)) (List Int)))), .d (enc (readings : (List (T4 Int Int Int Int)))), .l none (List.map enc ((s6 ++ [(T3.mk v8 v9 0)]) : List (T3 Int Int Int))), .d (.int x4), .u, .d (.int x7), .u, .u, .u, .u, .u, .u, .d (.int v8), .d (.int v9)] [.d (enc (book : (T3 (List Int) (List (List Int)) (List Int)))), .d (enc (readings : (List (T4 Int Int Int Int)))), .l none (List.map enc ((s6 ++ [(T3.mk v8 v9 0)]) : List (T3 Int Int Int))), .d (.int x4), .u, .u, .u, .u, .u, .u, .u, .u, .u, .u]
        exact ⟨.inr rfl, .inr rfl, .inr rfl, .inr rfl, .inl rfl, .inl rfl, .inl rfl, .inl rfl, .inl rfl, .inl rfl, .inl rfl, .inl rfl, .inl rfl, .inl rfl, trivial⟩
    have hm := Option.some.inj hm; subst hm
    show Le [.d (enc (book : (T3 (List Int) (List (List Int)) (List Int)))), .d (enc (readings : (List (T4 Int Int Int Int)))), .l none (List.map enc (s12 : List (T3 Int Int Int))), .d (.int x4), .u, .u, .u, .u, .u, .u, .u, .u, .u, .u] [.d (enc (book : (T3 (List Int) (List (List Int)) (List Int)))), .d (enc (readings : (List (T4 Int Int Int Int)))), .l none (List.map enc (s12 : List (T3 Int Int Int))), .u, .u, .u, .u, .u, .u, .u, .u, .u, .u, .u]
    exact ⟨.inr rfl, .inr rfl, .inr rfl, .inl rfl, .inl rfl, .inl rfl, .inl rfl, .inl rfl, .inl rfl, .inl rfl, .inl rfl, .inl rfl, .inl rfl, .inl rfl, trivial⟩
  show BV K _ [.d (enc (book : (T3 (List Int) (List (List Int)) (List Int)))), .d (enc (readings : (List (T4 Int Int Int Int)))), .l none (List.map enc (s13 : List (T3 Int Int Int))), .u, .u, .u, .u, .u, .u, .u, .u, .u, .u, .u] _
  obtain ⟨v14, g14, hm⟩ := bnd hm
  obtain ⟨v15, g15, hm⟩ := bnd hm
  refine bv_set (i := 4) (d := (enc ((Ls.mk v15) : (Ls (List Int))))) (EF.dat (ef_call (rel := rel__law_pond_waters) rfl (ed_c (ev_v (i := 0) rfl) (ed_1 (ev_call (rel := rel__law_without_leaks) rfl (ed_1 (ev_v (i := 0) rfl)) ⟨book, v14, rfl, g14, rfl, rfl⟩))) ⟨book, v14, v15, rfl, g15, rfl, rfl⟩)) ?_
  show BV K _ [.d (enc (book : (T3 (List Int) (List (List Int)) (List Int)))), .d (enc (readings : (List (T4 Int Int Int Int)))), .l none (List.map enc (s13 : List (T3 Int Int Int))), .u, .d (enc ((Ls.mk v15) : (Ls (List Int)))), .u, .u, .u, .u, .u, .u, .u, .u, .u] _
  obtain ⟨s26, gs26, hm⟩ := bnd hm
  refine bv_foldq (env1 := [.d (enc (book : (T3 (List Int) (List (List Int)) (List Int)))), .d (enc (readings : (List (T4 Int Int Int Int)))), .l none (List.map enc (s13 : List (T3 Int Int Int))), .u, .d (enc ((Ls.mk v15) : (Ls (List Int)))), .u, .u, .u, .u, .u, .u, .u, .u, .u]) (xs := readings) (fun (s : (List (T3 Int Int Int))) => [.d (enc (book : (T3 (List Int) (List (List Int)) (List Int)))), .d (enc (readings : (List (T4 Int Int Int Int)))), .l none (List.map enc (s : List (T3 Int Int Int))), .u, .d (enc ((Ls.mk v15) : (Ls (List Int)))), .u, .u, .u, .u, .u, .u, .u, .u, .u]) (ei_T (ev_v (i := 1) rfl)) ⟨.inr rfl, .inr rfl, .inr rfl, .inl rfl, .inr rfl, .inl rfl, .inl rfl, .inl rfl, .inl rfl, .inl rfl, .inl rfl, .inl rfl, .inl rfl, .inl rfl, trivial⟩ gs26 (fun s16 x17 s_n hm => ?_) ?_
  · refine ⟨_, _, eg_p4 (p := x17) (egs_cons (eg_n 6) (egs_cons (eg_n 7) (egs_cons (eg_n 8) (egs_cons (eg_n 9) (egs_nil))))), ?_⟩
    show BV K _ [.d (enc (book : (T3 (List Int) (List (List Int)) (List Int)))), .d (enc (readings : (List (T4 Int Int Int Int)))), .l none (List.map enc (s16 : List (T3 Int Int Int))), .u, .d (enc ((Ls.mk v15) : (Ls (List Int)))), .u, .d (.int x17.a), .d (.int x17.b), .d (.int x17.c), .d (.int x17.d), .u, .u, .u, .u] _
    unfold m_law_leak_rules_b3 at hm
    obtain ⟨v18, g18, hm⟩ := bnd hm
    refine bv_set (i := 10) (d := (.int v18)) (ev_call (rel := rel__law_leak_node) rfl (ed_c (ev_v (i := 0) rfl) (ed_c (ev_v (i := 7) rfl) (ed_1 (ev_add (ev_v (i := 6) rfl) (ev_i))))) ⟨book, x17.b, (x17.a + 1), v18, rfl, g18, rfl, rfl⟩) ?_
    show BV K _ [.d (enc (book : (T3 (List Int) (List (List Int)) (List Int)))), .d (enc (readings : (List (T4 Int Int Int Int)))), .l none (List.map enc (s16 : List (T3 Int Int Int))), .u, .d (enc ((Ls.mk v15) : (Ls (List Int)))), .u, .d (.int x17.a), .d (.int x17.b), .d (.int x17.c), .d (.int x17.d), .d (.int v18), .u, .u, .u] _
    obtain ⟨v19, g19, hm⟩ := bnd hm
    refine bv_set (i := 11) (d := (.int v19)) (ev_call (rel := rel__law_leak_node) rfl (ed_c (ev_v (i := 0) rfl) (ed_c (ev_add (ev_v (i := 7) rfl) (ev_i)) (ed_1 (ev_add (ev_v (i := 6) rfl) (ev_i))))) ⟨book, (x17.b + 1), (x17.a + 1), v19, rfl, g19, rfl, rfl⟩) ?_
    show BV K _ [.d (enc (book : (T3 (List Int) (List (List Int)) (List Int)))), .d (enc (readings : (List (T4 Int Int Int Int)))), .l none (List.map enc (s16 : List (T3 Int Int Int))), .u, .d (enc ((Ls.mk v15) : (Ls (List Int)))), .u, .d (.int x17.a), .d (.int x17.b), .d (.int x17.c), .d (.int x17.d), .d (.int v18), .d (.int v19), .u, .u] _
    obtain ⟨v20, g20, hm⟩ := bnd hm
    obtain ⟨v21, g21, hm⟩ := bnd hm
    obtain ⟨k22, hm⟩ := bndg hm
    refine bv_drop (ev_appS (i := 2) (l := s16) k22 rfl (ev_t3 (α := Int) (β := Int) (γ := Int) (p := v19) (r := v18) (s := (x17.d - v21)) (ev_v (i := 11) rfl) (ev_v (i := 10) rfl) (ev_sub (ev_v (i := 9) rfl) (EV.ofI (ev_at (l := v20) (ev_atL (l := v15) (ev_v (i := 4) rfl) (ev_v (i := 6) rfl) g20) (ev_v (i := 7) rfl) g21)))) rfl) ?_
    show BV K _ [.d (enc (book : (T3 (List Int) (List (List Int)) (List Int)))), .d (enc (readings : (List (T4 Int Int Int Int)))), .l none (List.map enc ((s16 ++ [(T3.mk v19 v18 (x17.d - v21))]) : List (T3 Int Int Int))), .u, .d (enc ((Ls.mk v15) : (Ls (List Int)))), .u, .d (.int x17.a), .d (.int x17.b), .d (.int x17.c), .d (.int x17.d), .d (.int v18), .d (.int v19), .u, .u] _
    obtain ⟨v23, g23, hm⟩ := bnd hm
    obtain ⟨v24, g24, hm⟩ := bnd hm
    obtain ⟨k25, hm⟩ := bndg hm
    refine bv_drop1 (ev_appS (i := 2) (l := (s16 ++ [(T3.mk v19 v18 (x17.d - v21))])) k25 rfl (ev_t3 (α := Int) (β := Int) (γ := Int) (p := v18) (r := v19) (s := (v24 - x17.c)) (ev_v (i := 10) rfl) (ev_v (i := 11) rfl) (ev_sub (EV.ofI (ev_at (l := v23) (ev_atL (l := v15) (ev_v (i := 4) rfl) (ev_v (i := 6) rfl) g23) (ev_v (i := 7) rfl) g24)) (ev_v (i := 8) rfl))) rfl) ?_
    have hm := Option.some.inj hm; subst hm
    show Le [.d (enc (book : (T3 (List Int) (List (List Int)) (List Int)))), .d (enc (readings : (List (T4 Int Int Int Int)))), .l none (List.map enc (((s16 ++ [(T3.mk v19 v18 (x17.d - v21))]) ++ [(T3.mk v18 v19 (v24 - x17.c))]) : List (T3 Int Int Int))), .u, .d (enc ((Ls.mk v15) : (Ls (List Int)))), .u, .d (.int x17.a), .d (.int x17.b), .d (.int x17.c), .d (.int x17.d), .d (.int v18), .d (.int v19), .u, .u] [.d (enc (book : (T3 (List Int) (List (List Int)) (List Int)))), .d (enc (readings : (List (T4 Int Int Int Int)))), .l none (List.map enc (((s16 ++ [(T3.mk v19 v18 (x17.d - v21))]) ++ [(T3.mk v18 v19 (v24 - x17.c))]) : List (T3 Int Int Int))), .u, .d (enc ((Ls.mk v15) : (Ls (List Int)))), .u, .u, .u, .u, .u, .u, .u, .u, .u]
    exact ⟨.inr rfl, .inr rfl, .inr rfl, .inl rfl, .inr rfl, .inl rfl, .inl rfl, .inl rfl, .inl rfl, .inl rfl, .inl rfl, .inl rfl, .inl rfl, .inl rfl, trivial⟩
  show BV K _ [.d (enc (book : (T3 (List Int) (List (List Int)) (List Int)))), .d (enc (readings : (List (T4 Int Int Int Int)))), .l none (List.map enc (s26 : List (T3 Int Int Int))), .u, .d (enc ((Ls.mk v15) : (Ls (List Int)))), .u, .u, .u, .u, .u, .u, .u, .u, .u] _
  refine bv_retO (i := 2) rfl ?_
  have hm := Option.some.inj hm; subst hm
  exact ⟨rfl, ⟨.inl ⟨rfl, fun _ _ z => by cases z⟩, .inl ⟨rfl, fun _ _ z => by cases z⟩, trivial⟩⟩
end K61

-- K61P29
namespace K61
open PySem PySem.Spec PyProof.Rows L2 RZ Gw
open Gw.Enc (enc)
/-! _law_leak_ranks -/
abbrev s__law_leak_ranks : Stmt := topS 33
abbrev N__law_leak_ranks : List Str := ["rules", "many", "told", "turn", "changed", "a", "b", "most"]
abbrev P__law_leak_ranks : List Str := ["rules", "many"]
theorem sc__law_leak_ranks : FnScope N__law_leak_ranks P__law_leak_ranks (defScope s__law_leak_ranks) := ⟨rfl, rfl, rfl, by decide +kernel, rfl, by decide +kernel, by decide +kernel⟩
theorem ok__law_leak_ranks {P : Program} {w : World} {K : FR} {mg : Str → Option Value} {base : Heap} (B : Bt mg) {f : Addr} {fd : FuncData} (F : Fun K "_law_leak_ranks" "_law_leak_ranks" s__law_leak_ranks f fd) : FnOk P w K mg base CX0 1 f fd P__law_leak_ranks (spG K P__law_leak_ranks.length rel__law_leak_ranks) := by
  refine fn_ok F sc__law_leak_ranks fun cdv A outer s H E hr as r as' hrel hlen => ?_
  have nd := sc__law_leak_ranks.nd
  have hu := room_u64 hr
  have hu1 := room_u65 hr
  obtain ⟨rules, many, res, rfl, hm, rfl, rfl⟩ := hrel
  refine ⟨_, pss_cons (ps_set (i := 2) nd rfl (by first | exact Or.inl rfl | exact Or.inr rfl) (pe_op op_rep (pe_lst (pa_cons (pe_int) pa_nil)) (pv 1))) (pss_cons (ps_for PassesOwn.never rfl (pi_range1 (by rfl) B.b_range (pa_cons (pe_op op_add (pv 1) (pe_int)) pa_nil)) (pg_name (i := 3) nd rfl (by first | exact Or.inl rfl | exact Or.inr rfl)) (pss_cons (ps_set (i := 4) nd rfl (by first | exact Or.inl rfl | exact Or.inr rfl) (pe_bl)) (pss_cons (ps_for PassesOwn.never rfl (k_pi_list (K := K) (pv 0)) (k_pg_tup (K := K) (n := 3) rfl (pgs_cons (pg_name (i := 5) nd rfl (by first | exact Or.inl rfl | exact Or.inr rfl)) (pgs_cons (pg_name (i := 6) nd rfl (by first | exact Or.inl rfl | exact Or.inr rfl)) (pgs_cons (pg_name (i := 7) nd rfl (by first | exact Or.inl rfl | exact Or.inr rfl)) (pgs_nil))))) (pss_one (ps_if (pt_cmpR (op_lt) (pe_op op_add (pe_ix (k_ix_list (K := K)) (pv 2) (pv 5) (fun _ _ => rfl)) (pv 7)) (pe_ix (k_ix_list (K := K)) (pv 2) (pv 6) (fun _ _ => rfl)) (nomark _)) (pss_cons (ps_asg (pe_op op_add (pe_ix (k_ix_list (K := K)) (pv 2) (pv 5) (fun _ _ => rfl)) (pv 7)) (pg_sub (pv 2) (pv 6) set_list)) (pss_one (ps_set (i := 4) nd rfl (by first | exact Or.inl rfl | exact Or.inr rfl) (pe_bl)))) (pss_nil)))) (pss_one (ps_if (pt_not (pt_val (pv 4))) (pss_one (ps_ret (pv 2))) (pss_nil)))))) (pss_one (ps_ret (pe_non)))), ?_⟩
  unfold m_law_leak_ranks at hm
  show BV K _ [.d (enc (rules : (Ls (T3 Int Int Int)))), .d (.int many), .u, .u, .u, .u, .u, .u] _
  obtain ⟨v1, g1, hm⟩ := bnd hm
  refine bv_setL (i := 2) (ef_repL (l := ([0] : List Int)) g1 (EF.dat (ef_list (l := ([0] : List Int)) (ed_1 (ev_i)) (by show 1 ≤ LIM; decide))) (ev_v (i := 1) rfl)) ?_
  show BV K _ [.d (enc (rules : (Ls (T3 Int Int Int)))), .d (.int many), .l none (List.map enc (v1 : List Int)), .u, .u, .u, .u, .u] _
  obtain ⟨v2, g2, hm⟩ := bnd hm
  obtain ⟨c13, gc13, hm⟩ := bnd hm
  refine bv_forq (env1 := [.d (enc (rules : (Ls (T3 Int Int Int)))), .d (.int many), .l none (List.map enc (v1 : List Int)), .u, .u, .u, .u, .u]) (xs := v2) (fun (s : (List Int)) => [.d (enc (rules : (Ls (T3 Int Int Int)))), .d (.int many), .l none (List.map enc (s : List Int)), .u, .u, .u, .u, .u]) (fun (ρ : (Option (Ls Int))) r e => r = .d (enc (ρ : (Option (Ls Int)))) ∧ EndOk [.d (enc (rules : (Ls (T3 Int Int Int)))), .d (.int many)] [.u, .u] e) (ei_R1 (ed_1 (ev_add (ev_v (i := 1) rfl) (ev_i))) g2) ⟨.inr rfl, .inr rfl, .inr rfl, .inl rfl, .inl rfl, .inl rfl, .inl rfl, .inl rfl, trivial⟩ gc13 (fun s3 x4 c hm => ?_) (fun ρ r e hc hρ => ?_) (fun s12 hc => ?_)
  · refine ⟨_, _, eg_n 3, ?_⟩
    show BV K _ [.d (enc (rules : (Ls (T3 Int Int Int)))), .d (.int many), .l none (List.map enc (s3 : List Int)), .d (.int x4), .u, .u, .u, .u] _
    unfold m_law_leak_ranks_b2 at hm
    refine bv_set (i := 4) (d := (.bool false)) (ev_b) ?_
    show BV K _ [.d (enc (rules : (Ls (T3 Int Int Int)))), .d (.int many), .l none (List.map enc (s3 : List Int)), .d (.int x4), .d (.bool false), .u, .u, .u] _
    obtain ⟨s11, gs11, hm⟩ := bnd hm
    refine bv_foldq (env1 := [.d (enc (rules : (Ls (T3 Int Int Int)))), .d (.int many), .l none (List.map enc (s3 : List Int)), .d (.int x4), .d (.bool false), .u, .u, .u]) (xs := rules.l) (fun (s : (List Int) × Bool) => [.d (enc (rules : (Ls (T3 Int Int Int)))), .d (.int many), .l none (List.map enc (s.1 : List Int)), .d (.int x4), .d (.bool s.2), .u, .u, .u]) (ei_L (ev_v (i := 0) rfl)) ⟨.inr rfl, .inr rfl, .inr rfl, .inr rfl, .inr rfl, .inl rfl, .inl rfl, .inl rfl, trivial⟩ gs11 (fun s5 x6 s_n hm => ?_) ?_
    · refine ⟨_, _, eg_p3 (p := x6) (egs_cons (eg_n 5) (egs_cons (eg_n 6) (egs_cons (eg_n 7) (egs_nil)))), ?_⟩
      show BV K _ [.d (enc (rules : (Ls (T3 Int Int Int)))), .d (.int many), .l none (List.map enc (s5.1 : List Int)), .d (.int x4), .d (.bool s5.2), .d (.int x6.a), .d (.int x6.b), .d (.int x6.c)] _
      unfold m_law_leak_ranks_b1 at hm
      obtain ⟨v7, g7, hm⟩ := bnd hm
      obtain ⟨v8, g8, hm⟩ := bnd hm
      refine bv_if (env1 := [.d (enc (rules : (Ls (T3 Int Int Int)))), .d (.int many), .l none (List.map enc (s5.1 : List Int)), .d (.int x4), .d (.bool s5.2), .d (.int x6.a), .d (.int x6.b), .d (.int x6.c)]) (et_cmp (ev_lt (ev_add (EV.ofI (ev_atOs (i := 2) (l := s5.1) rfl (ev_v (i := 5) rfl) g7)) (ev_v (i := 7) rfl)) (EV.ofI (ev_atOs (i := 2) (l := s5.1) rfl (ev_v (i := 6) rfl) g8)))) (fun hb => ?_) (fun hb => ?_)
      · have hm := cond_t hb hm
        obtain ⟨v9, g9, hm⟩ := bnd hm
        obtain ⟨v10, g10, hm⟩ := bnd hm
        refine bv_putS (i := 2) (l := s5.1) (l0 := s5.1) (a := (v9 + x6.c)) g10 (ev_add (EV.ofI (ev_atOs (i := 2) (l := s5.1) rfl (ev_v (i := 5) rfl) g9)) (ev_v (i := 7) rfl)) rfl (ev_v (i := 6) rfl) rfl ?_
        show BV K _ [.d (enc (rules : (Ls (T3 Int Int Int)))), .d (.int many), .l none (List.map enc (v10 : List Int)), .d (.int x4), .d (.bool s5.2), .d (.int x6.a), .d (.int x6.b), .d (.int x6.c)] _
        refine bv_set1 (i := 4) (d := (.bool true)) (ev_b) ?_
        have hm := Option.some.inj hm; subst hm
        show Le [.d (enc (rules : (Ls (T3 Int Int Int)))), .d (.int many), .l none (List.map enc (v10 : List Int)), .d (.int x4), .d (.bool true), .d (.int x6.a), .d (.int x6.b), .d (.int x6.c)] [.d (enc (rules : (Ls (T3 Int Int Int)))), .d (.int many), .l none (List.map enc ((v10, true).1 : List Int)), .d (.int x4), .d (.bool ((v10, true).2)), .u, .u, .u]
        exact ⟨.inr rfl, .inr rfl, .inr rfl, .inr rfl, .inr rfl, .inl rfl, .inl rfl, .inl rfl, trivial⟩
      · have hm := cond_f hb hm
        refine bv_nil ?_
        have hm := Option.some.inj hm; subst hm
        show Le [.d (enc (rules : (Ls (T3 Int Int Int)))), .d (.int many), .l none (List.map enc (s5.1 : List Int)), .d (.int x4), .d (.bool s5.2), .d (.int x6.a), .d (.int x6.b), .d (.int x6.c)] [.d (enc (rules : (Ls (T3 Int Int Int)))), .d (.int many), .l none (List.map enc ((s5.1, s5.2).1 : List Int)), .d (.int x4), .d (.bool ((s5.1, s5.2).2)), .u, .u, .u]
        exact ⟨.inr rfl, .inr rfl, .inr rfl, .inr rfl, .inr rfl, .inl rfl, .inl rfl, .inl rfl, trivial⟩
    show BV K _ [.d (enc (rules : (Ls (T3 Int Int Int)))), .d (.int many), .l none (List.map enc (s11.1 : List Int)), .d (.int x4), .d (.bool s11.2), .u, .u, .u] _
    refine bv_if (env1 := [.d (enc (rules : (Ls (T3 Int Int Int)))), .d (.int many), .l none (List.map enc (s11.1 : List Int)), .d (.int x4), .d (.bool s11.2), .u, .u, .u]) (et_not (et_val (ev_v (i := 4) rfl))) (fun hb => ?_) (fun hb => ?_)
    · have hm := cond_t hb hm
      refine bv_frz (i := 2) rfl ?_
      show BV K _ [.d (enc (rules : (Ls (T3 Int Int Int)))), .d (.int many), .d (enc ((Ls.mk s11.1) : (Ls Int))), .d (.int x4), .d (.bool s11.2), .u, .u, .u] _
      refine bv_ret (d := (enc ((some (Ls.mk s11.1)) : (Option (Ls Int))))) (ev_v (i := 2) rfl) ?_
      have hm := Option.some.inj hm; subst hm
      exact ⟨_, rfl, rfl, ⟨.inl ⟨rfl, fun _ _ z => by cases z⟩, .inl ⟨rfl, fun _ _ z => by cases z⟩, trivial⟩⟩
    · have hm := cond_f hb hm
      refine bv_nil ?_
      have hm := Option.some.inj hm; subst hm
      refine ⟨_, rfl, ?_⟩
      show Le [.d (enc (rules : (Ls (T3 Int Int Int)))), .d (.int many), .l none (List.map enc (s11.1 : List Int)), .d (.int x4), .d (.bool s11.2), .u, .u, .u] [.d (enc (rules : (Ls (T3 Int Int Int)))), .d (.int many), .l none (List.map enc (s11.1 : List Int)), .u, .u, .u, .u, .u]
      exact ⟨.inr rfl, .inr rfl, .inr rfl, .inl rfl, .inl rfl, .inl rfl, .inl rfl, .inl rfl, trivial⟩
  · subst hc
    have hm := Option.some.inj hm; subst hm
    exact hρ
  subst hc
  have hm := hm
  show BV K _ [.d (enc (rules : (Ls (T3 Int Int Int)))), .d (.int many), .l none (List.map enc (s12 : List Int)), .u, .u, .u, .u, .u] _
  refine bv_ret (d := (enc ((none : (Option (Ls Int))) : (Option (Ls Int))))) (ev_n) ?_
  have hm := Option.some.inj hm; subst hm
  exact ⟨rfl, ⟨.inl ⟨rfl, fun _ _ z => by cases z⟩, .inl ⟨rfl, fun _ _ z => by cases z⟩, trivial⟩⟩
end K61

-- K61P30
namespace K61
open PySem PySem.Spec PyProof.Rows L2 RZ Gw
open Gw.Enc (enc)
/-! _law_can_fit -/
abbrev s__law_can_fit : Stmt := topS 34
abbrev N__law_can_fit : List Str := ["book", "readings"]
abbrev P__law_can_fit : List Str := ["book", "readings"]
theorem sc__law_can_fit : FnScope N__law_can_fit P__law_can_fit (defScope s__law_can_fit) := ⟨rfl, rfl, rfl, by decide +kernel, rfl, by decide +kernel, by decide +kernel⟩
theorem ok__law_can_fit {P : Program} {w : World} {K : FR} {mg : Str → Option Value} {base : Heap} (B : Bt mg) (c__law_leak_ranks : Cal P w K mg base "_law_leak_ranks" P__law_leak_ranks 1 rel__law_leak_ranks) (c__law_leak_rules : Cal P w K mg base "_law_leak_rules" P__law_leak_rules 2 rel__law_leak_rules) (c__law_leak_nodes : Cal P w K mg base "_law_leak_nodes" P__law_leak_nodes 1 rel__law_leak_nodes) {f : Addr} {fd : FuncData} (F : Fun K "_law_can_fit" "_law_can_fit" s__law_can_fit f fd) : FnOk P w K mg base CX0 3 f fd P__law_can_fit (spG K P__law_can_fit.length rel__law_can_fit) := by
  obtain ⟨f__law_leak_ranks, fd__law_leak_ranks, F__law_leak_ranks, m__law_leak_ranks, k__law_leak_ranks, b__law_leak_ranks⟩ := c__law_leak_ranks.ex
  obtain ⟨f__law_leak_rules, fd__law_leak_rules, F__law_leak_rules, m__law_leak_rules, k__law_leak_rules, b__law_leak_rules⟩ := c__law_leak_rules.ex
  obtain ⟨f__law_leak_nodes, fd__law_leak_nodes, F__law_leak_nodes, m__law_leak_nodes, k__law_leak_nodes, b__law_leak_nodes⟩ := c__law_leak_nodes.ex
  refine fn_ok F sc__law_can_fit fun cdv A outer s H E hr as r as' hrel hlen => ?_
  have nd := sc__law_can_fit.nd
  have hu := room_u64 hr
  have hu1 := room_u65 hr
  obtain ⟨book, readings, res, rfl, hm, rfl, rfl⟩ := hrel
  refine ⟨_, pss_one (ps_ret (pe_cmpR (op_not0) (pe_call F__law_leak_ranks (hr.mono (by decide)) (by rfl) m__law_leak_ranks k__law_leak_ranks b__law_leak_ranks .nil pass0 (pa_cons (pe_call F__law_leak_rules (hr.mono (by decide)) (by rfl) m__law_leak_rules k__law_leak_rules b__law_leak_rules .nil pass0 (pa_cons (pv 0) (pa_cons (pv 1) pa_nil))) (pa_cons (pe_call F__law_leak_nodes (hr.mono (by decide)) (by rfl) m__law_leak_nodes k__law_leak_nodes b__law_leak_nodes .nil pass0 (pa_cons (pv 0) pa_nil)) pa_nil))) (pe_non) (nomark _))), ?_⟩
  unfold m_law_can_fit at hm
  show BV K _ [.d (enc (book : (T3 (List Int) (List (List Int)) (List Int)))), .d (enc (readings : (List (T4 Int Int Int Int))))] _
  obtain ⟨v1, g1, hm⟩ := bnd hm
  obtain ⟨v2, g2, hm⟩ := bnd hm
  obtain ⟨v3, g3, hm⟩ := bnd hm
  refine bv_ret (d := (.bool ((v3).isSome))) (ev_notN (o := v3) (ev_call (rel := rel__law_leak_ranks) rfl (ed_c (EF.dat (ef_call (rel := rel__law_leak_rules) rfl (ed_c (ev_v (i := 0) rfl) (ed_1 (ev_v (i := 1) rfl))) ⟨book, readings, v1, rfl, g1, rfl, rfl⟩)) (ed_1 (ev_call (rel := rel__law_leak_nodes) rfl (ed_1 (ev_v (i := 0) rfl)) ⟨book, v2, rfl, g2, rfl, rfl⟩))) ⟨(Ls.mk v1), v2, v3, rfl, g3, rfl, rfl⟩)) ?_
  have hm := Option.some.inj hm; subst hm
  exact ⟨rfl, ⟨.inl ⟨rfl, fun _ _ z => by cases z⟩, .inl ⟨rfl, fun _ _ z => by cases z⟩, trivial⟩⟩
end K61

-- K61P31
namespace K61
open PySem PySem.Spec PyProof.Rows L2 RZ Gw
open Gw.Enc (enc)
/-! _law_index_sets -/
abbrev s__law_index_sets : Stmt := topS 35
abbrev N__law_index_sets : List Str := ["many", "found", "k", "pair", "part"]
abbrev P__law_index_sets : List Str := ["many"]
theorem sc__law_index_sets : FnScope N__law_index_sets P__law_index_sets (defScope s__law_index_sets) := ⟨rfl, rfl, rfl, by decide +kernel, rfl, by decide +kernel, by decide +kernel⟩
theorem ok__law_index_sets {P : Program} {w : World} {K : FR} {mg : Str → Option Value} {base : Heap} (B : Bt mg) {f : Addr} {fd : FuncData} (F : Fun K "_law_index_sets" "_law_index_sets" s__law_index_sets f fd) : FnOk P w K mg base CX0 1 f fd P__law_index_sets (spG K P__law_index_sets.length rel__law_index_sets) := by
  refine fn_ok F sc__law_index_sets fun cdv A outer s H E hr as r as' hrel hlen => ?_
  have nd := sc__law_index_sets.nd
  have hu := room_u64 hr
  have hu1 := room_u65 hr
  obtain ⟨many, res, rfl, hm, rfl, rfl⟩ := hrel
  refine ⟨_, pss_cons (ps_set (i := 1) nd rfl (by first | exact Or.inl rfl | exact Or.inr rfl) (pe_lst (pa_cons (pe_tup (pa_nil)) pa_nil))) (pss_cons (ps_for PassesOwn.never rfl (pi_range1 (by rfl) B.b_range (pa_cons (pv 0) pa_nil)) (pg_name (i := 2) nd rfl (by first | exact Or.inl rfl | exact Or.inr rfl)) (pss_one (ps_set (i := 1) nd rfl (by first | exact Or.inl rfl | exact Or.inr rfl) (pe_op op_cat (pv 1) (pe_lc (own := [("part", 4)]) rfl nd (k_pi_list (K := K) (pv 1)) (blkOk_by (own := [("part", 4)]) (N := N__law_index_sets) (sc := defScope s__law_index_sets) (by decide +kernel)) (fun _ _ _ _ _ => pg_name (i := 4) nd rfl (by first | exact Or.inl rfl | exact Or.inr rfl)) (fun _ _ _ _ _ => pts_nil) (fun _ _ _ _ _ => pe_op (k_op_catA (K := K)) (pv 4) (pe_tup (pa_cons (pv 2) pa_nil)))))))) (pss_one (ps_ret (pe_lc (own := [("pair", 3)]) rfl nd (k_pi_list (K := K) (pe_callB (k_cr_sortedD (K := K) hu) (by rfl) B.b_sorted (by decide +kernel) (pa_cons (pe_lc (own := [("part", 4)]) rfl nd (k_pi_list (K := K) (pv 1)) (blkOk_by (own := [("part", 4)]) (N := N__law_index_sets) (sc := defScope s__law_index_sets) (by decide +kernel)) (fun _ _ _ _ _ => pg_name (i := 4) nd rfl (by first | exact Or.inl rfl | exact Or.inr rfl)) (fun _ _ _ _ _ => pts_nil) (fun _ _ _ _ _ => pe_tup (pa_cons (pe_callB ((k_cr_lenS (K := K))) (by rfl) B.b_len PySem.boot_len (pa_cons (pv 4) pa_nil)) (pa_cons (pv 4) pa_nil)))) pa_nil))) (blkOk_by (own := [("pair", 3)]) (N := N__law_index_sets) (sc := defScope s__law_index_sets) (by decide +kernel)) (fun _ _ _ _ _ => pg_name (i := 3) nd rfl (by first | exact Or.inl rfl | exact Or.inr rfl)) (fun _ _ _ _ _ => pts_nil) (fun _ _ _ _ _ => pe_ix (k_ix_tup (K := K)) (pv 3) pe_int (fun _ _ => rfl)))))), ?_⟩
  unfold m_law_index_sets at hm
  show BV K _ [.d (.int many), .u, .u, .u, .u] _
  obtain ⟨v1, g1, hm⟩ := bnd hm
  refine bv_set (i := 1) (d := (enc (v1 : (Ls (List Int))))) (EV.to (α := (Ls (List Int))) (a := (Ls.mk ([([] : List Int)] : List (List Int)))) (EF.dat (ef_list (l := ([([] : List Int)] : List (List Int))) (ed_1 (ev_seq (l := ([] : List Int)) (ed_nil) (by show 0 ≤ LIM; decide))) (by show 1 ≤ LIM; decide))) (Option.some.inj g1)) ?_
  show BV K _ [.d (.int many), .d (enc (v1 : (Ls (List Int)))), .u, .u, .u] _
  obtain ⟨v2, g2, hm⟩ := bnd hm
  obtain ⟨s10, gs10, hm⟩ := bnd hm
  refine bv_foldq (env1 := [.d (.int many), .d (enc (v1 : (Ls (List Int)))), .u, .u, .u]) (xs := v2) (fun (s : (Ls (List Int))) => [.d (.int many), .d (enc (s : (Ls (List Int)))), .u, .u, .u]) (ei_R1 (ed_1 (ev_v (i := 0) rfl)) g2) ⟨.inr rfl, .inr rfl, .inl rfl, .inl rfl, .inl rfl, trivial⟩ gs10 (fun s3 x4 s_n hm => ?_) ?_
  · refine ⟨_, _, eg_n 2, ?_⟩
    show BV K _ [.d (.int many), .d (enc (s3 : (Ls (List Int)))), .d (.int x4), .u, .u] _
    unfold m_law_index_sets_b2 at hm
    obtain ⟨v7, g7, hm⟩ := bnd hm
    obtain ⟨k9, hm⟩ := bndg hm
    refine bv_set1 (i := 1) (d := (enc ((Ls.mk (s3.l ++ v7)) : (Ls (List Int))))) (EF.dat (ef_catS (l := s3.l) (m := v7) k9 (ev_v (i := 1) rfl) (EF.dat (ef_mapO (env1 := [.d (.int many), .d (enc (s3 : (Ls (List Int)))), .d (.int x4), .u, .u]) (xs := s3.l) [.d (.int many), .d (enc (s3 : (Ls (List Int)))), .d (.int x4), .u, .u] (ei_L (ev_v (i := 1) rfl)) ⟨.inr rfl, .inr rfl, .inr rfl, .inl rfl, .inl rfl, trivial⟩ rfl g7 (fun x5 y8 hm => by unfold m_law_index_sets_c1 at hm; obtain ⟨k6, hm⟩ := bndg hm; have hm := Option.some.inj hm; subst hm; exact ⟨_, _, _, eg_n 4, (by decide), ev_cat k6 (ev_v (i := 4) rfl) (ev_seq (l := ([x4] : List Int)) (ed_1 (ev_v (i := 2) rfl)) (by show 1 ≤ LIM; decide)), ⟨.inr rfl, .inr rfl, .inr rfl, .inl rfl, .inl rfl, trivial⟩⟩))))) ?_
    have hm := Option.some.inj hm; subst hm
    show Le [.d (.int many), .d (enc ((Ls.mk (s3.l ++ v7)) : (Ls (List Int)))), .d (.int x4), .u, .u] [.d (.int many), .d (enc ((Ls.mk (s3.l ++ v7)) : (Ls (List Int)))), .u, .u, .u]
    exact ⟨.inr rfl, .inr rfl, .inl rfl, .inl rfl, .inl rfl, trivial⟩
  show BV K _ [.d (.int many), .d (enc (s10 : (Ls (List Int)))), .u, .u, .u] _
  obtain ⟨v12, g12, hm⟩ := bnd hm
  refine bv_retF (ef_map (env1 := [.d (.int many), .d (enc (s10 : (Ls (List Int)))), .u, .u, .u]) (xs := v12) (fun (x13 : (Int × (List Int))) => x13.2) [.d (.int many), .d (enc (s10 : (Ls (List Int)))), .u, .u, .u] (ei_F (ef_sorted (l := (List.map (fun (x11 : (List Int)) => (((x11).length : Int), x11)) s10.l)) g12 (EF.dat (ef_map (env1 := [.d (.int many), .d (enc (s10 : (Ls (List Int)))), .u, .u, .u]) (xs := s10.l) (fun (x11 : (List Int)) => (((x11).length : Int), x11)) [.d (.int many), .d (enc (s10 : (Ls (List Int)))), .u, .u, .u] (ei_L (ev_v (i := 1) rfl)) ⟨.inr rfl, .inr rfl, .inl rfl, .inl rfl, .inl rfl, trivial⟩ rfl (fun x11 => ⟨_, _, _, eg_n 4, (by decide), ev_t2 (α := Int) (β := (List Int)) (p := ((x11).length : Int)) (r := x11) (ev_len (l := x11) (ev_v (i := 4) rfl)) (ev_v (i := 4) rfl), ⟨.inr rfl, .inr rfl, .inl rfl, .inl rfl, .inl rfl, trivial⟩⟩))))) ⟨.inr rfl, .inr rfl, .inl rfl, .inl rfl, .inl rfl, trivial⟩ rfl (fun x13 => ⟨_, _, _, eg_n 3, (by decide), ev_p2 (p := x13) (ev_v (i := 3) rfl), ⟨.inr rfl, .inr rfl, .inl rfl, .inl rfl, .inl rfl, trivial⟩⟩)) ?_
  have hm := Option.some.inj hm; subst hm
  exact ⟨rfl, ⟨.inl ⟨rfl, fun _ _ z => by cases z⟩, trivial⟩⟩
end K61

-- K61P32
namespace K61
open PySem PySem.Spec PyProof.Rows L2 RZ Gw
open Gw.Enc (enc)
/-! _law_leak_scene -/
abbrev s__law_leak_scene : Stmt := topS 36
abbrev N__law_leak_scene : List Str := ["draws", "ponds", "days", "many", "scale", "book", "story"]
abbrev P__law_leak_scene : List Str := ["draws", "ponds", "days", "many"]
theorem sc__law_leak_scene : FnScope N__law_leak_scene P__law_leak_scene (defScope s__law_leak_scene) := ⟨rfl, rfl, rfl, by decide +kernel, rfl, by decide +kernel, by decide +kernel⟩
theorem ok__law_leak_scene {P : Program} {w : World} {K : FR} {mg : Str → Option Value} {base : Heap} (B : Bt mg) (c__law_scale : Cal P w K mg base "_law_scale" P__law_scale 3 rel__law_scale) (c__law_leak_book : Cal P w K mg base "_law_leak_book" P__law_leak_book 2 rel__law_leak_book) (c__law_drawn_story : Cal P w K mg base "_law_drawn_story" P__law_drawn_story 2 rel__law_drawn_story) (c__law_kept_readings : Cal P w K mg base "_law_kept_readings" P__law_kept_readings 3 rel__law_kept_readings) {f : Addr} {fd : FuncData} (F : Fun K "_law_leak_scene" "_law_leak_scene" s__law_leak_scene f fd) : FnOk P w K mg base CX0 4 f fd P__law_leak_scene (spG K P__law_leak_scene.length rel__law_leak_scene) := by
  obtain ⟨f__law_scale, fd__law_scale, F__law_scale, m__law_scale, k__law_scale, b__law_scale⟩ := c__law_scale.ex
  obtain ⟨f__law_leak_book, fd__law_leak_book, F__law_leak_book, m__law_leak_book, k__law_leak_book, b__law_leak_book⟩ := c__law_leak_book.ex
  obtain ⟨f__law_drawn_story, fd__law_drawn_story, F__law_drawn_story, m__law_drawn_story, k__law_drawn_story, b__law_drawn_story⟩ := c__law_drawn_story.ex
  obtain ⟨f__law_kept_readings, fd__law_kept_readings, F__law_kept_readings, m__law_kept_readings, k__law_kept_readings, b__law_kept_readings⟩ := c__law_kept_readings.ex
  refine fn_ok F sc__law_leak_scene fun cdv A outer s H E hr as r as' hrel hlen => ?_
  have nd := sc__law_leak_scene.nd
  have hu := room_u64 hr
  have hu1 := room_u65 hr
  obtain ⟨p, draws, ponds, days, many, res, rfl, hm, rfl, rfl⟩ := hrel
  refine ⟨_, pss_cons (ps_set (i := 4) nd rfl (by first | exact Or.inl rfl | exact Or.inr rfl) (pe_call F__law_scale (hr.mono (by decide)) (by rfl) m__law_scale k__law_scale b__law_scale .nil pass0 (pa_cons (pv 0) pa_nil))) (pss_cons (ps_set (i := 5) nd rfl (by first | exact Or.inl rfl | exact Or.inr rfl) (pe_call F__law_leak_book (hr.mono (by decide)) (by rfl) m__law_leak_book k__law_leak_book b__law_leak_book .nil pass0 (pa_cons (pv 0) (pa_cons (pv 1) (pa_cons (pv 2) (pa_cons (pv 4) pa_nil)))))) (pss_cons (ps_set (i := 6) nd rfl (by first | exact Or.inl rfl | exact Or.inr rfl) (pe_call F__law_drawn_story (hr.mono (by decide)) (by rfl) m__law_drawn_story k__law_drawn_story b__law_drawn_story .nil pass0 (pa_cons (pv 0) (pa_cons (pv 5) (pa_cons (pv 4) pa_nil))))) (pss_one (ps_ret (pe_lst (pa_cons (pv 5) (pa_cons (pv 6) (pa_cons (pe_call F__law_kept_readings (hr.mono (by decide)) (by rfl) m__law_kept_readings k__law_kept_readings b__law_kept_readings .nil pass0 (pa_cons (pv 0) (pa_cons (pv 5) (pa_cons (pv 6) (pa_cons (pv 3) (pa_cons (pv 4) pa_nil)))))) (pa_cons (pv 4) pa_nil))))))))), ?_⟩
  unfold m_law_leak_scene at hm
  show BV K _ [.l (some p) (List.map enc (draws : List Int)), .d (.int ponds), .d (.int days), .d (.int many), .u, .u, .u] _
  obtain ⟨r1, g1, hm⟩ := bnd hm
  refine bv_set (i := 4) (d := (.int r1.1)) (ev_callL (i := 0) (rel := rel__law_scale) rfl rfl (ed_nil) rfl (fun p => ⟨p, draws, r1, rfl, g1, rfl, rfl⟩)) ?_
  show BV K _ [.l (some p) (List.map enc (r1.2 : List Int)), .d (.int ponds), .d (.int days), .d (.int many), .d (.int r1.1), .u, .u] _
  obtain ⟨r2, g2, hm⟩ := bnd hm
  refine bv_set (i := 5) (d := (enc (r2.1 : (T3 (List Int) (List (List Int)) (List Int))))) (ev_callL (i := 0) (rel := rel__law_leak_book) rfl rfl (ed_c (ev_v (i := 1) rfl) (ed_c (ev_v (i := 2) rfl) (ed_1 (ev_v (i := 4) rfl)))) rfl (fun p => ⟨p, r1.2, ponds, days, r1.1, r2, rfl, g2, rfl, rfl⟩)) ?_
  show BV K _ [.l (some p) (List.map enc (r2.2 : List Int)), .d (.int ponds), .d (.int days), .d (.int many), .d (.int r1.1), .d (enc (r2.1 : (T3 (List Int) (List (List Int)) (List Int)))), .u] _
  obtain ⟨r3, g3, hm⟩ := bnd hm
  refine bv_set (i := 6) (d := (enc (r3.1 : (List (List Int))))) (ev_callL (i := 0) (rel := rel__law_drawn_story) rfl rfl (ed_c (ev_v (i := 5) rfl) (ed_1 (ev_v (i := 4) rfl))) rfl (fun p => ⟨p, r2.2, r2.1, r1.1, r3, rfl, g3, rfl, rfl⟩)) ?_
  show BV K _ [.l (some p) (List.map enc (r3.2 : List Int)), .d (.int ponds), .d (.int days), .d (.int many), .d (.int r1.1), .d (enc (r2.1 : (T3 (List Int) (List (List Int)) (List Int)))), .d (enc (r3.1 : (List (List Int))))] _
  obtain ⟨r4, g4, hm⟩ := bnd hm
  refine bv_ret (d := (enc ((L4'.mk r2.1 r3.1 r4.1 r1.1) : (L4' (T3 (List Int) (List (List Int)) (List Int)) (List (List Int)) (List (T4 Int Int Int Int)) Int)))) (ef_l4 (α := (T3 (List Int) (List (List Int)) (List Int))) (β := (List (List Int))) (γ := (List (T4 Int Int Int Int))) (δ := Int) (p := r2.1) (r := r3.1) (s := r4.1) (z := r1.1) (ev_v (i := 5) rfl) (ev_v (i := 6) rfl) (ev_callL (i := 0) (rel := rel__law_kept_readings) rfl rfl (ed_c (ev_v (i := 5) rfl) (ed_c (ev_v (i := 6) rfl) (ed_c (ev_v (i := 3) rfl) (ed_1 (ev_v (i := 4) rfl))))) rfl (fun p => ⟨p, r3.2, r2.1, r3.1, many, r1.1, r4, rfl, g4, rfl, rfl⟩)) (ev_v (i := 4) rfl)) ?_
  have hm := Option.some.inj hm; subst hm
  exact ⟨rfl, ⟨.inr ⟨_, _, _, rfl, rfl, rfl⟩, .inl ⟨rfl, fun _ _ z => by cases z⟩, .inl ⟨rfl, fun _ _ z => by cases z⟩, .inl ⟨rfl, fun _ _ z => by cases z⟩, trivial⟩⟩
end K61

-- K61P33
namespace K61
open PySem PySem.Spec PyProof.Rows L2 RZ Gw
open Gw.Enc (enc)
/-! _law_closed_scene -/
abbrev s__law_closed_scene : Stmt := topS 37
abbrev N__law_closed_scene : List Str := ["draws", "ponds", "book", "waters", "wrong", "readings", "k"]
abbrev P__law_closed_scene : List Str := ["draws"]
theorem sc__law_closed_scene : FnScope N__law_closed_scene P__law_closed_scene (defScope s__law_closed_scene) := ⟨rfl, rfl, rfl, by decide +kernel, rfl, by decide +kernel, by decide +kernel⟩
theorem ok__law_closed_scene {P : Program} {w : World} {K : FR} {mg : Str → Option Value} {base : Heap} (B : Bt mg) (c__law_take : Cal P w K mg base "_law_take" P__law_take 1 rel__law_take) (c__law_leak_book : Cal P w K mg base "_law_leak_book" P__law_leak_book 2 rel__law_leak_book) (c__law_pond_waters : Cal P w K mg base "_law_pond_waters" P__law_pond_waters 1 rel__law_pond_waters) (c__law_drawn_story : Cal P w K mg base "_law_drawn_story" P__law_drawn_story 2 rel__law_drawn_story) (c__law_shuffled : Cal P w K mg base "_law_shuffled" P__law_shuffled 2 rel__law_shuffled) {f : Addr} {fd : FuncData} (F : Fun K "_law_closed_scene" "_law_closed_scene" s__law_closed_scene f fd) : FnOk P w K mg base CX0 3 f fd P__law_closed_scene (spG K P__law_closed_scene.length rel__law_closed_scene) := by
  obtain ⟨f__law_take, fd__law_take, F__law_take, m__law_take, k__law_take, b__law_take⟩ := c__law_take.ex
  obtain ⟨f__law_leak_book, fd__law_leak_book, F__law_leak_book, m__law_leak_book, k__law_leak_book, b__law_leak_book⟩ := c__law_leak_book.ex
  obtain ⟨f__law_pond_waters, fd__law_pond_waters, F__law_pond_waters, m__law_pond_waters, k__law_pond_waters, b__law_pond_waters⟩ := c__law_pond_waters.ex
  obtain ⟨f__law_drawn_story, fd__law_drawn_story, F__law_drawn_story, m__law_drawn_story, k__law_drawn_story, b__law_drawn_story⟩ := c__law_drawn_story.ex
  obtain ⟨f__law_shuffled, fd__law_shuffled, F__law_shuffled, m__law_shuffled, k__law_shuffled, b__law_shuffled⟩ := c__law_shuffled.ex
  refine fn_ok F sc__law_closed_scene fun cdv A outer s H E hr as r as' hrel hlen => ?_
  have nd := sc__law_closed_scene.nd
  have hu := room_u64 hr
  have hu1 := room_u65 hr
  obtain ⟨p, draws, res, rfl, hm, rfl, rfl⟩ := hrel
  refine ⟨_, pss_cons (ps_set (i := 1) nd rfl (by first | exact Or.inl rfl | exact Or.inr rfl) (pe_op op_add (pe_int) (pe_call F__law_take (hr.mono (by decide)) (by rfl) m__law_take k__law_take b__law_take .nil pass0 (pa_cons (pv 0) (pa_cons (pe_int) pa_nil))))) (pss_cons (ps_set (i := 2) nd rfl (by first | exact Or.inl rfl | exact Or.inr rfl) (pe_call F__law_leak_book (hr.mono (by decide)) (by rfl) m__law_leak_book k__law_leak_book b__law_leak_book .nil pass0 (pa_cons (pv 0) (pa_cons (pv 1) (pa_cons (pe_op op_add (pe_int) (pe_call F__law_take (hr.mono (by decide)) (by rfl) m__law_take k__law_take b__law_take .nil pass0 (pa_cons (pv 0) (pa_cons (pe_int) pa_nil)))) (pa_cons (pe_int) pa_nil)))))) (pss_cons (ps_set (i := 2) nd rfl (by first | exact Or.inl rfl | exact Or.inr rfl) (pe_tup (pa_cons (pe_ix (k_ix_tup (K := K)) (pv 2) pe_int (fun _ _ => rfl)) (pa_cons (pe_ix (k_ix_tup (K := K)) (pv 2) pe_int (fun _ _ => rfl)) (pa_cons (pe_tup (pa_cons (pe_int) (pa_cons (pv 1) pa_nil))) pa_nil))))) (pss_cons (ps_set (i := 3) nd rfl (by first | exact Or.inl rfl | exact Or.inr rfl) (pe_ix (k_ix_list (K := K)) (pe_call F__law_pond_waters (hr.mono (by decide)) (by rfl) m__law_pond_waters k__law_pond_waters b__law_pond_waters .nil pass0 (pa_cons (pv 2) (pa_cons (pe_call F__law_drawn_story (hr.mono (by decide)) (by rfl) m__law_drawn_story k__law_drawn_story b__law_drawn_story .nil pass0 (pa_cons (pv 0) (pa_cons (pv 2) (pa_cons (pe_int) pa_nil)))) pa_nil))) (pe_un un_neg (pe_int)) (fun _ _ => rfl))) (pss_cons (ps_set (i := 4) nd rfl (by first | exact Or.inl rfl | exact Or.inr rfl) (pe_call F__law_take (hr.mono (by decide)) (by rfl) m__law_take k__law_take b__law_take .nil pass0 (pa_cons (pv 0) (pa_cons (pv 1) pa_nil)))) (pss_cons (ps_setLc (i := 5) (own := [("k", 6)]) rfl nd rfl rfl (sw_true rfl rfl rfl (by decide +kernel)) (pi_range1 (by rfl) B.b_range (pa_cons (pv 1) pa_nil)) (blkOk_by (own := [("k", 6)]) (N := N__law_closed_scene) (sc := defScope s__law_closed_scene) (by decide +kernel)) (fun _ _ _ _ _ => pg_name (i := 6) nd rfl (by first | exact Or.inl rfl | exact Or.inr rfl)) (fun _ _ _ _ _ => pts_nil) (fun _ _ _ _ _ => pe_tup (pa_cons (pe_op op_sub (pe_callB ((k_cr_lenS (K := K))) (by rfl) B.b_len PySem.boot_len (pa_cons (pe_ix (k_ix_tup (K := K)) (pv 2) pe_int (fun _ _ => rfl)) pa_nil)) (pe_int)) (pa_cons (pv 6) (pa_cons (pe_op op_add (pe_ix (k_ix_tup (K := K)) (pv 3) (pv 6) (fun _ _ => rfl)) (pe_callTy (cr_int1) (by rfl) B.b_int (by decide +kernel) (pa_cons (pe_cmpR (k_op_eqD (K := K) hu) (pv 6) (pv 4) (nomark _)) pa_nil))) (pa_cons (pe_op op_add (pe_ix (k_ix_tup (K := K)) (pv 3) (pv 6) (fun _ _ => rfl)) (pe_callTy (cr_int1) (by rfl) B.b_int (by decide +kernel) (pa_cons (pe_cmpR (k_op_eqD (K := K) hu) (pv 6) (pv 4) (nomark _)) pa_nil))) pa_nil)))))) (pss_one (ps_ret (pe_lst (pa_cons (pv 2) (pa_cons (pe_callTy ((k_cr_tupS (K := K))) (by rfl) B.b_tuple (by decide +kernel) (pa_cons (pe_call F__law_shuffled (hr.mono (by decide)) (by rfl) m__law_shuffled k__law_shuffled b__law_shuffled .nil pass0 (pa_cons (pv 0) (pa_cons (pv 5) pa_nil))) pa_nil)) pa_nil)))))))))), ?_⟩
  unfold m_law_closed_scene at hm
  show BV K _ [.l (some p) (List.map enc (draws : List Int)), .u, .u, .u, .u, .u, .u] _
  obtain ⟨r1, g1, hm⟩ := bnd hm
  refine bv_set (i := 1) (d := (.int (1 + r1.1))) (ev_add (ev_i) (ev_callL (i := 0) (rel := rel__law_take) rfl rfl (ed_1 (ev_i)) rfl (fun p => ⟨p, draws, 4, r1, rfl, g1, rfl, rfl⟩))) ?_
  show BV K _ [.l (some p) (List.map enc (r1.2 : List Int)), .d (.int (1 + r1.1)), .u, .u, .u, .u, .u] _
  obtain ⟨r2, g2, hm⟩ := bnd hm
  obtain ⟨r3, g3, hm⟩ := bnd hm
  refine bv_set (i := 2) (d := (enc (r3.1 : (T3 (List Int) (List (List Int)) (List Int))))) (ev_callL (i := 0) (rel := rel__law_leak_book) rfl rfl (ed_c (ev_v (i := 1) rfl) (ed_c (ev_add (ev_i) (ev_callL (i := 0) (rel := rel__law_take) rfl rfl (ed_1 (ev_i)) rfl (fun p => ⟨p, r1.2, 2, r2, rfl, g2, rfl, rfl⟩))) (ed_1 (ev_i)))) rfl (fun p => ⟨p, r2.2, (1 + r1.1), (1 + r2.1), 1, r3, rfl, g3, rfl, rfl⟩)) ?_
  show BV K _ [.l (some p) (List.map enc (r3.2 : List Int)), .d (.int (1 + r1.1)), .d (enc (r3.1 : (T3 (List Int) (List (List Int)) (List Int)))), .u, .u, .u, .u] _
  obtain ⟨v4, g4, hm⟩ := bnd hm
  refine bv_set (i := 2) (d := (enc (v4 : (T3 (List Int) (List (List Int)) (List Int))))) (EV.to (α := (T3 (List Int) (List (List Int)) (List Int))) (a := (T3.mk r3.1.a r3.1.b ([0, (1 + r1.1)] : List Int))) (ev_t3 (α := (List Int)) (β := (List (List Int))) (γ := (List Int)) (p := r3.1.a) (r := r3.1.b) (s := ([0, (1 + r1.1)] : List Int)) (ev_3a (p := r3.1) (ev_v (i := 2) rfl)) (ev_3b (p := r3.1) (ev_v (i := 2) rfl)) (ev_seq (l := ([0, (1 + r1.1)] : List Int)) (ed_c (ev_i) (ed_1 (ev_v (i := 1) rfl))) (by show 2 ≤ LIM; decide))) (Option.some.inj g4)) ?_
  show BV K _ [.l (some p) (List.map enc (r3.2 : List Int)), .d (.int (1 + r1.1)), .d (enc (v4 : (T3 (List Int) (List (List Int)) (List Int)))), .u, .u, .u, .u] _
  obtain ⟨r5, g5, hm⟩ := bnd hm
  obtain ⟨v6, g6, hm⟩ := bnd hm
  obtain ⟨v7, g7, hm⟩ := bnd hm
  refine bv_set (i := 3) (d := (enc (v7 : (List Int)))) (ev_atL (l := v6) (EF.dat (ef_call (rel := rel__law_pond_waters) rfl (ed_c (ev_v (i := 2) rfl) (ed_1 (ev_callL (i := 0) (rel := rel__law_drawn_story) rfl rfl (ed_c (ev_v (i := 2) rfl) (ed_1 (ev_i))) rfl (fun p => ⟨p, r3.2, v4, 1, r5, rfl, g5, rfl, rfl⟩)))) ⟨v4, r5.1, v6, rfl, g6, rfl, rfl⟩)) (ev_neg (ev_i)) g7) ?_
  show BV K _ [.l (some p) (List.map enc (r5.2 : List Int)), .d (.int (1 + r1.1)), .d (enc (v4 : (T3 (List Int) (List (List Int)) (List Int)))), .d (enc (v7 : (List Int))), .u, .u, .u] _
  obtain ⟨r8, g8, hm⟩ := bnd hm
  refine bv_set (i := 4) (d := (.int r8.1)) (ev_callL (i := 0) (rel := rel__law_take) rfl rfl (ed_1 (ev_v (i := 1) rfl)) rfl (fun p => ⟨p, r5.2, (1 + r1.1), r8, rfl, g8, rfl, rfl⟩)) ?_
  show BV K _ [.l (some p) (List.map enc (r8.2 : List Int)), .d (.int (1 + r1.1)), .d (enc (v4 : (T3 (List Int) (List (List Int)) (List Int)))), .d (enc (v7 : (List Int))), .d (.int r8.1), .u, .u] _
  obtain ⟨v9, g9, hm⟩ := bnd hm
  obtain ⟨v13, g13, hm⟩ := bnd hm
  refine bv_set (i := 5) (d := (enc ((Ls.mk v13) : (Ls (T4 Int Int Int Int))))) (EF.dat (ef_mapO (env1 := [.l (some p) (List.map enc (r8.2 : List Int)), .d (.int (1 + r1.1)), .d (enc (v4 : (T3 (List Int) (List (List Int)) (List Int)))), .d (enc (v7 : (List Int))), .d (.int r8.1), .u, .u]) (xs := v9) [.l (some p) (List.map enc (r8.2 : List Int)), .d (.int (1 + r1.1)), .d (enc (v4 : (T3 (List Int) (List (List Int)) (List Int)))), .d (enc (v7 : (List Int))), .d (.int r8.1), .u, .u] (ei_R1 (ed_1 (ev_v (i := 1) rfl)) g9) ⟨.inr rfl, .inr rfl, .inr rfl, .inr rfl, .inr rfl, .inl rfl, .inl rfl, trivial⟩ rfl g13 (fun x10 y14 hm => by unfold m_law_closed_scene_c1 at hm; obtain ⟨v11, g11, hm⟩ := bnd hm; obtain ⟨v12, g12, hm⟩ := bnd hm; have hm := Option.some.inj hm; subst hm; exact ⟨_, _, _, eg_n 6, (by decide), ev_t4 (α := Int) (β := Int) (γ := Int) (δ := Int) (p := (((v4.b).length : Int) - 1)) (r := x10) (s := (v11 + (if (decide ((x10 : Int) = r8.1)) then (1 : Int) else 0))) (z := (v12 + (if (decide ((x10 : Int) = r8.1)) then (1 : Int) else 0))) (ev_sub (ev_len (l := v4.b) (ev_3b (p := v4) (ev_v (i := 2) rfl))) (ev_i)) (ev_v (i := 6) rfl) (ev_add (EV.ofI (ev_at (l := v7) (ev_v (i := 3) rfl) (ev_v (i := 6) rfl) g11)) (ev_intB (ed_1 (ev_eq (α := Int) (x := x10) (y := r8.1) (ev_v (i := 6) rfl) (ev_v (i := 4) rfl))))) (ev_add (EV.ofI (ev_at (l := v7) (ev_v (i := 3) rfl) (ev_v (i := 6) rfl) g12)) (ev_intB (ed_1 (ev_eq (α := Int) (x := x10) (y := r8.1) (ev_v (i := 6) rfl) (ev_v (i := 4) rfl))))), ⟨.inr rfl, .inr rfl, .inr rfl, .inr rfl, .inr rfl, .inl rfl, .inl rfl, trivial⟩⟩))) ?_
  show BV K _ [.l (some p) (List.map enc (r8.2 : List Int)), .d (.int (1 + r1.1)), .d (enc (v4 : (T3 (List Int) (List (List Int)) (List Int)))), .d (enc (v7 : (List Int))), .d (.int r8.1), .d (enc ((Ls.mk v13) : (Ls (T4 Int Int Int Int)))), .u] _
  obtain ⟨r15, g15, hm⟩ := bnd hm
  refine bv_ret (d := (enc ((L2'.mk v4 r15.1) : (L2' (T3 (List Int) (List (List Int)) (List Int)) (List (T4 Int Int Int Int)))))) (ef_l2 (α := (T3 (List Int) (List (List Int)) (List Int))) (β := (List (T4 Int Int Int Int))) (p := v4) (r := r15.1) (ev_v (i := 2) rfl) (ev_tupF (ef_callL (i := 0) (rel := rel__law_shuffled) rfl rfl (ed_1 (ev_v (i := 5) rfl)) rfl (fun p => ⟨p, r8.2, (Ls.mk v13), r15, rfl, g15, rfl, rfl⟩)))) ?_
  have hm := Option.some.inj hm; subst hm
  exact ⟨rfl, ⟨.inr ⟨_, _, _, rfl, rfl, rfl⟩, trivial⟩⟩
end K61

-- K61P34
namespace K61
open PySem PySem.Spec PyProof.Rows L2 RZ Gw
open Gw.Enc (enc)
/-! _law_others -/
abbrev s__law_others : Stmt := topS 38
abbrev N__law_others : List Str := ["row", "gone", "k"]
abbrev P__law_others : List Str := ["row", "gone"]
theorem sc__law_others : FnScope N__law_others P__law_others (defScope s__law_others) := ⟨rfl, rfl, rfl, by decide +kernel, rfl, by decide +kernel, by decide +kernel⟩
theorem ok__law_others {P : Program} {w : World} {K : FR} {mg : Str → Option Value} {base : Heap} (B : Bt mg) {f : Addr} {fd : FuncData} (F : Fun K "_law_others" "_law_others" s__law_others f fd) : FnOk P w K mg base CX0 1 f fd P__law_others (spG K P__law_others.length rel__law_others) := by
  refine fn_ok F sc__law_others fun cdv A outer s H E hr as r as' hrel hlen => ?_
  have nd := sc__law_others.nd
  have hu := room_u64 hr
  have hu1 := room_u65 hr
  obtain ⟨row, gone, res, rfl, hm, rfl, rfl⟩ := hrel
  refine ⟨_, pss_one (ps_ret (pe_callTy ((k_cr_tupS (K := K))) (by rfl) B.b_tuple (by decide +kernel) (pa_cons (pe_lc (own := [("k", 2)]) rfl nd (pi_range1 (by rfl) B.b_range (pa_cons (pe_callB ((k_cr_lenS (K := K))) (by rfl) B.b_len PySem.boot_len (pa_cons (pv 0) pa_nil)) pa_nil)) (blkOk_by (own := [("k", 2)]) (N := N__law_others) (sc := defScope s__law_others) (by decide +kernel)) (fun _ _ _ _ _ => pg_name (i := 2) nd rfl (by first | exact Or.inl rfl | exact Or.inr rfl)) (fun _ _ _ _ _ => pts_one (pt_cmpR ((k_op_notIn_seq (K := K))) (pv 2) (pv 1) (by rfl))) (fun _ _ _ _ _ => pe_ix (k_ix_tup (K := K)) (pv 0) (pv 2) (fun _ _ => rfl))) pa_nil))), ?_⟩
  unfold m_law_others at hm
  show BV K _ [.d (enc (row : (List (T4 Int Int Int Int)))), .d (enc (gone : (List Int))), .u] _
  obtain ⟨v1, g1, hm⟩ := bnd hm
  obtain ⟨v4, g4, hm⟩ := bnd hm
  refine bv_ret (d := (enc (v4 : (List (T4 Int Int Int Int))))) (ev_tupF (ef_filO (env1 := [.d (enc (row : (List (T4 Int Int Int Int)))), .d (enc (gone : (List Int))), .u]) (xs := v1) [.d (enc (row : (List (T4 Int Int Int Int)))), .d (enc (gone : (List Int))), .u] (ei_R1 (ed_1 (ev_len (l := row) (ev_v (i := 0) rfl))) g1) ⟨.inr rfl, .inr rfl, .inl rfl, trivial⟩ rfl g4 (fun x2 y5 hm => by unfold m_law_others_c1 at hm; by_cases hb : (!decide (x2 ∈ gone)) = true; (have hm := cond_t hb hm; obtain ⟨v3, g3, hm⟩ := bnd hm; have hm := Option.some.inj hm; subst hm; exact ⟨_, _, true, _, eg_n 2, (by decide), (et_cmp (ev_ninT (a := x2) (l := gone) (ev_v (i := 2) rfl) (ev_v (i := 1) rfl))).is hb, .inl ⟨rfl, _, _, rfl, ev_at (l := row) (ev_v (i := 0) rfl) (ev_v (i := 2) rfl) g3, ⟨.inr rfl, .inr rfl, .inl rfl, trivial⟩⟩⟩); (rw [Bool.not_eq_true] at hb; have hm := cond_f hb hm; have hm := Option.some.inj hm; subst hm; exact ⟨_, _, false, _, eg_n 2, (by decide), (et_cmp (ev_ninT (a := x2) (l := gone) (ev_v (i := 2) rfl) (ev_v (i := 1) rfl))).is hb, .inr ⟨rfl, rfl, ⟨.inr rfl, .inr rfl, .inl rfl, trivial⟩⟩⟩)))) ?_
  have hm := Option.some.inj hm; subst hm
  exact ⟨rfl, ⟨.inl ⟨rfl, fun _ _ z => by cases z⟩, .inl ⟨rfl, fun _ _ z => by cases z⟩, trivial⟩⟩
end K61

-- K61P35
namespace K61
open PySem PySem.Spec PyProof.Rows L2 RZ Gw
open Gw.Enc (enc)
/-! _law_fewest_go -/
abbrev s__law_fewest_go : Stmt := topS 39
abbrev N__law_fewest_go : List Str := ["book", "readings", "most", "part"]
abbrev P__law_fewest_go : List Str := ["book", "readings", "most"]
theorem sc__law_fewest_go : FnScope N__law_fewest_go P__law_fewest_go (defScope s__law_fewest_go) := ⟨rfl, rfl, rfl, by decide +kernel, rfl, by decide +kernel, by decide +kernel⟩
theorem ok__law_fewest_go {P : Program} {w : World} {K : FR} {mg : Str → Option Value} {base : Heap} (B : Bt mg) (c__law_index_sets : Cal P w K mg base "_law_index_sets" P__law_index_sets 1 rel__law_index_sets) (c__law_can_fit : Cal P w K mg base "_law_can_fit" P__law_can_fit 3 rel__law_can_fit) (c__law_others : Cal P w K mg base "_law_others" P__law_others 1 rel__law_others) {f : Addr} {fd : FuncData} (F : Fun K "_law_fewest_go" "_law_fewest_go" s__law_fewest_go f fd) : FnOk P w K mg base CX0 4 f fd P__law_fewest_go (spG K P__law_fewest_go.length rel__law_fewest_go) := by
  obtain ⟨f__law_index_sets, fd__law_index_sets, F__law_index_sets, m__law_index_sets, k__law_index_sets, b__law_index_sets⟩ := c__law_index_sets.ex
  obtain ⟨f__law_can_fit, fd__law_can_fit, F__law_can_fit, m__law_can_fit, k__law_can_fit, b__law_can_fit⟩ := c__law_can_fit.ex
  obtain ⟨f__law_others, fd__law_others, F__law_others, m__law_others, k__law_others, b__law_others⟩ := c__law_others.ex
  refine fn_ok F sc__law_fewest_go fun cdv A outer s H E hr as r as' hrel hlen => ?_
  have nd := sc__law_fewest_go.nd
  have hu := room_u64 hr
  have hu1 := room_u65 hr
  obtain ⟨book, readings, most, res, rfl, hm, rfl, rfl⟩ := hrel
  refine ⟨_, pss_cons (ps_for PassesOwn.never rfl (k_pi_list (K := K) (pe_call F__law_index_sets (hr.mono (by decide)) (by rfl) m__law_index_sets k__law_index_sets b__law_index_sets .nil pass0 (pa_cons (pe_callB ((k_cr_lenS (K := K))) (by rfl) B.b_len PySem.boot_len (pa_cons (pv 1) pa_nil)) pa_nil))) (pg_name (i := 3) nd rfl (by first | exact Or.inl rfl | exact Or.inr rfl)) (pss_cons (ps_if (pt_cmpR (op_gt) (pe_callB ((k_cr_lenS (K := K))) (by rfl) B.b_len PySem.boot_len (pa_cons (pv 3) pa_nil)) (pv 2) (nomark _)) (pss_one ps_break) pss_nil) (pss_one (ps_if (pt_val (pe_call F__law_can_fit (hr.mono (by decide)) (by rfl) m__law_can_fit k__law_can_fit b__law_can_fit .nil pass0 (pa_cons (pv 0) (pa_cons (pe_call F__law_others (hr.mono (by decide)) (by rfl) m__law_others k__law_others b__law_others .nil pass0 (pa_cons (pv 1) (pa_cons (pv 3) pa_nil))) pa_nil)))) (pss_one (ps_ret (pe_tup (pa_cons (pe_callB ((k_cr_lenS (K := K))) (by rfl) B.b_len PySem.boot_len (pa_cons (pv 3) pa_nil)) (pa_cons (pv 3) pa_nil))))) (pss_nil))))) (pss_one (ps_ret (pe_non))), ?_⟩
  unfold m_law_fewest_go at hm
  show BV K _ [.d (enc (book : (T3 (List Int) (List (List Int)) (List Int)))), .d (enc (readings : (List (T4 Int Int Int Int)))), .d (.int most), .u] _
  obtain ⟨v1, g1, hm⟩ := bnd hm
  obtain ⟨c7, gc7, hm⟩ := bnd hm
  refine bv_forq (env1 := [.d (enc (book : (T3 (List Int) (List (List Int)) (List Int)))), .d (enc (readings : (List (T4 Int Int Int Int)))), .d (.int most), .u]) (xs := v1) (fun (s : Unit) => [.d (enc (book : (T3 (List Int) (List (List Int)) (List Int)))), .d (enc (readings : (List (T4 Int Int Int Int)))), .d (.int most), .u]) (fun (ρ : (Option (Int × (List Int)))) r e => r = .d (enc (ρ : (Option (Int × (List Int))))) ∧ EndOk [.d (enc (book : (T3 (List Int) (List (List Int)) (List Int)))), .d (enc (readings : (List (T4 Int Int Int Int)))), .d (.int most)] [.u, .u, .u] e) (ei_F (ef_call (rel := rel__law_index_sets) rfl (ed_1 (ev_len (l := readings) (ev_v (i := 1) rfl))) ⟨((readings).length : Int), v1, rfl, g1, rfl, rfl⟩)) ⟨.inr rfl, .inr rfl, .inr rfl, .inl rfl, trivial⟩ gc7 (fun s2 x3 c hm => ?_) (fun ρ r e hc hρ => ?_) (fun s6 hc => ?_)
  · refine ⟨_, _, eg_n 3, ?_⟩
    show BV K _ [.d (enc (book : (T3 (List Int) (List (List Int)) (List Int)))), .d (enc (readings : (List (T4 Int Int Int Int)))), .d (.int most), .d (enc (x3 : (List Int)))] _
    unfold m_law_fewest_go_b1 at hm
    refine bv_ifx (env1 := [.d (enc (book : (T3 (List Int) (List (List Int)) (List Int)))), .d (enc (readings : (List (T4 Int Int Int Int)))), .d (.int most), .d (enc (x3 : (List Int)))]) (et_cmp (ev_gt (ev_len (l := x3) (ev_v (i := 3) rfl)) (ev_v (i := 2) rfl))) (fun hb => ?_) (fun hb => ?_)
    · have hm := cond_t hb hm
      refine bv_brk ?_
      have hm := Option.some.inj hm; subst hm
      refine ⟨_, rfl, ?_⟩
      show Le [.d (enc (book : (T3 (List Int) (List (List Int)) (List Int)))), .d (enc (readings : (List (T4 Int Int Int Int)))), .d (.int most), .d (enc (x3 : (List Int)))] [.d (enc (book : (T3 (List Int) (List (List Int)) (List Int)))), .d (enc (readings : (List (T4 Int Int Int Int)))), .d (.int most), .u]
      exact ⟨.inr rfl, .inr rfl, .inr rfl, .inl rfl, trivial⟩
    have hm := cond_f hb hm
    obtain ⟨v4, g4, hm⟩ := bnd hm
    obtain ⟨v5, g5, hm⟩ := bnd hm
    refine bv_if (env1 := [.d (enc (book : (T3 (List Int) (List (List Int)) (List Int)))), .d (enc (readings : (List (T4 Int Int Int Int)))), .d (.int most), .d (enc (x3 : (List Int)))]) (et_val (ev_call (rel := rel__law_can_fit) rfl (ed_c (ev_v (i := 0) rfl) (ed_1 (ev_call (rel := rel__law_others) rfl (ed_c (ev_v (i := 1) rfl) (ed_1 (ev_v (i := 3) rfl))) ⟨readings, x3, v4, rfl, g4, rfl, rfl⟩))) ⟨book, v4, v5, rfl, g5, rfl, rfl⟩)) (fun hb => ?_) (fun hb => ?_)
    · have hm := cond_t hb hm
      refine bv_ret (d := (enc ((some (((x3).length : Int), x3)) : (Option (Int × (List Int)))))) (ev_t2 (α := Int) (β := (List Int)) (p := ((x3).length : Int)) (r := x3) (ev_len (l := x3) (ev_v (i := 3) rfl)) (ev_v (i := 3) rfl)) ?_
      have hm := Option.some.inj hm; subst hm
      exact ⟨_, rfl, rfl, ⟨.inl ⟨rfl, fun _ _ z => by cases z⟩, .inl ⟨rfl, fun _ _ z => by cases z⟩, .inl ⟨rfl, fun _ _ z => by cases z⟩, trivial⟩⟩
    · have hm := cond_f hb hm
      refine bv_nil ?_
      have hm := Option.some.inj hm; subst hm
      refine ⟨_, rfl, ?_⟩
      show Le [.d (enc (book : (T3 (List Int) (List (List Int)) (List Int)))), .d (enc (readings : (List (T4 Int Int Int Int)))), .d (.int most), .d (enc (x3 : (List Int)))] [.d (enc (book : (T3 (List Int) (List (List Int)) (List Int)))), .d (enc (readings : (List (T4 Int Int Int Int)))), .d (.int most), .u]
      exact ⟨.inr rfl, .inr rfl, .inr rfl, .inl rfl, trivial⟩
  · subst hc
    have hm := Option.some.inj hm; subst hm
    exact hρ
  subst hc
  have hm := hm
  show BV K _ [.d (enc (book : (T3 (List Int) (List (List Int)) (List Int)))), .d (enc (readings : (List (T4 Int Int Int Int)))), .d (.int most), .u] _
  refine bv_ret (d := (enc ((none : (Option (Int × (List Int)))) : (Option (Int × (List Int)))))) (ev_n) ?_
  have hm := Option.some.inj hm; subst hm
  exact ⟨rfl, ⟨.inl ⟨rfl, fun _ _ z => by cases z⟩, .inl ⟨rfl, fun _ _ z => by cases z⟩, .inl ⟨rfl, fun _ _ z => by cases z⟩, trivial⟩⟩
end K61

-- K61P36
namespace K61
open PySem PySem.Spec PyProof.Rows L2 RZ Gw
open Gw.Enc (enc)
/-! law -/
abbrev s_law : Stmt := topS 40
abbrev N_law : List Str := ["script", "draws", "turn", "place", "readings", "k", "book", "story", "scale"]
abbrev P_law : List Str := ["script"]
theorem sc_law : FnScope N_law P_law (defScope s_law) := ⟨rfl, rfl, rfl, by decide +kernel, rfl, by decide +kernel, by decide +kernel⟩
theorem ok_law {P : Program} {w : World} {K : FR} {mg : Str → Option Value} {base : Heap} (B : Bt mg) (c__law_draws : Cal P w K mg base "_law_draws" P__law_draws 1 rel__law_draws) (c__law_leak_scene : Cal P w K mg base "_law_leak_scene" P__law_leak_scene 4 rel__law_leak_scene) (c__law_take : Cal P w K mg base "_law_take" P__law_take 1 rel__law_take) (c__law_moved_reading : Cal P w K mg base "_law_moved_reading" P__law_moved_reading 3 rel__law_moved_reading) (c__law_against : Cal P w K mg base "_law_against" P__law_against 3 rel__law_against) (c__law_same : Cal P w K mg base "_law_same" P__law_same 10 rel__law_same) (c_fewest_to_go : Cal P w K mg base "fewest_to_go" P_fewest_to_go 5 rel_fewest_to_go) (c__law_fewest_go : Cal P w K mg base "_law_fewest_go" P__law_fewest_go 4 rel__law_fewest_go) (c__law_closed_scene : Cal P w K mg base "_law_closed_scene" P__law_closed_scene 3 rel__law_closed_scene) {f : Addr} {fd : FuncData} (F : Fun K "law" "law" s_law f fd) : FnOk P w K mg base CX0 11 f fd P_law (spG K P_law.length rel_law) := by
  obtain ⟨f__law_draws, fd__law_draws, F__law_draws, m__law_draws, k__law_draws, b__law_draws⟩ := c__law_draws.ex
  obtain ⟨f__law_leak_scene, fd__law_leak_scene, F__law_leak_scene, m__law_leak_scene, k__law_leak_scene, b__law_leak_scene⟩ := c__law_leak_scene.ex
  obtain ⟨f__law_take, fd__law_take, F__law_take, m__law_take, k__law_take, b__law_take⟩ := c__law_take.ex
  obtain ⟨f__law_moved_reading, fd__law_moved_reading, F__law_moved_reading, m__law_moved_reading, k__law_moved_reading, b__law_moved_reading⟩ := c__law_moved_reading.ex
  obtain ⟨f__law_against, fd__law_against, F__law_against, m__law_against, k__law_against, b__law_against⟩ := c__law_against.ex
  obtain ⟨f__law_same, fd__law_same, F__law_same, m__law_same, k__law_same, b__law_same⟩ := c__law_same.ex
  obtain ⟨f_fewest_to_go, fd_fewest_to_go, F_fewest_to_go, m_fewest_to_go, k_fewest_to_go, b_fewest_to_go⟩ := c_fewest_to_go.ex
  obtain ⟨f__law_fewest_go, fd__law_fewest_go, F__law_fewest_go, m__law_fewest_go, k__law_fewest_go, b__law_fewest_go⟩ := c__law_fewest_go.ex
  obtain ⟨f__law_closed_scene, fd__law_closed_scene, F__law_closed_scene, m__law_closed_scene, k__law_closed_scene, b__law_closed_scene⟩ := c__law_closed_scene.ex
  refine fn_ok F sc_law fun cdv A outer s H E hr as r as' hrel hlen => ?_
  have nd := sc_law.nd
  have hu := room_u64 hr
  have hu1 := room_u65 hr
  obtain ⟨script, res, rfl, hm, rfl, rfl⟩ := hrel
  refine ⟨_, pss_cons (ps_set (i := 1) nd rfl (by first | exact Or.inl rfl | exact Or.inr rfl) (pe_call F__law_draws (hr.mono (by decide)) (by rfl) m__law_draws k__law_draws b__law_draws .nil pass0 (pa_cons (pv 0) (pa_cons (pe_int) pa_nil)))) (pss_cons (ps_for PassesOwn.never rfl (pi_range1 (by rfl) B.b_range (pa_cons (pe_int) pa_nil)) (pg_name (i := 2) nd rfl (by first | exact Or.inl rfl | exact Or.inr rfl)) (pss_cons (ps_asg (pe_call F__law_leak_scene (hr.mono (by decide)) (by rfl) m__law_leak_scene k__law_leak_scene b__law_leak_scene .nil pass0 (pa_cons (pv 1) (pa_cons (pe_op op_add (pe_int) (pe_call F__law_take (hr.mono (by decide)) (by rfl) m__law_take k__law_take b__law_take .nil pass0 (pa_cons (pv 1) (pa_cons (pe_int) pa_nil)))) (pa_cons (pe_op op_add (pe_int) (pe_call F__law_take (hr.mono (by decide)) (by rfl) m__law_take k__law_take b__law_take .nil pass0 (pa_cons (pv 1) (pa_cons (pe_int) pa_nil)))) (pa_cons (pe_int) pa_nil))))) (k_pg_lst (K := K) (n := 4) rfl (pgs_cons (pg_name (i := 6) nd rfl (by first | exact Or.inl rfl | exact Or.inr rfl)) (pgs_cons (pg_name (i := 7) nd rfl (by first | exact Or.inl rfl | exact Or.inr rfl)) (pgs_cons (pg_name (i := 4) nd rfl (by first | exact Or.inl rfl | exact Or.inr rfl)) (pgs_cons (pg_name (i := 8) nd rfl (by first | exact Or.inl rfl | exact Or.inr rfl)) (pgs_nil))))))) (pss_cons (ps_set (i := 4) nd rfl (by first | exact Or.inl rfl | exact Or.inr rfl) (pe_slice (k_sl_tupA (K := K)) (pv 4) (po_none) (po_some (pe_op op_add (pe_int) (pe_call F__law_take (hr.mono (by decide)) (by rfl) m__law_take k__law_take b__law_take .nil pass0 (pa_cons (pv 1) (pa_cons (pe_int) pa_nil))))))) (pss_cons (ps_for PassesOwn.never rfl (pi_range1 (by rfl) B.b_range (pa_cons (pv 2) pa_nil)) (pg_name (i := 5) nd rfl (by first | exact Or.inl rfl | exact Or.inr rfl)) (pss_one (ps_set (i := 4) nd rfl (by first | exact Or.inl rfl | exact Or.inr rfl) (pe_call F__law_moved_reading (hr.mono (by decide)) (by rfl) m__law_moved_reading k__law_moved_reading b__law_moved_reading .nil pass0 (pa_cons (pv 1) (pa_cons (pv 4) (pa_cons (pv 8) pa_nil))))))) (pss_cons (ps_if (pt_cmpR (k_op_eqD (K := K) hu) (pv 2) (pe_int) (nomark _)) (pss_cons (ps_set (i := 3) nd rfl (by first | exact Or.inl rfl | exact Or.inr rfl) (pe_call F__law_take (hr.mono (by decide)) (by rfl) m__law_take k__law_take b__law_take .nil pass0 (pa_cons (pv 1) (pa_cons (pe_op op_add (pe_callB ((k_cr_lenS (K := K))) (by rfl) B.b_len PySem.boot_len (pa_cons (pv 4) pa_nil)) (pe_int)) pa_nil)))) (pss_one (ps_set (i := 4) nd rfl (by first | exact Or.inl rfl | exact Or.inr rfl) (pe_op (k_op_catA (K := K)) (pe_op (k_op_catA (K := K)) (pe_slice (k_sl_tupA (K := K)) (pv 4) (po_none) (po_some (pv 3))) (pe_tup (pa_cons (pe_call F__law_against (hr.mono (by decide)) (by rfl) m__law_against k__law_against b__law_against .nil pass0 (pa_cons (pv 1) (pa_cons (pv 4) (pa_cons (pv 8) pa_nil)))) pa_nil))) (pe_slice (k_sl_tupA (K := K)) (pv 4) (po_some (pv 3)) (po_none)))))) (pss_nil)) (pss_one (ps_if (pt_not (pt_val (pe_call F__law_same (hr.mono (by decide)) (by rfl) m__law_same k__law_same b__law_same .nil pass0 (pa_cons (pe_call F_fewest_to_go (hr.mono (by decide)) (by rfl) m_fewest_to_go k_fewest_to_go b_fewest_to_go .nil pass0 (pa_cons (pv 6) (pa_cons (pv 4) pa_nil))) (pa_cons (pe_call F__law_fewest_go (hr.mono (by decide)) (by rfl) m__law_fewest_go k__law_fewest_go b__law_fewest_go .nil pass0 (pa_cons (pv 6) (pa_cons (pv 4) (pa_cons (pe_int) pa_nil)))) pa_nil))))) (pss_one (ps_ret (pe_bl))) (pss_nil)))))))) (pss_cons (ps_asg (pe_call F__law_leak_scene (hr.mono (by decide)) (by rfl) m__law_leak_scene k__law_leak_scene b__law_leak_scene .nil pass0 (pa_cons (pv 1) (pa_cons (pe_op op_add (pe_int) (pe_call F__law_take (hr.mono (by decide)) (by rfl) m__law_take k__law_take b__law_take .nil pass0 (pa_cons (pv 1) (pa_cons (pe_int) pa_nil)))) (pa_cons (pe_op op_add (pe_int) (pe_call F__law_take (hr.mono (by decide)) (by rfl) m__law_take k__law_take b__law_take .nil pass0 (pa_cons (pv 1) (pa_cons (pe_int) pa_nil)))) (pa_cons (pe_int) pa_nil))))) (k_pg_lst (K := K) (n := 4) rfl (pgs_cons (pg_name (i := 6) nd rfl (by first | exact Or.inl rfl | exact Or.inr rfl)) (pgs_cons (pg_name (i := 7) nd rfl (by first | exact Or.inl rfl | exact Or.inr rfl)) (pgs_cons (pg_name (i := 4) nd rfl (by first | exact Or.inl rfl | exact Or.inr rfl)) (pgs_cons (pg_name (i := 8) nd rfl (by first | exact Or.inl rfl | exact Or.inr rfl)) (pgs_nil))))))) (pss_cons (ps_if (pt_not (pt_val (pe_call F__law_same (hr.mono (by decide)) (by rfl) m__law_same k__law_same b__law_same .nil pass0 (pa_cons (pe_call F_fewest_to_go (hr.mono (by decide)) (by rfl) m_fewest_to_go k_fewest_to_go b_fewest_to_go .nil pass0 (pa_cons (pv 6) (pa_cons (pv 4) pa_nil))) (pa_cons (pe_tup (pa_cons (pe_int) (pa_cons (pe_tup (pa_nil)) pa_nil))) pa_nil))))) (pss_one (ps_ret (pe_bl))) pss_nil) (pss_cons (ps_set (i := 3) nd rfl (by first | exact Or.inl rfl | exact Or.inr rfl) (pe_call F__law_take (hr.mono (by decide)) (by rfl) m__law_take k__law_take b__law_take .nil pass0 (pa_cons (pv 1) (pa_cons (pe_int) pa_nil)))) (pss_cons (ps_set (i := 4) nd rfl (by first | exact Or.inl rfl | exact Or.inr rfl) (pe_op (k_op_catA (K := K)) (pe_op (k_op_catA (K := K)) (pe_slice (k_sl_tupA (K := K)) (pv 4) (po_none) (po_some (pv 3))) (pe_tup (pa_cons (pe_call F__law_against (hr.mono (by decide)) (by rfl) m__law_against k__law_against b__law_against .nil pass0 (pa_cons (pv 1) (pa_cons (pv 4) (pa_cons (pv 8) pa_nil)))) pa_nil))) (pe_slice (k_sl_tupA (K := K)) (pv 4) (po_some (pv 3)) (po_none)))) (pss_cons (ps_if (pt_not (pt_val (pe_call F__law_same (hr.mono (by decide)) (by rfl) m__law_same k__law_same b__law_same .nil pass0 (pa_cons (pe_call F_fewest_to_go (hr.mono (by decide)) (by rfl) m_fewest_to_go k_fewest_to_go b_fewest_to_go .nil pass0 (pa_cons (pv 6) (pa_cons (pv 4) pa_nil))) (pa_cons (pe_call F__law_fewest_go (hr.mono (by decide)) (by rfl) m__law_fewest_go k__law_fewest_go b__law_fewest_go .nil pass0 (pa_cons (pv 6) (pa_cons (pv 4) (pa_cons (pe_int) pa_nil)))) pa_nil))))) (pss_one (ps_ret (pe_bl))) pss_nil) (pss_cons (ps_asg (pe_call F__law_closed_scene (hr.mono (by decide)) (by rfl) m__law_closed_scene k__law_closed_scene b__law_closed_scene .nil pass0 (pa_cons (pv 1) pa_nil)) (k_pg_lst (K := K) (n := 2) rfl (pgs_cons (pg_name (i := 6) nd rfl (by first | exact Or.inl rfl | exact Or.inr rfl)) (pgs_cons (pg_name (i := 4) nd rfl (by first | exact Or.inl rfl | exact Or.inr rfl)) (pgs_nil))))) (pss_one (ps_ret (pe_call F__law_same (hr.mono (by decide)) (by rfl) m__law_same k__law_same b__law_same .nil pass0 (pa_cons (pe_call F_fewest_to_go (hr.mono (by decide)) (by rfl) m_fewest_to_go k_fewest_to_go b_fewest_to_go .nil pass0 (pa_cons (pv 6) (pa_cons (pv 4) pa_nil))) (pa_cons (pe_call F__law_fewest_go (hr.mono (by decide)) (by rfl) m__law_fewest_go k__law_fewest_go b__law_fewest_go .nil pass0 (pa_cons (pv 6) (pa_cons (pv 4) (pa_cons (pe_int) pa_nil)))) pa_nil)))))))))))), ?_⟩
  unfold m_law at hm
  show BV K _ [.s script, .u, .u, .u, .u, .u, .u, .u, .u] _
  obtain ⟨v1, g1, hm⟩ := bnd hm
  refine bv_setL (i := 1) (ef_callS (i := 0) (rel := rel__law_draws) rfl rfl (ed_1 (ev_i)) ⟨script, 420, v1, rfl, g1, rfl, rfl⟩) ?_
  show BV K _ [.s script, .l none (List.map enc (v1 : List Int)), .u, .u, .u, .u, .u, .u, .u] _
  obtain ⟨v2, g2, hm⟩ := bnd hm
  obtain ⟨c47, gc47, hm⟩ := bnd hm
  refine bv_forq (env1 := [.s script, .l none (List.map enc (v1 : List Int)), .u, .u, .u, .u, .u, .u, .u]) (xs := v2) (fun (s : (List Int)) => [.s script, .l none (List.map enc (s : List Int)), .u, .u, .u, .u, .u, .u, .u]) (fun (ρ : Bool) r e => r = .d (.bool (ρ)) ∧ EndOk [.s script] [.u] e) (ei_R1 (ed_1 (ev_i)) g2) ⟨.inr rfl, .inr rfl, .inl rfl, .inl rfl, .inl rfl, .inl rfl, .inl rfl, .inl rfl, .inl rfl, trivial⟩ gc47 (fun s3 x4 c hm => ?_) (fun ρ r e hc hρ => ?_) (fun s29 hc => ?_)
  · refine ⟨_, _, eg_n 2, ?_⟩
    show BV K _ [.s script, .l none (List.map enc (s3 : List Int)), .d (.int x4), .u, .u, .u, .u, .u, .u] _
    unfold m_law_b2 at hm
    obtain ⟨r5, g5, hm⟩ := bnd hm
    obtain ⟨r6, g6, hm⟩ := bnd hm
    obtain ⟨r7, g7, hm⟩ := bnd hm
    refine bv_tgt (d := (enc (r7.1 : (L4' (T3 (List Int) (List (List Int)) (List Int)) (List (List Int)) (List (T4 Int Int Int Int)) Int)))) (ev_callL (i := 1) (rel := rel__law_leak_scene) rfl rfl (ed_c (ev_add (ev_i) (ev_callL (i := 1) (rel := rel__law_take) rfl rfl (ed_1 (ev_i)) rfl (fun p => ⟨p, s3, 3, r5, rfl, g5, rfl, rfl⟩))) (ed_c (ev_add (ev_i) (ev_callL (i := 1) (rel := rel__law_take) rfl rfl (ed_1 (ev_i)) rfl (fun p => ⟨p, r5.2, 2, r6, rfl, g6, rfl, rfl⟩))) (ed_1 (ev_i)))) rfl (fun p => ⟨p, r6.2, (1 + r5.1), (1 + r6.1), 5, r7, rfl, g7, rfl, rfl⟩)) (eg_q4 (p := r7.1) (egs_cons (eg_n 6) (egs_cons (eg_n 7) (egs_cons (eg_n 4) (egs_cons (eg_n 8) (egs_nil)))))) ?_
    show BV K _ [.s script, .l none (List.map enc (r7.2 : List Int)), .d (.int x4), .u, .d (enc (r7.1.c : (List (T4 Int Int Int Int)))), .u, .d (enc (r7.1.a : (T3 (List Int) (List (List Int)) (List Int)))), .d (enc (r7.1.b : (List (List Int)))), .d (.int r7.1.d)] _
    obtain ⟨r8, g8, hm⟩ := bnd hm
    obtain ⟨v9, g9, hm⟩ := bnd hm
    refine bv_set (i := 4) (d := (enc (v9 : (List (T4 Int Int Int Int))))) (EV.to (α := (List (T4 Int Int Int Int))) (a := (cut r7.1.c none (some (1 + r8.1)))) (ev_sl (l := r7.1.c) (ev_v (i := 4) rfl) (eo_none) (eo_some (ev_add (ev_i) (ev_callL (i := 1) (rel := rel__law_take) rfl rfl (ed_1 (ev_i)) rfl (fun p => ⟨p, r7.2, 5, r8, rfl, g8, rfl, rfl⟩))))) (Option.some.inj g9)) ?_
    show BV K _ [.s script, .l none (List.map enc (r8.2 : List Int)), .d (.int x4), .u, .d (enc (v9 : (List (T4 Int Int Int Int)))), .u, .d (enc (r7.1.a : (T3 (List Int) (List (List Int)) (List Int)))), .d (enc (r7.1.b : (List (List Int)))), .d (.int r7.1.d)] _
    obtain ⟨v10, g10, hm⟩ := bnd hm
    obtain ⟨s14, gs14, hm⟩ := bnd hm
    refine bv_foldq (env1 := [.s script, .l none (List.map enc (r8.2 : List Int)), .d (.int x4), .u, .d (enc (v9 : (List (T4 Int Int Int Int)))), .u, .d (enc (r7.1.a : (T3 (List Int) (List (List Int)) (List Int)))), .d (enc (r7.1.b : (List (List Int)))), .d (.int r7.1.d)]) (xs := v10) (fun (s : (List Int) × (List (T4 Int Int Int Int))) => [.s script, .l none (List.map enc (s.1 : List Int)), .d (.int x4), .u, .d (enc (s.2 : (List (T4 Int Int Int Int)))), .u, .d (enc (r7.1.a : (T3 (List Int) (List (List Int)) (List Int)))), .d (enc (r7.1.b : (List (List Int)))), .d (.int r7.1.d)]) (ei_R1 (ed_1 (ev_v (i := 2) rfl)) g10) ⟨.inr rfl, .inr rfl, .inr rfl, .inl rfl, .inr rfl, .inl rfl, .inr rfl, .inr rfl, .inr rfl, trivial⟩ gs14 (fun s11 x12 s_n hm => ?_) ?_
    · refine ⟨_, _, eg_n 5, ?_⟩
      show BV K _ [.s script, .l none (List.map enc (s11.1 : List Int)), .d (.int x4), .u, .d (enc (s11.2 : (List (T4 Int Int Int Int)))), .d (.int x12), .d (enc (r7.1.a : (T3 (List Int) (List (List Int)) (List Int)))), .d (enc (r7.1.b : (List (List Int)))), .d (.int r7.1.d)] _
      unfold m_law_b1 at hm
      obtain ⟨r13, g13, hm⟩ := bnd hm
      refine bv_set1 (i := 4) (d := (enc (r13.1 : (List (T4 Int Int Int Int))))) (ev_callL (i := 1) (rel := rel__law_moved_reading) rfl rfl (ed_c (ev_v (i := 4) rfl) (ed_1 (ev_v (i := 8) rfl))) rfl (fun p => ⟨p, s11.1, s11.2, r7.1.d, r13, rfl, g13, rfl, rfl⟩)) ?_
      have hm := Option.some.inj hm; subst hm
      show Le [.s script, .l none (List.map enc (r13.2 : List Int)), .d (.int x4), .u, .d (enc (r13.1 : (List (T4 Int Int Int Int)))), .d (.int x12), .d (enc (r7.1.a : (T3 (List Int) (List (List Int)) (List Int)))), .d (enc (r7.1.b : (List (List Int)))), .d (.int r7.1.d)] [.s script, .l none (List.map enc ((r13.2, r13.1).1 : List Int)), .d (.int x4), .u, .d (enc ((r13.2, r13.1).2 : (List (T4 Int Int Int Int)))), .u, .d (enc (r7.1.a : (T3 (List Int) (List (List Int)) (List Int)))), .d (enc (r7.1.b : (List (List Int)))), .d (.int r7.1.d)]
      exact ⟨.inr rfl, .inr rfl, .inr rfl, .inl rfl, .inr rfl, .inl rfl, .inr rfl, .inr rfl, .inr rfl, trivial⟩
    show BV K _ [.s script, .l none (List.map enc (s14.1 : List Int)), .d (.int x4), .u, .d (enc (s14.2 : (List (T4 Int Int Int Int)))), .u, .d (enc (r7.1.a : (T3 (List Int) (List (List Int)) (List Int)))), .d (enc (r7.1.b : (List (List Int)))), .d (.int r7.1.d)] _
    obtain ⟨j20, gj20, hm⟩ := bnd hm
    refine bv_seq (M := fun e => Le e [.s script, .l none (List.map enc (j20.1 : List Int)), .d (.int x4), .u, .d (enc (j20.2 : (List (T4 Int Int Int Int)))), .u, .d (enc (r7.1.a : (T3 (List Int) (List (List Int)) (List Int)))), .d (enc (r7.1.b : (List (List Int)))), .d (.int r7.1.d)]) (bv_if (env1 := [.s script, .l none (List.map enc (s14.1 : List Int)), .d (.int x4), .u, .d (enc (s14.2 : (List (T4 Int Int Int Int)))), .u, .d (enc (r7.1.a : (T3 (List Int) (List (List Int)) (List Int)))), .d (enc (r7.1.b : (List (List Int)))), .d (.int r7.1.d)]) (et_cmp (ev_eq (α := Int) (x := x4) (y := 2) (ev_v (i := 2) rfl) (ev_i))) (fun hb => ?_) (fun hb => ?_)) (fun e he => bv_le he ?_)
    · have hm := cond_t hb gj20
      obtain ⟨r21, g21, hm⟩ := bnd hm
      refine bv_set (i := 3) (d := (.int r21.1)) (ev_callL (i := 1) (rel := rel__law_take) rfl rfl (ed_1 (ev_add (ev_len (l := s14.2) (ev_v (i := 4) rfl)) (ev_i))) rfl (fun p => ⟨p, s14.1, (((s14.2).length : Int) + 1), r21, rfl, g21, rfl, rfl⟩)) ?_
      show BV K _ [.s script, .l none (List.map enc (r21.2 : List Int)), .d (.int x4), .d (.int r21.1), .d (enc (s14.2 : (List (T4 Int Int Int Int)))), .u, .d (enc (r7.1.a : (T3 (List Int) (List (List Int)) (List Int)))), .d (enc (r7.1.b : (List (List Int)))), .d (.int r7.1.d)] _
      obtain ⟨r22, g22, hm⟩ := bnd hm
      obtain ⟨k23, hm⟩ := bndg hm
      obtain ⟨k24, hm⟩ := bndg hm
      obtain ⟨v25, g25, hm⟩ := bnd hm
      refine bv_set1 (i := 4) (d := (enc (v25 : (List (T4 Int Int Int Int))))) (EV.to (α := (List (T4 Int Int Int Int))) (a := (((cut s14.2 none (some r21.1)) ++ ([r22.1] : List (T4 Int Int Int Int))) ++ (cut s14.2 (some r21.1) none))) (ev_cat k24 (ev_cat k23 (ev_sl (l := s14.2) (ev_v (i := 4) rfl) (eo_none) (eo_some (ev_v (i := 3) rfl))) (ev_seq (l := ([r22.1] : List (T4 Int Int Int Int))) (ed_1 (ev_callL (i := 1) (rel := rel__law_against) rfl rfl (ed_c (ev_v (i := 4) rfl) (ed_1 (ev_v (i := 8) rfl))) rfl (fun p => ⟨p, r21.2, s14.2, r7.1.d, r22, rfl, g22, rfl, rfl⟩))) (by show 1 ≤ LIM; decide))) (ev_sl (l := s14.2) (ev_v (i := 4) rfl) (eo_some (ev_v (i := 3) rfl)) (eo_none))) (Option.some.inj g25)) ?_
      have hm := Option.some.inj hm; subst hm
      show Le [.s script, .l none (List.map enc (r22.2 : List Int)), .d (.int x4), .d (.int r21.1), .d (enc (v25 : (List (T4 Int Int Int Int)))), .u, .d (enc (r7.1.a : (T3 (List Int) (List (List Int)) (List Int)))), .d (enc (r7.1.b : (List (List Int)))), .d (.int r7.1.d)] [.s script, .l none (List.map enc (r22.2 : List Int)), .d (.int x4), .u, .d (enc (v25 : (List (T4 Int Int Int Int)))), .u, .d (enc (r7.1.a : (T3 (List Int) (List (List Int)) (List Int)))), .d (enc (r7.1.b : (List (List Int)))), .d (.int r7.1.d)]
      exact ⟨.inr rfl, .inr rfl, .inr rfl, .inl rfl, .inr rfl, .inl rfl, .inr rfl, .inr rfl, .inr rfl, trivial⟩
    · have hm := cond_f hb gj20
      refine bv_nil ?_
      have hm := Option.some.inj hm; subst hm
      show Le [.s script, .l none (List.map enc (s14.1 : List Int)), .d (.int x4), .u, .d (enc (s14.2 : (List (T4 Int Int Int Int)))), .u, .d (enc (r7.1.a : (T3 (List Int) (List (List Int)) (List Int)))), .d (enc (r7.1.b : (List (List Int)))), .d (.int r7.1.d)] [.s script, .l none (List.map enc (s14.1 : List Int)), .d (.int x4), .u, .d (enc (s14.2 : (List (T4 Int Int Int Int)))), .u, .d (enc (r7.1.a : (T3 (List Int) (List (List Int)) (List Int)))), .d (enc (r7.1.b : (List (List Int)))), .d (.int r7.1.d)]
      exact ⟨.inr rfl, .inr rfl, .inr rfl, .inl rfl, .inr rfl, .inl rfl, .inr rfl, .inr rfl, .inr rfl, trivial⟩
    obtain ⟨v26, g26, hm⟩ := bnd hm
    obtain ⟨v27, g27, hm⟩ := bnd hm
    obtain ⟨v28, g28, hm⟩ := bnd hm
    refine bv_if (env1 := [.s script, .l none (List.map enc (j20.1 : List Int)), .d (.int x4), .u, .d (enc (j20.2 : (List (T4 Int Int Int Int)))), .u, .d (enc (r7.1.a : (T3 (List Int) (List (List Int)) (List Int)))), .d (enc (r7.1.b : (List (List Int)))), .d (.int r7.1.d)]) (et_not (et_val (ev_call (rel := rel__law_same) rfl (ed_c (ev_call (rel := rel_fewest_to_go) rfl (ed_c (ev_v (i := 6) rfl) (ed_1 (ev_v (i := 4) rfl))) ⟨r7.1.a, j20.2, v26, rfl, g26, rfl, rfl⟩) (ed_1 (ev_call (rel := rel__law_fewest_go) rfl (ed_c (ev_v (i := 6) rfl) (ed_c (ev_v (i := 4) rfl) (ed_1 (ev_i)))) ⟨r7.1.a, j20.2, 6, v27, rfl, g27, rfl, rfl⟩))) (rel_same (α := (Option (Int × (List Int)))) (x := v26) (y := v27) g28)))) (fun hb => ?_) (fun hb => ?_)
    · have hm := cond_t hb hm
      refine bv_ret (d := (.bool false)) (ev_b) ?_
      have hm := Option.some.inj hm; subst hm
      exact ⟨_, rfl, rfl, ⟨.inl ⟨rfl, fun _ _ z => by cases z⟩, trivial⟩⟩
    · have hm := cond_f hb hm
      refine bv_nil ?_
      have hm := Option.some.inj hm; subst hm
      refine ⟨_, rfl, ?_⟩
      show Le [.s script, .l none (List.map enc (j20.1 : List Int)), .d (.int x4), .u, .d (enc (j20.2 : (List (T4 Int Int Int Int)))), .u, .d (enc (r7.1.a : (T3 (List Int) (List (List Int)) (List Int)))), .d (enc (r7.1.b : (List (List Int)))), .d (.int r7.1.d)] [.s script, .l none (List.map enc (j20.1 : List Int)), .u, .u, .u, .u, .u, .u, .u]
      exact ⟨.inr rfl, .inr rfl, .inl rfl, .inl rfl, .inl rfl, .inl rfl, .inl rfl, .inl rfl, .inl rfl, trivial⟩
  · subst hc
    have hm := Option.some.inj hm; subst hm
    exact hρ
  subst hc
  have hm := hm
  show BV K _ [.s script, .l none (List.map enc (s29 : List Int)), .u, .u, .u, .u, .u, .u, .u] _
  obtain ⟨r30, g30, hm⟩ := bnd hm
  obtain ⟨r31, g31, hm⟩ := bnd hm
  obtain ⟨r32, g32, hm⟩ := bnd hm
  refine bv_tgt (d := (enc (r32.1 : (L4' (T3 (List Int) (List (List Int)) (List Int)) (List (List Int)) (List (T4 Int Int Int Int)) Int)))) (ev_callL (i := 1) (rel := rel__law_leak_scene) rfl rfl (ed_c (ev_add (ev_i) (ev_callL (i := 1) (rel := rel__law_take) rfl rfl (ed_1 (ev_i)) rfl (fun p => ⟨p, s29, 5, r30, rfl, g30, rfl, rfl⟩))) (ed_c (ev_add (ev_i) (ev_callL (i := 1) (rel := rel__law_take) rfl rfl (ed_1 (ev_i)) rfl (fun p => ⟨p, r30.2, 4, r31, rfl, g31, rfl, rfl⟩))) (ed_1 (ev_i)))) rfl (fun p => ⟨p, r31.2, (1 + r30.1), (1 + r31.1), 9, r32, rfl, g32, rfl, rfl⟩)) (eg_q4 (p := r32.1) (egs_cons (eg_n 6) (egs_cons (eg_n 7) (egs_cons (eg_n 4) (egs_cons (eg_n 8) (egs_nil)))))) ?_
  show BV K _ [.s script, .l none (List.map enc (r32.2 : List Int)), .u, .u, .d (enc (r32.1.c : (List (T4 Int Int Int Int)))), .u, .d (enc (r32.1.a : (T3 (List Int) (List (List Int)) (List Int)))), .d (enc (r32.1.b : (List (List Int)))), .d (.int r32.1.d)] _
  obtain ⟨v33, g33, hm⟩ := bnd hm
  obtain ⟨v34, g34, hm⟩ := bnd hm
  refine bv_ifx (env1 := [.s script, .l none (List.map enc (r32.2 : List Int)), .u, .u, .d (enc (r32.1.c : (List (T4 Int Int Int Int)))), .u, .d (enc (r32.1.a : (T3 (List Int) (List (List Int)) (List Int)))), .d (enc (r32.1.b : (List (List Int)))), .d (.int r32.1.d)]) (et_not (et_val (ev_call (rel := rel__law_same) rfl (ed_c (ev_call (rel := rel_fewest_to_go) rfl (ed_c (ev_v (i := 6) rfl) (ed_1 (ev_v (i := 4) rfl))) ⟨r32.1.a, r32.1.c, v33, rfl, g33, rfl, rfl⟩) (ed_1 (ev_t2 (α := Int) (β := (List Int)) (p := 0) (r := ([] : List Int)) (ev_i) (ev_seq (l := ([] : List Int)) (ed_nil) (by show 0 ≤ LIM; decide))))) (rel_same (α := (Option (Int × (List Int)))) (x := v33) (y := (some (0, ([] : List Int)))) g34)))) (fun hb => ?_) (fun hb => ?_)
  · have hm := cond_t hb hm
    refine bv_ret (d := (.bool false)) (ev_b) ?_
    have hm := Option.some.inj hm; subst hm
    exact ⟨rfl, ⟨.inl ⟨rfl, fun _ _ z => by cases z⟩, trivial⟩⟩
  have hm := cond_f hb hm
  obtain ⟨r35, g35, hm⟩ := bnd hm
  refine bv_set (i := 3) (d := (.int r35.1)) (ev_callL (i := 1) (rel := rel__law_take) rfl rfl (ed_1 (ev_i)) rfl (fun p => ⟨p, r32.2, 10, r35, rfl, g35, rfl, rfl⟩)) ?_
  show BV K _ [.s script, .l none (List.map enc (r35.2 : List Int)), .u, .d (.int r35.1), .d (enc (r32.1.c : (List (T4 Int Int Int Int)))), .u, .d (enc (r32.1.a : (T3 (List Int) (List (List Int)) (List Int)))), .d (enc (r32.1.b : (List (List Int)))), .d (.int r32.1.d)] _
  obtain ⟨r36, g36, hm⟩ := bnd hm
  obtain ⟨k37, hm⟩ := bndg hm
  obtain ⟨k38, hm⟩ := bndg hm
  obtain ⟨v39, g39, hm⟩ := bnd hm
  refine bv_set (i := 4) (d := (enc (v39 : (List (T4 Int Int Int Int))))) (EV.to (α := (List (T4 Int Int Int Int))) (a := (((cut r32.1.c none (some r35.1)) ++ ([r36.1] : List (T4 Int Int Int Int))) ++ (cut r32.1.c (some r35.1) none))) (ev_cat k38 (ev_cat k37 (ev_sl (l := r32.1.c) (ev_v (i := 4) rfl) (eo_none) (eo_some (ev_v (i := 3) rfl))) (ev_seq (l := ([r36.1] : List (T4 Int Int Int Int))) (ed_1 (ev_callL (i := 1) (rel := rel__law_against) rfl rfl (ed_c (ev_v (i := 4) rfl) (ed_1 (ev_v (i := 8) rfl))) rfl (fun p => ⟨p, r35.2, r32.1.c, r32.1.d, r36, rfl, g36, rfl, rfl⟩))) (by show 1 ≤ LIM; decide))) (ev_sl (l := r32.1.c) (ev_v (i := 4) rfl) (eo_some (ev_v (i := 3) rfl)) (eo_none))) (Option.some.inj g39)) ?_
  show BV K _ [.s script, .l none (List.map enc (r36.2 : List Int)), .u, .d (.int r35.1), .d (enc (v39 : (List (T4 Int Int Int Int)))), .u, .d (enc (r32.1.a : (T3 (List Int) (List (List Int)) (List Int)))), .d (enc (r32.1.b : (List (List Int)))), .d (.int r32.1.d)] _
  obtain ⟨v40, g40, hm⟩ := bnd hm
  obtain ⟨v41, g41, hm⟩ := bnd hm
  obtain ⟨v42, g42, hm⟩ := bnd hm
  refine bv_ifx (env1 := [.s script, .l none (List.map enc (r36.2 : List Int)), .u, .d (.int r35.1), .d (enc (v39 : (List (T4 Int Int Int Int)))), .u, .d (enc (r32.1.a : (T3 (List Int) (List (List Int)) (List Int)))), .d (enc (r32.1.b : (List (List Int)))), .d (.int r32.1.d)]) (et_not (et_val (ev_call (rel := rel__law_same) rfl (ed_c (ev_call (rel := rel_fewest_to_go) rfl (ed_c (ev_v (i := 6) rfl) (ed_1 (ev_v (i := 4) rfl))) ⟨r32.1.a, v39, v40, rfl, g40, rfl, rfl⟩) (ed_1 (ev_call (rel := rel__law_fewest_go) rfl (ed_c (ev_v (i := 6) rfl) (ed_c (ev_v (i := 4) rfl) (ed_1 (ev_i)))) ⟨r32.1.a, v39, 1, v41, rfl, g41, rfl, rfl⟩))) (rel_same (α := (Option (Int × (List Int)))) (x := v40) (y := v41) g42)))) (fun hb => ?_) (fun hb => ?_)
  · have hm := cond_t hb hm
    refine bv_ret (d := (.bool false)) (ev_b) ?_
    have hm := Option.some.inj hm; subst hm
    exact ⟨rfl, ⟨.inl ⟨rfl, fun _ _ z => by cases z⟩, trivial⟩⟩
  have hm := cond_f hb hm
  obtain ⟨r43, g43, hm⟩ := bnd hm
  refine bv_tgt (d := (enc (r43.1 : (L2' (T3 (List Int) (List (List Int)) (List Int)) (List (T4 Int Int Int Int)))))) (ev_callL (i := 1) (rel := rel__law_closed_scene) rfl rfl (ed_nil) rfl (fun p => ⟨p, r36.2, r43, rfl, g43, rfl, rfl⟩)) (eg_q2 (p := r43.1) (egs_cons (eg_n 6) (egs_cons (eg_n 4) (egs_nil)))) ?_
  show BV K _ [.s script, .l none (List.map enc (r43.2 : List Int)), .u, .d (.int r35.1), .d (enc (r43.1.b : (List (T4 Int Int Int Int)))), .u, .d (enc (r43.1.a : (T3 (List Int) (List (List Int)) (List Int)))), .d (enc (r32.1.b : (List (List Int)))), .d (.int r32.1.d)] _
  obtain ⟨v44, g44, hm⟩ := bnd hm
  obtain ⟨v45, g45, hm⟩ := bnd hm
  obtain ⟨v46, g46, hm⟩ := bnd hm
  refine bv_ret (d := (.bool v46)) (ev_call (rel := rel__law_same) rfl (ed_c (ev_call (rel := rel_fewest_to_go) rfl (ed_c (ev_v (i := 6) rfl) (ed_1 (ev_v (i := 4) rfl))) ⟨r43.1.a, r43.1.b, v44, rfl, g44, rfl, rfl⟩) (ed_1 (ev_call (rel := rel__law_fewest_go) rfl (ed_c (ev_v (i := 6) rfl) (ed_c (ev_v (i := 4) rfl) (ed_1 (ev_i)))) ⟨r43.1.a, r43.1.b, 4, v45, rfl, g45, rfl, rfl⟩))) (rel_same (α := (Option (Int × (List Int)))) (x := v44) (y := v45) g46)) ?_
  have hm := Option.some.inj hm; subst hm
  exact ⟨rfl, ⟨.inl ⟨rfl, fun _ _ z => by cases z⟩, trivial⟩⟩
end K61

-- K61L1
namespace K61
open PySem L2 Gw
open Gw.Enc (enc)
abbrev Bk := T3 (List Int) (List (List Int)) (List Int)
abbrev Rd4 := T4 Int Int Int Int
/-- the water of pond i after k days -/
def wat (a : List Int) (b st : List (List Int)) : Nat → Nat → Int
  | 0, i => a.getD i 0
  | k + 1, i => wat a b st k i + (b.getD k []).getD i 0 + (st.getD k []).getD i 0 - (st.getD k []).getD (i + 1) 0
structure BookOk (p d : Nat) (book : Bk) : Prop where
  a : book.a.length = p
  b : book.b.length = d
  r : ∀ row ∈ book.b, row.length = p
  p1 : 1 ≤ p
  p5 : p ≤ 5
  d1 : 1 ≤ d
  d8 : d ≤ 8
theorem getD_some {α : Type} {l : List α} {i : Nat} {x y : α} (h : l[i]? = some x) : l.getD i y = x := by
  unfold List.getD
  rw [h]
  rfl
theorem some_getD {α : Type} {l : List α} {i : Nat} (y : α) (h : i < l.length) : l[i]? = some (l.getD i y) := by
  rw [List.getD, List.getElem?_eq_getElem h]
  rfl
theorem atI_row {α : Type} {l : List α} {i : Int} (y : α) (h0 : 0 ≤ i) (h1 : i < l.length) : atI l i = some (l.getD i.toNat y) := by
  rw [atI_eq h0 h1]
  exact some_getD y (by omega)
section
variable {p d : Nat} {book : Bk}
theorem BookOk.row (B : BookOk p d book) {k : Nat} (h : k < d) : (book.b.getD k []).length = p := by
  have h' : k < book.b.length := by rw [B.b]; exact h
  exact B.r _ (List.mem_of_getElem? (some_getD [] h'))
theorem waters_row (B : BookOk p d book) {st : List (List Int)} (hs : st.length = d) (hr : ∀ row ∈ st, row.length = p + 1) {k : Nat} (hk : k < d) {here : List Int} (hl : here.length = p) :
    ∃ s, fold (m_law_pond_waters_b1 book st (k : Int)) (rng 0 p) here = some s ∧ s.length = p ∧ ∀ i < p, s.getD i 0 = here.getD i 0 + (book.b.getD k []).getD i 0 + (st.getD k []).getD i 0 - (st.getD k []).getD (i + 1) 0 := by
  have hst : (st.getD k []).length = p + 1 := hr _ (List.mem_of_getElem? (some_getD [] (by omega)))
  have hbk := B.row hk
  obtain ⟨s, e, h1, h2⟩ := fold_idx (f := m_law_pond_waters_b1 book st (k : Int)) (fun j (s : List Int) => s.length = p ∧ ∀ i < p, s.getD i 0 = if i < j then here.getD i 0 + (book.b.getD k []).getD i 0 + (st.getD k []).getD i 0 - (st.getD k []).getD (i + 1) 0 else here.getD i 0) (rng 0 p) 0 here (fun j s x hj1 hj2 hx hxj inv => by
    rw [rng_len] at hj2
    rw [Nat.sub_zero, rng_get (by omega)] at hxj
    cases hxj
    obtain ⟨i1, i2⟩ := inv
    have hjp : j < p := by omega
    have ej : ((0 : Int) + (j : Int)).toNat = j := by omega
    have ej1 : ((0 : Int) + (j : Int) + 1).toNat = j + 1 := by omega
    have ek : ((k : Int)).toNat = k := by omega
    unfold m_law_pond_waters_b1
    rw [bs (atI_row 0 (by omega) (by omega)), bs (atI_row [] (by omega) (by rw [B.b]; omega)), ek, bs (atI_row 0 (by omega) (by omega)), bs (atI_row [] (by omega) (by omega)), ek, bs (atI_row 0 (by omega) (by omega)), bs (atI_row [] (by omega) (by omega)), ek, bs (atI_row 0 (by omega) (by omega)), bs (putO_ok (by omega) (by omega)), ej, ej1]
    refine ⟨_, rfl, by rw [List.length_set]; exact i1, fun i hi => ?_⟩
    by_cases c : i = j
    · subst c
      rw [if_pos (Nat.lt_succ_self _), List.getD, List.getElem?_set_self (by omega)]
      show (_ : Int) + _ + _ - _ = _
      rw [i2 i hi, if_neg (Nat.lt_irrefl _)]
    · have : (s.set j ((s.getD j 0 + (book.b.getD k []).getD j 0) + (st.getD k []).getD j 0 - (st.getD k []).getD (j + 1) 0)).getD i 0 = s.getD i 0 := by
        rw [List.getD, List.getElem?_set_ne (by omega)]
        rfl
      rw [this, i2 i hi]
      by_cases c2 : i < j
      · rw [if_pos c2, if_pos (by omega)]
      · rw [if_neg c2, if_neg (by omega)]) ⟨hl, fun i hi => by rw [if_neg (Nat.not_lt_zero _)]⟩
  rw [rng_len] at h2
  exact ⟨s, e, h1, fun i hi => by rw [h2 i hi, if_pos (by omega)]⟩
theorem waters_ok (B : BookOk p d book) {st : List (List Int)} (hs : st.length = d) (hr : ∀ row ∈ st, row.length = p + 1) :
    ∃ T, m_law_pond_waters book st = some T ∧ T.length = d ∧ ∀ k < d, (T.getD k []).length = p ∧ ∀ i < p, (T.getD k []).getD i 0 = wat book.a book.b st (k + 1) i := by
  have hLIM : LIM = 100000 := rfl
  have d8 := B.d8
  have p5 := B.p5
  unfold m_law_pond_waters
  rw [bs (rngO_ok (by omega))]
  obtain ⟨s, e, h1, h2, h3, h4⟩ := fold_idx (f := m_law_pond_waters_b2 book st) (fun k (s : List (List Int) × List Int) => s.1.length = k ∧ s.2.length = p ∧ (∀ i < p, s.2.getD i 0 = wat book.a book.b st k i) ∧ ∀ j < k, (s.1.getD j []).length = p ∧ ∀ i < p, (s.1.getD j []).getD i 0 = wat book.a book.b st (j + 1) i) (rng 0 ((st.length : Int) - 0).toNat) 0 ([], book.a) (fun k s x hk1 hk2 hx hxk inv => by
    rw [rng_len] at hk2
    rw [Nat.sub_zero, rng_get (by omega)] at hxk
    cases hxk
    obtain ⟨i1, i2, i3, i4⟩ := inv
    have hkd : k < d := by omega
    obtain ⟨s', e, g1, g2⟩ := waters_row B hs hr hkd i2
    unfold m_law_pond_waters_b2
    rw [bs (rngO_ok (by omega))]
    have e0 : ((0 : Int) + (k : Int)) = (k : Int) := by omega
    have e1 : (((s.2.length : Nat) : Int) - 0).toNat = p := by omega
    rw [e0, e1, bs e, gdp (by omega)]
    refine ⟨_, rfl, by rw [List.length_append, i1]; rfl, g1, fun i hi => ?_, fun j hj => ?_⟩
    · show s'.getD i 0 = wat book.a book.b st (k + 1) i
      rw [g2 i hi, i3 i hi]
      rfl
    · show ((s.1 ++ [s']).getD j []).length = p ∧ _
      by_cases c : j < k
      · have : (s.1 ++ [s']).getD j [] = s.1.getD j [] := by
          rw [List.getD, List.getElem?_append_left (by omega)]
          rfl
        rw [this]
        exact i4 j c
      · have hj' : j = k := by omega
        subst hj'
        have : (s.1 ++ [s']).getD j [] = s' := by
          rw [List.getD, List.getElem?_append_right (by omega), i1, Nat.sub_self]
          rfl
        rw [this]
        refine ⟨g1, fun i hi => ?_⟩
        rw [g2 i hi, i3 i hi]
        rfl) ⟨rfl, B.a, fun i hi => rfl, fun j hj => absurd hj (Nat.not_lt_zero _)⟩
  rw [bs e]
  have el : 0 + (rng 0 ((st.length : Int) - 0).toNat).length = d := by rw [rng_len]; omega
  rw [el] at h1 h4
  exact ⟨_, rfl, h1, h4⟩
theorem waters_at {T : List (List Int)} {W : Nat → Nat → Int} (hl : T.length = d) (h : ∀ k < d, (T.getD k []).length = p ∧ ∀ i < p, (T.getD k []).getD i 0 = W (k + 1) i) {x y : Int} (x0 : 0 ≤ x) (x1 : x < d) (y0 : 0 ≤ y) (y1 : y < p) :
    ∃ row, atI T x = some row ∧ atI row y = some (W (x.toNat + 1) y.toNat) := by
  obtain ⟨h1, h2⟩ := h x.toNat (by omega)
  refine ⟨_, atI_row [] x0 (by omega), ?_⟩
  rw [atI_row 0 y0 (by omega), h2 y.toNat (by omega)]
theorem wat_rep {a : List Int} {b : List (List Int)} {row : List Int} {i : Nat} : ∀ {k : Nat}, k ≤ d → wat a b (List.replicate d row) k i = wat a b [] k i + (k : Int) * (row.getD i 0 - row.getD (i + 1) 0)
  | 0, _ => by
    show a.getD i 0 = a.getD i 0 + ((0 : Nat) : Int) * _
    simp
  | k + 1, h => by
    have e : (List.replicate d row).getD k [] = row := getD_some (by rw [List.getElem?_replicate, if_pos (by omega)])
    show wat a b (List.replicate d row) k i + (b.getD k []).getD i 0 + ((List.replicate d row).getD k []).getD i 0 - ((List.replicate d row).getD k []).getD (i + 1) 0 = _
    rw [e, wat_rep (k := k) (by omega)]
    show _ = wat a b [] k i + (b.getD k []).getD i 0 + 0 - 0 + ((k + 1 : Nat) : Int) * _
    rw [Int.natCast_add, Int.add_mul]
    generalize (k : Int) * (row.getD i 0 - row.getD (i + 1) 0) = z
    simp
    omega
theorem known_ok (B : BookOk p d book) {x y : Int} (x0 : 0 ≤ x) (x1 : x < d) (y0 : 0 ≤ y) (y1 : y < p) : m_water_known book x y = some (wat book.a book.b [] (x.toNat + 1) y.toNat) := by
  unfold m_water_known
  have ha := B.a
  have hb := B.b
  rw [bs (atI_row 0 y0 (by omega))]
  have ec : (some (x + 1) : Option Int) = some (((x.toNat + 1 : Nat)) : Int) := by congr 1; omega
  rw [ec, cut_to]
  rw [bs (mapO_some (g := fun row : List Int => row.getD y.toNat 0) _ fun row hrow => by
    have hl := B.r row (List.mem_of_mem_take hrow)
    unfold m_water_known_c1
    rw [bs (atI_row 0 y0 (by omega))])]
  congr 1
  have key : ∀ n, n ≤ d → book.a.getD y.toNat 0 + ((book.b.take n).map fun row : List Int => row.getD y.toNat 0).sum = wat book.a book.b [] n y.toNat := by
    intro n
    induction n with
    | zero => intro _; simp [wat]
    | succ n ih =>
      intro hn
      rw [List.take_add_one, some_getD [] (show n < book.b.length by omega)]
      show _ + (List.map _ (List.take n book.b ++ [_])).sum = _
      rw [List.map_append, List.sum_append]
      show _ = wat book.a book.b [] n y.toNat + (book.b.getD n []).getD y.toNat 0 + 0 - 0
      rw [← ih (by omega)]
      simp
      omega
  exact key _ (by omega)
end
theorem rep1 {α : Type} {x : α} {n : Int} (h1 : 1 ≤ n) (h2 : n ≤ 1000) : repO [x] n = some (List.replicate n.toNat x) := by
  unfold repO
  rw [if_pos ⟨h1, h2, by simp, by simp⟩, List.flatten_replicate_singleton]
end K61

-- K61L2
namespace K61
open PySem L2 Gw
open Gw.Enc (enc)
def VR (p d : Nat) (rs : List Rd4) : Prop := ∀ x ∈ rs, 0 ≤ x.a ∧ x.a < (d : Int) ∧ 0 ≤ x.b ∧ x.b < (p : Int)
def Wd (book : Bk) (x : Rd4) : Int := wat book.a book.b [] (x.a.toNat + 1) x.b.toNat
section
variable {p d : Nat} {book : Bk}
theorem dry_ok (B : BookOk p d book) : ∃ T, (m_law_without_leaks book).bind (fun v1 => m_law_pond_waters book v1) = some T ∧ ∀ x : Rd4, 0 ≤ x.a → x.a < (d : Int) → 0 ≤ x.b → x.b < (p : Int) → ∃ row, atI T x.a = some row ∧ atI row x.b = some (Wd book x) := by
  have ha := B.a
  have hb := B.b
  have p1 := B.p1
  have p5 := B.p5
  have d1 := B.d1
  have d8 := B.d8
  have e0 : m_law_without_leaks book = some (List.replicate d (List.replicate (p + 1) 0)) := by
    unfold m_law_without_leaks
    rw [bs (rep1 (by omega) (by omega)), bs (rep1 (by omega) (by omega))]
    have e1 : (((book.a.length : Int)) + 1).toNat = p + 1 := by omega
    have e2 : ((book.b.length : Int)).toNat = d := by omega
    rw [e1, e2]
  obtain ⟨T, e, hl, hT⟩ := waters_ok B (st := List.replicate d (List.replicate (p + 1) 0)) (by simp) (fun row hr => by rw [List.eq_of_mem_replicate hr]; simp)
  refine ⟨T, by rw [bs e0, e], fun x x0 x1 y0 y1 => ?_⟩
  obtain ⟨row, g1, g2⟩ := waters_at (W := wat book.a book.b (List.replicate d (List.replicate (p + 1) 0))) hl hT x0 x1 y0 y1
  refine ⟨row, g1, ?_⟩
  rw [g2, wat_rep (by omega)]
  have z1 : (List.replicate (p + 1) (0 : Int)).getD x.b.toNat 0 = 0 := getD_some (by rw [List.getElem?_replicate, if_pos (by omega)])
  have z2 : (List.replicate (p + 1) (0 : Int)).getD (x.b.toNat + 1) 0 = 0 := getD_some (by rw [List.getElem?_replicate, if_pos (by omega)])
  rw [z1, z2]
  show some (_ + _ * (0 - 0)) = some (Wd book x)
  simp [Wd]
end
theorem tk (ds : List Int) {m : Int} (hm : 0 < m) : ∃ r, m_law_take ds m = some r ∧ 0 ≤ r.1 ∧ r.1 < m := take_ok ds hm
theorem pk {α : Type} (ds : List Int) (row : List α) (h : row ≠ []) : ∃ r, m_law_pick ds row = some r ∧ r.1 ∈ row := by
  obtain ⟨r, x, e1, e2, hx⟩ := pick_ok ds row h
  refine ⟨(x, r.2), ?_, hx⟩
  unfold m_law_pick
  have e1' : m_law_take ds (row.length : Int) = some r := e1
  rw [bs e1', bs e2]
theorem scale_ok (ds : List Int) : ∃ r, m_law_scale ds = some r ∧ 0 < r.1 := by
  obtain ⟨r1, e1, _, _⟩ := tk ds (m := 7) (by decide)
  unfold m_law_scale
  rw [bs e1]
  by_cases c : r1.1 = 0
  · rw [decide_eq_true c, cond_true]
    obtain ⟨r2, e2, h2⟩ := pk r1.2 ([1000003, (((10 : Int) ^ (15 : Int).toNat) + 37), (((10 : Int) ^ (40 : Int).toNat) + 121)] : List Int) (List.cons_ne_nil _ _)
    rw [bs e2]
    refine ⟨_, rfl, ?_⟩
    show 0 < r2.1
    rcases List.mem_cons.mp h2 with z | h2
    · rw [z]; decide
    · rcases List.mem_cons.mp h2 with z | h2
      · rw [z]; decide
      · rcases List.mem_cons.mp h2 with z | h2
        · rw [z]; decide
        · cases h2
  · rw [decide_eq_false c, cond_false]
    exact ⟨_, rfl, (by decide : (0 : Int) < 1)⟩
theorem book_ok (ds : List Int) {p d : Nat} (p1 : 1 ≤ p) (p5 : p ≤ 5) (d1 : 1 ≤ d) (d8 : d ≤ 8) (scale : Int) : ∃ r, m_law_leak_book ds (p : Int) (d : Int) scale = some r ∧ BookOk p d r.1 := by
  have hLIM : LIM = 100000 := rfl
  unfold m_law_leak_book
  rw [bs (rngO_ok (by omega))]
  obtain ⟨ra, ea, la, _, _⟩ := mapS_inv (f := m_law_leak_book_c1 scale) (fun _ => True) (fun _ _ => True) (rng 0 ((p : Int) - 0).toNat) ds (fun s x _ _ => by
    obtain ⟨r, e, h0, h1⟩ := tk s (m := 12) (by decide)
    unfold m_law_leak_book_c1
    rw [bs e, gdb (mulOk_r (by omega))]
    exact ⟨_, rfl, trivial, trivial⟩) trivial
  rw [bs ea, bs (rngO_ok (by omega))]
  obtain ⟨sb, eb, hb1, hb2⟩ := fold_idx (f := m_law_leak_book_b3 (p : Int) scale) (fun k (s : List Int × List (List Int)) => s.2.length = k ∧ ∀ row ∈ s.2, row.length = p) (rng 0 ((d : Int) - 0).toNat) 0 (ra.2, []) (fun k s x hk1 hk2 hx hxk i => by
    rw [rng_len] at hk2
    unfold m_law_leak_book_b3
    rw [bs (rngO_ok (by omega))]
    obtain ⟨r, e, l, _, _⟩ := mapS_inv (f := m_law_leak_book_c2 scale) (fun _ => True) (fun _ _ => True) (rng 0 ((p : Int) - 0).toNat) s.1 (fun s x _ _ => by
      obtain ⟨r, e, h0, h1⟩ := tk s (m := 7) (by decide)
      unfold m_law_leak_book_c2
      rw [bs e, gdb (mulOk_r (by omega))]
      exact ⟨_, rfl, trivial, trivial⟩) trivial
    rw [bs e, gdp (by rw [i.1]; omega)]
    refine ⟨_, rfl, by rw [List.length_append, i.1]; rfl, fun row hrow => ?_⟩
    rcases List.mem_append.mp hrow with z | z
    · exact i.2 row z
    · rw [List.mem_singleton.mp z, l, rng_len]
      omega) ⟨rfl, fun row h => by cases h⟩
  rw [bs eb, bs (rngO_ok (by omega))]
  obtain ⟨rc, ec, _, _, _⟩ := compS_inv (f := m_law_leak_book_c4) (fun _ => True) (fun _ _ => True) (rng 0 ((p : Int) + 1 - 0).toNat) sb.1 (fun s x _ _ => by
    obtain ⟨r, e, h0, h1⟩ := tk s (m := 4) (by decide)
    unfold m_law_leak_book_c4
    rw [bs e]
    cases decide (r.1 = 0) with
    | true => exact ⟨_, rfl, fun _ _ => trivial, trivial⟩
    | false => exact ⟨_, rfl, fun _ _ => trivial, trivial⟩) trivial
  rw [bs ec]
  rw [rng_len] at la hb1
  refine ⟨_, rfl, ⟨?_, ?_, hb2, p1, p5, d1, d8⟩⟩
  · show ra.1.length = p
    rw [la]; omega
  · show sb.2.length = d
    rw [hb1]; omega
section
variable {p d : Nat} {book : Bk}
theorem moved_ok (ds : List Int) {rs : List Rd4} (hr : VR p d rs) (hl : rs.length ≤ 20) (scale : Int) : ∃ r, m_law_moved_reading ds rs scale = some r ∧ VR p d r.1 := by
  have hLIM : LIM = 100000 := rfl
  unfold m_law_moved_reading
  by_cases c : ((rs.length : Int)) = 0
  · rw [decide_eq_true c]
    exact ⟨_, rfl, hr⟩
  rw [decide_eq_false c, cond_false]
  obtain ⟨r1, e1, a0, a1⟩ := tk ds (m := (rs.length : Int)) (by omega)
  obtain ⟨v, ev, _, hv⟩ := atI_ok a0 a1
  obtain ⟨r3, e3, h3⟩ := pk r1.2 ([1, (-1), 2, (-3), 9, (-20)] : List Int) (List.cons_ne_nil _ _)
  have q3 : r3.1.natAbs < 2 ^ 64 := by
    simp only [List.mem_cons, List.not_mem_nil, or_false] at h3
    omega
  rw [bs e1, bs ev, bs e3, gdb (mulOk_r q3)]
  have c1 := cut_len rs none (some r1.1)
  have c2 := cut_len rs (some (r1.1 + 1)) none
  unfold m_law_put
  rw [gdp (by show _ + 1 ≤ LIM; omega), gdp (by rw [List.length_append]; show _ + 1 + _ ≤ LIM; omega)]
  refine ⟨_, rfl, fun y hy => ?_⟩
  have mem : ∀ (lo hi : Option Int) (y : Rd4), y ∈ cut rs lo hi → y ∈ rs := fun lo hi y h => by
    unfold cut at h
    exact List.mem_of_mem_drop (List.mem_of_mem_take h)
  rcases List.mem_append.mp hy with z | z
  · rcases List.mem_append.mp z with z | z
    · exact hr y (mem _ _ y z)
    · rw [List.mem_singleton.mp z]
      exact hr v hv
  · exact hr y (mem _ _ y z)
end

/-! a drawn story, readings that it keeps -/
structure StoryOk (p d : Nat) (book : Bk) (st : List (List Int)) : Prop where
  len : st.length = d
  row : ∀ row ∈ st, row.length = p + 1
  pos : ∀ (k : Nat) (g : Nat), 0 ≤ (st.getD k []).getD g 0
  tight : ∀ (k : Nat) (g : Nat), (g : Int) ∈ book.c → (st.getD k []).getD g 0 = 0
section
variable {p d : Nat} {book : Bk}
theorem story_ok (B : BookOk p d book) (ds : List Int) {scale : Int} (s0 : 0 < scale) : ∃ r, m_law_drawn_story ds book scale = some r ∧ StoryOk p d book r.1 := by
  have hLIM : LIM = 100000 := rfl
  have ha := B.a
  have hb := B.b
  have p5 := B.p5
  have d8 := B.d8
  unfold m_law_drawn_story
  obtain ⟨s, e, h1, h2⟩ := fold_idx (f := m_law_drawn_story_b3 book scale) (fun k (s : List Int × List (List Int)) => s.2.length = k ∧ ∀ row ∈ s.2, row.length = p + 1 ∧ ∀ g : Nat, 0 ≤ row.getD g 0 ∧ ((g : Int) ∈ book.c → row.getD g 0 = 0)) book.b 0 (ds, []) (fun k s x hk1 hk2 hx hxk i => by
    unfold m_law_drawn_story_b3
    rw [bs (rngO_ok (by omega))]
    have e1 : ((book.a.length : Int) + 1 - 0).toNat = p + 1 := by omega
    obtain ⟨r, e, l, hm, _⟩ := mapS_inv (f := m_law_drawn_story_c1 scale) (fun _ => True) (fun _ y => 0 ≤ y) (rng 0 (p + 1)) s.1 (fun s x _ _ => by
      obtain ⟨r, e, h0, h1⟩ := tk s (m := 4) (by decide)
      unfold m_law_drawn_story_c1
      rw [bs e, gdb (mulOk_r (by omega))]
      exact ⟨_, rfl, Int.mul_nonneg (by omega) h0, trivial⟩) trivial
    rw [rng_len] at l
    have e2 : ((r.1.length : Int) - 0).toNat = p + 1 := by omega
    rw [e1, bs e, bs (rngO_ok (by omega)), e2]
    have e3 : mapO (m_law_drawn_story_c2 book r) (rng 0 (p + 1)) = some ((rng 0 (p + 1)).map fun g => r.1.getD g.toNat 0 * (if (!decide (g ∈ book.c)) = true then (1 : Int) else 0)) := mapO_some _ fun g hg => by
      have hg' := mem_rng.mp hg
      unfold m_law_drawn_story_c2
      rw [bs (atI_row 0 hg'.1 (by omega)), gdb (mulOk_r (by cases (!decide (g ∈ book.c)) <;> decide))]
    rw [bs e3, gdp (by rw [i.1]; omega)]
    refine ⟨_, rfl, by rw [List.length_append, i.1]; rfl, fun row hrow => ?_⟩
    rcases List.mem_append.mp hrow with z | z
    · exact i.2 row z
    · rw [List.mem_singleton.mp z]
      refine ⟨by rw [List.length_map, rng_len], fun g => ?_⟩
      by_cases hg : g < p + 1
      · have e4 : ((rng 0 (p + 1)).map fun g => r.1.getD g.toNat 0 * (if (!decide (g ∈ book.c)) = true then (1 : Int) else 0)).getD g 0 = r.1.getD g 0 * (if (!decide ((g : Int) ∈ book.c)) = true then (1 : Int) else 0) := by
          refine getD_some ?_
          rw [List.getElem?_map, rng_get hg, Int.zero_add]
          rfl
        rw [e4]
        have h5 : 0 ≤ r.1.getD g 0 := by
          have := some_getD (l := r.1) (i := g) (0 : Int) (by omega)
          obtain ⟨_, _, h⟩ := hm _ (List.mem_of_getElem? this)
          exact h
        by_cases c : (g : Int) ∈ book.c
        · rw [decide_eq_true c]
          exact ⟨by rw [if_neg (by decide)]; omega, fun _ => by rw [if_neg (by decide)]; omega⟩
        · rw [decide_eq_false c]
          exact ⟨by rw [if_pos (by decide)]; omega, fun z => absurd z c⟩
      · have e4 : ((rng 0 (p + 1)).map fun g => r.1.getD g.toNat 0 * (if (!decide (g ∈ book.c)) = true then (1 : Int) else 0)).getD g 0 = 0 := by
          rw [List.getD, List.getElem?_eq_none (by rw [List.length_map, rng_len]; omega)]
          rfl
        rw [e4]
        exact ⟨Int.le_refl _, fun _ => rfl⟩) ⟨rfl, fun row h => by cases h⟩
  rw [bs e]
  refine ⟨_, rfl, ⟨?_, fun row h => (h2 row h).1, fun k g => ?_, fun k g hg => ?_⟩⟩
  · show s.2.length = d
    rw [h1]; omega
  · by_cases c : k < s.2.length
    · exact ((h2 _ (List.mem_of_getElem? (some_getD [] c))).2 g).1
    · have : (s.2.getD k []) = [] := by rw [List.getD, List.getElem?_eq_none (by omega)]; rfl
      show 0 ≤ (s.2.getD k []).getD g 0
      rw [this]
      exact Int.le_refl _
  · by_cases c : k < s.2.length
    · exact ((h2 _ (List.mem_of_getElem? (some_getD [] c))).2 g).2 hg
    · have : (s.2.getD k []) = [] := by rw [List.getD, List.getElem?_eq_none (by omega)]; rfl
      show (s.2.getD k []).getD g 0 = 0
      rw [this]
      rfl
/-- what the story makes of pond b after day a -/
def Ws (book : Bk) (st : List (List Int)) (x : Rd4) : Int := wat book.a book.b st (x.a.toNat + 1) x.b.toNat
def Keeps (book : Bk) (st : List (List Int)) (rs : List Rd4) : Prop := ∀ x ∈ rs, x.c ≤ Ws book st x ∧ Ws book st x ≤ x.d
theorem kept_ok (B : BookOk p d book) {st : List (List Int)} (S : StoryOk p d book st) (ds : List Int) {many : Int} (m0 : 0 ≤ many) (m7 : many < 20) {scale : Int} (s0 : 0 < scale) : ∃ r, m_law_kept_readings ds book st many scale = some r ∧ VR p d r.1 ∧ Keeps book st r.1 ∧ (r.1.length : Int) = many := by
  have hLIM : LIM = 100000 := rfl
  have ha := B.a
  have hb := B.b
  have p1 := B.p1
  have d1 := B.d1
  obtain ⟨T, e, hl, hT⟩ := waters_ok B S.len S.row
  unfold m_law_kept_readings
  rw [bs e, bs rfl, bs (rngO_ok (by omega))]
  obtain ⟨s, es, h1, h2, h3⟩ := fold_idx (f := m_law_kept_readings_b1 book scale T) (fun k (s : List Int × List Rd4) => s.2.length = k ∧ VR p d s.2 ∧ Keeps book st s.2) (rng 0 (many - 0).toNat) 0 (ds, []) (fun k s x hk1 hk2 hx hxk i => by
    rw [rng_len] at hk2
    unfold m_law_kept_readings_b1
    obtain ⟨r6, e6, a0, a1⟩ := tk s.1 (m := (book.b.length : Int)) (by omega)
    obtain ⟨r7, e7, b0, b1⟩ := tk r6.2 (m := (book.a.length : Int)) (by omega)
    obtain ⟨row, g1, g2⟩ := waters_at (W := wat book.a book.b st) hl hT a0 (x := r6.1) (by omega) b0 (y := r7.1) (by omega)
    obtain ⟨r10, e10, h10⟩ := pk r7.2 ([0, 0, 1, 3] : List Int) (List.cons_ne_nil _ _)
    obtain ⟨r14, e14, h14⟩ := pk r10.2 ([0, 0, 2, 1] : List Int) (List.cons_ne_nil _ _)
    have q10 : r10.1.natAbs < 2 ^ 64 ∧ 0 ≤ r10.1 := by
      simp only [List.mem_cons, List.not_mem_nil, or_false] at h10
      omega
    have q14 : r14.1.natAbs < 2 ^ 64 ∧ 0 ≤ r14.1 := by
      simp only [List.mem_cons, List.not_mem_nil, or_false] at h14
      omega
    rw [bs e6, bs e7, bs g1, bs g2, bs e10, gdb (mulOk_r q10.1), bs g1, bs g2, bs e14, gdb (mulOk_r q14.1), gdp (by rw [i.1]; omega)]
    have z1 := Int.mul_nonneg (show 0 ≤ scale by omega) q10.2
    have z2 := Int.mul_nonneg (show 0 ≤ scale by omega) q14.2
    refine ⟨_, rfl, by rw [List.length_append, i.1]; rfl, fun y hy => ?_, fun y hy => ?_⟩
    · rcases List.mem_append.mp hy with z | z
      · exact i.2.1 y z
      · rw [List.mem_singleton.mp z]
        exact ⟨a0, by show r6.1 < _; omega, b0, by show r7.1 < _; omega⟩
    · rcases List.mem_append.mp hy with z | z
      · exact i.2.2 y z
      · rw [List.mem_singleton.mp z]
        show wat book.a book.b st (r6.1.toNat + 1) r7.1.toNat - scale * r10.1 ≤ wat book.a book.b st (r6.1.toNat + 1) r7.1.toNat ∧ wat book.a book.b st (r6.1.toNat + 1) r7.1.toNat ≤ wat book.a book.b st (r6.1.toNat + 1) r7.1.toNat + scale * r14.1
        omega) ⟨rfl, (fun y hy => by cases hy), fun y hy => by cases hy⟩
  rw [bs es]
  rw [rng_len] at h1
  exact ⟨_, rfl, h2, h3, by show ((s.2.length : Nat) : Int) = many; omega⟩
end
end K61

-- K61L3
namespace K61
open PySem L2 Gw
open Gw.Enc (enc)
theorem fold_flatMap {α β : Type} {f : List β → α → Option (List β)} (h : α → List β) : ∀ (xs : List α) (s : List β), (∀ s x, x ∈ xs → s.length + (h x).length ≤ LIM → f s x = some (s ++ h x)) → s.length + (xs.flatMap h).length ≤ LIM → fold f xs s = some (s ++ xs.flatMap h)
  | [], s, _, _ => by rw [List.flatMap_nil, List.append_nil]; rfl
  | x :: xs, s, hf, hl => by
    rw [List.flatMap_cons, List.length_append] at hl
    show (f s x).bind _ = _
    rw [bs (hf s x List.mem_cons_self (by omega)), fold_flatMap h xs (s ++ h x) (fun s y hy => hf s y (List.mem_cons_of_mem _ hy)) (by rw [List.length_append]; omega), List.flatMap_cons, List.append_assoc]
theorem flatMap_len {α β : Type} {h : α → List β} {c : Nat} : ∀ xs : List α, (∀ x ∈ xs, (h x).length ≤ c) → (xs.flatMap h).length ≤ xs.length * c
  | [], _ => Nat.zero_le _
  | x :: xs, hh => by
    rw [List.flatMap_cons, List.length_append, List.length_cons, Nat.succ_mul]
    have h1 := hh x List.mem_cons_self
    have h2 := flatMap_len xs fun y hy => hh y (List.mem_cons_of_mem _ hy)
    omega
/-- the places of the program's numbers -/
def pn (d g day : Int) : Int := if day < 0 then 0 else 1 + g * d + day
/-- the places of the law's -/
def qn (p g days : Int) : Int := if days = 0 then 0 else 1 + (days - 1) * (p + 1) + g
section
variable {p d : Nat} {book : Bk}
theorem place_is (B : BookOk p d book) (g day : Int) : m_leak_place book g day = some (pn d g day) := by
  have hb := B.b
  have d8 := B.d8
  unfold m_leak_place m_day_count pn
  by_cases c : day < 0
  · rw [decide_eq_true c, if_pos c]; rfl
  · rw [decide_eq_false c, if_neg c, cond_false, bs rfl, gdb (mulOk_r (by omega)), hb]; rfl
def lim1 (book : Bk) (d g day : Int) : List Ed := T3.mk (pn d g (day - 1)) (pn d g day) 0 :: (if g ∈ book.c then [T3.mk (pn d g day) 0 0] else [])
def lim2 (book : Bk) (d : Int) (x : Rd4) : List Ed := [T3.mk (pn d x.b x.a) (pn d (x.b + 1) x.a) (x.d - Wd book x), T3.mk (pn d (x.b + 1) x.a) (pn d x.b x.a) (Wd book x - x.c)]
def limP (book : Bk) (p d : Nat) (rs : List Rd4) : List Ed := ((rng 0 (p + 1)).flatMap fun g => (rng 0 d).flatMap fun day => lim1 book d g day) ++ rs.flatMap (lim2 book d)
theorem lim1_len {book : Bk} {d g day : Int} : (lim1 book d g day).length ≤ 2 := by
  unfold lim1
  split <;> simp
theorem limits_is (B : BookOk p d book) {rs : List Rd4} (hr : VR p d rs) (hl : rs.length ≤ 20) : m_leak_limits book rs = some (limP book p d rs) := by
  have hLIM : LIM = 100000 := rfl
  have ha := B.a
  have hb := B.b
  have p5 := B.p5
  have d8 := B.d8
  have l1 : ∀ g, ((rng 0 d).flatMap fun day => lim1 book d g day).length ≤ 16 := fun g => by
    have := flatMap_len (h := fun day => lim1 book d g day) (c := 2) (rng 0 d) fun _ _ => lim1_len
    rw [rng_len] at this
    omega
  have l2 : ((rng 0 (p + 1)).flatMap fun g => (rng 0 d).flatMap fun day => lim1 book d g day).length ≤ 96 := by
    have := flatMap_len (h := fun g => (rng 0 d).flatMap fun day => lim1 book d g day) (c := 16) (rng 0 (p + 1)) fun g _ => l1 g
    rw [rng_len] at this
    omega
  have l3 : (rs.flatMap (lim2 book d)).length ≤ 40 := by
    have := flatMap_len (h := lim2 book d) (c := 2) rs fun _ _ => Nat.le_refl 2
    omega
  unfold m_leak_limits m_gate_count
  rw [bs rfl, bs rfl, bs (rngO_ok (by omega))]
  have e1 : ((book.a.length : Int) + 1 - 0).toNat = p + 1 := by omega
  have ef1 : fold (m_leak_limits_b2 book) (rng 0 (p + 1)) [] = some ([] ++ (rng 0 (p + 1)).flatMap fun g => (rng 0 d).flatMap fun day => lim1 book d g day) := fold_flatMap (fun g => (rng 0 d).flatMap fun day => lim1 book d g day) _ _ (fun s g hg hs => by
    unfold m_leak_limits_b2 m_day_count
    rw [bs rfl, bs (rngO_ok (by omega))]
    have e2 : ((book.b.length : Int) - 0).toNat = d := by omega
    rw [e2, bs (fold_flatMap (fun day => lim1 book d g day) (rng 0 d) s (fun s day _ hs => ?_) hs)]
    unfold m_leak_limits_b1
    have hz : s.length + 1 ≤ LIM := by
      have : 1 ≤ (lim1 book d g day).length := by unfold lim1; simp
      omega
    rw [bs (place_is B g (day - 1)), bs (place_is B g day), gdp (by omega)]
    unfold lim1 at hs ⊢
    by_cases c : g ∈ book.c
    · rw [if_pos c] at hs ⊢
      rw [decide_eq_true c, cond_true, bs (place_is B g day), gdp (by rw [List.length_append]; have : s.length + 2 ≤ LIM := hs; show s.length + 1 < LIM; omega), List.append_assoc]
      rfl
    · rw [if_neg c] at hs ⊢
      rw [decide_eq_false c, cond_false]) (by show 0 + _ ≤ LIM; omega)
  rw [e1, bs ef1]
  rw [List.nil_append, bs (fold_flatMap (lim2 book d) rs _ (fun s x hx hs => ?_) (by omega))]
  · rfl
  · obtain ⟨x0, x1, y0, y1⟩ := hr x hx
    have hs' : s.length + 2 ≤ LIM := hs
    unfold m_leak_limits_b3
    rw [bs (place_is B _ _), bs (place_is B _ _), bs (known_ok B x0 x1 y0 y1), gdp (by omega), gdp (by rw [List.length_append]; show s.length + 1 < LIM; omega), List.append_assoc]
    rfl
/-! the law's -/
theorem node_is (B : BookOk p d book) (g days : Int) : m_law_leak_node book g days = some (qn p g days) := by
  have ha := B.a
  have p5 := B.p5
  unfold m_law_leak_node qn
  by_cases c : days = 0
  · rw [decide_eq_true c, if_pos c]; rfl
  · rw [decide_eq_false c, if_neg c, cond_false, gdb (mulOk_r (by omega)), ha]
def rul1 (book : Bk) (p days g : Int) : List Ed := T3.mk (qn p g days) (qn p g (days - 1)) 0 :: (if g ∈ book.c then [T3.mk (qn p g (days - 1)) (qn p g days) 0] else [])
def rul2 (book : Bk) (p : Int) (x : Rd4) : List Ed := [T3.mk (qn p (x.b + 1) (x.a + 1)) (qn p x.b (x.a + 1)) (x.d - Wd book x), T3.mk (qn p x.b (x.a + 1)) (qn p (x.b + 1) (x.a + 1)) (Wd book x - x.c)]
def rulQ (book : Bk) (p d : Nat) (rs : List Rd4) : List Ed := ((rng 1 d).flatMap fun days => (rng 0 (p + 1)).flatMap fun g => rul1 book p days g) ++ rs.flatMap (rul2 book p)
theorem rul1_len {book : Bk} {p days g : Int} : (rul1 book p days g).length ≤ 2 := by
  unfold rul1
  split <;> simp
theorem rules_is (B : BookOk p d book) {rs : List Rd4} (hr : VR p d rs) (hl : rs.length ≤ 20) : m_law_leak_rules book rs = some (rulQ book p d rs) := by
  have hLIM : LIM = 100000 := rfl
  have ha := B.a
  have hb := B.b
  have p5 := B.p5
  have d8 := B.d8
  have l1 : ∀ days, ((rng 0 (p + 1)).flatMap fun g => rul1 book p days g).length ≤ 12 := fun days => by
    have := flatMap_len (h := fun g => rul1 book p days g) (c := 2) (rng 0 (p + 1)) fun _ _ => rul1_len
    rw [rng_len] at this
    omega
  have l2 : ((rng 1 d).flatMap fun days => (rng 0 (p + 1)).flatMap fun g => rul1 book p days g).length ≤ 96 := by
    have := flatMap_len (h := fun days => (rng 0 (p + 1)).flatMap fun g => rul1 book p days g) (c := 12) (rng 1 d) fun g _ => l1 g
    rw [rng_len] at this
    omega
  have l3 : (rs.flatMap (rul2 book p)).length ≤ 40 := by
    have := flatMap_len (h := rul2 book p) (c := 2) rs fun _ _ => Nat.le_refl 2
    omega
  unfold m_law_leak_rules
  rw [bs rfl, bs (rngO_ok (by omega))]
  have e1 : ((book.b.length : Int) + 1 - 1).toNat = d := by omega
  have ef1 : fold (m_law_leak_rules_b2 book) (rng 1 d) [] = some ([] ++ (rng 1 d).flatMap fun days => (rng 0 (p + 1)).flatMap fun g => rul1 book p days g) := fold_flatMap (fun days => (rng 0 (p + 1)).flatMap fun g => rul1 book p days g) _ _ (fun s days hg hs => by
    unfold m_law_leak_rules_b2
    rw [bs (rngO_ok (by omega))]
    have e2 : ((book.a.length : Int) + 1 - 0).toNat = p + 1 := by omega
    rw [e2, bs (fold_flatMap (fun g => rul1 book p days g) (rng 0 (p + 1)) s (fun s g _ hs => ?_) hs)]
    unfold m_law_leak_rules_b1
    have hz : s.length + 1 ≤ LIM := by
      have : 1 ≤ (rul1 book p days g).length := by unfold rul1; simp
      omega
    rw [bs (node_is B g days), bs (node_is B g (days - 1)), gdp (by omega)]
    unfold rul1 at hs ⊢
    by_cases c : g ∈ book.c
    · rw [if_pos c] at hs ⊢
      rw [decide_eq_true c, cond_true, gdp (by rw [List.length_append]; have : s.length + 2 ≤ LIM := hs; show s.length + 1 < LIM; omega), List.append_assoc]
      rfl
    · rw [if_neg c] at hs ⊢
      rw [decide_eq_false c, cond_false]) (by show 0 + _ ≤ LIM; omega)
  rw [e1, bs ef1]
  obtain ⟨T, e, hT⟩ := dry_ok B
  obtain ⟨v1, h1, h2⟩ := bnd e
  rw [bs h1, bs h2]
  rw [List.nil_append, bs (fold_flatMap (rul2 book p) rs _ (fun s x hx hs => ?_) (by omega))]
  · rfl
  · obtain ⟨x0, x1, y0, y1⟩ := hr x hx
    obtain ⟨row, g1, g2⟩ := hT x x0 x1 y0 y1
    have hs' : s.length + 2 ≤ LIM := hs
    unfold m_law_leak_rules_b3
    rw [bs (node_is B _ _), bs (node_is B _ _), bs g1, bs g2, gdp (by omega), bs g1, bs g2, gdp (by rw [List.length_append]; show s.length + 1 < LIM; omega), List.append_assoc]
    rfl
/-! one and the same question -/
/-- sums of leaks up to each day: not falling, nothing at a tight gate, the readings kept -/
def Feas (book : Bk) (p d : Nat) (rs : List Rd4) : Prop := ∃ (z : Int) (Y : Int → Int → Int), (∀ g, Y g 0 = z) ∧ (∀ g k, 0 ≤ g → g ≤ (p : Int) → 0 ≤ k → k < (d : Int) → Y g k ≤ Y g (k + 1)) ∧ (∀ g k, g ∈ book.c → 0 ≤ g → g ≤ (p : Int) → 0 ≤ k → k ≤ (d : Int) → Y g k ≤ z) ∧
  ∀ x ∈ rs, Y x.b (x.a + 1) ≤ Y (x.b + 1) (x.a + 1) + (x.d - Wd book x) ∧ Y (x.b + 1) (x.a + 1) ≤ Y x.b (x.a + 1) + (Wd book x - x.c)
theorem pn_pos {g day : Int} (h : 0 ≤ day) : pn d g day = 1 + g * d + day := if_neg (by omega)
theorem pn_neg {g day : Int} (h : day < 0) : pn d g day = 0 := if_pos h
theorem satP (x : Int → Int) {rs : List Rd4} : Sat (limP book p d rs) x ↔ (∀ g day, 0 ≤ g → g ≤ (p : Int) → 0 ≤ day → day < (d : Int) → x (pn d g (day - 1)) ≤ x (pn d g day) ∧ (g ∈ book.c → x (pn d g day) ≤ x 0)) ∧
    ∀ r ∈ rs, x (pn d r.b r.a) ≤ x (pn d (r.b + 1) r.a) + (r.d - Wd book r) ∧ x (pn d (r.b + 1) r.a) ≤ x (pn d r.b r.a) + (Wd book r - r.c) := by
  constructor
  · intro h
    refine ⟨fun g day g0 g1 d0 d1 => ?_, fun r hr => ?_⟩
    · have m : ∀ e ∈ lim1 book d g day, e ∈ limP book p d rs := fun e he => List.mem_append_left _ (List.mem_flatMap.mpr ⟨g, mem_rng.mpr ⟨g0, by omega⟩, List.mem_flatMap.mpr ⟨day, mem_rng.mpr ⟨d0, by omega⟩, he⟩⟩)
      have h1 := h _ (m _ (List.mem_cons_self))
      refine ⟨by have : x (pn d g (day - 1)) ≤ x (pn d g day) + 0 := h1; omega, fun hc => ?_⟩
      have h2 := h (T3.mk (pn d g day) 0 0) (m _ (by unfold lim1; rw [if_pos hc]; exact List.mem_cons_of_mem _ List.mem_cons_self))
      have : x (pn d g day) ≤ x 0 + 0 := h2
      omega
    · have m : ∀ e ∈ lim2 book d r, e ∈ limP book p d rs := fun e he => List.mem_append_right _ (List.mem_flatMap.mpr ⟨r, hr, he⟩)
      exact ⟨h _ (m _ List.mem_cons_self), h _ (m _ (List.mem_cons_of_mem _ List.mem_cons_self))⟩
  · rintro ⟨h1, h2⟩ e he
    rcases List.mem_append.mp he with he | he
    · obtain ⟨g, hg, he⟩ := List.mem_flatMap.mp he
      obtain ⟨day, hd, he⟩ := List.mem_flatMap.mp he
      have hg' := mem_rng.mp hg
      have hd' := mem_rng.mp hd
      obtain ⟨a1, a2⟩ := h1 g day hg'.1 (by omega) hd'.1 (by omega)
      unfold lim1 at he
      rcases List.mem_cons.mp he with z | he
      · subst z
        show x (pn d g (day - 1)) ≤ x (pn d g day) + 0
        omega
      · by_cases c : g ∈ book.c
        · rw [if_pos c] at he
          rw [List.mem_singleton.mp he]
          have := a2 c
          show x (pn d g day) ≤ x 0 + 0
          omega
        · rw [if_neg c] at he
          cases he
    · obtain ⟨r, hr, he⟩ := List.mem_flatMap.mp he
      obtain ⟨a1, a2⟩ := h2 r hr
      rcases List.mem_cons.mp he with z | he
      · subst z; exact a1
      · rw [List.mem_singleton.mp he]; exact a2
theorem feasP (d1 : 1 ≤ d) {rs : List Rd4} (hr : VR p d rs) : (∃ x, Sat (limP book p d rs) x) ↔ Feas book p d rs := by
  constructor
  · rintro ⟨x, h⟩
    obtain ⟨h1, h2⟩ := (satP x).mp h
    refine ⟨x 0, fun g k => x (pn d g (k - 1)), fun g => by show x (pn d g (0 - 1)) = _; rw [pn_neg (by omega)], fun g k g0 g1 k0 k1 => ?_, fun g k hc g0 g1 k0 k1 => ?_, fun r hr' => ?_⟩
    · have := (h1 g k g0 g1 k0 k1).1
      show x (pn d g (k - 1)) ≤ x (pn d g (k + 1 - 1))
      rw [Int.add_sub_cancel]
      exact this
    · show x (pn d g (k - 1)) ≤ x 0
      by_cases c : k = 0
      · rw [c, pn_neg (by omega)]; exact Int.le_refl _
      · exact (h1 g (k - 1) g0 g1 (by omega) (by omega)).2 hc
    · have := h2 r hr'
      show x (pn d r.b (r.a + 1 - 1)) ≤ x (pn d (r.b + 1) (r.a + 1 - 1)) + _ ∧ x (pn d (r.b + 1) (r.a + 1 - 1)) ≤ x (pn d r.b (r.a + 1 - 1)) + _
      rw [Int.add_sub_cancel]
      exact this
  · rintro ⟨z, Y, y0, y1, y2, y3⟩
    have hd : (d : Int) ≠ 0 := by omega
    have back : ∀ g day : Int, 0 ≤ day → day < (d : Int) → 0 ≤ g → (if pn d g day = 0 then z else Y ((pn d g day - 1) / d) ((pn d g day - 1) % d + 1)) = Y g (day + 1) := fun g day h0 h1 g0 => by
      have hm := Int.mul_nonneg g0 (show 0 ≤ (d : Int) by omega)
      rw [pn_pos h0, if_neg (by omega)]
      have e : 1 + g * (d : Int) + day - 1 = day + g * (d : Int) := by omega
      rw [e, Int.add_mul_ediv_right _ _ hd, Int.ediv_eq_zero_of_lt h0 h1, Int.add_mul_emod_self_right, Int.emod_eq_of_lt h0 h1, Int.zero_add]
    refine ⟨fun v => if v = 0 then z else Y ((v - 1) / d) ((v - 1) % d + 1), (satP _).mpr ⟨fun g day g0 g1 h0 h1 => ?_, fun r hr' => ?_⟩⟩
    · rw [back g day h0 h1 g0]
      refine ⟨?_, fun hc => ?_⟩
      · by_cases c : day = 0
        · rw [c, pn_neg (by omega), if_pos rfl]
          have := y1 g 0 g0 g1 (by omega) (by omega)
          rw [y0] at this
          exact this
        · rw [back g (day - 1) (by omega) (by omega) g0]
          have := y1 g day g0 g1 (by omega) h1
          rw [show day - 1 + 1 = day by omega]
          exact this
      · rw [if_pos rfl]
        exact y2 g (day + 1) hc g0 g1 (by omega) (by omega)
    · obtain ⟨a0, a1, b0, b1⟩ := hr r hr'
      rw [back r.b r.a a0 a1 b0, back (r.b + 1) r.a a0 a1 (by omega)]
      exact y3 r hr'
/-- the law's rules, the other way round -/
def sw (e : Ed) : Ed := T3.mk e.b e.a e.c
theorem qn_pos {g k : Int} (h : k ≠ 0) : qn p g k = 1 + (k - 1) * (p + 1) + g := if_neg h
theorem qn_zero {g : Int} : qn p g 0 = 0 := if_pos rfl
theorem satQ (x : Int → Int) {rs : List Rd4} : Sat ((rulQ book p d rs).map sw) x ↔ (∀ g k, 0 ≤ g → g ≤ (p : Int) → 1 ≤ k → k ≤ (d : Int) → x (qn p g (k - 1)) ≤ x (qn p g k) ∧ (g ∈ book.c → x (qn p g k) ≤ x (qn p g (k - 1)))) ∧
    ∀ r ∈ rs, x (qn p r.b (r.a + 1)) ≤ x (qn p (r.b + 1) (r.a + 1)) + (r.d - Wd book r) ∧ x (qn p (r.b + 1) (r.a + 1)) ≤ x (qn p r.b (r.a + 1)) + (Wd book r - r.c) := by
  constructor
  · intro h
    have h' : ∀ e ∈ rulQ book p d rs, x e.b ≤ x e.a + e.c := fun e he => h (sw e) (List.mem_map_of_mem he)
    refine ⟨fun g k g0 g1 d0 d1 => ?_, fun r hr => ?_⟩
    · have m : ∀ e ∈ rul1 book p k g, e ∈ rulQ book p d rs := fun e he => List.mem_append_left _ (List.mem_flatMap.mpr ⟨k, mem_rng.mpr ⟨d0, by omega⟩, List.mem_flatMap.mpr ⟨g, mem_rng.mpr ⟨g0, by omega⟩, he⟩⟩)
      have h1 := h' _ (m _ (List.mem_cons_self))
      refine ⟨by have : x (qn p g (k - 1)) ≤ x (qn p g k) + 0 := h1; omega, fun hc => ?_⟩
      have h2 := h' (T3.mk (qn p g (k - 1)) (qn p g k) 0) (m _ (by unfold rul1; rw [if_pos hc]; exact List.mem_cons_of_mem _ List.mem_cons_self))
      have : x (qn p g k) ≤ x (qn p g (k - 1)) + 0 := h2
      omega
    · have m : ∀ e ∈ rul2 book p r, e ∈ rulQ book p d rs := fun e he => List.mem_append_right _ (List.mem_flatMap.mpr ⟨r, hr, he⟩)
      exact ⟨h' _ (m _ List.mem_cons_self), h' _ (m _ (List.mem_cons_of_mem _ List.mem_cons_self))⟩
  · rintro ⟨h1, h2⟩ e' he'
    obtain ⟨e, he, rfl⟩ := List.mem_map.mp he'
    show x e.b ≤ x e.a + e.c
    rcases List.mem_append.mp he with he | he
    · obtain ⟨k, hk, he⟩ := List.mem_flatMap.mp he
      obtain ⟨g, hg, he⟩ := List.mem_flatMap.mp he
      have hg' := mem_rng.mp hg
      have hk' := mem_rng.mp hk
      obtain ⟨a1, a2⟩ := h1 g k hg'.1 (by omega) hk'.1 (by omega)
      unfold rul1 at he
      rcases List.mem_cons.mp he with z | he
      · subst z
        show x (qn p g (k - 1)) ≤ x (qn p g k) + 0
        omega
      · by_cases c : g ∈ book.c
        · rw [if_pos c] at he
          rw [List.mem_singleton.mp he]
          have := a2 c
          show x (qn p g k) ≤ x (qn p g (k - 1)) + 0
          omega
        · rw [if_neg c] at he
          cases he
    · obtain ⟨r, hr, he⟩ := List.mem_flatMap.mp he
      obtain ⟨a1, a2⟩ := h2 r hr
      rcases List.mem_cons.mp he with z | he
      · subst z; exact a1
      · rw [List.mem_singleton.mp he]; exact a2
theorem feasQ {rs : List Rd4} (hr : VR p d rs) : (∃ x, Sat ((rulQ book p d rs).map sw) x) ↔ Feas book p d rs := by
  constructor
  · rintro ⟨x, h⟩
    obtain ⟨h1, h2⟩ := (satQ x).mp h
    refine ⟨x 0, fun g k => x (qn p g k), fun g => by show x (qn p g 0) = _; rw [qn_zero], fun g k g0 g1 k0 k1 => ?_, fun g k hc g0 g1 k0 k1 => ?_, fun r hr' => h2 r hr'⟩
    · have := (h1 g (k + 1) g0 g1 (by omega) (by omega)).1
      rw [Int.add_sub_cancel] at this
      exact this
    · obtain ⟨n, rfl⟩ := Int.eq_ofNat_of_zero_le k0
      show x (qn p g (n : Int)) ≤ x 0
      induction n with
      | zero =>
        rw [show ((0 : Nat) : Int) = 0 from rfl, qn_zero]
        exact Int.le_refl _
      | succ n ih =>
        have h3 := ih (by omega) (by omega)
        have h4 := (h1 g ((n + 1 : Nat) : Int) g0 g1 (by omega) k1).2 hc
        rw [show ((n + 1 : Nat) : Int) - 1 = (n : Int) by omega] at h4
        omega
  · rintro ⟨z, Y, y0, y1, y2, y3⟩
    have hp : ((p : Int) + 1) ≠ 0 := by omega
    have back : ∀ g k : Int, 1 ≤ k → 0 ≤ g → g ≤ (p : Int) → (if qn p g k = 0 then z else Y ((qn p g k - 1) % ((p : Int) + 1)) ((qn p g k - 1) / ((p : Int) + 1) + 1)) = Y g k := fun g k h0 g0 g1 => by
      have hm := Int.mul_nonneg (show 0 ≤ k - 1 by omega) (show 0 ≤ (p : Int) + 1 by omega)
      rw [qn_pos (by omega), if_neg (by omega)]
      have e : 1 + (k - 1) * ((p : Int) + 1) + g - 1 = g + (k - 1) * ((p : Int) + 1) := by omega
      rw [e, Int.add_mul_ediv_right _ _ hp, Int.ediv_eq_zero_of_lt g0 (by omega), Int.add_mul_emod_self_right, Int.emod_eq_of_lt g0 (by omega), Int.zero_add, Int.sub_add_cancel]
    have back' : ∀ g k : Int, 0 ≤ k → 0 ≤ g → g ≤ (p : Int) → (if qn p g k = 0 then z else Y ((qn p g k - 1) % ((p : Int) + 1)) ((qn p g k - 1) / ((p : Int) + 1) + 1)) = Y g k := fun g k h0 g0 g1 => by
      by_cases c : k = 0
      · rw [c, qn_zero, if_pos rfl, y0]
      · exact back g k (by omega) g0 g1
    refine ⟨fun v => if v = 0 then z else Y ((v - 1) % ((p : Int) + 1)) ((v - 1) / ((p : Int) + 1) + 1), (satQ _).mpr ⟨fun g k g0 g1 h0 h1 => ?_, fun r hr' => ?_⟩⟩
    · rw [back' g k (by omega) g0 g1, back' g (k - 1) (by omega) g0 g1]
      have h2 := y1 g (k - 1) g0 g1 (by omega) (by omega)
      rw [Int.sub_add_cancel] at h2
      refine ⟨h2, fun hc => ?_⟩
      have h3 := y2 g k hc g0 g1 (by omega) h1
      -- z ≤ Y g (k - 1)
      have h4 : ∀ n : Nat, (n : Int) ≤ d → z ≤ Y g (n : Int) := by
        intro n
        induction n with
        | zero => intro _; rw [show ((0 : Nat) : Int) = 0 from rfl, y0]; exact Int.le_refl _
        | succ n ih =>
          intro hn
          have a1 := ih (by omega)
          have a2 := y1 g (n : Int) g0 g1 (by omega) (by omega)
          have e : ((n + 1 : Nat) : Int) = (n : Int) + 1 := by omega
          rw [e]
          omega
      obtain ⟨n, hn⟩ := Int.eq_ofNat_of_zero_le (show 0 ≤ k - 1 by omega)
      have h5 := h4 n (by omega)
      rw [← hn] at h5
      omega
    · obtain ⟨a0, a1, b0, b1⟩ := hr r hr'
      rw [back' r.b (r.a + 1) (by omega) b0 (by omega), back' (r.b + 1) (r.a + 1) (by omega) (by omega) (by omega)]
      exact y3 r hr'
end
end K61

-- K61L4
namespace K61
open PySem L2 Gw
open Gw.Enc (enc)
theorem least_is {n : Nat} (h1 : n ≤ 1000) (E : List Ed) (ho : OkE n E) : ∃ R, m_least_potentials (n : Int) (Ls.mk E) = some R ∧ R.length = n ∧ ((∃ x, Sat E x) ↔ Sat E (gt' R)) := by
  unfold m_least_potentials
  rw [bs (repL_zero h1), bs (rngO_ok (by omega))]
  have hb : ∀ s (x : Int), s.length = n → ∃ c : Bool, m_least_potentials_b2 (Ls.mk E) s x = some (cond c (.nx (passE E s)) (.bk (passE E s))) ∧ (c = false ↔ Sat E (gt' s)) := by
    intro s x hs
    have hE : E.map (fun e : Ed => e) = E := List.map_id' E
    obtain ⟨c', e1, e2⟩ := round_fold (n := n) (fun e : Ed => e) (f := m_least_potentials_b1) E s false hs (by rw [hE]; exact ho) (fun s c r hs hr => by
      obtain ⟨⟨a0, a1⟩, b0, b1⟩ := ho r hr
      unfold m_least_potentials_b1
      rw [bs (gt_atI b0 (by rw [hs]; exact b1)), bs (gt_atI a0 (by rw [hs]; exact a1))]
      by_cases k : gt' s r.b + r.c < gt' s r.a
      · rw [if_pos k, decide_eq_true k, cond_true, bs (gt_atI b0 (by rw [hs]; exact b1)), bs (putO_ok a0 (by rw [hs]; exact a1))]
      · rw [if_neg k, decide_eq_false k, cond_false])
    rw [hE] at e1 e2
    refine ⟨c', ?_, ⟨fun z => (e2.mp z).2, fun z => e2.mpr ⟨rfl, z⟩⟩⟩
    unfold m_least_potentials_b2
    rw [bs e1]
    cases c' <;> rfl
  obtain ⟨R, e, hl, hR⟩ := rounds_bk ho hb (rng 0 ((n : Int) - 0).toNat) (List.replicate n 0) (by simp)
  rw [thenF_nx e]
  refine ⟨R, rfl, hl, ⟨?_, fun h => ⟨_, h⟩⟩⟩
  rintro ⟨x, hx⟩
  rcases hR with h | h
  · exact h
  · rw [h]
    refine itE_sat E ho hx ?_
    rw [rng_len]
    omega
theorem keeps_is {n : Nat} (E : List Ed) (ho : OkE n E) (R : List Int) (hl : R.length = n) [Decidable (Sat E (gt' R))] : m_keeps_all (Ls.mk R) (Ls.mk E) = some (decide (Sat E (gt' R))) := by
  unfold m_keeps_all
  rw [bs (mapO_some (g := fun e : Ed => decide (gt' R e.a ≤ gt' R e.b + e.c)) _ fun e he => ?_)]
  · congr 1
    rw [Bool.eq_iff_iff, List.all_eq_true, decide_eq_true_eq]
    constructor
    · intro h e he
      exact of_decide_eq_true (h _ (List.mem_map_of_mem he))
    · intro h b hb
      obtain ⟨e, he, rfl⟩ := List.mem_map.mp hb
      exact decide_eq_true (h e he)
  · obtain ⟨⟨a0, a1⟩, b0, b1⟩ := ho e he
    unfold m_keeps_all_c1
    rw [bs (gt_atI a0 (by rw [hl]; exact a1)), bs (gt_atI b0 (by rw [hl]; exact b1))]
theorem ranks_is {n : Nat} (h1 : n ≤ 1000) (rs : List Ed) (ho : OkE n (rs.map sw)) : ∃ o, m_law_leak_ranks (Ls.mk rs) (n : Int) = some o ∧ (o.isSome = true ↔ ∃ x, Sat (rs.map sw) x) := by
  unfold m_law_leak_ranks
  rw [bs (repL_zero h1), bs (rngO_ok (by omega))]
  have hb : ∀ s (x : Int), s.length = n → ∃ c : Bool, m_law_leak_ranks_b2 (Ls.mk rs) s x = some (cond c (.nx (passE (rs.map sw) s)) (.rt (some (Ls.mk (passE (rs.map sw) s))))) ∧ (c = false ↔ Sat (rs.map sw) (gt' s)) := by
    intro s x hs
    obtain ⟨c', e1, e2⟩ := round_fold (n := n) sw (f := m_law_leak_ranks_b1) rs s false hs ho (fun s c r hs hr => by
      obtain ⟨⟨a0, a1⟩, b0, b1⟩ := ho (sw r) (List.mem_map_of_mem hr)
      unfold m_law_leak_ranks_b1
      show (atI s (sw r).b).bind _ = _
      rw [bs (gt_atI b0 (by rw [hs]; exact b1))]
      show (atI s (sw r).a).bind _ = _
      rw [bs (gt_atI a0 (by rw [hs]; exact a1))]
      show cond (decide (gt' s (sw r).b + (sw r).c < gt' s (sw r).a)) _ _ = _
      by_cases k : gt' s (sw r).b + (sw r).c < gt' s (sw r).a
      · rw [if_pos k, decide_eq_true k, cond_true]
        show (atI s (sw r).b).bind _ = _
        rw [bs (gt_atI b0 (by rw [hs]; exact b1))]
        show (putO s (sw r).a _).bind _ = _
        rw [bs (putO_ok a0 (by rw [hs]; exact a1))]
        rfl
      · rw [if_neg k, decide_eq_false k, cond_false])
    refine ⟨c', ?_, ⟨fun z => (e2.mp z).2, fun z => e2.mpr ⟨rfl, z⟩⟩⟩
    unfold m_law_leak_ranks_b2
    rw [bs e1]
    cases c' <;> rfl
  rcases rounds_rt ho hb (rng 0 ((n : Int) + 2 - 0).toNat) (List.replicate n 0) (by simp) with ⟨r, e, hr⟩ | ⟨r, e, hr⟩
  · exact ⟨_, thenF_rt e, ⟨fun _ => ⟨_, hr⟩, fun _ => rfl⟩⟩
  · refine ⟨none, thenF_nx e, ⟨fun z => (by cases z), ?_⟩⟩
    rintro ⟨x, hx⟩
    exact absurd (itE_sat (rs.map sw) ho hx (k := n) (by omega)) (hr n (by rw [rng_len]; omega))
section
variable {p d : Nat} {book : Bk}
theorem pn_ok {g day : Int} (g0 : 0 ≤ g) (g1 : g ≤ (p : Int)) (h1 : day < (d : Int)) : 0 ≤ pn d g day ∧ pn d g day < ((1 + (p + 1) * d : Nat) : Int) := by
  have e : ((1 + (p + 1) * d : Nat) : Int) = 1 + ((p : Int) + 1) * d := by simp
  have m1 := Int.mul_nonneg g0 (show 0 ≤ (d : Int) by omega)
  have m2 := Int.mul_le_mul_of_nonneg_right g1 (show 0 ≤ (d : Int) by omega)
  have m3 : ((p : Int) + 1) * d = p * d + d := by rw [Int.add_mul, Int.one_mul]
  rw [e]
  by_cases c : day < 0
  · rw [pn_neg c]
    have m4 := Int.mul_nonneg (show 0 ≤ (p : Int) by omega) (show 0 ≤ (d : Int) by omega)
    omega
  · rw [pn_pos (by omega)]
    omega
theorem qn_ok {g k : Int} (g0 : 0 ≤ g) (g1 : g ≤ (p : Int)) (h0 : 0 ≤ k) (h1 : k ≤ (d : Int)) : 0 ≤ qn p g k ∧ qn p g k < ((1 + d * (p + 1) : Nat) : Int) := by
  have e : ((1 + d * (p + 1) : Nat) : Int) = 1 + (d : Int) * ((p : Int) + 1) := by simp
  have m4 := Int.mul_nonneg (show 0 ≤ (d : Int) by omega) (show 0 ≤ (p : Int) + 1 by omega)
  rw [e]
  by_cases c : k = 0
  · rw [c, qn_zero]
    omega
  · rw [qn_pos c]
    have m1 := Int.mul_nonneg (show 0 ≤ k - 1 by omega) (show 0 ≤ (p : Int) + 1 by omega)
    have m2 := Int.mul_le_mul_of_nonneg_right (show k - 1 ≤ (d : Int) - 1 by omega) (show 0 ≤ (p : Int) + 1 by omega)
    have m3 : ((d : Int) - 1) * ((p : Int) + 1) = d * ((p : Int) + 1) - ((p : Int) + 1) := by rw [Int.sub_mul, Int.one_mul]
    omega
theorem okP {rs : List Rd4} (hr : VR p d rs) : OkE (1 + (p + 1) * d) (limP book p d rs) := fun e he => by
  rcases List.mem_append.mp he with he | he
  · obtain ⟨g, hg, he⟩ := List.mem_flatMap.mp he
    obtain ⟨day, hd, he⟩ := List.mem_flatMap.mp he
    have hg' := mem_rng.mp hg
    have hd' := mem_rng.mp hd
    have o1 := pn_ok (p := p) (d := d) (g := g) (day := day - 1) hg'.1 (by omega) (by omega)
    have o2 := pn_ok (p := p) (d := d) (g := g) (day := day) hg'.1 (by omega) (by omega)
    have o3 := pn_ok (p := p) (d := d) (g := 0) (day := -1) (by omega) (by omega) (by omega)
    rw [pn_neg (by omega)] at o3
    unfold lim1 at he
    rcases List.mem_cons.mp he with z | he
    · subst z; exact ⟨o1, o2⟩
    · by_cases c : g ∈ book.c
      · rw [if_pos c] at he
        rw [List.mem_singleton.mp he]
        exact ⟨o2, o3⟩
      · rw [if_neg c] at he
        cases he
  · obtain ⟨r, hr', he⟩ := List.mem_flatMap.mp he
    obtain ⟨a0, a1, b0, b1⟩ := hr r hr'
    have o1 := pn_ok (p := p) (d := d) (g := r.b) (day := r.a) b0 (by omega) a1
    have o2 := pn_ok (p := p) (d := d) (g := r.b + 1) (day := r.a) (by omega) (by omega) a1
    rcases List.mem_cons.mp he with z | he
    · subst z; exact ⟨o1, o2⟩
    · rw [List.mem_singleton.mp he]; exact ⟨o2, o1⟩
theorem okQ {rs : List Rd4} (hr : VR p d rs) : OkE (1 + d * (p + 1)) ((rulQ book p d rs).map sw) := fun e' he' => by
  obtain ⟨e, he, rfl⟩ := List.mem_map.mp he'
  have : ∀ e ∈ rulQ book p d rs, (0 ≤ e.a ∧ e.a < ((1 + d * (p + 1) : Nat) : Int)) ∧ 0 ≤ e.b ∧ e.b < ((1 + d * (p + 1) : Nat) : Int) := by
    intro e he
    rcases List.mem_append.mp he with he | he
    · obtain ⟨k, hk, he⟩ := List.mem_flatMap.mp he
      obtain ⟨g, hg, he⟩ := List.mem_flatMap.mp he
      have hg' := mem_rng.mp hg
      have hk' := mem_rng.mp hk
      have o1 := qn_ok (p := p) (d := d) (g := g) (k := k - 1) hg'.1 (by omega) (by omega) (by omega)
      have o2 := qn_ok (p := p) (d := d) (g := g) (k := k) hg'.1 (by omega) (by omega) (by omega)
      unfold rul1 at he
      rcases List.mem_cons.mp he with z | he
      · subst z; exact ⟨o2, o1⟩
      · by_cases c : g ∈ book.c
        · rw [if_pos c] at he
          rw [List.mem_singleton.mp he]
          exact ⟨o1, o2⟩
        · rw [if_neg c] at he
          cases he
    · obtain ⟨r, hr', he⟩ := List.mem_flatMap.mp he
      obtain ⟨a0, a1, b0, b1⟩ := hr r hr'
      have o1 := qn_ok (p := p) (d := d) (g := r.b) (k := r.a + 1) b0 (by omega) (by omega) (by omega)
      have o2 := qn_ok (p := p) (d := d) (g := r.b + 1) (k := r.a + 1) (by omega) (by omega) (by omega) (by omega)
      rcases List.mem_cons.mp he with z | he
      · subst z; exact ⟨o2, o1⟩
      · rw [List.mem_singleton.mp he]; exact ⟨o1, o2⟩
  obtain ⟨h1, h2⟩ := this e he
  exact ⟨h2, h1⟩
theorem size_ok (B : BookOk p d book) : 1 + (p + 1) * d ≤ 1000 ∧ 1 + d * (p + 1) ≤ 1000 := by
  have h1 := Nat.mul_le_mul (show p + 1 ≤ 6 by have := B.p5; omega) B.d8
  have h2 := Nat.mul_comm d (p + 1)
  omega
theorem leak_story_is (B : BookOk p d book) {rs : List Rd4} (hr : VR p d rs) (hl : rs.length ≤ 20) : ∃ o, m_leak_story book rs = some o ∧ (o.isSome = true ↔ Feas book p d rs) := by
  have hLIM : LIM = 100000 := rfl
  have ha := B.a
  have hb := B.b
  have p5 := B.p5
  have d8 := B.d8
  obtain ⟨n1, n2⟩ := size_ok B
  have ho := okP (book := book) hr
  obtain ⟨R, eR, hR, hs⟩ := least_is n1 (limP book p d rs) ho
  have hN : ((1 + (p + 1) * d : Nat) : Int) = 1 + (((book.a.length : Int) + 1) * (book.b.length : Int)) := by
    rw [ha, hb]
    simp
  have e2 : m_places_of book = some (((1 + (p + 1) * d : Nat) : Int)) := by
    unfold m_places_of m_gate_count m_day_count
    rw [bs rfl, bs rfl, gdb (mulOk_r (by omega)), hN]
  unfold m_leak_story
  have hD : Decidable (Sat (limP book p d rs) (gt' R)) := Classical.propDecidable _
  rw [bs (limits_is B hr hl), bs e2, bs eR, bs (keeps_is (limP book p d rs) ho R hR)]
  have hF : Sat (limP book p d rs) (gt' R) ↔ Feas book p d rs := hs.symm.trans (feasP B.d1 hr)
  by_cases c : Sat (limP book p d rs) (gt' R)
  · have est : ∃ st, m_story_of_numbers book (Ls.mk R) = some st := by
      unfold m_story_of_numbers m_day_count
      rw [bs rfl, bs (rngO_ok (by omega))]
      obtain ⟨s, es, _⟩ := fold_idx (f := m_story_of_numbers_b2 book (Ls.mk R)) (fun k (s : List (List Int)) => s.length = k) (rng 0 ((book.b.length : Int) - 0).toNat) 0 [] (fun k s x hk1 hk2 hx hxk i => by
        have hx' := mem_rng.mp hx
        rw [rng_len] at hk2
        unfold m_story_of_numbers_b2 m_gate_count
        rw [bs rfl, bs (rngO_ok (by omega))]
        obtain ⟨ys, ey, _, _⟩ := mapO_ex (f := m_story_of_numbers_c1 book (Ls.mk R) x) (fun _ _ => True) (rng 0 ((book.a.length : Int) + 1 - 0).toNat) fun g hg => by
          have hg' := mem_rng.mp hg
          have o1 := pn_ok (p := p) (d := d) (g := g) (day := x) hg'.1 (by omega) (by omega)
          have o2 := pn_ok (p := p) (d := d) (g := g) (day := x - 1) hg'.1 (by omega) (by omega)
          unfold m_story_of_numbers_c1
          rw [bs (place_is B g x), bs (gt_atI o1.1 (by rw [hR]; exact o1.2)), bs (place_is B g (x - 1)), bs (gt_atI o2.1 (by rw [hR]; exact o2.2))]
          exact ⟨_, rfl, trivial⟩
        rw [bs ey, gdp (by omega)]
        exact ⟨_, rfl, by rw [List.length_append, i]; rfl⟩) rfl
      rw [bs es]
      exact ⟨_, rfl⟩
    obtain ⟨st, est⟩ := est
    refine ⟨some st, ?_, ⟨fun _ => hF.mp c, fun _ => rfl⟩⟩
    rw [decide_eq_true c, cond_true, bs est]
    rfl
  · refine ⟨none, ?_, ⟨fun z => (by cases z), fun z => absurd (hF.mpr z) c⟩⟩
    rw [decide_eq_false c]
    rfl
theorem can_fit_is (B : BookOk p d book) {rs : List Rd4} (hr : VR p d rs) (hl : rs.length ≤ 20) : ∃ b, m_law_can_fit book rs = some b ∧ (b = true ↔ Feas book p d rs) := by
  have ha := B.a
  have hb := B.b
  have p5 := B.p5
  obtain ⟨n1, n2⟩ := size_ok B
  obtain ⟨o, eo, ho⟩ := ranks_is n2 (rulQ book p d rs) (okQ (book := book) hr)
  have hN : ((1 + d * (p + 1) : Nat) : Int) = 1 + ((book.b.length : Int) * ((book.a.length : Int) + 1)) := by
    rw [ha, hb]
    simp
  have e2 : m_law_leak_nodes book = some (((1 + d * (p + 1) : Nat) : Int)) := by
    unfold m_law_leak_nodes
    rw [gdb (mulOk_r (by omega)), hN]
  unfold m_law_can_fit
  rw [bs (rules_is B hr hl), bs e2, bs eo]
  exact ⟨_, rfl, ho.trans (feasQ hr)⟩
end
end K61

-- K61L5
namespace K61
open PySem L2 Gw CpComb
open Gw.Enc (enc)
/-! all sets of indices, by size, then in order -/
def pre (K n : Nat) : List (List Int) := ((rng 0 K).map fun k => cmb k.toNat (rng 0 n)).flatten
theorem rng_succ (n : Nat) : rng 0 (n + 1) = rng 0 n ++ [(n : Int)] := by
  unfold rng
  rw [List.range_succ, List.map_append]
  simp
theorem cmb_snoc {α : Type} (a : α) : ∀ (xs : List α) (k : Nat), (cmb (k + 1) (xs ++ [a])).Perm (cmb (k + 1) xs ++ (cmb k xs).map (· ++ [a]))
  | [], 0 => List.Perm.refl _
  | [], k + 1 => by
    show ((cmb (k + 1) []).map (a :: ·) ++ cmb (k + 2) []).Perm ([] ++ (cmb (k + 1) []).map _)
    exact List.Perm.refl _
  | x :: xs, 0 => by
    have ih := cmb_snoc a xs 0
    show ((cmb 0 (xs ++ [a])).map (x :: ·) ++ cmb 1 (xs ++ [a])).Perm (((cmb 0 xs).map (x :: ·) ++ cmb 1 xs) ++ (cmb 0 (x :: xs)).map (· ++ [a]))
    have e0 : ∀ ys : List α, cmb 0 ys = [[]] := fun ys => by cases ys <;> rfl
    rw [e0, e0, e0, List.append_assoc]
    rw [e0] at ih
    exact List.Perm.append_left _ ih
  | x :: xs, k + 1 => by
    have ih1 := cmb_snoc a xs k
    have ih2 := cmb_snoc a xs (k + 1)
    show ((cmb (k + 1) (xs ++ [a])).map (x :: ·) ++ cmb (k + 2) (xs ++ [a])).Perm (((cmb (k + 1) xs).map (x :: ·) ++ cmb (k + 2) xs) ++ ((cmb k xs).map (x :: ·) ++ cmb (k + 1) xs).map (· ++ [a]))
    have e1 : ((cmb k xs).map (x :: ·) ++ cmb (k + 1) xs).map (· ++ [a]) = ((cmb k xs).map (· ++ [a])).map (x :: ·) ++ (cmb (k + 1) xs).map (· ++ [a]) := by
      rw [List.map_append, List.map_map, List.map_map]
      rfl
    rw [e1]
    have p1 := (ih1.map (x :: ·)).append ih2
    refine p1.trans ?_
    rw [List.map_append]
    generalize (cmb (k + 1) xs).map (x :: ·) = A
    generalize ((cmb k xs).map (· ++ [a])).map (x :: ·) = C
    generalize cmb (k + 2) xs = B
    generalize (cmb (k + 1) xs).map (· ++ [a]) = D
    -- (A ++ C) ++ (B ++ D) ~ (A ++ B) ++ (C ++ D)
    rw [List.append_assoc, List.append_assoc]
    refine List.Perm.append_left _ ?_
    rw [← List.append_assoc, ← List.append_assoc]
    exact List.Perm.append_right _ List.perm_append_comm
theorem flat_app {α β : Type} (f g : α → List β) : ∀ xs : List α, (xs.flatMap fun x => f x ++ g x).Perm (xs.flatMap f ++ xs.flatMap g)
  | [] => List.Perm.refl _
  | x :: xs => by
    rw [List.flatMap_cons, List.flatMap_cons, List.flatMap_cons]
    have ih := flat_app f g xs
    refine (List.Perm.append_left _ ih).trans ?_
    rw [List.append_assoc, List.append_assoc]
    refine List.Perm.append_left _ ?_
    rw [← List.append_assoc, ← List.append_assoc]
    exact List.Perm.append_right _ List.perm_append_comm
theorem flat_perm {α β : Type} {f g : α → List β} : ∀ xs : List α, (∀ x ∈ xs, (f x).Perm (g x)) → (xs.flatMap f).Perm (xs.flatMap g)
  | [], _ => List.Perm.refl _
  | x :: xs, h => by
    rw [List.flatMap_cons, List.flatMap_cons]
    exact (h x List.mem_cons_self).append (flat_perm xs fun y hy => h y (List.mem_cons_of_mem _ hy))
def tot (m : Nat) (xs : List Int) : List (List Int) := (List.range m).flatMap fun k => cmb k xs
theorem tot_snoc (m : Nat) (xs : List Int) (a : Int) : (tot (m + 1) (xs ++ [a])).Perm (tot (m + 1) xs ++ (tot m xs).map (· ++ [a])) := by
  unfold tot
  rw [List.range_succ_eq_map, List.flatMap_cons, List.flatMap_cons, List.flatMap_map, List.flatMap_map, List.map_flatMap]
  have e0 : ∀ ys : List Int, cmb 0 ys = [[]] := fun ys => by cases ys <;> rfl
  rw [e0, e0, List.append_assoc]
  refine List.Perm.append_left _ ?_
  refine (flat_perm (List.range m) fun k _ => cmb_snoc a xs k).trans ?_
  exact flat_app (fun k => cmb (k + 1) xs) (fun k => (cmb k xs).map (· ++ [a])) (List.range m)
theorem tot_full (xs : List Int) : tot (xs.length + 2) xs = tot (xs.length + 1) xs := by
  unfold tot
  rw [List.range_succ, List.flatMap_append]
  show _ ++ (cmb (xs.length + 1) xs ++ []) = _
  rw [cmb_none (xs.length + 1) xs (by omega), List.append_nil, List.append_nil]
theorem pre_tot (K n : Nat) : pre K n = tot K (rng 0 n) := by
  unfold pre tot rng
  rw [List.map_map, List.flatMap_def]
  congr 1
  refine List.map_congr_left fun k _ => ?_
  show cmb (0 + (k : Int)).toNat _ = _
  rw [Int.zero_add, Int.toNat_natCast]
def rawC (n : Nat) : List (List Int) := (rng 0 n).foldl (fun f k => f ++ f.map (· ++ [k])) [[]]
theorem rawC_succ (n : Nat) : rawC (n + 1) = rawC n ++ (rawC n).map (· ++ [(n : Int)]) := by
  unfold rawC
  rw [rng_succ, List.foldl_append]
  rfl
theorem raw_perm : ∀ n : Nat, (pre (n + 1) n).Perm (rawC n)
  | 0 => by
    have : pre 1 0 = rawC 0 := by decide +kernel
    rw [this]
  | n + 1 => by
    have ih := raw_perm n
    rw [pre_tot] at ih ⊢
    rw [rawC_succ, rng_succ]
    refine (tot_snoc (n + 1) (rng 0 n) (n : Int)).trans ?_
    have e := tot_full (rng 0 n)
    rw [rng_len] at e
    rw [e]
    exact ih.append (ih.map _)
theorem raw_len : ∀ n : Nat, (rawC n).length = 2 ^ n ∧ ∀ c ∈ rawC n, c.length ≤ n
  | 0 => by decide +kernel
  | n + 1 => by
    obtain ⟨h1, h2⟩ := raw_len n
    rw [rawC_succ]
    refine ⟨by rw [List.length_append, List.length_map, h1, Nat.pow_succ]; omega, fun c hc => ?_⟩
    rcases List.mem_append.mp hc with z | z
    · have := h2 c z; omega
    · obtain ⟨c', hc', rfl⟩ := List.mem_map.mp z
      have := h2 c' hc'
      rw [List.length_append]
      show _ + 1 ≤ _
      omega
theorem cmb_sorted : ∀ (k : Nat) (xs : List Int), xs.Pairwise (· < ·) → (cmb k xs).Pairwise fun a b => rowLt a b = true
  | 0, xs, _ => by
    have e0 : cmb 0 xs = [[]] := by cases xs <;> rfl
    rw [e0]
    exact List.pairwise_singleton _ _
  | _ + 1, [], _ => List.Pairwise.nil
  | k + 1, x :: xs, h => by
    have hx := (List.pairwise_cons.mp h).1
    have hxs := (List.pairwise_cons.mp h).2
    show ((cmb k xs).map (x :: ·) ++ cmb (k + 1) xs).Pairwise _
    rw [List.pairwise_append]
    refine ⟨?_, cmb_sorted (k + 1) xs hxs, fun a ha b hb => ?_⟩
    · rw [List.pairwise_map]
      refine (cmb_sorted k xs hxs).imp fun {a b} hab => ?_
      rw [rowLt, if_pos rfl]
      exact hab
    · obtain ⟨a', ha', rfl⟩ := List.mem_map.mp ha
      have hl := cmb_len (k + 1) xs b hb
      cases b with
      | nil => cases hl
      | cons y b =>
        have hy := hx y (cmb_mem (k + 1) xs (y :: b) hb y List.mem_cons_self)
        rw [rowLt, if_neg (by omega)]
        exact decide_eq_true hy
theorem rng_lt (n : Nat) : (rng 0 n).Pairwise (· < ·) := by
  unfold rng
  rw [List.pairwise_map]
  exact List.pairwise_lt_range.imp fun {a b} h => by omega
theorem pre_sorted (K n : Nat) : ((pre K n).map fun c => ((c.length : Int), c)).Pairwise fun a b => (!EncOrd.lt b a) = true := by
  rw [List.pairwise_map]
  unfold pre
  rw [List.pairwise_flatten]
  refine ⟨fun l hl => ?_, ?_⟩
  · obtain ⟨k, hk, rfl⟩ := List.mem_map.mp hl
    refine List.Pairwise.imp_of_mem (fun {a b} ha hb hab => ?_) (cmb_sorted k.toNat (rng 0 n) (rng_lt n))
    have la := cmb_len _ _ _ ha
    have lb := cmb_len _ _ _ hb
    rw [Bool.not_eq_true', pair_lt, if_pos (by show (b.length : Int) = (a.length : Int); omega)]
    have hne : rowLt b a = false := EncLin.asym (α := List Int) hab
    split
    · rfl
    · exact hne
  · rw [List.pairwise_map]
    refine List.Pairwise.imp_of_mem (fun {j k} hj hk hjk a ha b hb => ?_) (rng_lt K)
    have la := cmb_len _ _ _ ha
    have lb := cmb_len _ _ _ hb
    have hj' := mem_rng.mp hj
    rw [Bool.not_eq_true', pair_lt, if_neg (by show ¬ (b.length : Int) = (a.length : Int); omega)]
    show decide ((b.length : Int) < (a.length : Int)) = false
    exact decide_eq_false (by omega)
theorem sets_ok {n : Nat} (hn : n ≤ 12) : m_law_index_sets (n : Int) = some (pre (n + 1) n) := by
  have hLIM : LIM = 100000 := rfl
  have p2 : ∀ k, k ≤ 12 → 2 ^ k ≤ 4096 := fun k hk => Nat.pow_le_pow_right (by decide) hk
  unfold m_law_index_sets
  rw [bs rfl, bs (rngO_ok (by omega))]
  have e0 : ((n : Int) - 0).toNat = n := by omega
  rw [e0]
  obtain ⟨s, es, hs⟩ := fold_idx (f := m_law_index_sets_b2) (fun k (s : Ls (List Int)) => s.l = rawC k) (rng 0 n) 0 (Ls.mk [[]]) (fun k s x hk1 hk2 hx hxk i => by
    rw [rng_len] at hk2
    rw [Nat.sub_zero, rng_get (by omega)] at hxk
    cases hxk
    obtain ⟨h1, h2⟩ := raw_len k
    have h3 := p2 k (by omega)
    unfold m_law_index_sets_b2
    rw [i, bs (mapO_some (g := fun c => c ++ [0 + (k : Int)]) _ fun c hc => ?_), gdp (by rw [List.length_map, h1]; omega)]
    · refine ⟨_, rfl, ?_⟩
      rw [rawC_succ, Int.zero_add]
    · have := h2 c hc
      unfold m_law_index_sets_c1
      rw [gdp (by show c.length + 1 ≤ LIM; omega)]) rfl
  rw [rng_len, Nat.zero_add] at hs
  rw [bs es, hs]
  have hl := (raw_len n).1
  have hl2 := p2 n hn
  have e3 : sortO (List.map (fun (x11 : (List Int)) => (((x11).length : Int), x11)) (rawC n)) = some ((pre (n + 1) n).map fun x => ((x.length : Int), x)) := by
    unfold sortO
    rw [if_pos (by rw [List.length_map]; omega), sort_uniq ((raw_perm n).map _) (pre_sorted (n + 1) n)]
  rw [bs e3, List.map_map]
  congr 1
  exact List.map_id _
/-! the first set that will do -/
theorem loop_find {α R : Type} {f : Unit → α → Option (Ctl Unit R)} (P : α → Bool) (g : α → R) : ∀ xs : List α, (∀ x ∈ xs, f () x = some (cond (P x) (.rt (g x)) (.nx ()))) → loop f xs () = some (match xs.find? P with
    | some x => .rt (g x)
    | none => .nx ())
  | [], _ => rfl
  | x :: xs, h => by
    have e := h x List.mem_cons_self
    rw [List.find?_cons]
    cases hp : P x with
    | true => rw [hp] at e; exact loop_rt e
    | false => rw [hp] at e; rw [loop_nx e]; exact loop_find P g xs fun y hy => h y (List.mem_cons_of_mem _ hy)
theorem loop_app {α R : Type} {f : Unit → α → Option (Ctl Unit R)} {r : R} : ∀ (xs ys : List α), loop f xs () = some (.rt r) → loop f (xs ++ ys) () = some (.rt r)
  | [], ys, h => by cases h
  | x :: xs, ys, h => by
    unfold loop at h
    obtain ⟨c, h1, h2⟩ := bnd h
    cases c with
    | nx s => rw [List.cons_append, loop_nx h1]; exact loop_app xs ys h2
    | rt r' =>
      cases h2
      rw [List.cons_append]
      exact loop_rt h1
    | bk s => cases h2
def keep (rs : List Rd4) (c : List Int) : List Rd4 := ((rng 0 rs.length).filter fun i => !decide (i ∈ c)).map fun i => rs.getD i.toNat ⟨0, 0, 0, 0⟩
theorem keep_mem {rs : List Rd4} {c : List Int} {x : Rd4} (h : x ∈ keep rs c) : ∃ i : Nat, i < rs.length ∧ rs[i]? = some x ∧ (i : Int) ∉ c := by
  obtain ⟨i, hi, rfl⟩ := List.mem_map.mp h
  obtain ⟨h1, h2⟩ := List.mem_filter.mp hi
  have h3 := mem_rng.mp h1
  refine ⟨i.toNat, by omega, some_getD _ (by omega), ?_⟩
  have : ((i.toNat : Nat) : Int) = i := by omega
  rw [this]
  simpa using h2
theorem keep_len (rs : List Rd4) (c : List Int) : (keep rs c).length ≤ rs.length := by
  unfold keep
  rw [List.length_map]
  have := List.length_filter_le (fun i => !decide (i ∈ c)) (rng 0 rs.length)
  rw [rng_len] at this
  exact this
theorem filO_keep {rs : List Rd4} {c : List Int} : ∀ xs : List Int, (∀ i ∈ xs, 0 ≤ i ∧ i < (rs.length : Int)) → filO (m_law_others_c1 rs c) xs = some ((xs.filter fun i => !decide (i ∈ c)).map fun i => rs.getD i.toNat ⟨0, 0, 0, 0⟩)
  | [], _ => rfl
  | i :: xs, h => by
    obtain ⟨i0, i1⟩ := h i List.mem_cons_self
    have ih := filO_keep (c := c) xs fun j hj => h j (List.mem_cons_of_mem _ hj)
    unfold filO
    rw [List.filter_cons]
    by_cases k : i ∈ c
    · have e : m_law_others_c1 rs c i = some none := by
        unfold m_law_others_c1
        rw [decide_eq_true k]; rfl
      rw [bs e, bs ih, decide_eq_true k]
      rfl
    · have e : m_law_others_c1 rs c i = some (some (rs.getD i.toNat ⟨0, 0, 0, 0⟩)) := by
        unfold m_law_others_c1
        rw [decide_eq_false k, Bool.not_false, cond_true, bs (atI_row _ i0 i1)]
      rw [bs e, bs ih, decide_eq_false k]
      rfl
section
variable {p d : Nat} {book : Bk}
theorem keep_vr {rs : List Rd4} (hr : VR p d rs) (c : List Int) : VR p d (keep rs c) := fun x hx => by
  obtain ⟨i, _, h, _⟩ := keep_mem hx
  exact hr x (List.mem_of_getElem? h)
theorem others_is (rs : List Rd4) (hl : rs.length ≤ 20) (c : List Int) : m_law_others rs c = some (keep rs c) := by
  unfold m_law_others
  rw [bs (rngO_ok (by omega))]
  have e0 : ((rs.length : Int) - 0).toNat = rs.length := by omega
  rw [e0, bs (filO_keep (rng 0 rs.length) fun i hi => by have := mem_rng.mp hi; omega)]
  rfl
theorem some_is (rs : List Rd4) (c : List Int) : m_some_readings rs (Ls.mk ((rng 0 rs.length).filter fun i => !decide (i ∈ c))) = some (keep rs c) := by
  unfold m_some_readings
  rw [bs (mapO_some (g := fun i => rs.getD i.toNat ⟨0, 0, 0, 0⟩) _ fun i hi => ?_)]
  · rfl
  · have h3 := mem_rng.mp (List.mem_filter.mp hi).1
    unfold m_some_readings_c1
    rw [bs (atI_row _ h3.1 (by omega))]
/-- both find the same first set -/
theorem fewest_eq (B : BookOk p d book) {rs : List Rd4} (hr : VR p d rs) {K : Nat} (hK : K ≤ rs.length) (hn : rs.length ≤ 8 ∨ (rs.length ≤ 12 ∧ K ≤ 2)) {most : Int} (hm : (K : Int) ≤ most) (ex : ∃ c ∈ pre (K + 1) rs.length, Feas book p d (keep rs c)) :
    ∃ c ∈ pre (K + 1) rs.length, m_fewest_to_go book rs = some (some ((c.length : Int), c)) ∧ m_law_fewest_go book rs most = some (some ((c.length : Int), c)) ∧ c.length ≤ K := by
  have hD : ∀ c, Decidable (Feas book p d (keep rs c)) := fun c => Classical.propDecidable _
  have hl20 : rs.length ≤ 20 := by omega
  let P : List Int → Bool := fun c => @decide (Feas book p d (keep rs c)) (hD c)
  have hP : ∀ c, P c = true ↔ Feas book p d (keep rs c) := fun c => @decide_eq_true_iff _ (hD c)
  have lenk : ∀ c ∈ pre (K + 1) rs.length, c.length ≤ K := fun c hc => by
    obtain ⟨l, hl, hc⟩ := List.mem_flatten.mp hc
    obtain ⟨k, hk, rfl⟩ := List.mem_map.mp hl
    have := cmb_len _ _ _ hc
    have := mem_rng.mp hk
    omega
  obtain ⟨c, hc⟩ : ∃ c, (pre (K + 1) rs.length).find? P = some c := by
    cases h : (pre (K + 1) rs.length).find? P with
    | some c => exact ⟨c, rfl⟩
    | none =>
      obtain ⟨c, h1, h2⟩ := ex
      have := List.find?_eq_none.mp h c h1
      exact absurd ((hP c).mpr h2) this
  have hcm := List.mem_of_find?_eq_some hc
  refine ⟨c, hcm, ?_, ?_, lenk c hcm⟩
  · -- the program's
    have inner : ∀ k : Int, 0 ≤ k → k ≤ (K : Int) → m_fewest_to_go_b2 book rs () k = some (match (cmb k.toNat (rng 0 rs.length)).find? P with
      | some c => .rt (some ((c.length : Int), c))
      | none => .nx ()) := fun k k0 k1 => by
      unfold m_fewest_to_go_b2
      rw [bs (rngO_ok (by omega))]
      have e0 : ((rs.length : Int) - 0).toNat = rs.length := by omega
      have e1 : combO (rng 0 rs.length) k = some (cmb k.toNat (rng 0 rs.length)) := if_pos ⟨k0, by rw [rng_len]; omega⟩
      rw [e0, bs e1]
      have e2 := loop_find (f := m_fewest_to_go_b1 book rs k) P (fun c => some (k, c)) (cmb k.toNat (rng 0 rs.length)) (fun c _ => by
        unfold m_fewest_to_go_b1
        rw [bs (rngO_ok (by omega)), bs rfl, e0, List.map_id', bs (some_is rs c)]
        obtain ⟨o, eo, ho⟩ := leak_story_is B (keep_vr hr c) (Nat.le_trans (keep_len rs c) hl20)
        rw [bs eo]
        have : o.isSome = P c := by rw [Bool.eq_iff_iff, ho, hP]
        rw [this]
        cases P c <;> rfl)
      cases h : (cmb k.toNat (rng 0 rs.length)).find? P with
      | none =>
        rw [h] at e2
        rw [thenC_nx e2]
      | some c =>
        rw [h] at e2
        rw [thenC_rt e2]
        have := cmb_len _ _ _ (List.mem_of_find?_eq_some h)
        have e3 : k = (c.length : Int) := by omega
        show some (Ctl.rt (some (k, c))) = some (Ctl.rt (some ((c.length : Int), c)))
        rw [e3]
    have outer : ∀ ks : List Int, (∀ k ∈ ks, 0 ≤ k ∧ k ≤ (K : Int)) → loop (m_fewest_to_go_b2 book rs) ks () = some (match ((ks.map fun k => cmb k.toNat (rng 0 rs.length)).flatten).find? P with
      | some c => .rt (some ((c.length : Int), c))
      | none => .nx ()) := by
      intro ks
      induction ks with
      | nil => intro _; rfl
      | cons k ks ih =>
        intro h
        obtain ⟨k0, k1⟩ := h k List.mem_cons_self
        have e := inner k k0 k1
        rw [List.map_cons, List.flatten_cons, List.find?_append]
        cases h2 : (cmb k.toNat (rng 0 rs.length)).find? P with
        | some c => rw [h2] at e; exact loop_rt e
        | none => rw [h2] at e; rw [loop_nx e]; exact ih fun j hj => h j (List.mem_cons_of_mem _ hj)
    have o1 := outer (rng 0 (K + 1)) fun k hk => by have := mem_rng.mp hk; omega
    have o2 : loop (m_fewest_to_go_b2 book rs) (rng 0 (K + 1)) () = some (.rt (some ((c.length : Int), c))) := by
      have hc' : (((rng 0 (K + 1)).map fun k => cmb k.toNat (rng 0 rs.length)).flatten).find? P = some c := hc
      rw [o1, hc']
    unfold m_fewest_to_go
    rw [bs (rngO_ok (by omega))]
    have e0 : ((rs.length : Int) + 1 - 0).toNat = K + 1 + (rs.length - K) := by omega
    have er : ∀ a b : Nat, rng 0 (a + b) = rng 0 a ++ (rng 0 (a + b)).drop a := fun a b => by
      have : (rng 0 (a + b)).take a = rng 0 a := by
        unfold rng
        rw [← List.map_take, List.take_range]
        congr 2
        omega
      conv => lhs; rw [← List.take_append_drop a (rng 0 (a + b)), this]
    rw [e0, er, thenF_rt (loop_app _ _ o2)]
  · -- the law's
    have e1 := loop_find (f := m_law_fewest_go_b1 book rs most) P (fun c => some ((c.length : Int), c)) (pre (K + 1) rs.length) (fun c hc => by
      have := lenk c hc
      unfold m_law_fewest_go_b1
      rw [decide_eq_false (by omega), cond_false, bs (others_is rs hl20 c)]
      obtain ⟨b, eb, hb⟩ := can_fit_is B (keep_vr hr c) (Nat.le_trans (keep_len rs c) hl20)
      rw [bs eb]
      have : b = P c := by rw [Bool.eq_iff_iff, hb, hP]
      rw [this]
      cases P c <;> rfl)
    rw [hc] at e1
    unfold m_law_fewest_go
    rw [bs (sets_ok (by omega))]
    have es : pre (rs.length + 1) rs.length = pre (K + 1) rs.length ++ (((rng 0 (rs.length + 1)).drop (K + 1)).map fun k => cmb k.toNat (rng 0 rs.length)).flatten := by
      unfold pre
      rw [← List.flatten_append, ← List.map_append]
      congr 2
      have : (rng 0 (rs.length + 1)).take (K + 1) = rng 0 (K + 1) := by
        unfold rng
        rw [← List.map_take, List.take_range]
        congr 2
        omega
      rw [← this, List.take_append_drop]
    rw [es, thenF_rt (loop_app _ _ e1)]
end
end K61

-- K61L
namespace K61
open PySem L2 Gw CpComb
open Gw.Enc (enc)
def cumN (st : List (List Int)) (g : Nat) : Nat → Int
  | 0 => 0
  | k + 1 => cumN st g k + (st.getD k []).getD g 0
theorem wat_cum (a : List Int) (b st : List (List Int)) (i : Nat) : ∀ k : Nat, wat a b st k i = wat a b [] k i + cumN st i k - cumN st (i + 1) k
  | 0 => by
    show a.getD i 0 = a.getD i 0 + 0 - 0
    omega
  | k + 1 => by
    have ih := wat_cum a b st i k
    show wat a b st k i + (b.getD k []).getD i 0 + (st.getD k []).getD i 0 - (st.getD k []).getD (i + 1) 0 = (wat a b [] k i + (b.getD k []).getD i 0 + 0 - 0) + (cumN st i k + (st.getD k []).getD i 0) - (cumN st (i + 1) k + (st.getD k []).getD (i + 1) 0)
    omega
section
variable {p d : Nat} {book : Bk}
theorem feas_keeps {st : List (List Int)} (S : StoryOk p d book st) {rs : List Rd4} (hr : VR p d rs) (hk : Keeps book st rs) : Feas book p d rs := by
  refine ⟨0, fun g k => cumN st g.toNat k.toNat, fun g => rfl, fun g k g0 g1 k0 k1 => ?_, fun g k hc g0 g1 k0 k1 => ?_, fun x hx => ?_⟩
  · have e : (k + 1).toNat = k.toNat + 1 := by omega
    show cumN st g.toNat k.toNat ≤ cumN st g.toNat (k + 1).toNat
    rw [e]
    have := S.pos k.toNat g.toNat
    show _ ≤ cumN st g.toNat k.toNat + (st.getD k.toNat []).getD g.toNat 0
    omega
  · have hg : ((g.toNat : Nat) : Int) = g := by omega
    have : ∀ n, cumN st g.toNat n = 0 := by
      intro n
      induction n with
      | zero => rfl
      | succ n ih =>
        show cumN st g.toNat n + (st.getD n []).getD g.toNat 0 = 0
        rw [ih, S.tight n g.toNat (by rw [hg]; exact hc)]
        rfl
    show cumN st g.toNat k.toNat ≤ 0
    rw [this]
    exact Int.le_refl _
  · obtain ⟨a0, a1, b0, b1⟩ := hr x hx
    obtain ⟨h1, h2⟩ := hk x hx
    have e1 : (x.a + 1).toNat = x.a.toNat + 1 := by omega
    have e2 : (x.b + 1).toNat = x.b.toNat + 1 := by omega
    have hw := wat_cum book.a book.b st x.b.toNat (x.a.toNat + 1)
    have e3 : Ws book st x = wat book.a book.b st (x.a.toNat + 1) x.b.toNat := rfl
    have e4 : Wd book x = wat book.a book.b [] (x.a.toNat + 1) x.b.toNat := rfl
    show cumN st x.b.toNat (x.a + 1).toNat ≤ cumN st (x.b + 1).toNat (x.a + 1).toNat + _ ∧ cumN st (x.b + 1).toNat (x.a + 1).toNat ≤ cumN st x.b.toNat (x.a + 1).toNat + _
    rw [e1, e2]
    omega
theorem feas_sub {rs rs' : List Rd4} (h : Feas book p d rs) (hs : ∀ x ∈ rs', x ∈ rs) : Feas book p d rs' := by
  obtain ⟨z, Y, a, b, c, e⟩ := h
  exact ⟨z, Y, a, b, c, fun x hx => e x (hs x hx)⟩
theorem feas_nil : Feas book p d [] := ⟨0, fun _ _ => 0, fun _ => rfl, fun _ _ _ _ _ _ => Int.le_refl _, fun _ _ _ _ _ _ _ => Int.le_refl _, fun x hx => by cases hx⟩
theorem cmb_all {α : Type} : ∀ xs : List α, xs ∈ cmb xs.length xs
  | [] => List.mem_singleton.mpr rfl
  | x :: xs => List.mem_append_left _ (List.mem_map.mpr ⟨xs, cmb_all xs, rfl⟩)
theorem mem_pre {K n k : Nat} {c : List Int} (hk : k < K) (h : c ∈ cmb k (rng 0 n)) : c ∈ pre K n := by
  refine List.mem_flatten.mpr ⟨cmb k (rng 0 n), List.mem_map.mpr ⟨(k : Int), mem_rng.mpr ⟨by omega, by omega⟩, ?_⟩, h⟩
  rw [Int.toNat_natCast]
theorem keep_all (rs : List Rd4) : keep rs (rng 0 rs.length) = [] := by
  unfold keep
  rw [List.filter_eq_nil_iff.mpr fun i hi => by simp [hi]]
  rfl
theorem okB_list {α : Type} [Enc α] {n : Nat} {l : List α} (hl : l.length ≤ 50000) (h : ∀ a ∈ l, okB n (enc a) = true) : okB (n + 1) (enc l) = true := by
  show okB (n + 1) (.tuple (l.map enc)) = true
  unfold okB
  rw [Bool.and_eq_true, decide_eq_true_eq, List.length_map, List.all_eq_true]
  refine ⟨hl, fun d hd => ?_⟩
  obtain ⟨a, ha, rfl⟩ := List.mem_map.mp hd
  exact h a ha
theorem okB_ch {q : Int × List Int} (h : q.2.length ≤ 100) : okB 9 (enc (some q)) = true := by
  obtain ⟨a, l⟩ := q
  show okB 9 (.tuple [.int a, enc l]) = true
  unfold okB
  rw [Bool.and_eq_true, decide_eq_true_eq, List.all_eq_true]
  refine ⟨by show 2 ≤ 50000; decide, fun e he => ?_⟩
  rcases List.mem_cons.mp he with z | he
  · subst z; simp [okB]
  · rcases List.mem_cons.mp he with z | he
    · subst z
      exact okB_list (by have : l.length ≤ 100 := h; omega) fun a _ => by show okB 7 (.int a) = true; simp [okB]
    · cases he
theorem same_ok {q : Int × List Int} (h : q.2.length ≤ 100) : sameO (some q) (some q) = some true := by
  unfold sameO
  rw [if_pos ⟨rfl, okB_ch h⟩]
/-- all of them may go -/
theorem fewest_any (B : BookOk p d book) {rs : List Rd4} (hr : VR p d rs) (hn : rs.length ≤ 8) {most : Int} (hm : (rs.length : Int) ≤ most) : ∃ q : Int × List Int, m_fewest_to_go book rs = some (some q) ∧ m_law_fewest_go book rs most = some (some q) ∧ q.2.length ≤ 100 := by
  have hall := cmb_all (rng 0 rs.length)
  rw [rng_len] at hall
  obtain ⟨c, _, h1, h2, h3⟩ := fewest_eq B hr (K := rs.length) (Nat.le_refl _) (.inl hn) hm ⟨rng 0 rs.length, mem_pre (Nat.lt_succ_self _) hall, by rw [keep_all]; exact feas_nil⟩
  exact ⟨_, h1, h2, by show c.length ≤ 100; omega⟩
theorem scene_ok (ds : List Int) {p d : Nat} (p1 : 1 ≤ p) (p5 : p ≤ 5) (d1 : 1 ≤ d) (d8 : d ≤ 8) {many : Int} (m0 : 0 ≤ many) (m9 : many < 20) : ∃ r, m_law_leak_scene ds (p : Int) (d : Int) many = some r ∧ BookOk p d r.1.a ∧ VR p d r.1.c ∧ Feas r.1.a p d r.1.c ∧ (r.1.c.length : Int) = many := by
  obtain ⟨r1, e1, s0⟩ := scale_ok ds
  obtain ⟨r2, e2, B⟩ := book_ok r1.2 p1 p5 d1 d8 r1.1
  obtain ⟨r3, e3, S⟩ := story_ok B r2.2 s0
  obtain ⟨r4, e4, v4, k4, l4⟩ := kept_ok B S r3.2 m0 m9 s0
  unfold m_law_leak_scene
  rw [bs e1, bs e2, bs e3, bs e4]
  exact ⟨_, rfl, B, v4, feas_keeps S v4 k4, l4⟩
theorem against_ok (ds : List Int) {rs : List Rd4} (hr : VR p d rs) (h0 : rs ≠ []) (scale : Int) : ∃ r, m_law_against ds rs scale = some r ∧ VR p d [r.1] := by
  obtain ⟨r1, e1, h1⟩ := pk ds rs h0
  obtain ⟨r2, e2, a0, a1⟩ := tk r1.2 (m := 3) (by decide)
  obtain ⟨r5, e5, b0, b1⟩ := tk r2.2 (m := 3) (by decide)
  unfold m_law_against
  rw [bs e1, bs e2, gdb (mulOk_r (by omega)), bs rfl, bs e5, gdb (mulOk_r (by omega))]
  refine ⟨_, rfl, fun x hx => ?_⟩
  rw [List.mem_singleton.mp hx]
  exact hr r1.1 h1
theorem moved_len (ds : List Int) {rs : List Rd4} (hr : VR p d rs) (hl : rs.length ≤ 20) (scale : Int) : ∃ r, m_law_moved_reading ds rs scale = some r ∧ VR p d r.1 ∧ r.1.length = rs.length := by
  obtain ⟨r, e, hv⟩ := moved_ok ds hr hl scale
  refine ⟨r, e, hv, ?_⟩
  unfold m_law_moved_reading at e
  by_cases c : ((rs.length : Int)) = 0
  · rw [decide_eq_true c] at e
    cases e
    rfl
  rw [decide_eq_false c, cond_false] at e
  obtain ⟨r1, e1, e⟩ := bnd e
  obtain ⟨v, ev, e⟩ := bnd e
  obtain ⟨r3, e3, e⟩ := bnd e
  obtain ⟨_, e⟩ := bndg e
  obtain ⟨v5, e5, e⟩ := bnd e
  cases e
  obtain ⟨r1', e1', a0, a1⟩ := tk ds (m := (rs.length : Int)) (by omega)
  rw [e1] at e1'
  cases e1'
  unfold m_law_put at e5
  obtain ⟨_, e5⟩ := bndg e5
  obtain ⟨_, e5⟩ := bndg e5
  cases e5
  have k1 : (some r1.1 : Option Int) = some ((r1.1.toNat : Nat) : Int) := by congr 1; omega
  have k2 : (some (r1.1 + 1) : Option Int) = some ((r1.1.toNat + 1 : Nat) : Int) := by congr 1; omega
  show (cut rs none (some r1.1) ++ [_] ++ cut rs (some (r1.1 + 1)) none).length = rs.length
  rw [k1, k2, cut_to, cut_from]
  simp
  omega
/-- one reading more, put at a place -/
def ins (rs : List Rd4) (k : Nat) (x : Rd4) : List Rd4 := rs.take k ++ [x] ++ rs.drop k
theorem ins_len {rs : List Rd4} {k : Nat} {x : Rd4} : (ins rs k x).length = rs.length + 1 := by
  unfold ins
  simp
  omega
theorem ins_vr {rs : List Rd4} (hr : VR p d rs) {k : Nat} {x : Rd4} (hx : VR p d [x]) : VR p d (ins rs k x) := fun y hy => by
  rcases List.mem_append.mp hy with z | z
  · rcases List.mem_append.mp z with z | z
    · exact hr y (List.mem_of_mem_take z)
    · exact hx y z
  · exact hr y (List.mem_of_mem_drop z)
theorem ins_keep {rs : List Rd4} {k : Nat} {x : Rd4} (hk : k ≤ rs.length) : ∀ y ∈ keep (ins rs k x) [(k : Int)], y ∈ rs := fun y hy => by
  obtain ⟨i, hi, h1, h2⟩ := keep_mem hy
  have hne : i ≠ k := fun z => h2 (by rw [z]; exact List.mem_singleton.mpr rfl)
  unfold ins at h1
  rw [List.append_assoc] at h1
  have hlt : (rs.take k).length = k := by rw [List.length_take]; omega
  by_cases c : i < k
  · rw [List.getElem?_append_left (by omega)] at h1
    exact List.mem_of_mem_take (List.mem_of_getElem? h1)
  · rw [List.getElem?_append_right (by omega), hlt] at h1
    obtain ⟨j, hj⟩ : ∃ j, i - k = j + 1 := ⟨i - k - 1, by omega⟩
    rw [hj] at h1
    have h1 : (rs.drop k)[j]? = some y := h1
    exact List.mem_of_mem_drop (List.mem_of_getElem? h1)
theorem ins_is {rs : List Rd4} {k : Int} {x : Rd4} (k0 : 0 ≤ k) (hl : rs.length ≤ 20) {β : Type} {f : List Rd4 → Option β} : ((gd (decide (((cut rs none (some k))).length + (([x] : List (T4 Int Int Int Int))).length ≤ LIM))).bind fun _ => (gd (decide ((((cut rs none (some k)) ++ ([x] : List (T4 Int Int Int Int)))).length + ((cut rs (some k) none)).length ≤ LIM))).bind fun _ => (some (((cut rs none (some k)) ++ ([x] : List (T4 Int Int Int Int))) ++ (cut rs (some k) none))).bind f) = f (ins rs k.toNat x) := by
  have hLIM : LIM = 100000 := rfl
  have c1 := cut_len rs none (some k)
  have c2 := cut_len rs (some k) none
  have k1 : (some k : Option Int) = some ((k.toNat : Nat) : Int) := by congr 1; omega
  rw [gdp (by show _ + 1 ≤ LIM; omega), gdp (by rw [List.length_append]; show _ + 1 + _ ≤ LIM; omega), bs rfl, k1, cut_to, cut_from]
  rfl
theorem shuffled_ok (ds : List Int) (row : List Rd4) (hl : row.length ≤ 20) : ∃ r, m_law_shuffled ds (Ls.mk row) = some r ∧ r.1.length = row.length ∧ ∀ x ∈ r.1, x ∈ row := by
  have hLIM : LIM = 100000 := rfl
  unfold m_law_shuffled
  rw [bs rfl, bs (rngO_ok (lo := 0) (hi := (row.length : Int)) (by omega))]
  obtain ⟨s, es, _, h2, _, h4⟩ := fold_idx (f := m_law_shuffled_b1) (fun k (s : List Int × List Rd4 × List Rd4) => s.2.1.length + k = row.length ∧ s.2.2.length = k ∧ (∀ x ∈ s.2.1, x ∈ row) ∧ ∀ x ∈ s.2.2, x ∈ row) (rng 0 ((row.length : Int) - 0).toNat) 0 (ds, row, []) (fun k s x hk1 hk2 hx hxk i => by
    rw [rng_len] at hk2
    obtain ⟨i1, i2, i3, i4⟩ := i
    obtain ⟨r5, e5, a0, a1⟩ := tk s.1 (m := (s.2.1.length : Int)) (by omega)
    have hi : r5.1.toNat < s.2.1.length := by omega
    unfold m_law_shuffled_b1
    rw [bs e5, gdp a0, bs (List.getElem?_eq_getElem hi), gdp (by omega)]
    refine ⟨_, rfl, ?_, by rw [List.length_append, i2]; rfl, fun y hy => i3 y (List.mem_of_mem_eraseIdx hy), fun y hy => ?_⟩
    · show (s.2.1.eraseIdx r5.1.toNat).length + (k + 1) = row.length
      rw [List.length_eraseIdx_of_lt hi]
      omega
    · rcases List.mem_append.mp hy with z | z
      · exact i4 y z
      · rw [List.mem_singleton.mp z]
        exact i3 _ (List.getElem_mem hi)) ⟨rfl, rfl, fun x h => h, fun x h => by cases h⟩
  rw [bs es]
  rw [rng_len] at h2
  exact ⟨_, rfl, by show s.2.2.length = row.length; omega, h4⟩
theorem last_row {α : Type} {l : List α} (y : α) (h : 0 < l.length) : atI l (-1) = some (l.getD (l.length - 1) y) := by
  unfold atI ixN
  rw [if_neg (by omega), if_pos (by omega)]
  have e : (-1 + (l.length : Int)).toNat = l.length - 1 := by omega
  show l[(-1 + (l.length : Int)).toNat]? = _
  rw [e]
  exact some_getD y (by omega)
theorem closed_ok (ds : List Int) : ∃ r, m_law_closed_scene ds = some r ∧ ∃ p d : Nat, BookOk p d r.1.a ∧ VR p d r.1.b ∧ r.1.b.length ≤ 4 := by
  obtain ⟨r1, e1, a0, a1⟩ := tk ds (m := 4) (by decide)
  obtain ⟨r2, e2, b0, b1⟩ := tk r1.2 (m := 2) (by decide)
  obtain ⟨p, hp⟩ := Int.eq_ofNat_of_zero_le (show 0 ≤ 1 + r1.1 by omega)
  obtain ⟨d, hd⟩ := Int.eq_ofNat_of_zero_le (show 0 ≤ 1 + r2.1 by omega)
  obtain ⟨r3, e3, B⟩ := book_ok r2.2 (p := p) (d := d) (by omega) (by omega) (by omega) (by omega) 1
  rw [← hp, ← hd] at e3
  have B' : BookOk p d (T3.mk r3.1.a r3.1.b [0, (1 + r1.1)]) := ⟨B.a, B.b, B.r, B.p1, B.p5, B.d1, B.d8⟩
  have d1 := B.d1
  have hb := B.b
  obtain ⟨r5, e5, S⟩ := story_ok B' r3.2 (scale := 1) (by decide)
  obtain ⟨T, e6, lT, hT⟩ := waters_ok B' S.len S.row
  obtain ⟨r8, e8, c0, c1⟩ := tk r5.2 (m := 1 + r1.1) (by omega)
  unfold m_law_closed_scene
  rw [bs e1, bs e2, bs e3, bs rfl, bs e5, bs e6, bs (last_row [] (by omega)), bs e8, bs (rngO_ok (by omega))]
  have hrow := (hT (T.length - 1) (by omega)).1
  obtain ⟨ys, ey, ly, hy⟩ := mapO_ex (f := m_law_closed_scene_c1 (T3.mk r3.1.a r3.1.b [0, (1 + r1.1)]) (T.getD (T.length - 1) []) r8) (fun k x => x.a = (d : Int) - 1 ∧ x.b = k) (rng 0 ((1 + r1.1) - 0).toNat) fun k hk => by
    have hk' := mem_rng.mp hk
    unfold m_law_closed_scene_c1
    rw [bs (atI_row 0 hk'.1 (by omega)), bs (atI_row 0 hk'.1 (by omega))]
    exact ⟨_, rfl, by show ((r3.1.b.length : Int)) - 1 = (d : Int) - 1; rw [hb], rfl⟩
  rw [rng_len] at ly
  obtain ⟨r15, e15, l15, m15⟩ := shuffled_ok r8.2 ys (by omega)
  rw [bs ey, bs e15]
  refine ⟨_, rfl, p, d, B', fun x hx => ?_, by show r15.1.length ≤ 4; omega⟩
  have hx' := m15 x hx
  obtain ⟨i, hi⟩ := List.mem_iff_getElem?.mp hx'
  have hi2 : i < ys.length := (List.getElem?_eq_some_iff.mp hi).1
  obtain ⟨y, hy1, hy2, hy3⟩ := hy i _ (rng_get (by omega))
  rw [hi] at hy1
  cases hy1
  rw [hy2, hy3]
  omega
end
theorem step_ok (s : List Int) (x : Int) (hx : 0 ≤ x ∧ x < 3) : ∃ s', m_law_b2 s x = some (.nx s') := by
  unfold m_law_b2
  obtain ⟨r5, e5, a0, a1⟩ := tk s (m := 3) (by decide)
  obtain ⟨r6, e6, b0, b1⟩ := tk r5.2 (m := 2) (by decide)
  obtain ⟨p, hp⟩ := Int.eq_ofNat_of_zero_le (show 0 ≤ 1 + r5.1 by omega)
  obtain ⟨d, hd⟩ := Int.eq_ofNat_of_zero_le (show 0 ≤ 1 + r6.1 by omega)
  obtain ⟨r7, e7, B, v7, f7, l7⟩ := scene_ok r6.2 (p := p) (d := d) (by omega) (by omega) (by omega) (by omega) (many := 5) (by decide) (by decide)
  rw [← hp, ← hd] at e7
  obtain ⟨r8, e8, c0, c1⟩ := tk r7.2 (m := 5) (by decide)
  rw [bs e5, bs e6, bs e7, bs e8, bs rfl, bs (rngO_ok (by omega))]
  have ec : (some (1 + r8.1) : Option Int) = some (((1 + r8.1).toNat : Nat) : Int) := by congr 1; omega
  have v0 : VR p d (cut r7.1.c none (some (1 + r8.1))) := fun y hy => by
    rw [ec, cut_to] at hy
    exact v7 y (List.mem_of_mem_take hy)
  have l0 : (cut r7.1.c none (some (1 + r8.1))).length = (1 + r8.1).toNat := by
    rw [ec, cut_to, List.length_take]
    omega
  obtain ⟨s14, e14, v14, l14⟩ := fold_inv (f := m_law_b1 r7) (fun (s : List Int × List Rd4) => VR p d s.2 ∧ s.2.length = (1 + r8.1).toNat) (rng 0 (x - 0).toNat) (r8.2, cut r7.1.c none (some (1 + r8.1))) (fun s y _ i => by
    obtain ⟨r, e, h1, h2⟩ := moved_len s.1 i.1 (by rw [i.2]; omega) r7.1.d
    unfold m_law_b1
    rw [bs e]
    exact ⟨_, rfl, h1, by show r.1.length = _; rw [h2, i.2]⟩) ⟨v0, l0⟩
  rw [bs e14]
  have hj : ∃ j : List Int × List Rd4, (cond (decide ((x : Int) = 2)) ((m_law_take s14.1 (((s14.2).length : Int) + 1)).bind fun r21 => (m_law_against r21.2 s14.2 r7.1.d).bind fun r22 => (gd (decide (((cut s14.2 none (some r21.1))).length + (([r22.1] : List (T4 Int Int Int Int))).length ≤ LIM))).bind fun _ => (gd (decide ((((cut s14.2 none (some r21.1)) ++ ([r22.1] : List (T4 Int Int Int Int)))).length + ((cut s14.2 (some r21.1) none)).length ≤ LIM))).bind fun _ => (some (((cut s14.2 none (some r21.1)) ++ ([r22.1] : List (T4 Int Int Int Int))) ++ (cut s14.2 (some r21.1) none))).bind fun v25 => some (r22.2, v25)) (some (s14.1, s14.2)) : Option ((List Int) × (List (T4 Int Int Int Int)))) = some j ∧ VR p d j.2 ∧ j.2.length ≤ 6 := by
    by_cases c : x = 2
    · rw [decide_eq_true c, cond_true]
      obtain ⟨r21, e21, f0, f1⟩ := tk s14.1 (m := (s14.2.length : Int) + 1) (by omega)
      obtain ⟨r22, e22, v22⟩ := against_ok r21.2 v14 (fun z => by rw [z] at l14; simp at l14; omega) r7.1.d
      rw [bs e21, bs e22, ins_is f0 (by omega)]
      exact ⟨_, rfl, ins_vr v14 v22, by show (ins _ _ _).length ≤ 6; rw [ins_len]; omega⟩
    · rw [decide_eq_false c, cond_false]
      exact ⟨_, rfl, v14, by show s14.2.length ≤ 6; omega⟩
  obtain ⟨j, ej, vj, lj⟩ := hj
  obtain ⟨q, q1, q2, q3⟩ := fewest_any B vj (by omega) (most := 6) (by omega)
  rw [bs ej, bs q1, bs q2, bs (same_ok q3)]
  exact ⟨_, rfl⟩
theorem law_true (ns : List Int) (h : ns.length ≤ 63) : m_law ns = some true := by
  obtain ⟨ds, ed⟩ := draws_ok ns h 420 (by decide) (by decide)
  have ed' : m_law_draws ns 420 = some ds := ed
  unfold m_law
  obtain ⟨s, es, _⟩ := loop_inv (f := m_law_b2) (fun _ => True) (rng 0 ((3 : Int) - 0).toNat) ds (fun s x hx _ => by
    have hx' := mem_rng.mp hx
    obtain ⟨s', e⟩ := step_ok s x ⟨hx'.1, by have : (((3 : Int) - 0).toNat : Int) = 3 := rfl; omega⟩
    exact ⟨s', e, trivial⟩) trivial
  rw [bs ed', bs (rngO_ok (by decide)), thenF_nx es]
  obtain ⟨r30, e30, a0, a1⟩ := tk s (m := 5) (by decide)
  obtain ⟨r31, e31, b0, b1⟩ := tk r30.2 (m := 4) (by decide)
  obtain ⟨p, hp⟩ := Int.eq_ofNat_of_zero_le (show 0 ≤ 1 + r30.1 by omega)
  obtain ⟨d, hd⟩ := Int.eq_ofNat_of_zero_le (show 0 ≤ 1 + r31.1 by omega)
  obtain ⟨r32, e32, B, v32, f32, l32⟩ := scene_ok r31.2 (p := p) (d := d) (by omega) (by omega) (by omega) (by omega) (many := 9) (by decide) (by decide)
  rw [← hp, ← hd] at e32
  have hn9 : r32.1.c.length = 9 := by omega
  -- nothing needs to go
  obtain ⟨c, hc, g1, _, g3⟩ := fewest_eq B v32 (K := 0) (Nat.zero_le _) (.inr ⟨by omega, by omega⟩) (most := 0) (by omega) ⟨[], mem_pre (Nat.lt_succ_self _) (by cases (rng 0 r32.1.c.length) <;> exact List.mem_singleton.mpr rfl), feas_sub f32 fun x hx => by
    obtain ⟨i, _, h1, _⟩ := keep_mem hx
    exact List.mem_of_getElem? h1⟩
  have c0 : c = [] := List.eq_nil_of_length_eq_zero (by omega)
  subst c0
  have g1' : m_fewest_to_go r32.1.a r32.1.c = some (some (0, [])) := g1
  obtain ⟨r35, e35, h0, h1⟩ := tk r32.2 (m := 10) (by decide)
  obtain ⟨r36, e36, v36⟩ := against_ok r35.2 v32 (fun z => by rw [z] at hn9; cases hn9) r32.1.d
  rw [bs e30, bs e31, bs e32, bs g1', bs (same_ok (by decide)), show (!true) = false from rfl, cond_false, bs e35, bs e36, ins_is h0 (by omega)]
  have hk : r35.1.toNat ≤ r32.1.c.length := by omega
  have li := ins_len (rs := r32.1.c) (k := r35.1.toNat) (x := r36.1)
  obtain ⟨c2, _, k1, k2, k3⟩ := fewest_eq B (ins_vr v32 (k := r35.1.toNat) v36) (K := 1) (by omega) (.inr ⟨by omega, by omega⟩) (most := 1) (by omega) ⟨[((r35.1.toNat : Nat) : Int)], mem_pre (k := 1) (by omega) (by
    have : ∀ (xs : List Int) (y : Int), y ∈ xs → [y] ∈ cmb 1 xs := by
      intro xs y
      induction xs with
      | nil => intro h; cases h
      | cons x xs ih =>
        intro h
        show [y] ∈ (cmb 0 xs).map (x :: ·) ++ cmb 1 xs
        rcases List.mem_cons.mp h with z | z
        · subst z
          refine List.mem_append_left _ (List.mem_map.mpr ⟨[], ?_, rfl⟩)
          cases xs <;> exact List.mem_singleton.mpr rfl
        · exact List.mem_append_right _ (ih z)
    exact this _ _ (mem_rng.mpr ⟨by omega, by omega⟩)), feas_sub f32 (ins_keep hk)⟩
  rw [bs k1, bs k2, bs (same_ok (by show c2.length ≤ 100; omega)), show (!true) = false from rfl, cond_false]
  obtain ⟨r43, e43, p', d', B', v43, l43⟩ := closed_ok r36.2
  obtain ⟨q, q1, q2, q3⟩ := fewest_any B' v43 (by omega) (most := 4) (by omega)
  rw [bs e43, bs q1, bs q2, bs (same_ok q3)]
end K61

-- K61Z
namespace K61
open PySem PySem.Spec PyProof.Rows L2 RZ Gw
open Gw.Enc (enc)
theorem all_mk {l : PySem.W.OpenLaw} {w : World} {K : FR} {h : Heap} {mg : Str → Option Value} {fa : Addr} (X : K.In h) (G : h.Ns mainGlobals mg) (hfa : mg "law" = some (.ref fa))
    (D_least_potentials : DefIn K "least_potentials" s_least_potentials)
    (D_gate_count : DefIn K "gate_count" s_gate_count)
    (D_day_count : DefIn K "day_count" s_day_count)
    (D_leak_place : DefIn K "leak_place" s_leak_place)
    (D_water_known : DefIn K "water_known" s_water_known)
    (D_leak_limits : DefIn K "leak_limits" s_leak_limits)
    (D_places_of : DefIn K "places_of" s_places_of)
    (D_keeps_all : DefIn K "keeps_all" s_keeps_all)
    (D_story_of_numbers : DefIn K "story_of_numbers" s_story_of_numbers)
    (D_leak_story : DefIn K "leak_story" s_leak_story)
    (D_some_readings : DefIn K "some_readings" s_some_readings)
    (D_fewest_to_go : DefIn K "fewest_to_go" s_fewest_to_go)
    (D__law_draws : DefIn K "_law_draws" s__law_draws)
    (D__law_take : DefIn K "_law_take" s__law_take)
    (D__law_pick : DefIn K "_law_pick" s__law_pick)
    (D__law_same : DefIn K "_law_same" s__law_same)
    (D__law_shuffled : DefIn K "_law_shuffled" s__law_shuffled)
    (D__law_put : DefIn K "_law_put" s__law_put)
    (D__law_scale : DefIn K "_law_scale" s__law_scale)
    (D__law_leak_book : DefIn K "_law_leak_book" s__law_leak_book)
    (D__law_drawn_story : DefIn K "_law_drawn_story" s__law_drawn_story)
    (D__law_pond_waters : DefIn K "_law_pond_waters" s__law_pond_waters)
    (D__law_without_leaks : DefIn K "_law_without_leaks" s__law_without_leaks)
    (D__law_kept_readings : DefIn K "_law_kept_readings" s__law_kept_readings)
    (D__law_moved_reading : DefIn K "_law_moved_reading" s__law_moved_reading)
    (D__law_against : DefIn K "_law_against" s__law_against)
    (D__law_leak_node : DefIn K "_law_leak_node" s__law_leak_node)
    (D__law_leak_nodes : DefIn K "_law_leak_nodes" s__law_leak_nodes)
    (D__law_leak_rules : DefIn K "_law_leak_rules" s__law_leak_rules)
    (D__law_leak_ranks : DefIn K "_law_leak_ranks" s__law_leak_ranks)
    (D__law_can_fit : DefIn K "_law_can_fit" s__law_can_fit)
    (D__law_index_sets : DefIn K "_law_index_sets" s__law_index_sets)
    (D__law_leak_scene : DefIn K "_law_leak_scene" s__law_leak_scene)
    (D__law_closed_scene : DefIn K "_law_closed_scene" s__law_closed_scene)
    (D__law_others : DefIn K "_law_others" s__law_others)
    (D__law_fewest_go : DefIn K "_law_fewest_go" s__law_fewest_go)
    (D_law : DefIn K "law" s_law)
    (z_all : PySem.W.nsIn K mainGlobals "all" = some none)
    (z_bool : PySem.W.nsIn K mainGlobals "bool" = some none)
    (z_int : PySem.W.nsIn K mainGlobals "int" = some none)
    (z_isinstance : PySem.W.nsIn K mainGlobals "isinstance" = some none)
    (z_len : PySem.W.nsIn K mainGlobals "len" = some none)
    (z_list : PySem.W.nsIn K mainGlobals "list" = some none)
    (z_range : PySem.W.nsIn K mainGlobals "range" = some none)
    (z_sorted : PySem.W.nsIn K mainGlobals "sorted" = some none)
    (z_str : PySem.W.nsIn K mainGlobals "str" = some none)
    (z_sum : PySem.W.nsIn K mainGlobals "sum" = some none)
    (z_tuple : PySem.W.nsIn K mainGlobals "tuple" = some none)
    (y_combinations : PySem.W.nsIn K mainGlobals "combinations" = some (some (.type "itertools.combinations")))
    : ∃ fd : FuncData, (∀ (s : Shared) (v : Value), BindsTo s fd ⟨[v], []⟩ [("script", v)]) ∧ ∀ base : Heap, K.In base → base.Ns mainGlobals mg → FnOk l.prog w K mg base CX0 11 fa fd ["script"] (spG K 1 rel_law) := by
  have B : Bt mg := ⟨PySem.W.mg_none_of X G z_all, PySem.W.mg_none_of X G z_bool, PySem.W.mg_none_of X G z_int, PySem.W.mg_none_of X G z_isinstance, PySem.W.mg_none_of X G z_len, PySem.W.mg_none_of X G z_list, PySem.W.mg_none_of X G z_range, PySem.W.mg_none_of X G z_sorted, PySem.W.mg_none_of X G z_str, PySem.W.mg_none_of X G z_sum, PySem.W.mg_none_of X G z_tuple⟩
  have m_combinations := PySem.W.mg_of X G y_combinations
  obtain ⟨f_least_potentials, an_least_potentials, kV_least_potentials, dc_least_potentials, pm_least_potentials, cd_least_potentials, ct_least_potentials, F_least_potentials, g_least_potentials⟩ := D_least_potentials.get X G
  have b_least_potentials := F_least_potentials.binds (ps := P_least_potentials) fun _ _ _ _ _ _ us hl => match us, hl with | [_, _], _ => rfl
  obtain ⟨f_gate_count, an_gate_count, kV_gate_count, dc_gate_count, pm_gate_count, cd_gate_count, ct_gate_count, F_gate_count, g_gate_count⟩ := D_gate_count.get X G
  have b_gate_count := F_gate_count.binds (ps := P_gate_count) fun _ _ _ _ _ _ us hl => match us, hl with | [_], _ => rfl
  obtain ⟨f_day_count, an_day_count, kV_day_count, dc_day_count, pm_day_count, cd_day_count, ct_day_count, F_day_count, g_day_count⟩ := D_day_count.get X G
  have b_day_count := F_day_count.binds (ps := P_day_count) fun _ _ _ _ _ _ us hl => match us, hl with | [_], _ => rfl
  obtain ⟨f_leak_place, an_leak_place, kV_leak_place, dc_leak_place, pm_leak_place, cd_leak_place, ct_leak_place, F_leak_place, g_leak_place⟩ := D_leak_place.get X G
  have b_leak_place := F_leak_place.binds (ps := P_leak_place) fun _ _ _ _ _ _ us hl => match us, hl with | [_, _, _], _ => rfl
  obtain ⟨f_water_known, an_water_known, kV_water_known, dc_water_known, pm_water_known, cd_water_known, ct_water_known, F_water_known, g_water_known⟩ := D_water_known.get X G
  have b_water_known := F_water_known.binds (ps := P_water_known) fun _ _ _ _ _ _ us hl => match us, hl with | [_, _, _], _ => rfl
  obtain ⟨f_leak_limits, an_leak_limits, kV_leak_limits, dc_leak_limits, pm_leak_limits, cd_leak_limits, ct_leak_limits, F_leak_limits, g_leak_limits⟩ := D_leak_limits.get X G
  have b_leak_limits := F_leak_limits.binds (ps := P_leak_limits) fun _ _ _ _ _ _ us hl => match us, hl with | [_, _], _ => rfl
  obtain ⟨f_places_of, an_places_of, kV_places_of, dc_places_of, pm_places_of, cd_places_of, ct_places_of, F_places_of, g_places_of⟩ := D_places_of.get X G
  have b_places_of := F_places_of.binds (ps := P_places_of) fun _ _ _ _ _ _ us hl => match us, hl with | [_], _ => rfl
  obtain ⟨f_keeps_all, an_keeps_all, kV_keeps_all, dc_keeps_all, pm_keeps_all, cd_keeps_all, ct_keeps_all, F_keeps_all, g_keeps_all⟩ := D_keeps_all.get X G
  have b_keeps_all := F_keeps_all.binds (ps := P_keeps_all) fun _ _ _ _ _ _ us hl => match us, hl with | [_, _], _ => rfl
  obtain ⟨f_story_of_numbers, an_story_of_numbers, kV_story_of_numbers, dc_story_of_numbers, pm_story_of_numbers, cd_story_of_numbers, ct_story_of_numbers, F_story_of_numbers, g_story_of_numbers⟩ := D_story_of_numbers.get X G
  have b_story_of_numbers := F_story_of_numbers.binds (ps := P_story_of_numbers) fun _ _ _ _ _ _ us hl => match us, hl with | [_, _], _ => rfl
  obtain ⟨f_leak_story, an_leak_story, kV_leak_story, dc_leak_story, pm_leak_story, cd_leak_story, ct_leak_story, F_leak_story, g_leak_story⟩ := D_leak_story.get X G
  have b_leak_story := F_leak_story.binds (ps := P_leak_story) fun _ _ _ _ _ _ us hl => match us, hl with | [_, _], _ => rfl
  obtain ⟨f_some_readings, an_some_readings, kV_some_readings, dc_some_readings, pm_some_readings, cd_some_readings, ct_some_readings, F_some_readings, g_some_readings⟩ := D_some_readings.get X G
  have b_some_readings := F_some_readings.binds (ps := P_some_readings) fun _ _ _ _ _ _ us hl => match us, hl with | [_, _], _ => rfl
  obtain ⟨f_fewest_to_go, an_fewest_to_go, kV_fewest_to_go, dc_fewest_to_go, pm_fewest_to_go, cd_fewest_to_go, ct_fewest_to_go, F_fewest_to_go, g_fewest_to_go⟩ := D_fewest_to_go.get X G
  have b_fewest_to_go := F_fewest_to_go.binds (ps := P_fewest_to_go) fun _ _ _ _ _ _ us hl => match us, hl with | [_, _], _ => rfl
  obtain ⟨f__law_draws, an__law_draws, kV__law_draws, dc__law_draws, pm__law_draws, cd__law_draws, ct__law_draws, F__law_draws, g__law_draws⟩ := D__law_draws.get X G
  have b__law_draws := F__law_draws.binds (ps := P__law_draws) fun _ _ _ _ _ _ us hl => match us, hl with | [_, _], _ => rfl
  obtain ⟨f__law_take, an__law_take, kV__law_take, dc__law_take, pm__law_take, cd__law_take, ct__law_take, F__law_take, g__law_take⟩ := D__law_take.get X G
  have b__law_take := F__law_take.binds (ps := P__law_take) fun _ _ _ _ _ _ us hl => match us, hl with | [_, _], _ => rfl
  obtain ⟨f__law_pick, an__law_pick, kV__law_pick, dc__law_pick, pm__law_pick, cd__law_pick, ct__law_pick, F__law_pick, g__law_pick⟩ := D__law_pick.get X G
  have b__law_pick := F__law_pick.binds (ps := P__law_pick) fun _ _ _ _ _ _ us hl => match us, hl with | [_, _], _ => rfl
  obtain ⟨f__law_same, an__law_same, kV__law_same, dc__law_same, pm__law_same, cd__law_same, ct__law_same, F__law_same, g__law_same⟩ := D__law_same.get X G
  have b__law_same := F__law_same.binds (ps := P__law_same) fun _ _ _ _ _ _ us hl => match us, hl with | [_, _], _ => rfl
  obtain ⟨f__law_shuffled, an__law_shuffled, kV__law_shuffled, dc__law_shuffled, pm__law_shuffled, cd__law_shuffled, ct__law_shuffled, F__law_shuffled, g__law_shuffled⟩ := D__law_shuffled.get X G
  have b__law_shuffled := F__law_shuffled.binds (ps := P__law_shuffled) fun _ _ _ _ _ _ us hl => match us, hl with | [_, _], _ => rfl
  obtain ⟨f__law_put, an__law_put, kV__law_put, dc__law_put, pm__law_put, cd__law_put, ct__law_put, F__law_put, g__law_put⟩ := D__law_put.get X G
  have b__law_put := F__law_put.binds (ps := P__law_put) fun _ _ _ _ _ _ us hl => match us, hl with | [_, _, _], _ => rfl
  obtain ⟨f__law_scale, an__law_scale, kV__law_scale, dc__law_scale, pm__law_scale, cd__law_scale, ct__law_scale, F__law_scale, g__law_scale⟩ := D__law_scale.get X G
  have b__law_scale := F__law_scale.binds (ps := P__law_scale) fun _ _ _ _ _ _ us hl => match us, hl with | [_], _ => rfl
  obtain ⟨f__law_leak_book, an__law_leak_book, kV__law_leak_book, dc__law_leak_book, pm__law_leak_book, cd__law_leak_book, ct__law_leak_book, F__law_leak_book, g__law_leak_book⟩ := D__law_leak_book.get X G
  have b__law_leak_book := F__law_leak_book.binds (ps := P__law_leak_book) fun _ _ _ _ _ _ us hl => match us, hl with | [_, _, _, _], _ => rfl
  obtain ⟨f__law_drawn_story, an__law_drawn_story, kV__law_drawn_story, dc__law_drawn_story, pm__law_drawn_story, cd__law_drawn_story, ct__law_drawn_story, F__law_drawn_story, g__law_drawn_story⟩ := D__law_drawn_story.get X G
  have b__law_drawn_story := F__law_drawn_story.binds (ps := P__law_drawn_story) fun _ _ _ _ _ _ us hl => match us, hl with | [_, _, _], _ => rfl
  obtain ⟨f__law_pond_waters, an__law_pond_waters, kV__law_pond_waters, dc__law_pond_waters, pm__law_pond_waters, cd__law_pond_waters, ct__law_pond_waters, F__law_pond_waters, g__law_pond_waters⟩ := D__law_pond_waters.get X G
  have b__law_pond_waters := F__law_pond_waters.binds (ps := P__law_pond_waters) fun _ _ _ _ _ _ us hl => match us, hl with | [_, _], _ => rfl
  obtain ⟨f__law_without_leaks, an__law_without_leaks, kV__law_without_leaks, dc__law_without_leaks, pm__law_without_leaks, cd__law_without_leaks, ct__law_without_leaks, F__law_without_leaks, g__law_without_leaks⟩ := D__law_without_leaks.get X G
  have b__law_without_leaks := F__law_without_leaks.binds (ps := P__law_without_leaks) fun _ _ _ _ _ _ us hl => match us, hl with | [_], _ => rfl
  obtain ⟨f__law_kept_readings, an__law_kept_readings, kV__law_kept_readings, dc__law_kept_readings, pm__law_kept_readings, cd__law_kept_readings, ct__law_kept_readings, F__law_kept_readings, g__law_kept_readings⟩ := D__law_kept_readings.get X G
  have b__law_kept_readings := F__law_kept_readings.binds (ps := P__law_kept_readings) fun _ _ _ _ _ _ us hl => match us, hl with | [_, _, _, _, _], _ => rfl
  obtain ⟨f__law_moved_reading, an__law_moved_reading, kV__law_moved_reading, dc__law_moved_reading, pm__law_moved_reading, cd__law_moved_reading, ct__law_moved_reading, F__law_moved_reading, g__law_moved_reading⟩ := D__law_moved_reading.get X G
  have b__law_moved_reading := F__law_moved_reading.binds (ps := P__law_moved_reading) fun _ _ _ _ _ _ us hl => match us, hl with | [_, _, _], _ => rfl
  obtain ⟨f__law_against, an__law_against, kV__law_against, dc__law_against, pm__law_against, cd__law_against, ct__law_against, F__law_against, g__law_against⟩ := D__law_against.get X G
  have b__law_against := F__law_against.binds (ps := P__law_against) fun _ _ _ _ _ _ us hl => match us, hl with | [_, _, _], _ => rfl
  obtain ⟨f__law_leak_node, an__law_leak_node, kV__law_leak_node, dc__law_leak_node, pm__law_leak_node, cd__law_leak_node, ct__law_leak_node, F__law_leak_node, g__law_leak_node⟩ := D__law_leak_node.get X G
  have b__law_leak_node := F__law_leak_node.binds (ps := P__law_leak_node) fun _ _ _ _ _ _ us hl => match us, hl with | [_, _, _], _ => rfl
  obtain ⟨f__law_leak_nodes, an__law_leak_nodes, kV__law_leak_nodes, dc__law_leak_nodes, pm__law_leak_nodes, cd__law_leak_nodes, ct__law_leak_nodes, F__law_leak_nodes, g__law_leak_nodes⟩ := D__law_leak_nodes.get X G
  have b__law_leak_nodes := F__law_leak_nodes.binds (ps := P__law_leak_nodes) fun _ _ _ _ _ _ us hl => match us, hl with | [_], _ => rfl
  obtain ⟨f__law_leak_rules, an__law_leak_rules, kV__law_leak_rules, dc__law_leak_rules, pm__law_leak_rules, cd__law_leak_rules, ct__law_leak_rules, F__law_leak_rules, g__law_leak_rules⟩ := D__law_leak_rules.get X G
  have b__law_leak_rules := F__law_leak_rules.binds (ps := P__law_leak_rules) fun _ _ _ _ _ _ us hl => match us, hl with | [_, _], _ => rfl
  obtain ⟨f__law_leak_ranks, an__law_leak_ranks, kV__law_leak_ranks, dc__law_leak_ranks, pm__law_leak_ranks, cd__law_leak_ranks, ct__law_leak_ranks, F__law_leak_ranks, g__law_leak_ranks⟩ := D__law_leak_ranks.get X G
  have b__law_leak_ranks := F__law_leak_ranks.binds (ps := P__law_leak_ranks) fun _ _ _ _ _ _ us hl => match us, hl with | [_, _], _ => rfl
  obtain ⟨f__law_can_fit, an__law_can_fit, kV__law_can_fit, dc__law_can_fit, pm__law_can_fit, cd__law_can_fit, ct__law_can_fit, F__law_can_fit, g__law_can_fit⟩ := D__law_can_fit.get X G
  have b__law_can_fit := F__law_can_fit.binds (ps := P__law_can_fit) fun _ _ _ _ _ _ us hl => match us, hl with | [_, _], _ => rfl
  obtain ⟨f__law_index_sets, an__law_index_sets, kV__law_index_sets, dc__law_index_sets, pm__law_index_sets, cd__law_index_sets, ct__law_index_sets, F__law_index_sets, g__law_index_sets⟩ := D__law_index_sets.get X G
  have b__law_index_sets := F__law_index_sets.binds (ps := P__law_index_sets) fun _ _ _ _ _ _ us hl => match us, hl with | [_], _ => rfl
  obtain ⟨f__law_leak_scene, an__law_leak_scene, kV__law_leak_scene, dc__law_leak_scene, pm__law_leak_scene, cd__law_leak_scene, ct__law_leak_scene, F__law_leak_scene, g__law_leak_scene⟩ := D__law_leak_scene.get X G
  have b__law_leak_scene := F__law_leak_scene.binds (ps := P__law_leak_scene) fun _ _ _ _ _ _ us hl => match us, hl with | [_, _, _, _], _ => rfl
  obtain ⟨f__law_closed_scene, an__law_closed_scene, kV__law_closed_scene, dc__law_closed_scene, pm__law_closed_scene, cd__law_closed_scene, ct__law_closed_scene, F__law_closed_scene, g__law_closed_scene⟩ := D__law_closed_scene.get X G
  have b__law_closed_scene := F__law_closed_scene.binds (ps := P__law_closed_scene) fun _ _ _ _ _ _ us hl => match us, hl with | [_], _ => rfl
  obtain ⟨f__law_others, an__law_others, kV__law_others, dc__law_others, pm__law_others, cd__law_others, ct__law_others, F__law_others, g__law_others⟩ := D__law_others.get X G
  have b__law_others := F__law_others.binds (ps := P__law_others) fun _ _ _ _ _ _ us hl => match us, hl with | [_, _], _ => rfl
  obtain ⟨f__law_fewest_go, an__law_fewest_go, kV__law_fewest_go, dc__law_fewest_go, pm__law_fewest_go, cd__law_fewest_go, ct__law_fewest_go, F__law_fewest_go, g__law_fewest_go⟩ := D__law_fewest_go.get X G
  have b__law_fewest_go := F__law_fewest_go.binds (ps := P__law_fewest_go) fun _ _ _ _ _ _ us hl => match us, hl with | [_, _, _], _ => rfl
  obtain ⟨f_law, an_law, kV_law, dc_law, pm_law, cd_law, ct_law, F_law, g_law⟩ := D_law.get X G
  have e := hfa.symm.trans g_law
  cases e
  refine ⟨PySem.W.fnOf "law" "law" (defArgs s_law) (defBody s_law) (defScope s_law) .none kV_law dc_law pm_law an_law cd_law ct_law, fun s v => .of_eq rfl, fun base _ _ => ?_⟩
  have c_least_potentials := cal_mk (P := l.prog) (w := w) (base := base) F_least_potentials g_least_potentials b_least_potentials (ok_least_potentials B  F_least_potentials)
  have c_gate_count := cal_mk (P := l.prog) (w := w) (base := base) F_gate_count g_gate_count b_gate_count (ok_gate_count B  F_gate_count)
  have c_day_count := cal_mk (P := l.prog) (w := w) (base := base) F_day_count g_day_count b_day_count (ok_day_count B  F_day_count)
  have c_leak_place := cal_mk (P := l.prog) (w := w) (base := base) F_leak_place g_leak_place b_leak_place (ok_leak_place B c_day_count F_leak_place)
  have c_water_known := cal_mk (P := l.prog) (w := w) (base := base) F_water_known g_water_known b_water_known (ok_water_known B  F_water_known)
  have c_leak_limits := cal_mk (P := l.prog) (w := w) (base := base) F_leak_limits g_leak_limits b_leak_limits (ok_leak_limits B c_gate_count c_day_count c_leak_place c_water_known F_leak_limits)
  have c_places_of := cal_mk (P := l.prog) (w := w) (base := base) F_places_of g_places_of b_places_of (ok_places_of B c_gate_count c_day_count F_places_of)
  have c_keeps_all := cal_mk (P := l.prog) (w := w) (base := base) F_keeps_all g_keeps_all b_keeps_all (ok_keeps_all B  F_keeps_all)
  have c_story_of_numbers := cal_mk (P := l.prog) (w := w) (base := base) F_story_of_numbers g_story_of_numbers b_story_of_numbers (ok_story_of_numbers B c_day_count c_gate_count c_leak_place F_story_of_numbers)
  have c_leak_story := cal_mk (P := l.prog) (w := w) (base := base) F_leak_story g_leak_story b_leak_story (ok_leak_story B c_leak_limits c_least_potentials c_places_of c_keeps_all c_story_of_numbers F_leak_story)
  have c_some_readings := cal_mk (P := l.prog) (w := w) (base := base) F_some_readings g_some_readings b_some_readings (ok_some_readings B  F_some_readings)
  have c_fewest_to_go := cal_mk (P := l.prog) (w := w) (base := base) F_fewest_to_go g_fewest_to_go b_fewest_to_go (ok_fewest_to_go B c_leak_story c_some_readings m_combinations F_fewest_to_go)
  have c__law_draws := cal_mk (P := l.prog) (w := w) (base := base) F__law_draws g__law_draws b__law_draws (ok__law_draws B  F__law_draws)
  have c__law_take := cal_mk (P := l.prog) (w := w) (base := base) F__law_take g__law_take b__law_take (ok__law_take B  F__law_take)
  have c__law_pick := cal_mk (P := l.prog) (w := w) (base := base) F__law_pick g__law_pick b__law_pick (ok__law_pick B c__law_take F__law_pick)
  have c__law_same := cal_mk (P := l.prog) (w := w) (base := base) F__law_same g__law_same b__law_same (ok__law_same B  F__law_same g__law_same b__law_same)
  have c__law_shuffled := cal_mk (P := l.prog) (w := w) (base := base) F__law_shuffled g__law_shuffled b__law_shuffled (ok__law_shuffled B c__law_take F__law_shuffled)
  have c__law_put := cal_mk (P := l.prog) (w := w) (base := base) F__law_put g__law_put b__law_put (ok__law_put B  F__law_put)
  have c__law_scale := cal_mk (P := l.prog) (w := w) (base := base) F__law_scale g__law_scale b__law_scale (ok__law_scale B c__law_take c__law_pick F__law_scale)
  have c__law_leak_book := cal_mk (P := l.prog) (w := w) (base := base) F__law_leak_book g__law_leak_book b__law_leak_book (ok__law_leak_book B c__law_take F__law_leak_book)
  have c__law_drawn_story := cal_mk (P := l.prog) (w := w) (base := base) F__law_drawn_story g__law_drawn_story b__law_drawn_story (ok__law_drawn_story B c__law_take F__law_drawn_story)
  have c__law_pond_waters := cal_mk (P := l.prog) (w := w) (base := base) F__law_pond_waters g__law_pond_waters b__law_pond_waters (ok__law_pond_waters B  F__law_pond_waters)
  have c__law_without_leaks := cal_mk (P := l.prog) (w := w) (base := base) F__law_without_leaks g__law_without_leaks b__law_without_leaks (ok__law_without_leaks B  F__law_without_leaks)
  have c__law_kept_readings := cal_mk (P := l.prog) (w := w) (base := base) F__law_kept_readings g__law_kept_readings b__law_kept_readings (ok__law_kept_readings B c__law_pond_waters c__law_take c__law_pick F__law_kept_readings)
  have c__law_moved_reading := cal_mk (P := l.prog) (w := w) (base := base) F__law_moved_reading g__law_moved_reading b__law_moved_reading (ok__law_moved_reading B c__law_take c__law_pick c__law_put F__law_moved_reading)
  have c__law_against := cal_mk (P := l.prog) (w := w) (base := base) F__law_against g__law_against b__law_against (ok__law_against B c__law_pick c__law_take F__law_against)
  have c__law_leak_node := cal_mk (P := l.prog) (w := w) (base := base) F__law_leak_node g__law_leak_node b__law_leak_node (ok__law_leak_node B  F__law_leak_node)
  have c__law_leak_nodes := cal_mk (P := l.prog) (w := w) (base := base) F__law_leak_nodes g__law_leak_nodes b__law_leak_nodes (ok__law_leak_nodes B  F__law_leak_nodes)
  have c__law_leak_rules := cal_mk (P := l.prog) (w := w) (base := base) F__law_leak_rules g__law_leak_rules b__law_leak_rules (ok__law_leak_rules B c__law_leak_node c__law_pond_waters c__law_without_leaks F__law_leak_rules)
  have c__law_leak_ranks := cal_mk (P := l.prog) (w := w) (base := base) F__law_leak_ranks g__law_leak_ranks b__law_leak_ranks (ok__law_leak_ranks B  F__law_leak_ranks)
  have c__law_can_fit := cal_mk (P := l.prog) (w := w) (base := base) F__law_can_fit g__law_can_fit b__law_can_fit (ok__law_can_fit B c__law_leak_ranks c__law_leak_rules c__law_leak_nodes F__law_can_fit)
  have c__law_index_sets := cal_mk (P := l.prog) (w := w) (base := base) F__law_index_sets g__law_index_sets b__law_index_sets (ok__law_index_sets B  F__law_index_sets)
  have c__law_leak_scene := cal_mk (P := l.prog) (w := w) (base := base) F__law_leak_scene g__law_leak_scene b__law_leak_scene (ok__law_leak_scene B c__law_scale c__law_leak_book c__law_drawn_story c__law_kept_readings F__law_leak_scene)
  have c__law_closed_scene := cal_mk (P := l.prog) (w := w) (base := base) F__law_closed_scene g__law_closed_scene b__law_closed_scene (ok__law_closed_scene B c__law_take c__law_leak_book c__law_pond_waters c__law_drawn_story c__law_shuffled F__law_closed_scene)
  have c__law_others := cal_mk (P := l.prog) (w := w) (base := base) F__law_others g__law_others b__law_others (ok__law_others B  F__law_others)
  have c__law_fewest_go := cal_mk (P := l.prog) (w := w) (base := base) F__law_fewest_go g__law_fewest_go b__law_fewest_go (ok__law_fewest_go B c__law_index_sets c__law_can_fit c__law_others F__law_fewest_go)
  exact ok_law B c__law_draws c__law_leak_scene c__law_take c__law_moved_reading c__law_against c__law_same c_fewest_to_go c__law_fewest_go c__law_closed_scene F_law
end K61
open PySem PySem.W PyProof.Rows
set_option maxHeartbeats 0 in
theorem PySem.Challenge.cw_saltbysteps_k61_fewest_that_must_go_holds : PySem.Challenge.rw_saltbysteps_k61_fewest_that_must_go.Holds := by
  w_on; o_law; k_head; (case hw => w_witness2)
  k_fill
  refine L2.walk_of (l := PySem.Challenge.rw_saltbysteps_k61_fewest_that_must_go) (n := 63) (k := 11) (x := "script") (CX := fun _ => L2.CX0) (sp := fun w => Gw.spG _ 1 K61.rel_law) rfl (by decide) rfl ⟨rfl, by decide, by decide⟩ (fun w h Y => PySem.W.kIn_of Y) ?F (fun _ _ a ns hl _ hS => Gw.law_sp hS ⟨ns, true, rfl, K61.law_true ns hl, rfl, rfl⟩) (fun _ _ _ _ _ h => h)
  case F =>
    intro w mg fa h KX G hmg
    refine' K61.all_mk KX G hmg ?D_least_potentials ?D_gate_count ?D_day_count ?D_leak_place ?D_water_known ?D_leak_limits ?D_places_of ?D_keeps_all ?D_story_of_numbers ?D_leak_story ?D_some_readings ?D_fewest_to_go ?D__law_draws ?D__law_take ?D__law_pick ?D__law_same ?D__law_shuffled ?D__law_put ?D__law_scale ?D__law_leak_book ?D__law_drawn_story ?D__law_pond_waters ?D__law_without_leaks ?D__law_kept_readings ?D__law_moved_reading ?D__law_against ?D__law_leak_node ?D__law_leak_nodes ?D__law_leak_rules ?D__law_leak_ranks ?D__law_can_fit ?D__law_index_sets ?D__law_leak_scene ?D__law_closed_scene ?D__law_others ?D__law_fewest_go ?D_law ?z_all ?z_bool ?z_int ?z_isinstance ?z_len ?z_list ?z_range ?z_sorted ?z_str ?z_sum ?z_tuple ?y_combinations
    (case D_least_potentials => refine' Gw.DefIn.of ?a ?l ?c ?k; (case a => k_is); (case l => k_is); (case c => k_is); (case k => k_is))
    (case D_gate_count => refine' Gw.DefIn.of ?a ?l ?c ?k; (case a => k_is); (case l => k_is); (case c => k_is); (case k => k_is))
    (case D_day_count => refine' Gw.DefIn.of ?a ?l ?c ?k; (case a => k_is); (case l => k_is); (case c => k_is); (case k => k_is))
    (case D_leak_place => refine' Gw.DefIn.of ?a ?l ?c ?k; (case a => k_is); (case l => k_is); (case c => k_is); (case k => k_is))
    (case D_water_known => refine' Gw.DefIn.of ?a ?l ?c ?k; (case a => k_is); (case l => k_is); (case c => k_is); (case k => k_is))
    (case D_leak_limits => refine' Gw.DefIn.of ?a ?l ?c ?k; (case a => k_is); (case l => k_is); (case c => k_is); (case k => k_is))
    (case D_places_of => refine' Gw.DefIn.of ?a ?l ?c ?k; (case a => k_is); (case l => k_is); (case c => k_is); (case k => k_is))
    (case D_keeps_all => refine' Gw.DefIn.of ?a ?l ?c ?k; (case a => k_is); (case l => k_is); (case c => k_is); (case k => k_is))
    (case D_story_of_numbers => refine' Gw.DefIn.of ?a ?l ?c ?k; (case a => k_is); (case l => k_is); (case c => k_is); (case k => k_is))
    (case D_leak_story => refine' Gw.DefIn.of ?a ?l ?c ?k; (case a => k_is); (case l => k_is); (case c => k_is); (case k => k_is))
    (case D_some_readings => refine' Gw.DefIn.of ?a ?l ?c ?k; (case a => k_is); (case l => k_is); (case c => k_is); (case k => k_is))
    (case D_fewest_to_go => refine' Gw.DefIn.of ?a ?l ?c ?k; (case a => k_is); (case l => k_is); (case c => k_is); (case k => k_is))
    (case D__law_draws => refine' Gw.DefIn.of ?a ?l ?c ?k; (case a => k_is); (case l => k_is); (case c => k_is); (case k => k_is))
    (case D__law_take => refine' Gw.DefIn.of ?a ?l ?c ?k; (case a => k_is); (case l => k_is); (case c => k_is); (case k => k_is))
    (case D__law_pick => refine' Gw.DefIn.of ?a ?l ?c ?k; (case a => k_is); (case l => k_is); (case c => k_is); (case k => k_is))
    (case D__law_same => refine' Gw.DefIn.of ?a ?l ?c ?k; (case a => k_is); (case l => k_is); (case c => k_is); (case k => k_is))
    (case D__law_shuffled => refine' Gw.DefIn.of ?a ?l ?c ?k; (case a => k_is); (case l => k_is); (case c => k_is); (case k => k_is))
    (case D__law_put => refine' Gw.DefIn.of ?a ?l ?c ?k; (case a => k_is); (case l => k_is); (case c => k_is); (case k => k_is))
    (case D__law_scale => refine' Gw.DefIn.of ?a ?l ?c ?k; (case a => k_is); (case l => k_is); (case c => k_is); (case k => k_is))
    (case D__law_leak_book => refine' Gw.DefIn.of ?a ?l ?c ?k; (case a => k_is); (case l => k_is); (case c => k_is); (case k => k_is))
    (case D__law_drawn_story => refine' Gw.DefIn.of ?a ?l ?c ?k; (case a => k_is); (case l => k_is); (case c => k_is); (case k => k_is))
    (case D__law_pond_waters => refine' Gw.DefIn.of ?a ?l ?c ?k; (case a => k_is); (case l => k_is); (case c => k_is); (case k => k_is))
    (case D__law_without_leaks => refine' Gw.DefIn.of ?a ?l ?c ?k; (case a => k_is); (case l => k_is); (case c => k_is); (case k => k_is))
    (case D__law_kept_readings => refine' Gw.DefIn.of ?a ?l ?c ?k; (case a => k_is); (case l => k_is); (case c => k_is); (case k => k_is))
    (case D__law_moved_reading => refine' Gw.DefIn.of ?a ?l ?c ?k; (case a => k_is); (case l => k_is); (case c => k_is); (case k => k_is))
    (case D__law_against => refine' Gw.DefIn.of ?a ?l ?c ?k; (case a => k_is); (case l => k_is); (case c => k_is); (case k => k_is))
    (case D__law_leak_node => refine' Gw.DefIn.of ?a ?l ?c ?k; (case a => k_is); (case l => k_is); (case c => k_is); (case k => k_is))
    (case D__law_leak_nodes => refine' Gw.DefIn.of ?a ?l ?c ?k; (case a => k_is); (case l => k_is); (case c => k_is); (case k => k_is))
    (case D__law_leak_rules => refine' Gw.DefIn.of ?a ?l ?c ?k; (case a => k_is); (case l => k_is); (case c => k_is); (case k => k_is))
    (case D__law_leak_ranks => refine' Gw.DefIn.of ?a ?l ?c ?k; (case a => k_is); (case l => k_is); (case c => k_is); (case k => k_is))
    (case D__law_can_fit => refine' Gw.DefIn.of ?a ?l ?c ?k; (case a => k_is); (case l => k_is); (case c => k_is); (case k => k_is))
    (case D__law_index_sets => refine' Gw.DefIn.of ?a ?l ?c ?k; (case a => k_is); (case l => k_is); (case c => k_is); (case k => k_is))
    (case D__law_leak_scene => refine' Gw.DefIn.of ?a ?l ?c ?k; (case a => k_is); (case l => k_is); (case c => k_is); (case k => k_is))
    (case D__law_closed_scene => refine' Gw.DefIn.of ?a ?l ?c ?k; (case a => k_is); (case l => k_is); (case c => k_is); (case k => k_is))
    (case D__law_others => refine' Gw.DefIn.of ?a ?l ?c ?k; (case a => k_is); (case l => k_is); (case c => k_is); (case k => k_is))
    (case D__law_fewest_go => refine' Gw.DefIn.of ?a ?l ?c ?k; (case a => k_is); (case l => k_is); (case c => k_is); (case k => k_is))
    (case D_law => refine' Gw.DefIn.of ?a ?l ?c ?k; (case a => k_is); (case l => k_is); (case c => k_is); (case k => k_is))
    (case z_all => k_is)
    (case z_bool => k_is)
    (case z_int => k_is)
    (case z_isinstance => k_is)
    (case z_len => k_is)
    (case z_list => k_is)
    (case z_range => k_is)
    (case z_sorted => k_is)
    (case z_str => k_is)
    (case z_sum => k_is)
    (case z_tuple => k_is)
    (case y_combinations => k_is)

