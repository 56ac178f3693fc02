import PyProof.Rows.All
import Wide.All
import OpenK.AllK
import Wide.FinOn
import HandS.ForMost
import HandS.ForExc
import KE.KeyNested
import HandS.Wide
import HandS.Style
import HandS.Star
import HandS.IsInst
import HandS.More
import HandS.Defaults
import HandS.Iter
import HandS.Dict
import HandS.ReCall
import HandS.TupSets
import HandS.SetFor
import HandS.Text
import HandS.SetBool
import HandS.TupLen
import HandS.SlotsOwn
import HandS.Property
import HandS.SortRule
import HandS.ListItems
import HandS.Deep
import HandS.TupAny
import KE.KDictDisplayH
import KE.KEqNest
import HandS.HeadHook2
import HandS.DictComp
import HandS.DictTup
import HandS.Comp
import HandS.Conv
import HandS.SortInts
import KE.GoesEnum
import KE.KRevSl
import HandS.Head0
import HandS.Head1
import HandS.Head2
import HandS.HeadEnd
import HandS.HeadHook1
import PySem.Challenge.RW_seenbars_k04_whole_least_states
set_option Elab.async false
set_option linter.all false
set_option maxRecDepth 100000
/-! VS1: values as plain data (U), what stands for them in the abstract heap, states, steps, readings of semantic functions. -/
namespace VS
open PySem L2

/-- a value as plain data -/
inductive U where
  | non | bl (b : Bool) | int (i : Int) | str (x : Str)
  | tup (us : List U) | lst (us : List U) | dct (kvs : List (U × U)) | set (us : List U)
  | ins (c : Str) (fs : List (Str × U))
  | scr (ns : List Int)
  deriving Inhabited

/-- the fixed facts -/
structure Ga where
  P : Program
  w : World
  K : PySem.W.Frag
  mg : Str → Option Value

def b2i' (b : Bool) : Int := if b then 1 else 0
/-- a key as the library has it -/
def nk : U → NestedKey
  | .bl b => .num (if b then 1 else 0)
  | .int i => .num i
  | .str x => .text x
  | .tup us => .tup (nks us)
  | _ => .none
where nks : List U → List NestedKey
  | [] => []
  | u :: r => nk u :: nks r
/-- the hash of a key -/
def hashU (w : World) (u : U) : Int := (nk u).hash w

/-- an entry of a dict whose keys are tuples: the key's address, its hash, the value -/
structure Xe where
  k : Addr
  h : Int
  v : V
def XeIs (x : Xe) (e : DictEntry) : Prop := e.hash = x.h ∧ e.key = .ref x.k ∧ RelV x.v e.val
/-- the dict at d with the entries xs (keys are tuples) -/
def DXs (d : Addr) (xs : List Xe) (h : Heap) : Prop :=
  (xs ≠ [] ∧ xs.length ≤ sizeLine) ∧ (d == sysModules) = false ∧ ∃ o es ep, h.get? d = some o ∧ o.ExactDict ∧ o.data = .dict es ep ∧ Paired XeIs xs es.toList
def DX (d : Addr) (xs : List Xe) : HO := .ext (DXs d xs)

def isK1 : U → Bool
  | .int _ => true
  | .str _ => true
  | _ => false
/-- data out of leaves and tuples, of a depth -/
def kd (p : U → Bool) : Nat → U → Bool
  | 0, .tup _ => false
  | n + 1, .tup us => us.all (kd p n)
  | _, u => p u
def lfA : U → Bool
  | .non => true
  | .bl _ => true
  | .int _ => true
  | .str _ => true
  | _ => false
/-- .. without bools -/
def lfI : U → Bool
  | .non => true
  | .int _ => true
  | .str _ => true
  | _ => false
/-- .. without ints -/
def lfB : U → Bool
  | .non => true
  | .bl _ => true
  | .str _ => true
  | _ => false
/-- a tuple that may be a key -/
def isKx : U → Bool
  | .tup us => us.all (kd lfA 7)
  | _ => false
/-- two keys whose equality is that of data -/
def cmpU (a b : U) : Bool := (kd lfI 8 a && kd lfI 8 b) || (kd lfB 8 a && kd lfB 8 b)
/-- as it stands when it is to stay: a dict is locked -/
def fzO (o : Obj) : HO → HO
  | .dK es => .frz o (.dK es)
  | h => h
mutual
/-- v stands for u; all that is of u stands in B -/
def rep (Γ : Ga) (B : Hp) : U → V → Prop
  | .non, v => v = .non
  | .bl b, v => v = .bl b
  | .int i, v => v = .int i
  | .str x, v => v = .str x
  | .tup us, v => ∃ a vs, v = .ref a ∧ SqT Γ.K B a vs ∧ reps Γ B us vs
  | .lst us, v => ∃ a vs, v = .ref a ∧ B a = some (.lst vs) ∧ reps Γ B us vs
  | .scr ns, v => ∃ a, v = .ref a ∧ SqL Γ.K B a (ns.map V.int)
  | .dct kvs, v => ∃ a, v = .ref a ∧ ((∃ o es, B a = some (.frz o (.dK es)) ∧ repd Γ B kvs es) ∨ ∃ xs, B a = some (DX a xs) ∧ repx Γ B kvs xs)
  | .set us, v => False
  | .ins c fs, v => ∃ a C dx gs, v = .ref a ∧ Γ.mg c = some (.ref C) ∧ B a = some (.ins C dx gs) ∧ repf Γ B fs gs
def reps (Γ : Ga) (B : Hp) : List U → List V → Prop
  | [], vs => vs = []
  | u :: us, vs => ∃ v r, vs = v :: r ∧ rep Γ B u v ∧ reps Γ B us r
def repd (Γ : Ga) (B : Hp) : List (U × U) → List (Key × V) → Prop
  | [], vs => vs = []
  | (k, u) :: us, vs => ∃ l v r, vs = (l, v) :: r ∧ rep Γ B k (kV l) ∧ rep Γ B u v ∧ repd Γ B us r
def repx (Γ : Ga) (B : Hp) : List (U × U) → List Xe → Prop
  | [], vs => vs = []
  | (k, u) :: us, vs => ∃ a v r, vs = ⟨a, hashU Γ.w k, v⟩ :: r ∧ (isKx k = true ∧ ∀ p ∈ us, p.1 ≠ k ∧ cmpU p.1 k = true) ∧ rep Γ B k (.ref a) ∧ rep Γ B u v ∧ repx Γ B us r
def repf (Γ : Ga) (B : Hp) : List (Str × U) → List (Str × V) → Prop
  | [], vs => vs = []
  | (k, u) :: us, vs => ∃ v r, vs = (k, v) :: r ∧ rep Γ B u v ∧ repf Γ B us r
end

theorem sqL_same {K : PySem.W.Frag} {B B' : Hp} {a : Addr} {xs : List V} (h : Same B B') (s : SqL K B a xs) : SqL K B' a xs := h.seq s
theorem sqT_same {K : PySem.W.Frag} {B B' : Hp} {a : Addr} {xs : List V} (e : Same B B') (s : SqT K B a xs) : SqT K B' a xs := by
  rcases s with (h | ⟨o, h⟩) | h
  · exact .inl (.inl (e _ _ h))
  · exact .inl (.inr ⟨o, e _ _ h⟩)
  · exact .inr h

mutual
theorem rep.mono {Γ : Ga} {B B' : Hp} (h : Same B B') : ∀ {u : U} {v : V}, rep Γ B u v → rep Γ B' u v
  | .non, _, r => r
  | .bl _, _, r => r
  | .int _, _, r => r
  | .str _, _, r => r
  | .tup us, v, r => by
    simp only [rep] at r ⊢
    obtain ⟨a, vs, e, s, q⟩ := r
    exact ⟨a, vs, e, sqT_same h s, reps.mono h q⟩
  | .lst us, v, r => by
    simp only [rep] at r ⊢
    obtain ⟨a, vs, e, s, q⟩ := r
    exact ⟨a, vs, e, h _ _ s, reps.mono h q⟩
  | .scr ns, v, r => by
    simp only [rep] at r ⊢
    obtain ⟨a, e, s⟩ := r
    exact ⟨a, e, sqL_same h s⟩
  | .dct kvs, v, r => by
    simp only [rep] at r ⊢
    obtain ⟨a, e, s⟩ := r
    refine ⟨a, e, ?_⟩
    rcases s with ⟨o, es, s, q⟩ | ⟨es, s, q⟩
    · exact .inl ⟨o, es, h _ _ s, repd.mono h q⟩
    · exact .inr ⟨es, h _ _ s, repx.mono h q⟩
  | .set us, v, r => by simp only [rep] at r
  | .ins c fs, v, r => by
    simp only [rep] at r ⊢
    obtain ⟨a, C, dx, gs, e, m, s, q⟩ := r
    exact ⟨a, C, dx, gs, e, m, h _ _ s, repf.mono h q⟩
theorem reps.mono {Γ : Ga} {B B' : Hp} (h : Same B B') : ∀ {us : List U} {vs : List V}, reps Γ B us vs → reps Γ B' us vs
  | [], _, r => r
  | u :: us, vs, r => by
    simp only [reps] at r ⊢
    obtain ⟨v, t, e, r1, r2⟩ := r
    exact ⟨v, t, e, rep.mono h r1, reps.mono h r2⟩
theorem repd.mono {Γ : Ga} {B B' : Hp} (h : Same B B') : ∀ {us : List (U × U)} {vs : List (Key × V)}, repd Γ B us vs → repd Γ B' us vs
  | [], _, r => r
  | (k, u) :: us, vs, r => by
    simp only [repd] at r ⊢
    obtain ⟨l, v, t, e, r0, r1, r2⟩ := r
    exact ⟨l, v, t, e, rep.mono h r0, rep.mono h r1, repd.mono h r2⟩
theorem repx.mono {Γ : Ga} {B B' : Hp} (h : Same B B') : ∀ {us : List (U × U)} {vs : List Xe}, repx Γ B us vs → repx Γ B' us vs
  | [], _, r => r
  | (k, u) :: us, vs, r => by
    simp only [repx] at r ⊢
    obtain ⟨l, v, t, e, z, r0, r1, r2⟩ := r
    exact ⟨l, v, t, e, z, rep.mono h r0, rep.mono h r1, repx.mono h r2⟩
theorem repf.mono {Γ : Ga} {B B' : Hp} (h : Same B B') : ∀ {us : List (Str × U)} {vs : List (Str × V)}, repf Γ B us vs → repf Γ B' us vs
  | [], _, r => r
  | (k, u) :: us, vs, r => by
    simp only [repf] at r ⊢
    obtain ⟨v, t, e, r1, r2⟩ := r
    exact ⟨v, t, e, rep.mono h r1, repf.mono h r2⟩
end

/-- what stands at an address of ours for a value that may be changed; its parts stand in B -/
def nod (Γ : Ga) (B : Hp) (a : Addr) : U → HO → Prop
  | .lst us, ho => ∃ vs, ho = .lst vs ∧ reps Γ B us vs
  | .dct kvs, ho => (∃ es, ho = .dK es ∧ repd Γ B kvs es) ∨ ∃ xs, ho = DX a xs ∧ repx Γ B kvs xs
  | .ins c fs, ho => ∃ C dx gs, ho = .ins C dx gs ∧ Γ.mg c = some (.ref C) ∧ repf Γ B fs gs
  | _, _ => False
theorem nod.mono {Γ : Ga} {B B' : Hp} {a : Addr} (h : Same B B') : ∀ {u : U} {ho : HO}, nod Γ B a u ho → nod Γ B' a u ho
  | .lst us, _, ⟨vs, e, r⟩ => ⟨vs, e, r.mono h⟩
  | .dct kvs, _, .inl ⟨es, e, r⟩ => .inl ⟨es, e, r.mono h⟩
  | .dct kvs, _, .inr ⟨es, e, r⟩ => .inr ⟨es, e, r.mono h⟩
  | .ins c fs, _, ⟨C, dx, gs, e, m, r⟩ => ⟨C, dx, gs, e, m, r.mono h⟩
/-- a node that is in B stands for its value -/
theorem nod.rep {Γ : Ga} {B : Hp} {a : Addr} {od : Obj} : ∀ {u : U} {ho : HO}, nod Γ B a u ho → B a = some (fzO od ho) → rep Γ B u (.ref a)
  | .lst us, _, ⟨vs, e, r⟩, h => by
    simp only [VS.rep]
    subst e
    exact ⟨a, vs, rfl, h, r⟩
  | .dct kvs, _, .inl ⟨es, e, r⟩, h => by
    simp only [VS.rep]
    subst e
    exact ⟨a, rfl, .inl ⟨od, es, h, r⟩⟩
  | .dct kvs, _, .inr ⟨es, e, r⟩, h => by
    simp only [VS.rep]
    subst e
    exact ⟨a, rfl, .inr ⟨es, h, r⟩⟩
  | .ins c fs, _, ⟨C, dx, gs, e, m, r⟩, h => by
    simp only [VS.rep]
    subst e
    exact ⟨a, C, dx, gs, rfl, m, h, r⟩
theorem nod.mut {Γ : Ga} {B : Hp} {a : Addr} : ∀ {u : U} {ho : HO}, nod Γ B a u ho → Mut (some ho)
  | .lst us, _, ⟨vs, e, r⟩ => by subst e; trivial
  | .dct kvs, _, .inl ⟨es, e, r⟩ => by subst e; trivial
  | .dct kvs, _, .inr ⟨es, e, r⟩ => by subst e; trivial
  | .ins c fs, _, ⟨C, dx, gs, e, m, r⟩ => by subst e; trivial

/-! ### states -/
/-- a slot: nothing, a value that stays (false), a value of our own that may be changed (true) -/
abbrev Sl := Option (Bool × U)
abbrev En := List Sl

/-- the addresses of ours -/
def own (e : En) (σ : St) (a : Addr) : Prop := ∃ (i : Nat) (u : U), e[i]? = some (some (true, u)) ∧ σ[i]? = some (some (.ref a))

structure SR (Γ : Ga) (B H : Hp) (e : En) (σ : St) : Prop where
  bh : Same B H
  ln : e.length = σ.length
  vl : ∀ (i : Nat) (u : U), e[i]? = some (some (false, u)) → ∃ v, σ[i]? = some (some v) ∧ rep Γ B u v
  ow : ∀ (i : Nat) (u : U), e[i]? = some (some (true, u)) → ∃ a ho, σ[i]? = some (some (.ref a)) ∧ H a = some ho ∧ nod Γ B a u ho ∧ B a = none
  ds : ∀ (i j : Nat) (u w : U) (a : Addr), e[i]? = some (some (true, u)) → e[j]? = some (some (true, w)) → σ[i]? = some (some (.ref a)) → σ[j]? = some (some (.ref a)) → i = j

/-- what is not ours stays -/
structure Stp (B H : Hp) (F : Addr → Prop) (B' H' : Hp) : Prop where
  bb : Same B B'
  fr : ∀ a o, H a = some o → ¬ F a → H' a = some o
  nb : ∀ a o, H a = some o → ¬ F a → B a = none → B' a = none

structure Go (Γ : Ga) (B H : Hp) (e : En) (σ : St) (B' H' : Hp) (e' : En) (σ' : St) : Prop where
  st : Stp B H (own e σ) B' H'
  sr : SR Γ B' H' e' σ'
  sub : ∀ a, own e' σ' a → own e σ a ∨ H a = none

theorem SR.own_some {Γ : Ga} {B H : Hp} {e : En} {σ : St} (s : SR Γ B H e σ) {a : Addr} (h : own e σ a) : (∃ o, H a = some o) ∧ B a = none := by
  obtain ⟨i, u, h1, h2⟩ := h
  obtain ⟨b, ho, h3, h4, _, h6⟩ := s.ow i u h1
  rw [h2] at h3
  cases h3
  exact ⟨⟨ho, h4⟩, h6⟩

theorem Go.refl {Γ : Ga} {B H : Hp} {e : En} {σ : St} (s : SR Γ B H e σ) : Go Γ B H e σ B H e σ :=
  ⟨⟨Same.refl _, fun _ _ h _ => h, fun _ _ _ _ h => h⟩, s, fun _ h => .inl h⟩

theorem Go.trans {Γ : Ga} {B H B1 H1 B2 H2 : Hp} {e e1 e2 : En} {σ σ1 σ2 : St} (g : Go Γ B H e σ B1 H1 e1 σ1) (k : Go Γ B1 H1 e1 σ1 B2 H2 e2 σ2) : Go Γ B H e σ B2 H2 e2 σ2 := by
  have no : ∀ a o, H a = some o → ¬ own e σ a → ¬ own e1 σ1 a := fun a o h n z => by
    rcases g.sub a z with q | q
    · exact n q
    · rw [h] at q; cases q
  refine ⟨⟨g.st.bb.trans k.st.bb, fun a o h n => k.st.fr a o (g.st.fr a o h n) (no a o h n), fun a o h n b => k.st.nb a o (g.st.fr a o h n) (no a o h n) (g.st.nb a o h n b)⟩, k.sr, fun a z => ?_⟩
  rcases k.sub a z with q | q
  · exact g.sub a q
  · by_cases o : own e σ a
    · exact .inl o
    · right
      cases h : H a with
      | none => rfl
      | some x => rw [g.st.fr a x h o] at q; cases q

/-! ### results -/
inductive R (α : Type) where
  | ok (a : α) (e : En)
  | exc (c : Str) (u : U) (e : En)
  | bad
abbrev M (α : Type) := En → R α
def M.ret {α : Type} (a : α) : M α := fun e => .ok a e
def M.bd {α β : Type} (m : M α) (k : α → M β) : M β := fun e => match m e with
  | .ok a e' => k a e'
  | .exc c u e' => .exc c u e'
  | .bad => .bad

/-- the wish for an exception, at the slots and the heap as they stand -/
abbrev WXX := Value → Option Addr → St → Hp → Prop
def exrep (Γ : Ga) (B H : Hp) (c : Str) (u : U) (cls : Value) (d : Option Addr) : Prop :=
  ∃ C a v, cls = .ref C ∧ Γ.mg c = some (.ref C) ∧ d = some a ∧ H a = some (.xd [("value", v)]) ∧ rep Γ B u v

/-- how a semantic value is told by a value, at a state; S: the addresses that may be ours -/
structure Rl (α β : Type) where
  r : α → β → (Addr → Prop) → Hp → Hp → En → St → Prop
  mono : ∀ {a b S S' B H e σ}, (∀ x, S x → S' x) → r a b S B H e σ → r a b S' B H e σ

/-- the addresses that may be ours behind a state -/
def may (H : Hp) (e : En) (σ : St) (a : Addr) : Prop := own e σ a ∨ H a = none
theorem Go.may {Γ : Ga} {B H B1 H1 : Hp} {e e1 : En} {σ σ1 : St} (g : Go Γ B H e σ B1 H1 e1 σ1) : ∀ x, VS.may H1 e1 σ1 x → VS.may H e σ x := fun a z => by
  rcases z with q | q
  · exact g.sub a q
  · by_cases o : own e σ a
    · exact .inl o
    · right
      cases h : H a with
      | none => rfl
      | some x => rw [g.st.fr a x h o] at q; cases q

def tAt {α β : Type} (Γ : Ga) (W : WXX) (rl : Rl α β) (m : M α) (B H : Hp) (e : En) (σ : St) (Q : β → Hp → Prop) : Prop := match m e with
  | .ok a e' => ∀ b B' H', Go Γ B H e σ B' H' e' σ → rl.r a b (may H e σ) B' H' e' σ → Q b H'
  | .exc c u e' => ∀ cls d B' H', Go Γ B H e σ B' H' e' σ → exrep Γ B' H' c u cls d → W cls d σ H'
  | .bad => False
def tG {α β : Type} (Γ : Ga) (W : WXX) (rl : Rl α β) (m : M α) : St → Hp → (β → Hp → Prop) → Prop := fun σ H Q => ∃ B e, SR Γ B H e σ ∧ tAt Γ W rl m B H e σ Q

theorem tAt.mono {α β : Type} {Γ : Ga} {W : WXX} {rl : Rl α β} {m : M α} {B H : Hp} {e : En} {σ : St} {Q Q' : β → Hp → Prop} (h : tAt Γ W rl m B H e σ Q) (k : ∀ b H', Q b H' → Q' b H') : tAt Γ W rl m B H e σ Q' := by
  unfold tAt at *
  cases q : m e with
  | bad => rw [q] at h; exact h
  | exc c u e' => rw [q] at h; exact h
  | ok a e' => rw [q] at h; exact fun b B' H' g r => k _ _ (h b B' H' g r)

/-- one after another -/
theorem tAt.bd {α β γ δ : Type} {Γ : Ga} {W : WXX} {rl : Rl α β} {rl2 : Rl γ δ} {m : M α} {k : α → M γ} {B H : Hp} {e : En} {σ : St} {Q : δ → Hp → Prop} (h : tAt Γ W rl2 (m.bd k) B H e σ Q) :
    tAt Γ W rl m B H e σ fun b H1 => ∃ B1 e1 a, Go Γ B H e σ B1 H1 e1 σ ∧ rl.r a b (may H e σ) B1 H1 e1 σ ∧ tAt Γ W rl2 (k a) B1 H1 e1 σ Q := by
  unfold tAt M.bd at *
  cases q : m e with
  | bad => rw [q] at h; exact h
  | exc c u e' => rw [q] at h; exact h
  | ok a e' =>
    rw [q] at h
    refine fun b B' H' g r => ⟨B', e', a, g, r, ?_⟩
    dsimp only at h
    cases q2 : k a e' with
    | bad => rw [q2] at h; exact h
    | exc c u e2 => rw [q2] at h; exact fun cls d B2 H2 g2 x => h cls d B2 H2 (g.trans g2) x
    | ok c e2 => rw [q2] at h; exact fun b B2 H2 g2 x => h b B2 H2 (g.trans g2) (rl2.mono g.may x)

end VS
set_option Elab.async false
set_option linter.all false
set_option maxRecDepth 100000
/-! VS2: judgements over semantic functions; names, constants, freezing. -/
namespace VS
open PySem L2

def ga (X : Cx) : Ga := ⟨X.prog, X.w, X.K, X.mg⟩

/-- an operand: a slot (read when it is used), a value -/
inductive Od where
  | sl (i : Nat)
  | vl (u : U)
def rdO (e : En) : Od → Option U
  | .sl i => match e[i]? with
    | some (some (_, u)) => some u
    | _ => none
  | .vl u => some u

def rlV (Γ : Ga) : Rl U V := ⟨fun u v _ B _ _ _ => rep Γ B u v, fun _ h => h⟩
def rlR (Γ : Ga) : Rl Od V := ⟨fun od v _ B _ e σ => match od with
  | .sl i => σ[i]? = some (some v)
  | .vl u => rep Γ B u v, fun _ h => h⟩
/-- a new value of ours at a -/
def Fresh (Γ : Ga) (S : Addr → Prop) (B H : Hp) (e : En) (σ : St) (u : U) (v : V) : Prop :=
  ∃ a ho, v = .ref a ∧ H a = some ho ∧ nod Γ B a u ho ∧ B a = none ∧ ¬ own e σ a ∧ S a
def rlO (Γ : Ga) : Rl (Bool × U) V := ⟨fun r v S B H e σ => match r with
  | (false, u) => rep Γ B u v
  | (true, u) => Fresh Γ S B H e σ u v, fun {r v S S' B H e σ} hs h => by
    obtain ⟨o, u⟩ := r
    cases o with
    | false => exact h
    | true =>
      obtain ⟨a, ho, h1, h2, h3, h4, h5, h6⟩ := h
      exact ⟨a, ho, h1, h2, h3, h4, h5, hs a h6⟩⟩
def rlB : Rl Bool Bool := ⟨fun a b _ _ _ _ _ => a = b, fun _ h => h⟩
def rlVs (Γ : Ga) : Rl (List U) (List V) := ⟨fun us vs _ B _ _ _ => reps Γ B us vs, fun _ h => h⟩

/-- what can be read of u off v -/
def Vw (Γ : Ga) (B H : Hp) (u : U) (v : V) : Prop := rep Γ B u v ∨ ∃ a ho, v = .ref a ∧ H a = some ho ∧ nod Γ B a u ho

section
variable {Γ : Ga} {B H : Hp} {e : En} {σ : St} {v : V}
theorem rlR.vw {od : Od} {S : Addr → Prop} {u : U} (s : SR Γ B H e σ) (h : (rlR Γ).r od v S B H e σ) (q : rdO e od = some u) : Vw Γ B H u v := by
  cases od with
  | vl w =>
    injection q with q
    subst q
    exact .inl h
  | sl i =>
    have h1 : σ[i]? = some (some v) := h
    unfold rdO at q
    dsimp only at q
    split at q
    · rename_i o w h2
      injection q with q
      subst q
      cases o with
      | false =>
        obtain ⟨v', h3, h4⟩ := s.vl i w h2
        rw [h1] at h3
        cases h3
        exact .inl h4
      | true =>
        obtain ⟨a, ho, h3, h4, h5, h6⟩ := s.ow i w h2
        rw [h1] at h3
        cases h3
        exact .inr ⟨a, ho, rfl, h4, h5⟩
    · cases q
/-- an operand stays told -/
theorem rlR.keep {od : Od} {S S' : Addr → Prop} {B' H' : Hp} {e' : En} (h : (rlR Γ).r od v S B H e σ) (g : Go Γ B H e σ B' H' e' σ) : (rlR Γ).r od v S' B' H' e' σ := by
  cases od with
  | vl w => exact rep.mono g.st.bb h
  | sl i => exact h
theorem Vw.int {i : Int} (h : Vw Γ B H (.int i) v) : v = .int i := by
  rcases h with h | ⟨a, ho, _, _, h⟩
  · simpa only [rep] using h
  · exact h.elim
theorem Vw.bl {i : Bool} (h : Vw Γ B H (.bl i) v) : v = .bl i := by
  rcases h with h | ⟨a, ho, _, _, h⟩
  · simpa only [rep] using h
  · exact h.elim
theorem Vw.str {i : Str} (h : Vw Γ B H (.str i) v) : v = .str i := by
  rcases h with h | ⟨a, ho, _, _, h⟩
  · simpa only [rep] using h
  · exact h.elim
theorem Vw.non (h : Vw Γ B H .non v) : v = .non := by
  rcases h with h | ⟨a, ho, _, _, h⟩
  · simpa only [rep] using h
  · exact h.elim
theorem Vw.lst {us : List U} (s : Same B H) (h : Vw Γ B H (.lst us) v) : ∃ a vs, v = .ref a ∧ H a = some (.lst vs) ∧ reps Γ B us vs := by
  rcases h with h | ⟨a, ho, e, h, vs, e2, r⟩
  · simp only [rep] at h
    obtain ⟨a, vs, e, q, r⟩ := h
    exact ⟨a, vs, e, s _ _ q, r⟩
  · subst e2
    exact ⟨a, vs, e, h, r⟩
theorem Vw.scr {ns : List Int} (s : Same B H) (h : Vw Γ B H (.scr ns) v) : ∃ a, v = .ref a ∧ SqL Γ.K H a (ns.map V.int) := by
  rcases h with h | ⟨a, ho, e, h, n⟩
  · simp only [rep] at h
    obtain ⟨a, e, q⟩ := h
    exact ⟨a, e, sqL_same s q⟩
  · exact n.elim
theorem Vw.tup {us : List U} (s : Same B H) (h : Vw Γ B H (.tup us) v) : ∃ a vs, v = .ref a ∧ SqT Γ.K H a vs ∧ reps Γ B us vs := by
  rcases h with h | ⟨a, ho, e, h, n⟩
  · simp only [rep] at h
    obtain ⟨a, vs, e, q, r⟩ := h
    exact ⟨a, vs, e, sqT_same s q, r⟩
  · exact n.elim
theorem Vw.dct {kvs : List (U × U)} (s : Same B H) (h : Vw Γ B H (.dct kvs) v) : ∃ a, v = .ref a ∧ ((∃ es, Rd H a (.dK es) ∧ repd Γ B kvs es) ∨ ∃ xs, H a = some (DX a xs) ∧ repx Γ B kvs xs) := by
  rcases h with h | ⟨a, ho, e, h, n⟩
  · simp only [rep] at h
    obtain ⟨a, e, q⟩ := h
    refine ⟨a, e, ?_⟩
    rcases q with ⟨o, es, q, r⟩ | ⟨es, q, r⟩
    · exact .inl ⟨es, .inr ⟨o, s _ _ q⟩, r⟩
    · exact .inr ⟨es, s _ _ q, r⟩
  · refine ⟨a, e, ?_⟩
    rcases n with ⟨es, q, r⟩ | ⟨es, q, r⟩
    · subst q
      exact .inl ⟨es, .inl h, r⟩
    · subst q
      exact .inr ⟨es, h, r⟩
theorem Vw.ins {c : Str} {fs : List (Str × U)} (s : Same B H) (h : Vw Γ B H (.ins c fs) v) : ∃ a C dx gs, v = .ref a ∧ Γ.mg c = some (.ref C) ∧ H a = some (.ins C dx gs) ∧ repf Γ B fs gs := by
  rcases h with h | ⟨a, ho, e, h, C, dx, gs, e2, m, r⟩
  · simp only [rep] at h
    obtain ⟨a, C, dx, gs, e, m, q, r⟩ := h
    exact ⟨a, C, dx, gs, e, m, s _ _ q, r⟩
  · subst e2
    exact ⟨a, C, dx, gs, e, m, h, r⟩

theorem reps.length : ∀ {us : List U} {vs : List V}, reps Γ B us vs → us.length = vs.length
  | [], _, h => by simp only [reps] at h; subst h; rfl
  | u :: us, _, h => by
    simp only [reps] at h
    obtain ⟨v, r, e, _, q⟩ := h
    subst e
    simp [reps.length q]
theorem reps.get : ∀ {us : List U} {vs : List V} {i : Nat} {u : U}, reps Γ B us vs → us[i]? = some u → ∃ v, vs[i]? = some v ∧ rep Γ B u v
  | [], _, _, _, _, h => by simp at h
  | u :: us, _, i, w, h, q => by
    simp only [reps] at h
    obtain ⟨v, r, e, r1, r2⟩ := h
    subst e
    cases i with
    | zero =>
      simp at q
      subst q
      exact ⟨v, rfl, r1⟩
    | succ i => simpa using reps.get (i := i) r2 (by simpa using q)
theorem reps.append : ∀ {us us' : List U} {vs vs' : List V}, reps Γ B us vs → reps Γ B us' vs' → reps Γ B (us ++ us') (vs ++ vs')
  | [], _, _, _, h, k => by simp only [reps] at h; subst h; exact k
  | u :: us, _, _, _, h, k => by
    simp only [reps] at h
    obtain ⟨v, r, e, r1, r2⟩ := h
    subst e
    simp only [List.cons_append, reps]
    exact ⟨v, _, rfl, r1, reps.append r2 k⟩
theorem reps.snoc {us : List U} {vs : List V} {u : U} {v : V} (h : reps Γ B us vs) (k : rep Γ B u v) : reps Γ B (us ++ [u]) (vs ++ [v]) := h.append (by simp only [reps]; exact ⟨v, [], rfl, k, rfl⟩)
theorem reps.cons' {us : List U} {vs : List V} {u : U} {v : V} (k : rep Γ B u v) (h : reps Γ B us vs) : reps Γ B (u :: us) (v :: vs) := by simp only [reps]; exact ⟨v, vs, rfl, k, h⟩
theorem reps.nil' : reps Γ B [] [] := by simp only [reps]
theorem reps.drop : ∀ (n : Nat) {us : List U} {vs : List V}, reps Γ B us vs → reps Γ B (us.drop n) (vs.drop n)
  | 0, _, _, h => h
  | n + 1, [], _, h => by simp only [reps] at h; subst h; simp [reps]
  | n + 1, u :: us, _, h => by
    simp only [reps] at h
    obtain ⟨v, r, e, r1, r2⟩ := h
    subst e
    exact reps.drop n r2
theorem reps.take : ∀ (n : Nat) {us : List U} {vs : List V}, reps Γ B us vs → reps Γ B (us.take n) (vs.take n)
  | 0, _, _, h => by simp [reps]
  | n + 1, [], _, h => by simp only [reps] at h; subst h; simp [reps]
  | n + 1, u :: us, _, h => by
    simp only [reps] at h
    obtain ⟨v, r, e, r1, r2⟩ := h
    subst e
    simp only [List.take_succ_cons, reps]
    exact ⟨v, _, rfl, r1, reps.take n r2⟩
theorem reps.reverse : ∀ {us : List U} {vs : List V}, reps Γ B us vs → reps Γ B us.reverse vs.reverse
  | [], _, h => by simp only [reps] at h; subst h; simp [reps]
  | u :: us, _, h => by
    simp only [reps] at h
    obtain ⟨v, r, e, r1, r2⟩ := h
    subst e
    rw [List.reverse_cons, List.reverse_cons]
    exact reps.snoc (reps.reverse r2) r1
theorem reps.set : ∀ (i : Nat) {us : List U} {vs : List V} {u : U} {v : V}, reps Γ B us vs → rep Γ B u v → reps Γ B (us.set i u) (vs.set i v)
  | _, [], _, _, _, h, k => by simp only [reps] at h; subst h; simp [reps]
  | 0, _ :: us, _, u, v, h, k => by
    simp only [reps] at h
    obtain ⟨v', r, e, r1, r2⟩ := h
    subst e
    simp only [List.set_cons_zero, reps]
    exact ⟨v, r, rfl, k, r2⟩
  | i + 1, _ :: us, _, u, v, h, k => by
    simp only [reps] at h
    obtain ⟨v', r, e, r1, r2⟩ := h
    subst e
    simp only [List.set_cons_succ, reps]
    exact ⟨v', _, rfl, r1, reps.set i r2 k⟩
theorem reps.nat (ns : List Int) : ∀ {vs : List V}, reps Γ B (ns.map U.int) vs ↔ vs = ns.map V.int := by
  induction ns with
  | nil => intro vs; simp [reps]
  | cons n ns ih =>
    intro vs
    simp only [List.map_cons, reps, rep, ih]
    constructor
    · rintro ⟨v, r, rfl, rfl, rfl⟩; rfl
    · rintro rfl; exact ⟨_, _, rfl, rfl, rfl⟩
theorem reps.strs (ns : List Str) : ∀ {vs : List V}, reps Γ B (ns.map U.str) vs ↔ vs = ns.map V.str := by
  induction ns with
  | nil => intro vs; simp [reps]
  | cons n ns ih =>
    intro vs
    simp only [List.map_cons, reps, rep, ih]
    constructor
    · rintro ⟨v, r, rfl, rfl, rfl⟩; rfl
    · rintro rfl; exact ⟨_, _, rfl, rfl, rfl⟩
theorem reps.bls (ns : List Bool) : ∀ {vs : List V}, reps Γ B (ns.map U.bl) vs ↔ vs = ns.map V.bl := by
  induction ns with
  | nil => intro vs; simp [reps]
  | cons n ns ih =>
    intro vs
    simp only [List.map_cons, reps, rep, ih]
    constructor
    · rintro ⟨v, r, rfl, rfl, rfl⟩; rfl
    · rintro rfl; exact ⟨_, _, rfl, rfl, rfl⟩

/-! ### steps of the state -/
theorem SR.none_of (s : SR Γ B H e σ) {p : Addr} (h : H p = none) : B p = none := s.bh.free h
theorem SR.not_own (s : SR Γ B H e σ) {p : Addr} (h : H p = none) : ¬ own e σ p := fun z => by
  obtain ⟨⟨o, q⟩, _⟩ := s.own_some z
  rw [h] at q; cases q
theorem same_upd {H : Hp} {p : Addr} {o : HO} (h : H p = none) : Same H (upd H p o) := fun a u q => by rw [upd_ne (ne_of_none q h)]; exact q
theorem same_upd2 {B H : Hp} {p : Addr} {o : HO} (s : Same B H) (h : B p = none) : Same B (upd H p o) := fun a u q => by
  rw [upd_ne (ne_of_none q h)]; exact s _ _ q
theorem same_updB {B H : Hp} {p : Addr} {o : HO} (s : Same B H) (h : H p = some o) : Same (upd B p o) H := fun a u q => by
  by_cases z : a = p
  · subst z; rw [upd_same] at q; cases q; exact h
  · rw [upd_ne z] at q; exact s _ _ q
/-- a new object -/
theorem Go.alloc (s : SR Γ B H e σ) {p : Addr} {o : HO} (h : H p = none) : Go Γ B H e σ B (upd H p o) e σ := by
  refine ⟨⟨Same.refl _, fun a u q _ => ?_, fun a u q _ b => b⟩, ⟨s.bh.trans (same_upd h), s.ln, s.vl, fun i u q => ?_, s.ds⟩, fun a z => .inl z⟩
  · rw [upd_ne (ne_of_none q h)]; exact q
  · obtain ⟨a, ho, h1, h2, h3, h4⟩ := s.ow i u q
    exact ⟨a, ho, h1, by rw [upd_ne (ne_of_none h2 h)]; exact h2, h3, h4⟩
/-- a new object that stays -/
theorem Go.allocB (s : SR Γ B H e σ) {p : Addr} {o : HO} (h : H p = none) : Go Γ B H e σ (upd B p o) (upd H p o) e σ := by
  have bp := s.none_of h
  refine ⟨⟨same_upd bp, fun a u q _ => ?_, fun a u q _ b => ?_⟩, ⟨fun a u q => ?_, s.ln, fun i u q => ?_, fun i u q => ?_, s.ds⟩, fun a z => .inl z⟩
  · rw [upd_ne (ne_of_none q h)]; exact q
  · rw [upd_ne (ne_of_none q h)]; exact b
  · by_cases z : a = p
    · subst z; rw [upd_same] at q ⊢; exact q
    · rw [upd_ne z] at q ⊢; exact s.bh _ _ q
  · obtain ⟨v, h1, h2⟩ := s.vl i u q
    exact ⟨v, h1, h2.mono (same_upd bp)⟩
  · obtain ⟨a, ho, h1, h2, h3, h4⟩ := s.ow i u q
    have n := ne_of_none h2 h
    exact ⟨a, ho, h1, by rw [upd_ne n]; exact h2, h3.mono (same_upd bp), by rw [upd_ne n]; exact h4⟩
theorem same_upd3 {B H : Hp} {p : Addr} {o : HO} (s : Same B H) : Same (upd B p o) (upd H p o) := fun a u q => by
  by_cases z : a = p
  · subst z; rw [upd_same] at q ⊢; exact q
  · rw [upd_ne z] at q ⊢; exact s _ _ q
/-- an object that is nobody's, or a slot's, stays from here on -/
theorem Go.stayNew (s : SR Γ B H e σ) {p : Addr} {o : HO} (h : H p = some o) (n : ¬ own e σ p) (bp : B p = none) {B0 H0 : Hp} {e0 : En} {σ0 : St} (g : Go Γ B0 H0 e0 σ0 B H e σ) (m : VS.may H0 e0 σ0 p) (o' : HO) :
    Go Γ B0 H0 e0 σ0 (upd B p o') (upd H p o') e σ := by
  have np : ∀ a u, H0 a = some u → ¬ own e0 σ0 a → a ≠ p := fun a u q z w => by
    subst w
    rcases m with m | m
    · exact z m
    · rw [q] at m; cases m
  refine ⟨⟨g.st.bb.trans (same_upd bp), fun a u q z => ?_, fun a u q z b => ?_⟩, ⟨same_upd3 s.bh, s.ln, fun i u q => ?_, fun i u q => ?_, s.ds⟩, g.sub⟩
  · rw [upd_ne (np a u q z)]
    exact g.st.fr a u q z
  · rw [upd_ne (np a u q z)]
    exact g.st.nb a u q z b
  · obtain ⟨v, h1, h2⟩ := s.vl i u q
    exact ⟨v, h1, h2.mono (same_upd bp)⟩
  · obtain ⟨a, ho, h1, h2, h3, h4⟩ := s.ow i u q
    have na : a ≠ p := fun w => n ⟨i, u, q, by rw [h1, w]⟩
    exact ⟨a, ho, h1, by rw [upd_ne na]; exact h2, h3.mono (same_upd bp), by rw [upd_ne na]; exact h4⟩
theorem own_set_false {i : Nat} {u : U} {a : Addr} (h : own (e.set i (some (false, u))) σ a) : own e σ a := by
  obtain ⟨j, w, h1, h2⟩ := h
  rw [List.getElem?_set] at h1
  split at h1
  · split at h1
    · cases h1
    · cases h1
  · exact ⟨j, w, h1, h2⟩
/-- a slot's value stays from here on -/
theorem Go.freeze (s : SR Γ B H e σ) {i : Nat} {u : U} {a : Addr} {o : HO} {od : Obj} (q : e[i]? = some (some (true, u))) (ea : σ[i]? = some (some (.ref a))) (h : H a = some o) (n : nod Γ B a u o) (bp : B a = none) :
    Go Γ B H e σ (upd B a (fzO od o)) (upd H a (fzO od o)) (e.set i (some (false, u))) σ := by
  have np : ∀ b w, H b = some w → ¬ own e σ b → b ≠ a := fun b w hb nb z => nb (by subst z; exact ⟨i, u, q, ea⟩)
  refine ⟨⟨same_upd bp, fun b w hb nb => by rw [upd_ne (np b w hb nb)]; exact hb, fun b w hb nb b0 => by rw [upd_ne (np b w hb nb)]; exact b0⟩, ⟨same_upd3 s.bh, by simp [s.ln], fun j w hj => ?_, fun j w hj => ?_, fun j k w x b hj hk s1 s2 => ?_⟩, fun b z => .inl (own_set_false z)⟩
  · rw [List.getElem?_set] at hj
    split at hj
    · rename_i ij
      subst ij
      split at hj
      · injection hj with hj
        injection hj with hj
        injection hj with _ hj
        subst hj
        exact ⟨_, ea, (n.mono (same_upd bp)).rep upd_same⟩
      · cases hj
    · obtain ⟨v, h1, h2⟩ := s.vl j w hj
      exact ⟨v, h1, h2.mono (same_upd bp)⟩
  · rw [List.getElem?_set] at hj
    split at hj
    · split at hj
      · cases hj
      · cases hj
    · rename_i ij
      obtain ⟨b, ho, h1, h2, h3, h4⟩ := s.ow j w hj
      have nb : b ≠ a := fun z => ij (s.ds i j u w a q hj ea (by rw [h1, z]))
      exact ⟨b, ho, h1, by rw [upd_ne nb]; exact h2, h3.mono (same_upd bp), by rw [upd_ne nb]; exact h4⟩
  · have hj' : e[j]? = some (some (true, w)) := by
      rw [List.getElem?_set] at hj
      split at hj
      · split at hj <;> cases hj
      · exact hj
    have hk' : e[k]? = some (some (true, x)) := by
      rw [List.getElem?_set] at hk
      split at hk
      · split at hk <;> cases hk
      · exact hk
    exact s.ds j k w x b hj' hk' s1 s2
end

/-! ### judgements -/
section
variable {X : Cx} {W : WXX} {ex : Expr}
theorem PEimp {t t' : TE} (h : PE X ex t) (k : ∀ σ H Q, t' σ H Q → t σ H Q) : PE X ex t' := ⟨fun pins s σ H Q I q => h.run pins s σ H Q I (k σ H Q q)⟩
theorem PTimp {t t' : TT} (h : PT X ex t) (k : ∀ σ H Q, t' σ H Q → t σ H Q) : PT X ex t' := ⟨fun pins s σ H Q I q => h.run pins s σ H Q I (k σ H Q q)⟩
theorem PWimp {t t' : TT} (h : PW X ex t) (k : ∀ σ H Q, t' σ H Q → t σ H Q) : PW X ex t' := ⟨fun wh pins s σ H Q I q => h.run wh pins s σ H Q I (k σ H Q q)⟩
abbrev PV (X : Cx) (W : WXX) (ex : Expr) (m : M U) : Prop := PE X ex (tG (ga X) W (rlV (ga X)) m)
abbrev PR (X : Cx) (W : WXX) (ex : Expr) (m : M Od) : Prop := PE X ex (tG (ga X) W (rlR (ga X)) m)
abbrev PO (X : Cx) (W : WXX) (ex : Expr) (m : M (Bool × U)) : Prop := PE X ex (tG (ga X) W (rlO (ga X)) m)
abbrev PTB (X : Cx) (W : WXX) (ex : Expr) (m : M Bool) : Prop := PT X ex (tG (ga X) W rlB m)
abbrev PVs (X : Cx) (W : WXX) (exs : List Expr) (m : M (List U)) : Prop := PA X exs (tG (ga X) W (rlVs (ga X)) m)

/-- at the end a thing may be locked that is to stay -/
theorem PEfz {t : TE} (h : PE X ex t) : PE X ex (fun σ H Q => t σ H fun x H' => Q x H' ∨ ∃ d ho, H' d = some ho ∧ Mut (some ho) ∧ ∀ od, Q x (upd H' d (fzO od ho))) := by
  refine ⟨fun pins s σ H Q I q => thn (h.run pins s σ H _ I q) fun v s1 ⟨x, H1, I1, r, q1⟩ => ?_⟩
  rcases q1 with q1 | ⟨d, ho, hd, mu, q1⟩
  · exact ⟨x, H1, I1, r, q1⟩
  · by_cases hk : ∃ es, ho = .dK es
    · obtain ⟨es, rfl⟩ := hk
      obtain ⟨od, I2⟩ := I1.lock hd mu
      exact ⟨x, _, I2, r, q1 od⟩
    · obtain ⟨od, _⟩ := I1.lock hd mu
      have e1 : fzO od ho = ho := by
        cases ho <;> first | rfl | exact absurd ⟨_, rfl⟩ hk
      have e2 : upd H1 d ho = H1 := by
        funext b
        by_cases z : b = d
        · subst z; rw [upd_same, hd]
        · rw [upd_ne z]
      have q2 := q1 od
      rw [e1, e2] at q2
      exact ⟨x, H1, I1, r, q2⟩
/-- as a value that stays -/
def mF (m : M (Bool × U)) : M U := m.bd fun r => .ret r.2
theorem pv_of {m : M (Bool × U)} (h : PO X W ex m) : PV X W ex (mF m) := by
  refine PEimp (PEfz h) fun σ H Q ⟨B, e, s, q⟩ => ⟨B, e, s, ?_⟩
  unfold mF tAt M.bd at *
  cases z : m e with
  | bad => rw [z] at q; exact q
  | exc c u e' => rw [z] at q; exact q
  | ok r e' =>
    rw [z] at q
    intro b B' H' g r'
    obtain ⟨o, u⟩ := r
    dsimp only [M.ret] at q
    cases o with
    | false => exact .inl (q b B' H' g r')
    | true =>
      obtain ⟨a, ho, e1, h1, n, b0, no, mz⟩ := r'
      subst e1
      exact .inr ⟨a, ho, h1, n.mut, fun od => q _ _ _ (Go.stayNew g.sr h1 no b0 g mz _) ((n.mono (same_upd b0)).rep upd_same)⟩
/-- .. as an operand -/
def mR (m : M U) : M Od := m.bd fun u => .ret (.vl u)
theorem pr_of {m : M U} (h : PV X W ex m) : PR X W ex (mR m) := by
  refine PEimp h fun σ H Q ⟨B, e, s, q⟩ => ⟨B, e, s, ?_⟩
  unfold mR tAt M.bd at *
  cases z : m e with
  | bad => rw [z] at q; exact q
  | exc c u e' => rw [z] at q; exact q
  | ok r e' =>
    rw [z] at q
    intro b B' H' g r'
    exact q b B' H' g r'
def mO (m : M U) : M (Bool × U) := m.bd fun u => .ret (false, u)
theorem po_of {m : M U} (h : PV X W ex m) : PO X W ex (mO m) := by
  refine PEimp h fun σ H Q ⟨B, e, s, q⟩ => ⟨B, e, s, ?_⟩
  unfold mO tAt M.bd at *
  cases z : m e with
  | bad => rw [z] at q; exact q
  | exc c u e' => rw [z] at q; exact q
  | ok r e' =>
    rw [z] at q
    intro b B' H' g r'
    exact q b B' H' g r'

/-- what is wanted of a value without further steps -/
theorem fin_val {Γ : Ga} {B H : Hp} {e : En} {σ : St} {Q : VK} {u : U} {v : V} (s : SR Γ B H e σ) (h : tAt Γ W (rlO Γ) (M.ret (false, u)) B H e σ Q) (r : rep Γ B u v) : Q v H := h v B H (Go.refl s) r
theorem fin_new {Γ : Ga} {B H : Hp} {e : En} {σ : St} {Q : VK} {u : U} {ho : Addr → HO} (s : SR Γ B H e σ) (h : tAt Γ W (rlO Γ) (M.ret (true, u)) B H e σ Q) (n : ∀ p, nod Γ B p u (ho p)) : ∀ p, H p = none → Q (.ref p) (upd H p (ho p)) := fun p hp =>
  h _ B _ (Go.alloc s hp) ⟨p, ho p, rfl, upd_same, n p, s.none_of hp, s.not_own hp, .inr hp⟩
theorem fin_tup {Γ : Ga} {B H : Hp} {e : En} {σ : St} {Q : VK} {us : List U} {vs : List V} (s : SR Γ B H e σ) (h : tAt Γ W (rlO Γ) (M.ret (false, .tup us)) B H e σ Q) (r : reps Γ B us vs) : ∀ p, H p = none → Q (.ref p) (upd H p (.tup vs)) := fun p hp =>
  h _ _ _ (Go.allocB s hp) (by
    show rep Γ _ (.tup us) (.ref p)
    simp only [rep]
    exact ⟨p, vs, rfl, SqT.of upd_same, r.mono (same_upd (s.none_of hp))⟩)

/-! ### names -/
/-- a slot as an operand -/
def mSl (i : Nat) : M Od := fun e => match e[i]? with
  | some (some _) => .ok (.sl i) e
  | _ => .bad
theorem pr_name {i : Nat} {x : Str} {pos : Pos} (hN : X.N[i]? = some x) (hv : Vis X.env.scope x) (hd : (x == ("__debug__" : Str)) = false := by decide) (hcd : (x == ("__classdict__" : Str)) = false := by decide) : PR X W (.Name x pos) (mSl i) := by
  refine PEimp (pe_var hN hv hd hcd) fun σ H Q ⟨B, e, s, q⟩ => ?_
  unfold mSl tAt at q
  dsimp only at q
  cases z : e[i]? with
  | none => rw [z] at q; exact q.elim
  | some r =>
    rw [z] at q
    cases r with
    | none => exact q.elim
    | some r =>
      obtain ⟨o, u⟩ := r
      cases o with
      | false =>
        obtain ⟨v, h1, h2⟩ := s.vl i u z
        exact ⟨v, h1, q v B H (Go.refl s) h1⟩
      | true =>
        obtain ⟨a, ho, h1, h2⟩ := s.ow i u z
        exact ⟨_, h1, q _ B H (Go.refl s) h1⟩
/-- an operand's value, that stays from here on -/
def frz : Od → M U
  | .vl u => .ret u
  | .sl i => fun e => match e[i]? with
    | some (some (false, u)) => .ok u e
    | some (some (true, u)) => .ok u (e.set i (some (false, u)))
    | _ => .bad
theorem frz_ok {Γ : Ga} {B H : Hp} {e : En} {σ : St} {Q : VK} {od : Od} {v : V} {S : Addr → Prop} (s : SR Γ B H e σ) (r : (rlR Γ).r od v S B H e σ) (h : tAt Γ W (rlV Γ) (frz od) B H e σ Q) : Q v H ∨ ∃ d ho, H d = some ho ∧ Mut (some ho) ∧ ∀ od, Q v (upd H d (fzO od ho)) := by
  cases od with
  | vl u => exact .inl (h v B H (Go.refl s) r)
  | sl i =>
    have h1 : σ[i]? = some (some v) := r
    unfold tAt frz at h
    dsimp only at h
    cases h2 : e[i]? with
    | none => rw [h2] at h; exact h.elim
    | some r =>
      rw [h2] at h
      cases r with
      | none => exact h.elim
      | some r =>
        obtain ⟨o, u⟩ := r
        cases o with
        | false =>
          obtain ⟨v', h3, h4⟩ := s.vl i u h2
          rw [h1] at h3; cases h3
          exact .inl (h v B H (Go.refl s) h4)
        | true =>
          obtain ⟨a, ho, h3, h4, h5, h6⟩ := s.ow i u h2
          rw [h1] at h3; cases h3
          exact .inr ⟨a, ho, h4, h5.mut, fun od => h _ _ _ (Go.freeze s h2 h1 h4 h5 h6) ((h5.mono (same_upd h6)).rep upd_same)⟩
def mN (i : Nat) : M U := (mSl i).bd frz
theorem pv_name {i : Nat} {x : Str} {pos : Pos} (hN : X.N[i]? = some x) (hv : Vis X.env.scope x) (hd : (x == ("__debug__" : Str)) = false := by decide) (hcd : (x == ("__classdict__" : Str)) = false := by decide) : PV X W (.Name x pos) (mN i) := by
  have h : PE X (.Name x pos) (tG (ga X) W (rlR (ga X)) (mSl i)) := pr_name hN hv hd hcd
  refine PEimp (PEfz h) fun σ H Q ⟨B, e, s, q⟩ => ⟨B, e, s, ?_⟩
  refine (tAt.bd q).mono fun v H1 ⟨B1, e1, od, g, r, q1⟩ => frz_ok g.sr r q1

/-! ### constants -/
def mC (u : U) : M U := .ret u
theorem pv_const {v : V} {u : U} (h : PE X ex (tC v)) (r : ∀ B, rep (ga X) B u v) : PV X W ex (mC u) := PEimp h fun σ H Q ⟨B, e, s, q⟩ => q v B H (Go.refl s) (r B)
theorem pv_int {i j pos} : PV X W (.Constant (.int i) j pos) (mC (.int i)) := pv_const pe_int fun B => by simp only [rep]
theorem pv_bl {i j pos} : PV X W (.Constant (.bool i) j pos) (mC (.bl i)) := pv_const pe_bl fun B => by simp only [rep]
theorem pv_non {j pos} : PV X W (.Constant .none j pos) (mC .non) := pv_const pe_non fun B => by simp only [rep]
theorem pv_str {i j pos} : PV X W (.Constant (.str i) j pos) (mC (.str i)) := pv_const pe_str fun B => by simp only [rep]
end
end VS
set_option Elab.async false
set_option linter.all false
set_option maxRecDepth 100000
/-! VS3: operators of two values. -/
namespace VS
open PySem L2

abbrev Op2 := U → U → Option (Bool × U)
def op2 (s : Op2) (x y : Od) : M (Bool × U) := fun e => match rdO e x, rdO e y with
  | some u, some w => match s u w with
    | some r => .ok r e
    | none => .bad
  | _, _ => .bad
def mBin (s : Op2) (ra rb : M Od) : M (Bool × U) := ra.bd fun x => rb.bd fun y => op2 s x y

structure BinOK (X : Cx) (f : Value → Value → Sem Value) (s : Op2) : Prop where
  ex : ∃ r : R2, OpR X f r ∧ ∀ {W : WXX} {B H : Hp} {e : En} {σ : St} {u w : U} {x y : V} {z : Bool × U} {Q : VK}, SR (ga X) B H e σ → s u w = some z → Vw (ga X) B H u x → Vw (ga X) B H w y →
    tAt (ga X) W (rlO (ga X)) (M.ret z) B H e σ Q → r x y H Q
def orS (s t : Op2) : Op2 := fun u w => match s u w with
  | some z => some z
  | none => t u w
theorem BinOK.or {X : Cx} {f : Value → Value → Sem Value} {s t : Op2} (h : BinOK X f s) (k : BinOK X f t) : BinOK X f (orS s t) := by
  obtain ⟨r, h1, h2⟩ := h.ex
  obtain ⟨r', k1, k2⟩ := k.ex
  refine ⟨_, h1.or k1, fun {W B H e σ u w x y z Q} sr q vx vy t' => ?_⟩
  unfold orS at q
  cases c : s u w with
  | some z' =>
    rw [c] at q
    injection q with q
    subst q
    exact .inl (h2 sr c vx vy t')
  | none =>
    rw [c] at q
    exact .inr (k2 sr q vx vy t')
section
variable {X : Cx} {W : WXX} {a b : Expr} {op : Operator} {pos : Pos} {ra rb : M Od} {s : Op2}
theorem op2_ok {Γ : Ga} {rl : Rl (Bool × U) V} {B H : Hp} {e : En} {σ : St} {x y : Od} {Q : VK} (h : tAt Γ W rl (op2 s x y) B H e σ Q) :
    ∃ u w z, rdO e x = some u ∧ rdO e y = some w ∧ s u w = some z ∧ tAt Γ W rl (M.ret z) B H e σ Q := by
  unfold tAt op2 at h
  cases h1 : rdO e x with
  | none => rw [h1] at h; exact h.elim
  | some u =>
    cases h2 : rdO e y with
    | none => rw [h1, h2] at h; exact h.elim
    | some w =>
      rw [h1, h2] at h
      dsimp only at h
      cases h3 : s u w with
      | none => rw [h3] at h; exact h.elim
      | some z =>
        rw [h3] at h
        exact ⟨u, w, z, rfl, rfl, h3, h⟩
theorem bin_core {f : Value → Value → Sem Value} (ok : BinOK X f s) {rd : R2} (hr : OpR X f rd ∧ ∀ {W : WXX} {B H : Hp} {e : En} {σ : St} {u w : U} {x y : V} {z : Bool × U} {Q : VK}, SR (ga X) B H e σ → s u w = some z → Vw (ga X) B H u x → Vw (ga X) B H w y →
    tAt (ga X) W (rlO (ga X)) (M.ret z) B H e σ Q → rd x y H Q) (σ : St) (H : Hp) (Q : VK) (h : tG (ga X) W (rlO (ga X)) (mBin s ra rb) σ H Q) :
    tOp rd (tG (ga X) W (rlR (ga X)) ra) (tG (ga X) W (rlR (ga X)) rb) σ H Q := by
  obtain ⟨B, e, sr, q⟩ := h
  refine ⟨B, e, sr, (tAt.bd q).mono fun x H1 ⟨B1, e1, od1, g1, r1, q1⟩ => ?_⟩
  refine ⟨B1, e1, g1.sr, (tAt.bd q1).mono fun y H2 ⟨B2, e2, od2, g2, r2, q2⟩ => ?_⟩
  obtain ⟨u, w, z, h1, h2, h3, h4⟩ := op2_ok q2
  exact hr.2 g2.sr h3 (rlR.vw g2.sr (rlR.keep (S' := may H1 e1 σ) r1 g2) h1) (rlR.vw g2.sr r2 h2) h4
theorem po_bin (ok : BinOK X (binaryOp op) s) (ha : PR X W a ra) (hb : PR X W b rb) : PO X W (.BinOp a op b pos) (mBin s ra rb) := by
  obtain ⟨r, h1, h2⟩ := ok.ex
  exact PEimp (pe_op h1 ha hb) fun σ H Q h => bin_core ok ⟨h1, h2⟩ σ H Q h
/-- a comparison as a value -/
theorem po_cmp {op : CmpOp} (ok : BinOK X (compareOp op) s) (ha : PR X W a ra) (hb : PR X W b rb) (hm : behindInMarks op b = false) : PO X W (.Compare a [op] [b] pos) (mBin s ra rb) := by
  obtain ⟨r, h1, h2⟩ := ok.ex
  exact PEimp (pe_cmpR h1 ha hb hm) fun σ H Q h => bin_core ok ⟨h1, h2⟩ σ H Q h
/-- .. as a test -/
def mTst (m : M (Bool × U)) : M Bool := m.bd fun r => match r.2 with
  | .bl b => .ret b
  | _ => fun _ => .bad
theorem tst_core {te : TE} {m : M (Bool × U)} (h : ∀ σ H Q, tG (ga X) W (rlO (ga X)) m σ H Q → te σ H Q) (σ : St) (H : Hp) (Q : Bool → Hp → Prop) (q : tG (ga X) W rlB (mTst m) σ H Q) : tTest te σ H Q := by
  obtain ⟨B, e, sr, q⟩ := q
  refine h σ H _ ⟨B, e, sr, (tAt.bd q).mono fun x H1 ⟨B1, e1, r, g1, r1, q1⟩ => ?_⟩
  obtain ⟨o, u⟩ := r
  cases u with
  | bl k =>
    cases o with
    | false =>
      have r1' : rep (ga X) B1 (.bl k) x := r1
      simp only [rep] at r1'
      exact ⟨k, r1', q1 k B1 H1 (Go.refl g1.sr) rfl⟩
    | true =>
      obtain ⟨_, _, _, _, n, _⟩ := r1
      exact n.elim
  | _ => exact False.elim q1
theorem pt_cmp' {op : CmpOp} (ok : BinOK X (compareOp op) s) (ha : PR X W a ra) (hb : PR X W b rb) (hm : behindInMarks op b = false) : PTB X W (.Compare a [op] [b] pos) (mTst (mBin s ra rb)) := by
  obtain ⟨r, h1, h2⟩ := ok.ex
  exact PTimp (pt_cmpR h1 ha hb hm) fun σ H Q h => tst_core (fun σ H Q h => bin_core ok ⟨h1, h2⟩ σ H Q h) σ H Q h
end

/-! ### arithmetic -/
section
variable {X : Cx}
/-- two ints to an int -/
theorem binI {f : Value → Value → Sem Value} {C : Int → Int → Prop} {g : Int → Int → U} {gV : Int → Int → V} {s : Op2} (h : OpR X f (rI C gV)) (hg : ∀ i j B, rep (ga X) B (g i j) (gV i j))
    (hs : ∀ u w z, s u w = some z → ∃ i j, u = .int i ∧ w = .int j ∧ C i j ∧ z = (false, g i j)) : BinOK X f s := by
  refine ⟨_, h, fun {W B H e σ u w x y z Q} sr q vx vy t => ?_⟩
  obtain ⟨i, j, rfl, rfl, c, rfl⟩ := hs u w z q
  exact ⟨i, j, vx.int, vy.int, c, fin_val sr t (hg i j B)⟩
theorem rI0_rI {f : Value → Value → Sem Value} {g : Int → Int → V} (h : OpR X f (rI0 g)) : OpR X f (rI (fun _ _ => True) g) := by
  intro pins s σ H x y v u Q I rx ry q
  obtain ⟨i, j, h1, h2, _, q⟩ := q
  exact h pins s σ H x y v u Q I rx ry ⟨i, j, h1, h2, q⟩
def iiS (g : Int → Int → U) : Op2 := fun u w => match u, w with
  | .int i, .int j => some (false, g i j)
  | _, _ => none
theorem iiS_spec {g : Int → Int → U} : ∀ u w z, iiS g u w = some z → ∃ i j, u = .int i ∧ w = .int j ∧ True ∧ z = (false, g i j) := by
  intro u w z h
  unfold iiS at h
  split at h
  · injection h with h
    exact ⟨_, _, rfl, rfl, trivial, h.symm⟩
  · cases h
def iiC (c : Int → Int → Bool) (g : Int → Int → U) : Op2 := fun u w => match u, w with
  | .int i, .int j => if c i j then some (false, g i j) else none
  | _, _ => none
theorem iiC_spec {c : Int → Int → Bool} {C : Int → Int → Prop} {g : Int → Int → U} (hc : ∀ i j, c i j = true → C i j) : ∀ u w z, iiC c g u w = some z → ∃ i j, u = .int i ∧ w = .int j ∧ C i j ∧ z = (false, g i j) := by
  intro u w z h
  unfold iiC at h
  split at h
  · split at h
    · rename_i h1
      injection h with h
      exact ⟨_, _, rfl, rfl, hc _ _ h1, h.symm⟩
    · cases h
  · cases h
theorem rep_int {B : Hp} (i : Int) : rep (ga X) B (.int i) (.int i) := by simp only [rep]
theorem rep_bl {B : Hp} (i : Bool) : rep (ga X) B (.bl i) (.bl i) := by simp only [rep]
theorem rep_str {B : Hp} (i : Str) : rep (ga X) B (.str i) (.str i) := by simp only [rep]

def sAddI : Op2 := iiS fun i j => .int (i + j)
def sSub : Op2 := iiS fun i j => .int (i - j)
set_option exponentiation.threshold 100001 in
def wideB : Nat := 2 ^ 100000
def lowB : Int := 2 ^ 64
/-- classical: the kernel does not reckon it -/
noncomputable def cdec (p : Prop) : Bool := @decide p (Classical.propDecidable p)
theorem cdec_iff {p : Prop} : (cdec p = true) = p := by
  unfold cdec
  exact propext (@decide_eq_true_iff p (Classical.propDecidable p))
noncomputable def mulOk (i j : Int) : Bool := (cdec (-lowB < i) && cdec (i < lowB)) || (cdec (-lowB < j) && cdec (j < lowB)) || (cdec (i.natAbs < wideB) && cdec (j.natAbs < wideB))
noncomputable def sMulI : Op2 := iiC mulOk fun i j => .int (i * j)
noncomputable def divOk (_ j : Int) : Bool := cdec (j ≠ 0) && cdec (j.natAbs < 1073741824)
noncomputable def sDiv : Op2 := iiC divOk fun i j => .int (i.fdiv j)
noncomputable def sMod : Op2 := iiC (fun _ j => cdec (j ≠ 0)) fun i j => .int (i.fmod j)
noncomputable def powOk (i j : Int) : Bool := cdec (0 ≤ j) && cdec (j ≤ 1000000) && cdec (i.natAbs < 2 ^ 64)
noncomputable def sPow : Op2 := iiC powOk fun i j => .int (i ^ j.toNat)
def sAndI : Op2 := iiS fun i j => .int (Builtin.bitAnd i j)
theorem ok_addI : BinOK X (binaryOp .Add) sAddI := binI (rI0_rI op_add) (fun i j B => rep_int _) iiS_spec
theorem ok_sub : BinOK X (binaryOp .Sub) sSub := binI (rI0_rI op_sub) (fun i j B => rep_int _) iiS_spec
def CMul2 (i j : Int) : Prop := CMul i j ∨ CMulW i j
theorem op_mul2 : OpR X (binaryOp .Mult) (rI CMul2 fun i j => .int (i * j)) := by
  intro pins s σ H x y v u Q I rx ry q
  obtain ⟨i, j, h1, h2, c, q⟩ := q
  rcases c with c | c
  · exact op_mul pins s σ H x y v u Q I rx ry ⟨i, j, h1, h2, c, q⟩
  · exact op_mulW pins s σ H x y v u Q I rx ry ⟨i, j, h1, h2, c, q⟩
theorem mulOk_spec : ∀ i j, mulOk i j = true → CMul2 i j := by
  intro i j h
  unfold mulOk at h
  simp only [Bool.or_eq_true, Bool.and_eq_true, decide_eq_true_eq, cdec_iff] at h
  rcases h with (h | h) | h
  · exact .inl (.inl h)
  · exact .inl (.inr h)
  · exact .inr (wide_mul (a := 100000) (b := 100000) h.1 h.2 (by decide) (by decide) (by decide))
theorem ok_mulI : BinOK X (binaryOp .Mult) sMulI := binI op_mul2 (fun i j B => rep_int _) (iiC_spec mulOk_spec)
theorem ok_div : BinOK X (binaryOp .FloorDiv) sDiv := binI op_fdivN (fun i j B => rep_int _) (iiC_spec fun i j h => by
  unfold divOk at h
  simp only [Bool.and_eq_true, decide_eq_true_eq, cdec_iff] at h
  exact h)
theorem ok_mod : BinOK X (binaryOp .Mod) sMod := binI op_modN (fun i j B => rep_int _) (iiC_spec fun i j h => by rw [cdec_iff] at h; exact h)
theorem ok_pow : BinOK X (binaryOp .Pow) sPow := binI op_pow (fun i j B => rep_int _) (iiC_spec fun i j h => by
  unfold powOk at h
  simp only [Bool.and_eq_true, decide_eq_true_eq, cdec_iff] at h
  exact ⟨h.1.1, h.1.2, h.2⟩)
theorem ok_andI : BinOK X (binaryOp .BitAnd) sAndI := binI (rI0_rI op_and) (fun i j B => rep_int _) iiS_spec
/-- texts -/
def sAddS : Op2 := fun u w => match u, w with
  | .str x, .str y => if x.length + y.length ≤ sizeLine then some (false, .str (x ++ y)) else none
  | _, _ => none
theorem ok_addS : BinOK X (binaryOp .Add) sAddS := by
  refine ⟨_, op_add_str, fun {W B H e σ u w x y z Q} sr q vx vy t => ?_⟩
  unfold sAddS at q
  split at q
  · split at q
    · rename_i i j hz
      injection q with q
      subst q
      exact ⟨i, j, vx.str, vy.str, hz, fin_val sr t (rep_str _)⟩
    · cases q
  · cases q
/-- lists -/
def sAddL : Op2 := fun u w => match u, w with
  | .lst xs, .lst ys => if xs.length + ys.length ≤ sizeLine then some (true, .lst (xs ++ ys)) else none
  | _, _ => none
theorem ok_addL : BinOK X (binaryOp .Add) sAddL := by
  refine ⟨_, op_cat, fun {W B H e σ u w x y z Q} sr q vx vy t => ?_⟩
  unfold sAddL at q
  split at q
  · split at q
    · rename_i xs ys hz
      injection q with q
      subst q
      obtain ⟨a, vs, e1, h1, r1⟩ := vx.lst sr.bh
      obtain ⟨b, ws, e2, h2, r2⟩ := vy.lst sr.bh
      refine ⟨a, b, vs, ws, e1, e2, h1, h2, by rw [← r1.length, ← r2.length]; exact hz, ?_⟩
      exact fin_new (ho := fun _ => .lst (vs ++ ws)) sr t fun p => ⟨_, rfl, r1.append r2⟩
    · cases q
  · cases q
def sAddT : Op2 := fun u w => match u, w with
  | .tup xs, .tup ys => if xs ≠ [] ∧ ys ≠ [] ∧ xs.length + ys.length ≤ sizeLine then some (false, .tup (xs ++ ys)) else none
  | _, _ => none
def repL (n : Nat) (xs : List U) : List U := (List.replicate n xs).flatten
theorem reps.rep {Γ : Ga} {B : Hp} {xs : List U} {vs : List V} (h : reps Γ B xs vs) : ∀ n : Nat, reps Γ B (repL n xs) (List.replicate n vs).flatten
  | 0 => by simp [repL, reps]
  | n + 1 => by
    unfold repL
    rw [List.replicate_succ, List.flatten_cons, List.replicate_succ, List.flatten_cons]
    exact h.append (reps.rep h n)
noncomputable def lim63 (k : Int) : Bool := cdec (-(2 ^ 63) ≤ k) && cdec (k < 2 ^ 63)
noncomputable def sMulL : Op2 := fun u w => match u, w with
  | .lst xs, .int k => if lim63 k && decide (xs.length * k.toNat ≤ sizeLine) then some (true, .lst (repL k.toNat xs)) else none
  | _, _ => none
theorem ok_mulL : BinOK X (binaryOp .Mult) sMulL := by
  refine ⟨_, op_rep, fun {W B H e σ u w x y z Q} sr q vx vy t => ?_⟩
  unfold sMulL lim63 at q
  split at q
  · split at q
    · rename_i xs k hz
      injection q with q
      subst q
      simp only [Bool.and_eq_true, decide_eq_true_eq, cdec_iff] at hz
      obtain ⟨a, vs, e1, h1, r1⟩ := vx.lst sr.bh
      refine ⟨a, k, vs, e1, vy.int, h1, hz.1.1, hz.1.2, by rw [← r1.length]; exact hz.2, ?_⟩
      exact fin_new (ho := fun _ => .lst _) sr t fun p => ⟨_, rfl, r1.rep k.toNat⟩
    · cases q
  · cases q
/-- a text times an int -/
def repS (n : Nat) (x : Str) : Str := ⟨(List.replicate n x.cps.toList).flatten.toArray⟩
theorem fold_rep (a : Array Nat) : ∀ (n : Nat) (acc : Array Nat), ((List.replicate n a).foldl (· ++ ·) acc).toList = acc.toList ++ (List.replicate n a.toList).flatten
  | 0, acc => by simp
  | n + 1, acc => by
    rw [List.replicate_succ, List.foldl_cons, fold_rep a n, List.replicate_succ, List.flatten_cons]
    simp
theorem repS_eq (n : Nat) (x : Str) : (⟨(List.replicate n x.cps).foldl (· ++ ·) #[]⟩ : Str) = repS n x := by
  unfold repS
  congr 1
  apply Array.ext'
  rw [fold_rep]
  simp
theorem repS_len (n : Nat) (x : Str) : (repS n x).length = n * x.length := by
  unfold repS Str.length
  simp [List.length_flatten]
noncomputable def sMulS : Op2 := fun u w => match u, w with
  | .str x, .int k => if lim63 k && decide (x.length * k.toNat ≤ 1000000) then some (false, .str (repS k.toNat x)) else none
  | _, _ => none
theorem op_mulS : OpR X (binaryOp .Mult) (fun x y H Q => ∃ z k, x = .str z ∧ y = .int k ∧ -(2 ^ 63) ≤ k ∧ k < 2 ^ 63 ∧ z.length * k.toNat ≤ 1000000 ∧ Q (.str (repS k.toNat z)) H) := by
  intro pins s σ H x y v u Q I rx ry h
  obtain ⟨z, k, rfl, rfl, h1, h2, h3, q⟩ := h
  obtain ⟨t, rfl⟩ := rx
  obtain ⟨t', rfl⟩ := ry
  refine PySem.P.mul_str ?_ (fun h4 h5 h6 => ?_) (fun h4 h5 => ?_) ?_
  · rw [decide_eq_false (by omega), decide_eq_false (by omega)]; rfl
  · have hk : 0 < k := by omega
    have e : ((z.length : Int) * k) ≤ 1000000 := by
      have : ((z.length * k.toNat : Nat) : Int) ≤ 1000000 := by omega
      rw [Int.natCast_mul, Int.toNat_of_nonneg (by omega)] at this
      exact this
    have h7 : (z.length : Int) ≤ (2 ^ 63 - 1) / k := by
      rw [Int.le_ediv_iff_mul_le hk]
      omega
    omega
  · unfold Builtin.Str.tooLong
    have : (1000000 : Nat) < sizeLine := by decide
    exact decide_eq_false (by omega)
  · have hle : sizeLine = 16777216 := by decide
    by_cases k1 : k < 1
    · rw [if_pos k1]
      have e : k.toNat = 0 := by omega
      rw [e] at q
      refine ⟨by decide, ⟨.str _, H, I.tok _, ⟨_, rfl⟩, q⟩⟩
    · rw [if_neg k1]
      by_cases k2 : (k == 1 || z.length == 0) = true
      · rw [if_pos k2]
        have e : repS k.toNat z = z := by
          simp only [Bool.or_eq_true, beq_iff_eq] at k2
          rcases k2 with k2 | k2
          · subst k2
            unfold repS
            simp
          · unfold repS
            have : z.cps.toList = [] := by
              have h : z.cps.size = 0 := k2
              simpa using h
            rw [this]
            have : z = ⟨#[]⟩ := by
              obtain ⟨c⟩ := z
              congr 1
              apply Array.ext'
              simpa using this
            rw [this]
            simp
        rw [e] at q
        exact ⟨.str _, H, I, ⟨_, rfl⟩, q⟩
      · rw [if_neg k2, repS_eq]
        refine ⟨?_, ⟨.str _, H, I.tok _, ⟨_, rfl⟩, q⟩⟩
        rw [repS_len, hle, Nat.mul_comm]
        omega
theorem ok_mulS : BinOK X (binaryOp .Mult) sMulS := by
  refine ⟨_, op_mulS, fun {W B H e σ u w x y z Q} sr q vx vy t => ?_⟩
  unfold sMulS lim63 at q
  split at q
  · split at q
    · rename_i xs k hz
      injection q with q
      subst q
      simp only [Bool.and_eq_true, decide_eq_true_eq, cdec_iff] at hz
      exact ⟨xs, k, vx.str, vy.int, hz.1.1, hz.1.2, hz.2, fin_val sr t (rep_str _)⟩
    · cases q
  · cases q
end

/-! ### comparisons -/
section
variable {X : Cx}
def sLtI : Op2 := iiS fun i j => .bl (decide (i < j))
def sLeI : Op2 := iiS fun i j => .bl (decide (i ≤ j))
def sGtI : Op2 := iiS fun i j => .bl (decide (j < i))
def sGeI : Op2 := iiS fun i j => .bl (decide (j ≤ i))
theorem ok_ltI : BinOK X (compareOp .Lt) sLtI := binI (rI0_rI op_lt) (fun i j B => rep_bl _) iiS_spec
theorem ok_leI : BinOK X (compareOp .LtE) sLeI := binI (rI0_rI op_le) (fun i j B => rep_bl _) iiS_spec
theorem ok_gtI : BinOK X (compareOp .Gt) sGtI := binI (rI0_rI op_gt) (fun i j B => rep_bl _) iiS_spec
theorem ok_geI : BinOK X (compareOp .GtE) sGeI := binI (rI0_rI op_ge) (fun i j B => rep_bl _) iiS_spec

/-! data at any depth -/
mutual
def toD : U → PyData
  | .non => .none
  | .bl b => .bool b
  | .int i => .int i
  | .str x => .str x
  | .tup us => .tuple (toDs us)
  | .lst us => .list (toDs us)
  | .scr ns => .list (ns.map .int)
  | _ => .dict []
def toDs : List U → List PyData
  | [] => []
  | u :: us => toD u :: toDs us
end
theorem dpAll_ints {K : PySem.W.Frag} {H : Hp} : ∀ ns : List Int, DpAll K H (ns.map V.int) (ns.map PyData.int)
  | [] => .nil
  | n :: ns => .cons (.int n) (dpAll_ints ns)
mutual
theorem rep.dp {Γ : Ga} {B : Hp} : ∀ {u : U} {v : V}, rep Γ B u v → (toD u).canLay0 = true → Dp Γ.K B v (toD u)
  | .non, _, r, _ => by simp only [rep] at r; subst r; exact .non
  | .bl _, _, r, _ => by simp only [rep] at r; subst r; exact .bl _
  | .int _, _, r, _ => by simp only [rep] at r; subst r; exact .int _
  | .str _, _, r, _ => by simp only [rep] at r; subst r; exact .str _
  | .tup us, _, r, h => by
    simp only [rep] at r
    obtain ⟨a, vs, e, s, q⟩ := r
    subst e
    simp only [toD, PyData.canLay0] at h ⊢
    exact .tup s (reps.dp q h)
  | .lst us, _, r, h => by
    simp only [rep] at r
    obtain ⟨a, vs, e, s, q⟩ := r
    subst e
    simp only [toD, PyData.canLay0] at h ⊢
    exact .lst (SqL.of s) (reps.dp q h)
  | .scr ns, _, r, h => by
    simp only [rep] at r
    obtain ⟨a, e, s⟩ := r
    subst e
    exact .lst s (dpAll_ints ns)
  | .dct _, _, _, h => by simp [toD, PyData.canLay0] at h
  | .set _, _, _, h => by simp [toD, PyData.canLay0] at h
  | .ins _ _, _, _, h => by simp [toD, PyData.canLay0] at h
theorem reps.dp {Γ : Ga} {B : Hp} : ∀ {us : List U} {vs : List V}, reps Γ B us vs → PyData.canLayAll0 (toDs us) = true → DpAll Γ.K B vs (toDs us)
  | [], _, r, _ => by simp only [reps] at r; subst r; exact .nil
  | u :: us, _, r, h => by
    simp only [reps] at r
    obtain ⟨v, t, e, r1, r2⟩ := r
    subst e
    simp only [toDs, PyData.canLayAll0, Bool.and_eq_true] at h ⊢
    exact .cons (rep.dp r1 h.1) (reps.dp r2 h.2)
end
mutual
theorem Dp.same {K : PySem.W.Frag} {B H : Hp} (s : Same B H) : ∀ {v : V} {d : PyData}, Dp K B v d → Dp K H v d
  | _, _, .non => .non
  | _, _, .bl _ => .bl _
  | _, _, .int _ => .int _
  | _, _, .str _ => .str _
  | _, _, .lst h q => .lst (sqL_same s h) (DpAll.same s q)
  | _, _, .tup h q => .tup (sqT_same s h) (DpAll.same s q)
theorem DpAll.same {K : PySem.W.Frag} {B H : Hp} (s : Same B H) : ∀ {v : List V} {d : List PyData}, DpAll K B v d → DpAll K H v d
  | _, _, .nil => .nil
  | _, _, .cons h q => .cons (Dp.same s h) (DpAll.same s q)
end
theorem Vw.dp {Γ : Ga} {B H : Hp} {u : U} {v : V} (s : Same B H) (h : Vw Γ B H u v) (k : (toD u).canLay0 = true) : Dp Γ.K H v (toD u) := by
  rcases h with h | ⟨a, ho, e, h, n⟩
  · exact Dp.same s (h.dp k)
  · subst e
    cases u with
    | lst us =>
      obtain ⟨vs, e, r⟩ := n
      subst e
      simp only [toD, PyData.canLay0] at k ⊢
      exact .lst (SqL.of h) (DpAll.same s (r.dp k))
    | dct kvs => simp [toD, PyData.canLay0] at k
    | ins c fs => simp [toD, PyData.canLay0] at k
    | _ => exact n.elim
def shp (u : U) : Bool := SeqAt.shaped (toD u)
theorem shp_lay {u : U} (h : shp u = true) : (toD u).canLay0 = true := SeqAt.canLay_of_shaped h
/-- flat values -/
def flU : U → Bool
  | .non => true
  | .bl _ => true
  | .int _ => true
  | .str _ => true
  | _ => false
def vOf : U → V
  | .non => .non
  | .bl b => .bl b
  | .int i => .int i
  | .str x => .str x
  | _ => .non
theorem Vw.fl {Γ : Ga} {B H : Hp} {u : U} {v : V} (h : Vw Γ B H u v) (k : flU u = true) : v = vOf u := by
  cases u with
  | non => exact h.non
  | bl b => exact h.bl
  | int b => exact h.int
  | str b => exact h.str
  | _ => cases k
theorem flV_vOf {u : U} (k : flU u = true) : flatV (vOf u) = true := by
  cases u <;> first | rfl | cases k
theorem reps.fl {Γ : Ga} {B : Hp} : ∀ {us : List U} {vs : List V}, reps Γ B us vs → us.all flU = true → vs = us.map vOf
  | [], _, r, _ => by simp only [reps] at r; subst r; rfl
  | u :: us, _, r, h => by
    simp only [reps] at r
    obtain ⟨v, t, e, r1, r2⟩ := r
    subst e
    simp only [List.all_cons, Bool.and_eq_true] at h
    rw [Vw.fl (H := B) (.inl r1) h.1, reps.fl r2 h.2]
    rfl
def scalU (u w : U) : Bool := flU u && flU w && scal (vOf u) (vOf w)
/-- u == w -/
def sEq (neg : Bool) : Op2 := fun u w =>
  if scalU u w then some (false, .bl (if neg then !decide (vOf u = vOf w) else decide (vOf u = vOf w)))
  else if shp u && shp w then some (false, .bl (if neg then !(toD u).eqv (toD w) else (toD u).eqv (toD w)))
  else none
theorem ok_eq (hu : X.A.units + 64 < cLine) : BinOK X (compareOp .Eq) (sEq false) := by
  refine ⟨_, OpR.or op_eq (op_eqD hu), fun {W B H e σ u w x y z Q} sr q vx vy t => ?_⟩
  unfold sEq at q
  split at q
  · rename_i h
    injection q with q
    subst q
    unfold scalU at h
    simp only [Bool.and_eq_true] at h
    have ex := vx.fl h.1.1
    have ey := vy.fl h.1.2
    subst ex ey
    exact .inl ⟨h.2, fin_val sr t (rep_bl _)⟩
  · split at q
    · rename_i h
      injection q with q
      subst q
      simp only [Bool.and_eq_true] at h
      exact .inr ⟨_, _, vx.dp sr.bh (shp_lay h.1), vy.dp sr.bh (shp_lay h.2), h.1, h.2, fin_val sr t (rep_bl _)⟩
    · cases q
theorem ok_ne (hu : X.A.units + 64 < cLine) : BinOK X (compareOp .NotEq) (sEq true) := by
  refine ⟨_, OpR.or op_ne (op_neD hu), fun {W B H e σ u w x y z Q} sr q vx vy t => ?_⟩
  unfold sEq at q
  split at q
  · rename_i h
    injection q with q
    subst q
    unfold scalU at h
    simp only [Bool.and_eq_true] at h
    have ex := vx.fl h.1.1
    have ey := vy.fl h.1.2
    subst ex ey
    exact .inl ⟨h.2, fin_val sr t (rep_bl _)⟩
  · split at q
    · rename_i h
      injection q with q
      subst q
      simp only [Bool.and_eq_true] at h
      exact .inr ⟨_, _, vx.dp sr.bh (shp_lay h.1), vy.dp sr.bh (shp_lay h.2), h.1, h.2, fin_val sr t (rep_bl _)⟩
    · cases q
/-- is None -/
def nonU : U → Bool
  | .non => true
  | _ => false
def sIsN (neg : Bool) : Op2 := fun u w => match w with
  | .non => some (false, .bl (if neg then !nonU u else nonU u))
  | _ => none
theorem Vw.non_iff {Γ : Ga} {B H : Hp} {u : U} {v : V} (h : Vw Γ B H u v) : decide (v = .non) = nonU u := by
  cases u with
  | non => rw [h.non]; rfl
  | bl b => rw [h.bl]; rfl
  | int b => rw [h.int]; rfl
  | str b => rw [h.str]; rfl
  | set us =>
    rcases h with h | ⟨a, ho, e, h, n⟩
    · simp only [rep] at h
    · exact n.elim
  | tup us =>
    rcases h with h | ⟨a, ho, e, h, n⟩
    · simp only [rep] at h
      obtain ⟨a, _, e, _⟩ := h
      subst e; rfl
    · exact n.elim
  | lst us =>
    rcases h with h | ⟨a, ho, e, h, n⟩
    · simp only [rep] at h
      obtain ⟨a, _, e, _⟩ := h
      subst e; rfl
    · subst e; rfl
  | scr us =>
    rcases h with h | ⟨a, ho, e, h, n⟩
    · simp only [rep] at h
      obtain ⟨a, e, _⟩ := h
      subst e; rfl
    · exact n.elim
  | dct us =>
    rcases h with h | ⟨a, ho, e, h, n⟩
    · simp only [rep] at h
      obtain ⟨a, e, _⟩ := h
      subst e; rfl
    · subst e; rfl
  | ins c us =>
    rcases h with h | ⟨a, ho, e, h, n⟩
    · simp only [rep] at h
      obtain ⟨a, _, _, _, e, _⟩ := h
      subst e; rfl
    · subst e; rfl
theorem ok_isN : BinOK X (compareOp .Is) (sIsN false) := by
  refine ⟨_, op_isN, fun {W B H e σ u w x y z Q} sr q vx vy t => ?_⟩
  unfold sIsN at q
  split at q
  · injection q with q
    subst q
    refine ⟨vy.non, ?_⟩
    rw [vx.non_iff]
    exact fin_val sr t (rep_bl _)
  · cases q
theorem ok_notN : BinOK X (compareOp .IsNot) (sIsN true) := by
  refine ⟨_, op_notN, fun {W B H e σ u w x y z Q} sr q vx vy t => ?_⟩
  unfold sIsN at q
  split at q
  · injection q with q
    subst q
    refine ⟨vy.non, ?_⟩
    rw [vx.non_iff]
    exact fin_val sr t (rep_bl _)
  · cases q
/-- x in a list or a tuple of flat things -/
def inU (u : U) (ws : List U) : Bool := ws.any fun w => eqV (vOf w) (vOf u)
def sInF (neg : Bool) : Op2 := fun u w => match w with
  | .lst ws => if flU u && ws.all flU then some (false, .bl (if neg then !inU u ws else inU u ws)) else none
  | .tup ws => if flU u && ws.all flU then some (false, .bl (if neg then !inU u ws else inU u ws)) else none
  | _ => none
theorem inV_vOf (u : U) (ws : List U) : inV (vOf u) (ws.map vOf) = inU u ws := by
  unfold inV inU
  rw [List.any_map]
  rfl
theorem all_flV {ws : List U} (h : ws.all flU = true) : (ws.map vOf).all flatV = true := by
  rw [List.all_map]
  rw [List.all_eq_true] at h ⊢
  exact fun x hx => flV_vOf (h x hx)
theorem ok_inF0 {neg : Bool} {op : CmpOp} (h0 : OpR X (compareOp op) (rIn X.K neg)) : BinOK X (compareOp op) (sInF neg) := by
  refine ⟨_, h0, fun {W B H e σ u w x y z Q} sr q vx vy t => ?_⟩
  unfold sInF at q
  split at q
  · split at q
    · rename_i h
      injection q with q
      subst q
      simp only [Bool.and_eq_true] at h
      obtain ⟨a, vs, e1, h1, r1⟩ := vy.lst sr.bh
      have := r1.fl h.2
      subst this
      have ex := vx.fl h.1
      subst ex
      refine ⟨a, _, e1, .inl (SqL.of h1), flV_vOf h.1, all_flV h.2, ?_⟩
      rw [inV_vOf]
      exact fin_val sr t (rep_bl _)
    · cases q
  · split at q
    · rename_i h
      injection q with q
      subst q
      simp only [Bool.and_eq_true] at h
      obtain ⟨a, vs, e1, h1, r1⟩ := vy.tup sr.bh
      have := r1.fl h.2
      subst this
      have ex := vx.fl h.1
      subst ex
      refine ⟨a, _, e1, .inr h1, flV_vOf h.1, all_flV h.2, ?_⟩
      rw [inV_vOf]
      exact fin_val sr t (rep_bl _)
    · cases q
  · cases q
theorem ok_inF : BinOK X (compareOp .In) (sInF false) := ok_inF0 op_in_seq
theorem ok_notInF : BinOK X (compareOp .NotIn) (sInF true) := ok_inF0 op_notIn_seq
end
end VS
set_option Elab.async false
set_option linter.all false
set_option maxRecDepth 100000
/-! VS4: displays, subscripts, slices, calls of built-ins. -/
namespace VS
open PySem L2

/-! ### texts in order -/
def leS (x y : Str) : Bool := decide (x.cps.toList ≤ y.cps.toList)
theorem leS_trans (a b c : Str) (h : leS a b = true) (k : leS b c = true) : leS a c = true := by
  unfold leS at *
  simp only [decide_eq_true_eq] at *
  exact List.le_trans h k
theorem leS_total (a b : Str) : (leS a b || leS b a) = true := by
  unfold leS
  simp only [Bool.or_eq_true, decide_eq_true_eq]
  exact List.le_total _ _
theorem str_ext {a b : Str} (h : a.cps.toList = b.cps.toList) : a = b := by
  obtain ⟨x⟩ := a
  obtain ⟨y⟩ := b
  congr 1
  exact Array.ext' h
theorem leS_anti (a b : Str) (h : leS a b = true) (k : leS b a = true) : a = b := by
  unfold leS at *
  simp only [decide_eq_true_eq] at *
  exact str_ext (List.le_antisymm h k)
def sortS (xs : List Str) : List Str := xs.mergeSort leS
theorem ltCps_leS {x y : Str} (h : PySem.Spec.ltCps y.cps.toList x.cps.toList = false) : leS x y = true := by
  rw [PyProof.Rows.ltCps_eq] at h
  unfold leS
  simp only [decide_eq_false_iff_not, decide_eq_true_eq] at *
  exact List.not_lt.mp h
theorem rising_pair : ∀ {r : List Str} {p : Str}, PyProof.Rows.risingS p r = true → (p :: r).Pairwise (fun a b => leS a b = true)
  | [], p, _ => by simp
  | x :: r, p, h => by
    simp only [PyProof.Rows.risingS, Bool.and_eq_true, Bool.not_eq_true'] at h
    have ih := rising_pair h.2
    refine List.pairwise_cons.mpr ⟨fun y hy => ?_, ih⟩
    have px := ltCps_leS h.1
    rcases List.mem_cons.mp hy with rfl | hy
    · exact px
    · exact leS_trans _ _ _ px ((List.pairwise_cons.mp ih).1 y hy)
theorem sortedS_pair {r : List Str} (h : PyProof.Rows.sortedS r = true) : r.Pairwise (fun a b => leS a b = true) := by
  cases r with
  | nil => exact .nil
  | cons x r => exact rising_pair h
theorem sortS_pair (xs : List Str) : (sortS xs).Pairwise (fun a b => leS a b = true) := List.pairwise_mergeSort leS_trans leS_total xs
theorem sortS_unique {xs ys : List Str} (p : ys.Perm xs) (h : ys.Pairwise (fun a b => leS a b = true)) : ys = sortS xs :=
  List.Perm.eq_of_pairwise (fun a b _ _ => leS_anti a b) h (sortS_pair xs) (p.trans (List.mergeSort_perm xs leS).symm)
def sortI (xs : List Int) : List Int := xs.mergeSort fun a b => decide (a ≤ b)
theorem sortI_pair (xs : List Int) : (sortI xs).Pairwise (fun a b => a ≤ b) := by
  have := List.pairwise_mergeSort (le := fun a b : Int => decide (a ≤ b)) (fun a b c h k => by simp only [decide_eq_true_eq] at *; omega) (fun a b => by simp only [Bool.or_eq_true, decide_eq_true_eq]; omega) xs
  exact this.imp fun h => of_decide_eq_true h
theorem sortI_unique {xs ys : List Int} (p : ys.Perm xs) (h : ys.Pairwise (fun a b => a ≤ b)) : ys = sortI xs :=
  List.Perm.eq_of_pairwise (fun a b _ _ h k => Int.le_antisymm h k) h (sortI_pair xs) (p.trans (List.mergeSort_perm xs _).symm)

/-! ### lists of values that stay -/
section
variable {X : Cx} {W : WXX} {a b ex : Expr} {es : List Expr} {pos : Pos}
def mVn : M (List U) := .ret []
def mVc (ma : M U) (mr : M (List U)) : M (List U) := ma.bd fun u => mr.bd fun us => .ret (u :: us)
theorem pvs_nil : PVs X W [] mVn := ⟨fun pos pins s σ H Q I ⟨B, e, sr, q⟩ => (pa_nil (X := X)).run pos pins s σ H Q I (q [] B H (Go.refl sr) (reps.nil' (Γ := ga X) (B := B)))⟩
theorem PAimp {t t' : TA} (h : PA X es t) (k : ∀ σ H Q, t' σ H Q → t σ H Q) : PA X es t' := ⟨fun pos pins s σ H Q I q => h.run pos pins s σ H Q I (k σ H Q q)⟩
theorem pvs_cons {ma : M U} {mr : M (List U)} (ha : PV X W ex ma) (hr : PVs X W es mr) (hs : starEach (ex :: es) X.env = (false, eval ex X.env) :: starEach es X.env := by rfl) : PVs X W (ex :: es) (mVc ma mr) := by
  refine PAimp (pa_cons ha hr hs) fun σ H Q ⟨B, e, sr, q⟩ => ⟨B, e, sr, (tAt.bd q).mono fun x H1 ⟨B1, e1, u, g1, r1, q1⟩ => ?_⟩
  refine ⟨B1, e1, g1.sr, (tAt.bd q1).mono fun xs H2 ⟨B2, e2, us, g2, r2, q2⟩ => ?_⟩
  exact q2 _ B2 H2 (Go.refl g2.sr) (reps.cons' (rep.mono g2.st.bb r1) r2)
/-- *e, ..: e a list or a tuple -/
def mVst (ma : M U) (mr : M (List U)) : M (List U) := ma.bd fun u => match u with
  | .lst ws => mr.bd fun us => .ret (ws ++ us)
  | .tup ws => mr.bd fun us => .ret (ws ++ us)
  | _ => fun _ => .bad
theorem pvs_star {ma : M U} {mr : M (List U)} {p : Pos} (ha : PV X W ex ma) (hr : PVs X W es mr) : PVs X W (.Starred ex p :: es) (mVst ma mr) := by
  refine PAimp (StX.pa_star ha hr) fun σ H Q ⟨B, e, sr, q⟩ => ⟨B, e, sr, (tAt.bd q).mono fun x H1 ⟨B1, e1, u, g1, r1, q1⟩ => ?_⟩
  cases u with
  | lst ws =>
    obtain ⟨p, vs, e1', h1, r⟩ := Vw.lst g1.sr.bh (.inl r1)
    refine ⟨p, vs, e1', .inr (SqL.of h1), B1, e1, g1.sr, (tAt.bd q1).mono fun xs H2 ⟨B2, e2, us, g2, r2, q2⟩ => ?_⟩
    exact q2 _ B2 H2 (Go.refl g2.sr) ((r.mono g2.st.bb).append r2)
  | tup ws =>
    obtain ⟨p, vs, e1', h1, r⟩ := Vw.tup g1.sr.bh (.inl r1)
    refine ⟨p, vs, e1', .inl h1, B1, e1, g1.sr, (tAt.bd q1).mono fun xs H2 ⟨B2, e2, us, g2, r2, q2⟩ => ?_⟩
    exact q2 _ B2 H2 (Go.refl g2.sr) ((r.mono g2.st.bb).append r2)
  | _ => exact False.elim q1

def mLst (m : M (List U)) : M (Bool × U) := m.bd fun us => if us.length ≤ sizeLine then .ret (true, .lst us) else fun _ => .bad
def mTup (m : M (List U)) : M (Bool × U) := m.bd fun us => if us.length ≤ sizeLine then .ret (false, .tup us) else fun _ => .bad
theorem po_lst {m : M (List U)} (h : PVs X W es m) : PO X W (.List es pos) (mLst m) := by
  refine PEimp (pe_lst h) fun σ H Q ⟨B, e, sr, q⟩ => ⟨B, e, sr, (tAt.bd q).mono fun xs H1 ⟨B1, e1, us, g1, r1, q1⟩ => ?_⟩
  split at q1
  · rename_i hz
    refine ⟨by rw [← reps.length r1]; exact hz, fin_new (ho := fun _ => .lst xs) g1.sr q1 fun p => ⟨_, rfl, r1⟩⟩
  · exact q1.elim
theorem po_tup {m : M (List U)} {k : Nat} (h : PVs X W es m) : PO X W (.Tuple es k pos) (mTup m) := by
  refine PEimp (pe_tup h) fun σ H Q ⟨B, e, sr, q⟩ => ⟨B, e, sr, (tAt.bd q).mono fun xs H1 ⟨B1, e1, us, g1, r1, q1⟩ => ?_⟩
  split at q1
  · rename_i hz
    exact ⟨by rw [← reps.length r1]; exact hz, fin_tup g1.sr q1 r1⟩
  · exact q1.elim
def mDn : M (Bool × U) := .ret (true, .dct [])
theorem po_dn : PO X W (.Dict [] [] pos) mDn := PEimp pe_dnewK fun σ H Q ⟨B, e, sr, q⟩ => fin_new (ho := fun _ => .dK []) sr q fun p => .inl ⟨[], rfl, by simp only [repd]⟩

/-! ### subscripts -/
structure IxOK (X : Cx) (s : Op2) : Prop where
  ex : ∃ r : R2, IxR X r ∧ ∀ {W : WXX} {B H : Hp} {e : En} {σ : St} {u w : U} {x y : V} {z : Bool × U} {Q : VK}, SR (ga X) B H e σ → s u w = some z → Vw (ga X) B H u x → Vw (ga X) B H w y →
    tAt (ga X) W (rlO (ga X)) (M.ret z) B H e σ Q → r x y H Q
theorem IxOK.or {s t : Op2} (h : IxOK X s) (k : IxOK X t) : IxOK X (orS s t) := by
  obtain ⟨r, h1, h2⟩ := h.ex
  obtain ⟨r', k1, k2⟩ := k.ex
  refine ⟨_, h1.or k1, fun {W B H e σ u w x y z Q} sr q vx vy t' => ?_⟩
  unfold orS at q
  cases c : s u w with
  | some z' =>
    rw [c] at q
    injection q with q
    subst q
    exact .inl (h2 sr c vx vy t')
  | none =>
    rw [c] at q
    exact .inr (k2 sr q vx vy t')
theorem op2_core {s : Op2} {rd : R2} {ra rb : M Od} (hr : ∀ {W : WXX} {B H : Hp} {e : En} {σ : St} {u w : U} {x y : V} {z : Bool × U} {Q : VK}, SR (ga X) B H e σ → s u w = some z → Vw (ga X) B H u x → Vw (ga X) B H w y →
    tAt (ga X) W (rlO (ga X)) (M.ret z) B H e σ Q → rd x y H Q) (σ : St) (H : Hp) (Q : VK) (h : tG (ga X) W (rlO (ga X)) (mBin s ra rb) σ H Q) :
    tOp rd (tG (ga X) W (rlR (ga X)) ra) (tG (ga X) W (rlR (ga X)) rb) σ H Q := by
  obtain ⟨B, e, sr, q⟩ := h
  refine ⟨B, e, sr, (tAt.bd q).mono fun x H1 ⟨B1, e1, od1, g1, r1, q1⟩ => ?_⟩
  refine ⟨B1, e1, g1.sr, (tAt.bd q1).mono fun y H2 ⟨B2, e2, od2, g2, r2, q2⟩ => ?_⟩
  obtain ⟨u, w, z, h1, h2, h3, h4⟩ := op2_ok q2
  exact hr g2.sr h3 (rlR.vw g2.sr (rlR.keep (S' := may H1 e1 σ) r1 g2) h1) (rlR.vw g2.sr r2 h2) h4
theorem po_ix {s : Op2} {ra rb : M Od} (ok : IxOK X s) (ha : PR X W a ra) (hb : PR X W b rb) (hs : PlainIx b) : PO X W (.Subscript a b pos) (mBin s ra rb) := by
  obtain ⟨r, h1, h2⟩ := ok.ex
  exact PEimp (pe_ix h1 ha hb hs) fun σ H Q h => op2_core h2 σ H Q h
theorem atI_rep {Γ : Ga} {B : Hp} {us : List U} {vs : List V} {i : Int} {u : U} (r : reps Γ B us vs) (h : atI us i = some u) : ∃ v, atI vs i = some v ∧ rep Γ B u v := by
  unfold atI at *
  rw [← r.length]
  cases k : ixN us.length i with
  | none => rw [k] at h; cases h
  | some j => rw [k] at h; exact r.get h
def sIxL : Op2 := fun u w => match u, w with
  | .lst us, .int i => (atI us i).map fun x => (false, x)
  | .scr ns, .int i => (atI ns i).map fun x => (false, .int x)
  | _, _ => none
theorem ok_ixL : IxOK X sIxL := by
  refine ⟨_, ix_list, fun {W B H e σ u w x y z Q} sr q vx vy t => ?_⟩
  unfold sIxL at q
  split at q
  · rename_i us i
    obtain ⟨u, hu, rfl⟩ := Option.map_eq_some_iff.mp q
    obtain ⟨a, vs, e1, h1, r1⟩ := vx.lst sr.bh
    obtain ⟨v, hv, rv⟩ := atI_rep r1 hu
    exact ⟨a, vs, i, v, e1, vy.int, SqL.of h1, hv, fin_val sr t rv⟩
  · rename_i ns i
    obtain ⟨u, hu, rfl⟩ := Option.map_eq_some_iff.mp q
    obtain ⟨a, e1, h1⟩ := vx.scr sr.bh
    refine ⟨a, _, i, .int u, e1, vy.int, h1, ?_, fin_val sr t (rep_int _)⟩
    unfold atI at *
    rw [List.length_map]
    cases k : ixN ns.length i with
    | none => rw [k] at hu; cases hu
    | some j =>
      rw [k] at hu
      have hu' : ns[j]? = some u := hu
      show (ns.map V.int)[j]? = _
      rw [List.getElem?_map, hu']
      rfl
  · cases q
def sIxT : Op2 := fun u w => match u, w with
  | .tup us, .int i => (atI us i).map fun x => (false, x)
  | _, _ => none
theorem ok_ixT : IxOK X sIxT := by
  refine ⟨_, ix_tup, fun {W B H e σ u w x y z Q} sr q vx vy t => ?_⟩
  unfold sIxT at q
  split at q
  · rename_i us i
    obtain ⟨u, hu, rfl⟩ := Option.map_eq_some_iff.mp q
    obtain ⟨a, vs, e1, h1, r1⟩ := vx.tup sr.bh
    obtain ⟨v, hv, rv⟩ := atI_rep r1 hu
    exact ⟨a, vs, i, v, e1, vy.int, h1, hv, fin_val sr t rv⟩
  · cases q
def sIxS : Op2 := fun u w => match u, w with
  | .str x, .int i => if x.length ≤ sizeLine then (atI x.cps.toList i).map fun c => (false, .str ⟨#[c]⟩) else none
  | _, _ => none
theorem ok_ixS : IxOK X sIxS := by
  refine ⟨_, ix_str, fun {W B H e σ u w x y z Q} sr q vx vy t => ?_⟩
  unfold sIxS at q
  split at q
  · split at q
    · rename_i z0 i hz
      obtain ⟨c, hu, rfl⟩ := Option.map_eq_some_iff.mp q
      exact ⟨z0, i, c, vx.str, vy.int, hz, hu, fin_val sr t (rep_str _)⟩
    · cases q
  · cases q

/-! ### slices -/
abbrev Sl3 := U → Option Int → Option Int → Option (Bool × U)
structure SlOK (X : Cx) (s : Sl3) : Prop where
  ex : ∃ r : V → Option Int → Option Int → Hp → VK → Prop, SlR X r ∧ ∀ {W : WXX} {B H : Hp} {e : En} {σ : St} {u : U} {lo hi : Option Int} {x : V} {z : Bool × U} {Q : VK}, SR (ga X) B H e σ → s u lo hi = some z → Vw (ga X) B H u x →
    tAt (ga X) W (rlO (ga X)) (M.ret z) B H e σ Q → r x lo hi H Q
def orSl (s t : Sl3) : Sl3 := fun u l h => match s u l h with
  | some z => some z
  | none => t u l h
theorem SlOK.or {s t : Sl3} (h : SlOK X s) (k : SlOK X t) : SlOK X (orSl s t) := by
  obtain ⟨r, h1, h2⟩ := h.ex
  obtain ⟨r', k1, k2⟩ := k.ex
  refine ⟨_, h1.or k1, fun {W B H e σ u lo hi x z Q} sr q vx t' => ?_⟩
  unfold orSl at q
  cases c : s u lo hi with
  | some z' =>
    rw [c] at q
    injection q with q
    subst q
    exact .inl (h2 sr c vx t')
  | none =>
    rw [c] at q
    exact .inr (k2 sr q vx t')
/-- a part of a slice -/
def rlPart : Rl (Option Int) (Option Int) := ⟨fun a b _ _ _ _ _ => a = b, fun _ h => h⟩
abbrev PPart (X : Cx) (W : WXX) (ex : Option Expr) (m : M (Option Int)) : Prop := L2.PO X ex (tG (ga X) W rlPart m)
def mP0 : M (Option Int) := .ret none
def mP1 (m : M U) : M (Option Int) := m.bd fun u => match u with
  | .int i => .ret (some i)
  | _ => fun _ => .bad
theorem POimp {t t' : TO} {o : Option Expr} (h : L2.PO X o t) (k : ∀ σ H Q, t' σ H Q → t σ H Q) : L2.PO X o t' := ⟨fun pins s σ H Q I q => h.run pins s σ H Q I (k σ H Q q)⟩
theorem pp_none : PPart X W none mP0 := POimp po_none fun σ H Q ⟨B, e, sr, q⟩ => q none B H (Go.refl sr) rfl
theorem pp_some {m : M U} (h : PV X W ex m) : PPart X W (some ex) (mP1 m) := by
  refine POimp (po_some h) fun σ H Q ⟨B, e, sr, q⟩ => ⟨B, e, sr, (tAt.bd q).mono fun x H1 ⟨B1, e1, u, g1, r1, q1⟩ => ?_⟩
  cases u with
  | int i =>
    have r1' : rep (ga X) B1 (.int i) x := r1
    simp only [rep] at r1'
    exact ⟨i, r1', q1 _ B1 H1 (Go.refl g1.sr) rfl⟩
  | _ => exact False.elim q1
def mSlc (s : Sl3) (ra : M Od) (ml mh : M (Option Int)) : M (Bool × U) := ra.bd fun x => ml.bd fun l => mh.bd fun h => fun e => match rdO e x with
  | some u => match s u l h with
    | some z => .ok z e
    | none => .bad
  | none => .bad
theorem po_slc {s : Sl3} {ra : M Od} {ml mh : M (Option Int)} {lo hi : Option Expr} {p2 : Pos} (ok : SlOK X s) (ha : PR X W ex ra) (hl : PPart X W lo ml) (hh : PPart X W hi mh) : PO X W (.Subscript ex (.Slice lo hi none p2) pos) (mSlc s ra ml mh) := by
  obtain ⟨r, h1, h2⟩ := ok.ex
  refine PEimp (pe_slice h1 ha hl hh) fun σ H Q ⟨B, e, sr, q⟩ => ⟨B, e, sr, (tAt.bd q).mono fun x H1 ⟨B1, e1, od, g1, r1, q1⟩ => ?_⟩
  refine ⟨B1, e1, g1.sr, (tAt.bd q1).mono fun l H2 ⟨B2, e2, l', g2, r2, q2⟩ => ?_⟩
  refine ⟨B2, e2, g2.sr, (tAt.bd q2).mono fun h H3 ⟨B3, e3, h', g3, r3, q3⟩ => ?_⟩
  have r2' : l' = l := r2
  have r3' : h' = h := r3
  subst r2' r3'
  unfold tAt at q3
  dsimp only at q3
  cases h1' : rdO e3 od with
  | none => rw [h1'] at q3; exact q3.elim
  | some u =>
    rw [h1'] at q3
    dsimp only at q3
    cases h3 : s u l' h' with
    | none => rw [h3] at q3; exact q3.elim
    | some z =>
      rw [h3] at q3
      exact h2 (W := W) g3.sr h3 (rlR.vw g3.sr (rlR.keep (S' := may H e σ) (rlR.keep (S' := may H e σ) r1 g2) g3) h1') q3
def cutU (us : List U) (lo hi : Option Int) : List U := (us.drop (HT.sIx us.length 0 lo)).take (HT.sIx us.length us.length hi - HT.sIx us.length 0 lo)
theorem reps.cut {Γ : Ga} {B : Hp} {us : List U} {vs : List V} (r : reps Γ B us vs) (lo hi : Option Int) : reps Γ B (cutU us lo hi) (cutV vs lo hi) := by
  unfold cutU cutV
  rw [← r.length]
  exact (r.drop _).take _
def cutI (us : List Int) (lo hi : Option Int) : List Int := (us.drop (HT.sIx us.length 0 lo)).take (HT.sIx us.length us.length hi - HT.sIx us.length 0 lo)
theorem cutI_map (us : List Int) (lo hi : Option Int) : cutV (us.map V.int) lo hi = (cutI us lo hi).map V.int := by
  unfold cutV cutI
  rw [List.length_map, List.map_take, List.map_drop]
def sSlL : Sl3 := fun u lo hi => match u with
  | .lst us => some (true, .lst (cutU us lo hi))
  | .scr ns => some (true, .lst ((cutI ns lo hi).map .int))
  | _ => none
theorem ok_slL : SlOK X sSlL := by
  refine ⟨_, sl_list, fun {W B H e σ u lo hi x z Q} sr q vx t => ?_⟩
  unfold sSlL at q
  split at q
  · injection q with q
    subst q
    obtain ⟨a, vs, e1, h1, r1⟩ := vx.lst sr.bh
    exact ⟨a, vs, e1, SqL.of h1, fin_new (ho := fun _ => .lst _) sr t fun p => ⟨_, rfl, r1.cut lo hi⟩⟩
  · rename_i ns
    injection q with q
    subst q
    obtain ⟨a, e1, h1⟩ := vx.scr sr.bh
    refine ⟨a, _, e1, h1, ?_⟩
    rw [cutI_map]
    exact fin_new (ho := fun _ => .lst _) sr t fun p => ⟨_, rfl, (reps.nat _).mpr rfl⟩
  · cases q
def sSlS : Sl3 := fun u lo hi => match u with
  | .str x => if x.length ≤ sizeLine then some (false, .str (cutS x lo hi)) else none
  | _ => none
theorem ok_slS : SlOK X sSlS := by
  refine ⟨_, sl_str, fun {W B H e σ u lo hi x z Q} sr q vx t => ?_⟩
  unfold sSlS at q
  split at q
  · split at q
    · rename_i hz
      injection q with q
      subst q
      exact ⟨_, vx.str, hz, fin_val sr t (rep_str _)⟩
    · cases q
  · cases q
/-- xs[::-1] -/
def mRev (ra : M Od) : M (Bool × U) := ra.bd fun x => fun e => match rdO e x with
  | some (.lst us) => .ok (true, .lst us.reverse) e
  | _ => .bad
theorem po_rev {ra : M Od} {k : Nat} {p1 p2 p3 : Pos} (ha : PR X W ex ra) : PO X W (.Subscript ex (.Slice none none (some (.UnaryOp .USub (.Constant (.int 1) k p1) p2)) p3) pos) (mRev ra) := by
  refine PEimp (pe_revL ha) fun σ H Q ⟨B, e, sr, q⟩ => ⟨B, e, sr, (tAt.bd q).mono fun x H1 ⟨B1, e1, od, g1, r1, q1⟩ => ?_⟩
  unfold tAt at q1
  dsimp only at q1
  cases h1 : rdO e1 od with
  | none => rw [h1] at q1; exact q1.elim
  | some u =>
    rw [h1] at q1
    cases u with
    | lst us =>
      obtain ⟨a, vs, e2, h2, r2⟩ := (rlR.vw g1.sr r1 h1).lst g1.sr.bh
      exact ⟨a, vs, e2, SqL.of h2, fin_new (W := W) (ho := fun _ => .lst _) g1.sr q1 fun p => ⟨_, rfl, r2.reverse⟩⟩
    | _ => exact False.elim q1

/-! ### calls of built-ins -/
def rlRs (Γ : Ga) : Rl (List Od) (List V) := ⟨fun ods vs S B H e σ => Paired (fun od v => (rlR Γ).r od v S B H e σ) ods vs, fun {a b S S' B H e σ} hs h => Paired.mapP h fun od v r => (rlR Γ).mono hs r⟩
abbrev PRs (X : Cx) (W : WXX) (exs : List Expr) (m : M (List Od)) : Prop := PA X exs (tG (ga X) W (rlRs (ga X)) m)
def mRn : M (List Od) := .ret []
def mRc (ma : M Od) (mr : M (List Od)) : M (List Od) := ma.bd fun u => mr.bd fun us => .ret (u :: us)
theorem prs_nil : PRs X W [] mRn := ⟨fun pos pins s σ H Q I ⟨B, e, sr, q⟩ => (pa_nil (X := X)).run pos pins s σ H Q I (q [] B H (Go.refl sr) .nil)⟩
theorem prs_cons {ma : M Od} {mr : M (List Od)} (ha : PR X W ex ma) (hr : PRs X W es mr) (hs : starEach (ex :: es) X.env = (false, eval ex X.env) :: starEach es X.env := by rfl) : PRs X W (ex :: es) (mRc ma mr) := by
  refine PAimp (pa_cons ha hr hs) fun σ H Q ⟨B, e, sr, q⟩ => ⟨B, e, sr, (tAt.bd q).mono fun x H1 ⟨B1, e1, u, g1, r1, q1⟩ => ?_⟩
  refine ⟨B1, e1, g1.sr, (tAt.bd q1).mono fun xs H2 ⟨B2, e2, us, g2, r2, q2⟩ => ?_⟩
  exact q2 _ B2 H2 (Go.refl g2.sr) (.cons (rlR.keep r1 g2) r2)
def rdOs (e : En) : List Od → Option (List U)
  | [] => some []
  | x :: r => match rdO e x, rdOs e r with
    | some u, some us => some (u :: us)
    | _, _ => none
abbrev Vws (Γ : Ga) (B H : Hp) : List U → List V → Prop := Paired (Vw Γ B H)
theorem rdOs_vw {Γ : Ga} {B H : Hp} {e : En} {σ : St} {S : Addr → Prop} (s : SR Γ B H e σ) : ∀ {ods : List Od} {vs : List V} {us : List U}, Paired (fun od v => (rlR Γ).r od v S B H e σ) ods vs → rdOs e ods = some us → Vws Γ B H us vs
  | _, _, us, .nil, h => by
    unfold rdOs at h
    injection h with h
    subst h
    exact .nil
  | od :: ods, v :: vs, us, .cons r t, h => by
    unfold rdOs at h
    cases h1 : rdO e od with
    | none => rw [h1] at h; cases h
    | some u =>
      cases h2 : rdOs e ods with
      | none => rw [h1, h2] at h; cases h
      | some ws =>
        rw [h1, h2] at h
        injection h with h
        subst h
        exact .cons (rlR.vw s r h1) (rdOs_vw s t h2)
abbrev OpN := List U → Option (Bool × U)
structure CallOK (X : Cx) (f : Value) (s : OpN) : Prop where
  ex : ∃ r : List V → Hp → VK → Prop, CallR X f r ∧ ∀ {W : WXX} {B H : Hp} {e : En} {σ : St} {us : List U} {xs : List V} {z : Bool × U} {Q : VK}, SR (ga X) B H e σ → s us = some z → Vws (ga X) B H us xs →
    tAt (ga X) W (rlO (ga X)) (M.ret z) B H e σ Q → r xs H Q
def orN (s t : OpN) : OpN := fun us => match s us with
  | some z => some z
  | none => t us
theorem CallR.or' {f : Value} {r r' : List V → Hp → VK → Prop} (h : CallR X f r) (h' : CallR X f r') : CallR X f (fun xs H Q => r xs H Q ∨ r' xs H Q) := by
  intro pins s σ H xs us Q I rs q
  rcases q with q | q
  · exact h pins s σ H xs us Q I rs q
  · exact h' pins s σ H xs us Q I rs q
theorem CallOK.or {f : Value} {s t : OpN} (h : CallOK X f s) (k : CallOK X f t) : CallOK X f (orN s t) := by
  obtain ⟨r, h1, h2⟩ := h.ex
  obtain ⟨r', k1, k2⟩ := k.ex
  refine ⟨_, CallR.or' h1 k1, fun {W B H e σ us xs z Q} sr q vx t' => ?_⟩
  unfold orN at q
  cases c : s us with
  | some z' =>
    rw [c] at q
    injection q with q
    subst q
    exact .inl (h2 sr c vx t')
  | none =>
    rw [c] at q
    exact .inr (k2 sr q vx t')
def mCB (s : OpN) (m : M (List Od)) : M (Bool × U) := m.bd fun ods => fun e => match rdOs e ods with
  | some us => match s us with
    | some z => .ok z e
    | none => .bad
  | none => .bad
theorem cb_core {s : OpN} {m : M (List Od)} {r : List V → Hp → VK → Prop} (hr : ∀ {W : WXX} {B H : Hp} {e : En} {σ : St} {us : List U} {xs : List V} {z : Bool × U} {Q : VK}, SR (ga X) B H e σ → s us = some z → Vws (ga X) B H us xs →
    tAt (ga X) W (rlO (ga X)) (M.ret z) B H e σ Q → r xs H Q) (σ : St) (H : Hp) (Q : VK) (h : tG (ga X) W (rlO (ga X)) (mCB s m) σ H Q) : tCB r (tG (ga X) W (rlRs (ga X)) m) σ H Q := by
  obtain ⟨B, e, sr, q⟩ := h
  refine ⟨B, e, sr, (tAt.bd q).mono fun xs H1 ⟨B1, e1, ods, g1, r1, q1⟩ => ?_⟩
  unfold tAt at q1
  dsimp only at q1
  cases h1 : rdOs e1 ods with
  | none => rw [h1] at q1; exact q1.elim
  | some us =>
    rw [h1] at q1
    dsimp only at q1
    cases h3 : s us with
    | none => rw [h3] at q1; exact q1.elim
    | some z =>
      rw [h3] at q1
      exact hr (W := W) g1.sr h3 (rdOs_vw g1.sr r1 h1) q1
theorem po_callB {s : OpN} {m : M (List Od)} {id : String} {x : Str} {p : Pos} (ok : CallOK X (.builtin id) s) (hg : Gl X x) (hm : X.mg x = none) (hv : bootBuiltins x = some (.builtin id)) (ha : PRs X W (ex :: es) m) (hn : x ≠ "__name__" := by decide)
    (hdb : (x == ("__debug__" : Str)) = false := by decide) (he : starEach (ex :: es) X.env = (false, eval ex X.env) :: starEach es X.env := by rfl) (hpl : (backTo pos (starEach es X.env)).any (·.1) = false := by rfl) :
    PO X W (.Call (.Name x p) (ex :: es) [] pos) (mCB s m) := by
  obtain ⟨r, h1, h2⟩ := ok.ex
  exact PEimp (pe_callB h1 hg hm hv ha hn hdb he hpl) fun σ H Q h => cb_core h2 σ H Q h
theorem po_callTy {s : OpN} {m : M (List Od)} {T : String} {x : Str} {p : Pos} (ok : CallOK X (.type T) s) (hg : Gl X x) (hm : X.mg x = none) (hv : bootBuiltins x = some (.type T)) (ha : PRs X W (ex :: es) m) (hn : x ≠ "__name__" := by decide)
    (hdb : (x == ("__debug__" : Str)) = false := by decide) (he : starEach (ex :: es) X.env = (false, eval ex X.env) :: starEach es X.env := by rfl) (hpl : (backTo pos (starEach es X.env)).any (·.1) = false := by rfl) :
    PO X W (.Call (.Name x p) (ex :: es) [] pos) (mCB s m) := by
  obtain ⟨r, h1, h2⟩ := ok.ex
  exact PEimp (pe_callTy h1 hg hm hv ha hn hdb he hpl) fun σ H Q h => cb_core h2 σ H Q h
end
end VS
set_option Elab.async false
set_option linter.all false
set_option maxRecDepth 100000
/-! VS5: the built-ins one by one. -/
namespace VS
open PySem L2
section
variable {X : Cx}
theorem vws1 {Γ : Ga} {B H : Hp} {u : U} {xs : List V} (h : Vws Γ B H [u] xs) : ∃ v, xs = [v] ∧ Vw Γ B H u v := by
  cases h with
  | cons r t => cases t; exact ⟨_, rfl, r⟩
theorem vws2 {Γ : Ga} {B H : Hp} {u w : U} {xs : List V} (h : Vws Γ B H [u, w] xs) : ∃ v x, xs = [v, x] ∧ Vw Γ B H u v ∧ Vw Γ B H w x := by
  cases h with
  | cons r t =>
    cases t with
    | cons r' t => cases t; exact ⟨_, _, rfl, r, r'⟩
def sLen : OpN := fun us => match us with
  | [.str x] => if x.length ≤ sizeLine then some (false, .int x.length) else none
  | [.lst ws] => some (false, .int ws.length)
  | [.tup ws] => some (false, .int ws.length)
  | [.scr ws] => some (false, .int ws.length)
  | _ => none
theorem ok_len0 : CallOK X (.builtin "len") sLen := by
  refine ⟨_, call_len, fun {W B H e σ us xs z Q} sr q vx t => ?_⟩
  unfold sLen at q
  split at q
  · split at q
    · rename_i hz
      injection q with q
      subst q
      obtain ⟨v, rfl, v1⟩ := vws1 vx
      rw [v1.str]
      exact ⟨_, _, rfl, ⟨hz, rfl⟩, fin_val sr t (rep_int _)⟩
    · cases q
  · injection q with q
    subst q
    obtain ⟨v, rfl, v1⟩ := vws1 vx
    obtain ⟨a, vs, rfl, h1, r1⟩ := v1.lst sr.bh
    exact ⟨_, _, rfl, .inl ⟨vs, SqL.of h1, r1.length⟩, fin_val sr t (rep_int _)⟩
  · injection q with q
    subst q
    obtain ⟨v, rfl, v1⟩ := vws1 vx
    obtain ⟨a, vs, rfl, h1, r1⟩ := v1.tup sr.bh
    exact ⟨_, _, rfl, .inr ⟨vs, h1, r1.length⟩, fin_val sr t (rep_int _)⟩
  · injection q with q
    subst q
    obtain ⟨v, rfl, v1⟩ := vws1 vx
    obtain ⟨a, rfl, h1⟩ := v1.scr sr.bh
    exact ⟨_, _, rfl, .inl ⟨_, h1, by rw [List.length_map]⟩, fin_val sr t (rep_int _)⟩
  · cases q
def sInt : OpN := fun us => match us with
  | [.int i] => some (false, .int i)
  | [.bl b] => some (false, .int (if b then 1 else 0))
  | _ => none
theorem ok_int : CallOK X (.type "int") sInt := by
  refine ⟨_, call_int1, fun {W B H e σ us xs z Q} sr q vx t => ?_⟩
  unfold sInt at q
  split at q
  · injection q with q
    subst q
    obtain ⟨v, rfl, v1⟩ := vws1 vx
    rw [v1.int]
    exact .inl ⟨_, rfl, fin_val sr t (rep_int _)⟩
  · injection q with q
    subst q
    obtain ⟨v, rfl, v1⟩ := vws1 vx
    rw [v1.bl]
    exact .inr ⟨_, rfl, fin_val sr t (rep_int _)⟩
  · cases q
def sAbs : OpN := fun us => match us with
  | [.int i] => some (false, .int (if i < 0 then -i else i))
  | _ => none
theorem ok_abs : CallOK X (.builtin "abs") sAbs := by
  refine ⟨_, call_abs, fun {W B H e σ us xs z Q} sr q vx t => ?_⟩
  unfold sAbs at q
  split at q
  · injection q with q
    subst q
    obtain ⟨v, rfl, v1⟩ := vws1 vx
    rw [v1.int]
    exact ⟨_, rfl, fin_val sr t (rep_int _)⟩
  · cases q
def sMax2 : OpN := fun us => match us with
  | [.int i, .int j] => some (false, .int (if j > i then j else i))
  | _ => none
theorem ok_max2 (hc : X.calm = true) : CallOK X (.builtin "max") sMax2 := by
  refine ⟨_, call_max2 hc, fun {W B H e σ us xs z Q} sr q vx t => ?_⟩
  unfold sMax2 at q
  split at q
  · injection q with q
    subst q
    obtain ⟨v, w, rfl, v1, v2⟩ := vws2 vx
    rw [v1.int, v2.int]
    exact ⟨_, _, rfl, fin_val sr t (rep_int _)⟩
  · cases q
def sMin2 : OpN := fun us => match us with
  | [.int i, .int j] => some (false, .int (if j < i then j else i))
  | _ => none
theorem ok_min2 (hc : X.calm = true) : CallOK X (.builtin "min") sMin2 := by
  refine ⟨_, call_min2 hc, fun {W B H e σ us xs z Q} sr q vx t => ?_⟩
  unfold sMin2 at q
  split at q
  · injection q with q
    subst q
    obtain ⟨v, w, rfl, v1, v2⟩ := vws2 vx
    rw [v1.int, v2.int]
    exact ⟨_, _, rfl, fin_val sr t (rep_int _)⟩
  · cases q
/-- a list's items where all are ints, texts, bools -/
def asInts : List U → Option (List Int)
  | [] => some []
  | .int i :: r => (asInts r).map (i :: ·)
  | _ => none
theorem asInts_eq : ∀ {us : List U} {ns : List Int}, asInts us = some ns → us = ns.map U.int
  | [], ns, h => by injection h with h; subst h; rfl
  | u :: us, ns, h => by
    cases u with
    | int i =>
      unfold asInts at h
      obtain ⟨r, h1, rfl⟩ := Option.map_eq_some_iff.mp h
      rw [asInts_eq h1]
      rfl
    | _ => cases h
theorem asInts_map (ns : List Int) : asInts (ns.map U.int) = some ns := by
  induction ns with
  | nil => rfl
  | cons n ns ih => rw [List.map_cons, asInts, ih]; rfl
def asStrs : List U → Option (List Str)
  | [] => some []
  | .str i :: r => (asStrs r).map (i :: ·)
  | _ => none
theorem asStrs_eq : ∀ {us : List U} {ns : List Str}, asStrs us = some ns → us = ns.map U.str
  | [], ns, h => by injection h with h; subst h; rfl
  | u :: us, ns, h => by
    cases u with
    | str i =>
      unfold asStrs at h
      obtain ⟨r, h1, rfl⟩ := Option.map_eq_some_iff.mp h
      rw [asStrs_eq h1]
      rfl
    | _ => cases h
theorem asStrs_map (ns : List Str) : asStrs (ns.map U.str) = some ns := by
  induction ns with
  | nil => rfl
  | cons n ns ih => rw [List.map_cons, asStrs, ih]; rfl
def asBls : List U → Option (List Bool)
  | [] => some []
  | .bl i :: r => (asBls r).map (i :: ·)
  | _ => none
theorem asBls_eq : ∀ {us : List U} {ns : List Bool}, asBls us = some ns → us = ns.map U.bl
  | [], ns, h => by injection h with h; subst h; rfl
  | u :: us, ns, h => by
    cases u with
    | bl i =>
      unfold asBls at h
      obtain ⟨r, h1, rfl⟩ := Option.map_eq_some_iff.mp h
      rw [asBls_eq h1]
      rfl
    | _ => cases h
theorem asBls_map (ns : List Bool) : asBls (ns.map U.bl) = some ns := by
  induction ns with
  | nil => rfl
  | cons n ns ih => rw [List.map_cons, asBls, ih]; rfl
def sAll : OpN := fun us => match us with
  | [.lst ws] => (asBls ws).map fun bs => (false, .bl (bs.all id))
  | _ => none
theorem ok_all (hc : X.calm = true) : CallOK X (.builtin "all") sAll := by
  refine ⟨_, cr_all hc, fun {W B H e σ us xs z Q} sr q vx t => ?_⟩
  unfold sAll at q
  split at q
  · obtain ⟨bs, hb, rfl⟩ := Option.map_eq_some_iff.mp q
    obtain ⟨v, rfl, v1⟩ := vws1 vx
    rw [asBls_eq hb] at v1
    obtain ⟨a, vs, rfl, h1, r1⟩ := v1.lst sr.bh
    rw [reps.bls] at r1
    subst r1
    exact ⟨a, bs, rfl, SqL.of h1, fin_val sr t (rep_bl _)⟩
  · cases q
def sAny : OpN := fun us => match us with
  | [.lst ws] => (asBls ws).map fun bs => (false, .bl (bs.any id))
  | _ => none
theorem ok_any (hc : X.calm = true) : CallOK X (.builtin "any") sAny := by
  refine ⟨_, cr_any hc, fun {W B H e σ us xs z Q} sr q vx t => ?_⟩
  unfold sAny at q
  split at q
  · obtain ⟨bs, hb, rfl⟩ := Option.map_eq_some_iff.mp q
    obtain ⟨v, rfl, v1⟩ := vws1 vx
    rw [asBls_eq hb] at v1
    obtain ⟨a, vs, rfl, h1, r1⟩ := v1.lst sr.bh
    rw [reps.bls] at r1
    subst r1
    exact ⟨a, bs, rfl, SqL.of h1, fin_val sr t (rep_bl _)⟩
  · cases q
def maxI : List Int → Int
  | [] => 0
  | [x] => x
  | x :: r => if maxI r ≤ x then x else maxI r
theorem maxI_le : ∀ (l : List Int) (x : Int), x ∈ l → x ≤ maxI l
  | [y], x, h => by
    have : x = y := by simpa using h
    subst this
    exact Int.le_refl _
  | y :: z :: r, x, h => by
    have ih := maxI_le (z :: r)
    unfold maxI
    rcases List.mem_cons.mp h with rfl | h
    · split <;> omega
    · have := ih x h
      split <;> omega
theorem maxI_unique {l : List Int} {m : Int} (h : m ∈ l) (k : ∀ y, y ∈ l → y ≤ m) : m = maxI l := by
  refine Int.le_antisymm (maxI_le l m h) ?_
  have : l ≠ [] := fun e => by subst e; cases h
  have mem : ∀ l : List Int, l ≠ [] → maxI l ∈ l := fun l => by
    induction l with
    | nil => intro h; exact absurd rfl h
    | cons y r ih =>
      intro _
      cases r with
      | nil => simp [maxI]
      | cons z r =>
        have := ih (by simp)
        unfold maxI
        split
        · simp
        · exact List.mem_cons_of_mem _ this
  exact k _ (mem l this)
def sMax1 : OpN := fun us => match us with
  | [.lst ws] => match asInts ws with
    | some (n :: ns) => some (false, .int (maxI (n :: ns)))
    | _ => none
  | _ => none
theorem ok_max1 (hc : X.calm = true) : CallOK X (.builtin "max") sMax1 := by
  refine ⟨_, cr_max hc, fun {W B H e σ us xs z Q} sr q vx t => ?_⟩
  unfold sMax1 at q
  split at q
  · split at q
    · rename_i n ns hb
      injection q with q
      subst q
      obtain ⟨v, rfl, v1⟩ := vws1 vx
      rw [asInts_eq hb] at v1
      obtain ⟨a, vs, rfl, h1, r1⟩ := v1.lst sr.bh
      rw [reps.nat] at r1
      subst r1
      refine ⟨a, n :: ns, rfl, SqL.of h1, by simp, fun m hm hk => ?_⟩
      rw [maxI_unique hm hk]
      exact fin_val sr t (rep_int _)
    · cases q
  · cases q
def sSortS : OpN := fun us => match us with
  | [.lst ws] => match asStrs ws with
    | some ns => if ns.length < 64 then some (true, .lst ((sortS ns).map .str)) else none
    | _ => none
  | _ => none
theorem ok_sortS : CallOK X (.builtin "sorted") sSortS := by
  refine ⟨_, cr_sortedS, fun {W B H e σ us xs z Q} sr q vx t => ?_⟩
  unfold sSortS at q
  split at q
  · split at q
    · rename_i ns hb
      split at q
      · rename_i hz
        injection q with q
        subst q
        obtain ⟨v, rfl, v1⟩ := vws1 vx
        rw [asStrs_eq hb] at v1
        obtain ⟨a, vs, rfl, h1, r1⟩ := v1.lst sr.bh
        rw [reps.strs] at r1
        subst r1
        refine ⟨a, ns, rfl, SqL.of h1, hz, fun ys p pm st hp => ?_⟩
        rw [sortS_unique pm (sortedS_pair st)]
        exact fin_new (ho := fun _ => .lst _) sr t (fun p => ⟨_, rfl, (reps.strs _).mpr rfl⟩) p hp
      · cases q
    · cases q
  · cases q
def sSortI : OpN := fun us => match us with
  | [.lst ws] => match asInts ws with
    | some ns => if ns.length < 64 then some (true, .lst ((sortI ns).map .int)) else none
    | _ => none
  | _ => none
theorem ok_sortI : CallOK X (.builtin "sorted") sSortI := by
  refine ⟨_, cr_sorted, fun {W B H e σ us xs z Q} sr q vx t => ?_⟩
  unfold sSortI at q
  split at q
  · split at q
    · rename_i ns hb
      split at q
      · rename_i hz
        injection q with q
        subst q
        obtain ⟨v, rfl, v1⟩ := vws1 vx
        rw [asInts_eq hb] at v1
        obtain ⟨a, vs, rfl, h1, r1⟩ := v1.lst sr.bh
        rw [reps.nat] at r1
        subst r1
        refine ⟨a, ns, rfl, SqL.of h1, hz, fun ys p pm st hp => ?_⟩
        rw [sortI_unique pm st]
        exact fin_new (ho := fun _ => .lst _) sr t (fun p => ⟨_, rfl, (reps.nat _).mpr rfl⟩) p hp
      · cases q
    · cases q
  · cases q
def sList : OpN := fun us => match us with
  | [.lst ws] => some (true, .lst ws)
  | [.tup ws] => some (true, .lst ws)
  | [.scr ns] => some (true, .lst (ns.map .int))
  | _ => none
theorem ok_list : CallOK X (.type "list") sList := by
  refine ⟨_, call_list_of, fun {W B H e σ us xs z Q} sr q vx t => ?_⟩
  unfold sList at q
  split at q
  · injection q with q
    subst q
    obtain ⟨v, rfl, v1⟩ := vws1 vx
    obtain ⟨a, vs, rfl, h1, r1⟩ := v1.lst sr.bh
    exact ⟨a, vs, rfl, .inl (SqL.of h1), fin_new (ho := fun _ => .lst _) sr t fun p => ⟨_, rfl, r1⟩⟩
  · injection q with q
    subst q
    obtain ⟨v, rfl, v1⟩ := vws1 vx
    obtain ⟨a, vs, rfl, h1, r1⟩ := v1.tup sr.bh
    exact ⟨a, vs, rfl, .inr h1, fin_new (ho := fun _ => .lst _) sr t fun p => ⟨_, rfl, r1⟩⟩
  · injection q with q
    subst q
    obtain ⟨v, rfl, v1⟩ := vws1 vx
    obtain ⟨a, rfl, h1⟩ := v1.scr sr.bh
    exact ⟨a, _, rfl, .inl h1, fin_new (ho := fun _ => .lst _) sr t fun p => ⟨_, rfl, (reps.nat _).mpr rfl⟩⟩
  · cases q
def sTuple : OpN := fun us => match us with
  | [.lst ws] => some (false, .tup ws)
  | [.tup ws] => some (false, .tup ws)
  | _ => none
theorem ok_tuple : CallOK X (.type "tuple") sTuple := by
  refine ⟨_, call_tuple_of, fun {W B H e σ us xs z Q} sr q vx t => ?_⟩
  unfold sTuple at q
  split at q
  · injection q with q
    subst q
    obtain ⟨v, rfl, v1⟩ := vws1 vx
    obtain ⟨a, vs, rfl, h1, r1⟩ := v1.lst sr.bh
    exact ⟨a, vs, rfl, .inl ⟨SqL.of h1, fin_tup sr t r1⟩⟩
  · injection q with q
    subst q
    obtain ⟨v, rfl, v1⟩ := vws1 vx
    rcases v1 with r | ⟨_, _, _, _, n⟩
    · have r' := r
      simp only [rep] at r
      obtain ⟨a, vs, rfl, h1, r1⟩ := r
      exact ⟨a, vs, rfl, .inr ⟨sqT_same sr.bh h1, fin_val sr t r'⟩⟩
    · exact n.elim
  · cases q
end
end VS
set_option Elab.async false
set_option linter.all false
set_option maxRecDepth 100000
/-! VS6: statements. -/
namespace VS
open PySem L2

inductive RS where
  | nx (e : En)
  | rt (o : Bool) (u : U) (e : En)
  | bk (e : En)
  | ct (e : En)
  | exc (c : Str) (u : U) (e : En)
  | bad
abbrev MS := En → RS
/-- the slots that no statement stores to -/
def Kp (pr : Nat → Bool) (σ σ' : St) : Prop := σ'.length = σ.length ∧ ∀ i : Nat, pr i = true → σ'[i]? = σ[i]?
theorem Kp.refl {pr : Nat → Bool} {σ : St} : Kp pr σ σ := ⟨rfl, fun _ _ => rfl⟩
theorem Kp.trans {pr : Nat → Bool} {σ σ1 σ2 : St} (h : Kp pr σ σ1) (k : Kp pr σ1 σ2) : Kp pr σ σ2 := ⟨k.1.trans h.1, fun i p => (k.2 i p).trans (h.2 i p)⟩
theorem Kp.set {pr : Nat → Bool} {σ : St} {i : Nat} {x : Option V} (h : pr i = false) : Kp pr σ (σ.set i x) := ⟨List.length_set, fun j p => by
  rw [List.getElem?_set_ne]
  intro e
  subst e
  rw [h] at p
  cases p⟩
theorem Kp.sub {pr pr' : Nat → Bool} {σ σ' : St} (h : ∀ i, pr i = true → pr' i = true) (k : Kp pr' σ σ') : Kp pr σ σ' := ⟨k.1, fun i p => k.2 i (h i p)⟩

def rsP (Γ : Ga) (W : WXX) (pr : Nat → Bool) (B H : Hp) (e : En) (σ : St) (D : Ends) : RS → Prop
  | .nx e' => ∀ B' H' σ', Go Γ B H e σ B' H' e' σ' → Kp pr σ σ' → D.nx σ' H'
  | .bk e' => ∀ B' H' σ', Go Γ B H e σ B' H' e' σ' → Kp pr σ σ' → D.bk σ' H'
  | .ct e' => ∀ B' H' σ', Go Γ B H e σ B' H' e' σ' → Kp pr σ σ' → D.ct σ' H'
  | .rt o u e' => ∀ v B' H' σ', Go Γ B H e σ B' H' e' σ' → Kp pr σ σ' → (rlO Γ).r (o, u) v (may H e σ) B' H' e' σ' → D.rt v H'
  | .exc c u e' => ∀ cls d B' H' σ', Go Γ B H e σ B' H' e' σ' → Kp pr σ σ' → exrep Γ B' H' c u cls d → W cls d σ' H'
  | .bad => False
def sAt (Γ : Ga) (W : WXX) (pr : Nat → Bool) (m : MS) (B H : Hp) (e : En) (σ : St) (D : Ends) : Prop := rsP Γ W pr B H e σ D (m e)
def sG (Γ : Ga) (W : WXX) (pr : Nat → Bool) (m : MS) : TS := fun D σ H => ∃ B e, SR Γ B H e σ ∧ sAt Γ W pr m B H e σ D
abbrev PSV (X : Cx) (W : WXX) (pr : Nat → Bool) (st : Stmt) (m : MS) : Prop := PS X st (sG (ga X) W pr m)
abbrev PSsV (X : Cx) (W : WXX) (pr : Nat → Bool) (st : List Stmt) (m : MS) : Prop := PSs X st (sG (ga X) W pr m)

def MS.nop : MS := fun e => .nx e
def MS.seq (m k : MS) : MS := fun e => match m e with
  | .nx e' => k e'
  | r => r
def M.bs {α : Type} (m : M α) (k : α → MS) : MS := fun e => match m e with
  | .ok a e' => k a e'
  | .exc c u e' => .exc c u e'
  | .bad => .bad

section
variable {Γ : Ga} {W : WXX} {pr : Nat → Bool} {B H B1 H1 : Hp} {e e1 : En} {σ σ1 : St} {D : Ends}
/-- from a later state -/
theorem rsP.later (g : Go Γ B H e σ B1 H1 e1 σ1) (kp : Kp pr σ σ1) : ∀ {r : RS}, rsP Γ W pr B H e σ D r → rsP Γ W pr B1 H1 e1 σ1 D r
  | .nx e', h => fun B' H' σ' g2 k2 => h B' H' σ' (g.trans g2) (kp.trans k2)
  | .bk e', h => fun B' H' σ' g2 k2 => h B' H' σ' (g.trans g2) (kp.trans k2)
  | .ct e', h => fun B' H' σ' g2 k2 => h B' H' σ' (g.trans g2) (kp.trans k2)
  | .rt o u e', h => fun v B' H' σ' g2 k2 r => h v B' H' σ' (g.trans g2) (kp.trans k2) ((rlO Γ).mono g.may r)
  | .exc c u e', h => fun cls d B' H' σ' g2 k2 x => h cls d B' H' σ' (g.trans g2) (kp.trans k2) x
  | .bad, h => h
theorem sAt.seq {m k : MS} (s : SR Γ B H e σ) (h : sAt Γ W pr (m.seq k) B H e σ D) : sAt Γ W pr m B H e σ { D with nx := sG Γ W pr k D } := by
  unfold sAt MS.seq at h
  unfold sAt
  cases q : m e with
  | nx e' =>
    rw [q] at h
    exact fun B' H' σ' g kp => ⟨B', e', g.sr, rsP.later g kp h⟩
  | bk e' => rw [q] at h; exact h
  | ct e' => rw [q] at h; exact h
  | rt o u e' => rw [q] at h; exact h
  | exc c u e' => rw [q] at h; exact h
  | bad => rw [q] at h; exact h
/-- an expression first -/
theorem sAt.bs {α β : Type} {rl : Rl α β} {m : M α} {k : α → MS} (h : sAt Γ W pr (m.bs k) B H e σ D) :
    tAt Γ W rl m B H e σ fun b H1 => ∃ B1 e1 a, Go Γ B H e σ B1 H1 e1 σ ∧ rl.r a b (may H e σ) B1 H1 e1 σ ∧ sAt Γ W pr (k a) B1 H1 e1 σ D := by
  unfold sAt M.bs at h
  unfold tAt
  cases q : m e with
  | ok a e' =>
    rw [q] at h
    exact fun b B' H' g r => ⟨B', e', a, g, r, rsP.later g Kp.refl h⟩
  | exc c u e' =>
    rw [q] at h
    exact fun cls d B' H' g x => h cls d B' H' σ g Kp.refl x
  | bad => rw [q] at h; exact h
theorem rlO.keep {r : Bool × U} {v : V} {S : Addr → Prop} {B' H' : Hp} {e' : En} (h : (rlO Γ).r r v S B H e σ) (s : SR Γ B H e σ) (g : Go Γ B H e σ B' H' e' σ) : (rlO Γ).r r v S B' H' e' σ := by
  obtain ⟨o, u⟩ := r
  cases o with
  | false => exact rep.mono g.st.bb h
  | true =>
    obtain ⟨a, ho, h1, h2, h3, h4, h5, h6⟩ := h
    refine ⟨a, ho, h1, g.st.fr a ho h2 h5, h3.mono g.st.bb, g.st.nb a ho h2 h5 h4, fun z => ?_, h6⟩
    rcases g.sub a z with q | q
    · exact h5 q
    · rw [h2] at q; cases q
/-- a slot is stored -/
theorem Go.store {i : Nat} {r : Bool × U} {v : V} (s : SR Γ B H e σ) (h : (rlO Γ).r r v S B H e σ) {B0 H0 : Hp} {e0 : En} {σ0 : St} (g : Go Γ B0 H0 e0 σ0 B H e σ) (hS : ∀ a, S a → VS.may H0 e0 σ0 a) :
    Go Γ B0 H0 e0 σ0 B H (e.set i (some r)) (σ.set i (some v)) := by
  obtain ⟨o, u⟩ := r
  have ln := s.ln
  have get : ∀ (j : Nat) (x : Bool × U), (e.set i (some (o, u)))[j]? = some (some x) → (j = i ∧ x = (o, u) ∧ i < σ.length) ∨ (j ≠ i ∧ e[j]? = some (some x)) := fun j x hj => by
    by_cases ij : i = j
    · subst ij
      rw [List.getElem?_set] at hj
      simp only [if_true] at hj
      split at hj
      · rename_i hl
        injection hj with hj
        injection hj with hj
        exact .inl ⟨rfl, hj.symm, by omega⟩
      · cases hj
    · rw [List.getElem?_set_ne ij] at hj
      exact .inr ⟨fun z => ij z.symm, hj⟩
  have sg : ∀ {j : Nat}, j ≠ i → (σ.set i (some v))[j]? = σ[j]? := fun {j} n => List.getElem?_set_ne (Ne.symm n)
  have si : i < σ.length → (σ.set i (some v))[i]? = some (some v) := fun hl => List.getElem?_set_self hl
  have fresh : ∀ a, o = true → v = .ref a → ¬ own e σ a := fun a ho hv => by
    subst ho
    obtain ⟨b, ho, h1, h2, h3, h4, h5, h6⟩ := h
    rw [hv] at h1
    cases h1
    exact h5
  refine ⟨g.st, ⟨s.bh, by simp [ln], fun j w hj => ?_, fun j w hj => ?_, fun j k w x a hj hk s1 s2 => ?_⟩, fun a z => ?_⟩
  · rcases get j _ hj with ⟨rfl, e1, hl⟩ | ⟨n, hj⟩
    · cases e1
      exact ⟨v, si hl, h⟩
    · rw [sg n]
      exact s.vl j w hj
  · rcases get j _ hj with ⟨rfl, e1, hl⟩ | ⟨n, hj⟩
    · cases e1
      obtain ⟨a, ho, h1, h2, h3, h4, h5, h6⟩ := h
      exact ⟨a, ho, by rw [si hl, h1], h2, h3, h4⟩
    · rw [sg n]
      exact s.ow j w hj
  · rcases get j _ hj with ⟨rfl, e1, hl⟩ | ⟨n, hj'⟩
    · rcases get k _ hk with ⟨rfl, e2, hl2⟩ | ⟨n2, hk'⟩
      · rfl
      · cases e1
        rw [si hl] at s1
        rw [sg n2] at s2
        injection s1 with s1
        injection s1 with s1
        exact absurd ⟨k, x, hk', s2⟩ (fresh a rfl s1)
    · rcases get k _ hk with ⟨rfl, e2, hl2⟩ | ⟨n2, hk'⟩
      · cases e2
        rw [si hl2] at s2
        rw [sg n] at s1
        injection s2 with s2
        injection s2 with s2
        exact absurd ⟨j, w, hj', s1⟩ (fresh a rfl s2)
      · rw [sg n] at s1
        rw [sg n2] at s2
        exact s.ds j k w x a hj' hk' s1 s2
  · obtain ⟨j, w, hj, hs⟩ := z
    rcases get j _ hj with ⟨rfl, e1, hl⟩ | ⟨n, hj⟩
    · cases e1
      rw [si hl] at hs
      injection hs with hs
      injection hs with hs
      obtain ⟨b, ho, h1, h2, h3, h4, h5, h6⟩ := h
      rw [hs] at h1
      cases h1
      exact hS _ h6
    · rw [sg n] at hs
      exact g.sub a ⟨j, w, hj, hs⟩
/-- our own object is written -/
theorem Go.write {i : Nat} {u u' : U} {a : Addr} {ho : HO} (s : SR Γ B H e σ) (q : e[i]? = some (some (true, u))) (ea : σ[i]? = some (some (.ref a))) (n : nod Γ B a u' ho) :
    Go Γ B H e σ B (upd H a ho) (e.set i (some (true, u'))) σ := by
  obtain ⟨b, ho0, h1, h2, h3, h4⟩ := s.ow i u q
  rw [ea] at h1
  cases h1
  have get : ∀ (j : Nat) (x : Bool × U), (e.set i (some (true, u')))[j]? = some (some x) → (j = i ∧ x = (true, u')) ∨ (j ≠ i ∧ e[j]? = some (some x)) := fun j x hj => by
    by_cases ij : i = j
    · subst ij
      rw [List.getElem?_set] at hj
      simp only [if_true] at hj
      split at hj
      · injection hj with hj
        injection hj with hj
        exact .inl ⟨rfl, hj.symm⟩
      · cases hj
    · rw [List.getElem?_set_ne ij] at hj
      exact .inr ⟨fun z => ij z.symm, hj⟩
  have old : ∀ (j : Nat) (w : U), (e.set i (some (true, u')))[j]? = some (some (true, w)) → ∃ w', e[j]? = some (some (true, w')) := fun j w hj => by
    rcases get j _ hj with ⟨rfl, e1⟩ | ⟨_, hj⟩
    · exact ⟨u, q⟩
    · exact ⟨w, hj⟩
  refine ⟨⟨Same.refl _, fun b o hb nb => ?_, fun b o hb nb b0 => b0⟩, ⟨same_upd2 s.bh h4, by simp [s.ln], fun j w hj => ?_, fun j w hj => ?_, fun j k w x b hj hk s1 s2 => ?_⟩, fun b z => ?_⟩
  · have : b ≠ a := fun z => nb (by subst z; exact ⟨i, u, q, ea⟩)
    rw [upd_ne this]; exact hb
  · rcases get j _ hj with ⟨rfl, e1⟩ | ⟨n, hj⟩
    · cases e1
    · exact s.vl j w hj
  · rcases get j _ hj with ⟨rfl, e1⟩ | ⟨nn, hj⟩
    · cases e1
      exact ⟨a, ho, ea, upd_same, n, h4⟩
    · obtain ⟨b, ho', k1, k2, k3, k4⟩ := s.ow j w hj
      have : b ≠ a := fun z => nn (s.ds j i w u a hj q (by rw [k1, z]) ea)
      exact ⟨b, ho', k1, by rw [upd_ne this]; exact k2, k3, k4⟩
  · obtain ⟨w', hj⟩ := old j w hj
    obtain ⟨x', hk⟩ := old k x hk
    exact s.ds j k w' x' b hj hk s1 s2
  · obtain ⟨j, w, hj, hs⟩ := z
    obtain ⟨w', hj⟩ := old j w hj
    exact .inl ⟨j, w', hj, hs⟩
end

section
variable {X : Cx} {W : WXX} {pr : Nat → Bool} {st : Stmt} {sts : List Stmt} {ex : Expr} {pos : Pos}
theorem PSimp {t t' : TS} (h : PS X st t) (k : ∀ D σ H, t' D σ H → t D σ H) : PS X st t' := ⟨fun pins s σ H D I q => h.run pins s σ H D I (k D σ H q)⟩
theorem PSsimp {t t' : TS} (h : PSs X sts t) (k : ∀ D σ H, t' D σ H → t D σ H) : PSs X sts t' := ⟨fun pins s σ H D I q => h.run pins s σ H D I (k D σ H q)⟩
theorem bv_nil : PSsV X W pr [] MS.nop := PSsimp pss_nil fun D σ H ⟨B, e, sr, q⟩ => q B H σ (Go.refl sr) Kp.refl
theorem bv_cons {m k : MS} (h : PSV X W pr st m) (h2 : PSsV X W pr sts k) : PSsV X W pr (st :: sts) (m.seq k) := PSsimp (pss_cons h h2) fun D σ H ⟨B, e, sr, q⟩ => ⟨B, e, sr, sAt.seq sr q⟩
theorem bv_one {m : MS} (h : PSV X W pr st m) : PSsV X W pr [st] m := pss_one h
/-- a statement that is never reached -/
def mBad : MS := fun _ => .bad
theorem sv_bad : PSV X W pr st mBad := PSimp ps_never fun D σ H ⟨B, e, sr, q⟩ => q.elim
theorem bv_bad : PSsV X W pr sts mBad := PSsimp pss_never fun D σ H ⟨B, e, sr, q⟩ => q.elim
theorem sv_pass : PSV X W pr (.Pass pos) MS.nop := PSimp ps_pass fun D σ H ⟨B, e, sr, q⟩ => q B H σ (Go.refl sr) Kp.refl
def mBrk : MS := fun e => .bk e
def mCnt : MS := fun e => .ct e
theorem sv_break : PSV X W pr (.Break pos) mBrk := PSimp ps_break fun D σ H ⟨B, e, sr, q⟩ => q B H σ (Go.refl sr) Kp.refl
theorem sv_continue : PSV X W pr (.Continue pos) mCnt := PSimp ps_continue fun D σ H ⟨B, e, sr, q⟩ => q B H σ (Go.refl sr) Kp.refl
/-- an expression alone -/
def mDrp (m : M U) : MS := m.bs fun _ => MS.nop
theorem sv_expr {m : M U} (h : PV X W ex m) (hs : swapsWith ex none pos.line X.env = pure false := by rfl) : PSV X W pr (.Expr ex pos) (mDrp m) :=
  PSimp (ps_expr h hs) fun D σ H ⟨B, e, sr, q⟩ => ⟨B, e, sr, (sAt.bs q).mono fun x H1 ⟨B1, e1, u, g1, r1, q1⟩ => q1 B1 H1 σ (Go.refl g1.sr) Kp.refl⟩
/-- return -/
def mRet (m : M (Bool × U)) : MS := m.bs fun r e => .rt r.1 r.2 e
theorem sv_ret {m : M (Bool × U)} (h : PO X W ex m) : PSV X W pr (.Return (some ex) pos) (mRet m) := by
  refine PSimp (ps_ret h) fun D σ H ⟨B, e, sr, q⟩ => ⟨B, e, sr, ?_⟩
  unfold mRet sAt M.bs at q
  unfold tAt
  cases z : m e with
  | ok a e' =>
    rw [z] at q
    exact fun b B' H' g r => q b B' H' σ g Kp.refl r
  | exc c u e' =>
    rw [z] at q
    exact fun cls d B' H' g x => q cls d B' H' σ g Kp.refl x
  | bad => rw [z] at q; exact q
def mRetN : MS := fun e => .rt false .non e
theorem sv_retN : PSV X W pr (.Return none pos) mRetN := PSimp ps_retN fun D σ H ⟨B, e, sr, q⟩ => q .non B H σ (Go.refl sr) Kp.refl (show rep (ga X) B .non .non by simp only [rep])
/-- return of a name: what is ours goes out -/
def mRetV (i : Nat) : MS := fun e => match e[i]? with
  | some (some (false, u)) => .rt false u e
  | some (some (true, u)) => .rt true u (e.set i none)
  | _ => .bad
theorem own_set_none {e : En} {σ : St} {i : Nat} {a : Addr} (h : own (e.set i none) σ a) : own e σ a ∧ ∀ u, e[i]? = some (some (true, u)) → True := by
  obtain ⟨j, w, h1, h2⟩ := h
  rw [List.getElem?_set] at h1
  split at h1
  · split at h1 <;> cases h1
  · exact ⟨⟨j, w, h1, h2⟩, fun _ _ => trivial⟩
theorem Go.drop {Γ : Ga} {B H : Hp} {e : En} {σ : St} {i : Nat} (s : SR Γ B H e σ) : Go Γ B H e σ B H (e.set i none) σ := by
  have old : ∀ (j : Nat) (x : Bool × U), (e.set i none)[j]? = some (some x) → e[j]? = some (some x) := fun j x hj => by
    rw [List.getElem?_set] at hj
    split at hj
    · split at hj <;> cases hj
    · exact hj
  exact ⟨⟨Same.refl _, fun _ _ h _ => h, fun _ _ _ _ h => h⟩, ⟨s.bh, by simp [s.ln], fun j w hj => s.vl j w (old j _ hj), fun j w hj => s.ow j w (old j _ hj), fun j k w x a hj hk => s.ds j k w x a (old j _ hj) (old k _ hk)⟩, fun a ⟨j, w, h1, h2⟩ => .inl ⟨j, w, old j _ h1, h2⟩⟩
theorem sv_retV {i : Nat} {x : Str} {p : Pos} (hN : X.N[i]? = some x) (hv : Vis X.env.scope x) (hd : (x == ("__debug__" : Str)) = false := by decide) (hcd : (x == ("__classdict__" : Str)) = false := by decide) : PSV X W pr (.Return (some (.Name x p)) pos) (mRetV i) := by
  refine PSimp (ps_ret (pe_var hN hv hd hcd)) fun D σ H ⟨B, e, sr, q⟩ => ?_
  unfold sAt mRetV at q
  cases z : e[i]? with
  | none => rw [z] at q; exact q.elim
  | some r =>
    rw [z] at q
    cases r with
    | none => exact q.elim
    | some r =>
      obtain ⟨o, u⟩ := r
      cases o with
      | false =>
        obtain ⟨v, h1, h2⟩ := sr.vl i u z
        exact ⟨v, h1, q v B H σ (Go.refl sr) Kp.refl h2⟩
      | true =>
        obtain ⟨a, ho, h1, h2, h3, h4⟩ := sr.ow i u z
        refine ⟨_, h1, q _ B H σ (Go.drop sr) Kp.refl ⟨a, ho, rfl, h2, h3, h4, fun w => ?_, .inl ⟨i, u, z, h1⟩⟩⟩
        obtain ⟨j, w, k1, k2⟩ := w
        rw [List.getElem?_set] at k1
        split at k1
        · split at k1 <;> cases k1
        · rename_i n
          exact n (sr.ds i j u w a z k1 h1 k2)
/-- name = e -/
def sSet (i : Nat) (r : Bool × U) : MS := fun e => .nx (e.set i (some r))
def mAsg (i : Nat) (m : M (Bool × U)) : MS := m.bs fun r => sSet i r
theorem set_core {i : Nat} {te : TE} {m : M (Bool × U)} (hp : pr i = false) (h : ∀ σ H Q, tG (ga X) W (rlO (ga X)) m σ H Q → te σ H Q) (D : Ends) (σ : St) (H : Hp) (q : sG (ga X) W pr (mAsg i m) D σ H) : tAsg te (gName i) D σ H := by
  obtain ⟨B, e, sr, q⟩ := q
  refine h σ H _ ⟨B, e, sr, ?_⟩
  unfold sAt mAsg M.bs sSet at q
  unfold tAt
  cases z : m e with
  | ok a e' =>
    rw [z] at q
    exact fun b B' H' g r => q B' H' _ (Go.store g.sr r g fun _ h => h) (Kp.set hp)
  | exc c u e' =>
    rw [z] at q
    exact fun cls d B' H' g x => q cls d B' H' σ g Kp.refl x
  | bad => rw [z] at q; exact q
theorem sv_set {i : Nat} {x : Str} {p : Pos} {m : M (Bool × U)} (hN : X.N.Nodup) (hi : X.N[i]? = some x) (hx : Loc X.env.scope x) (hp : pr i = false) (h : PO X W ex m) (hs : swapsWith ex (some (.Name x p)) pos.line X.env = pure false := by rfl)
    (hf : X.fn x = true ∨ X.env.scope.names.lookup x = some .local := by first | exact .inl rfl | exact .inr rfl | assumption) : PSV X W pr (.Assign [.Name x p] ex pos) (mAsg i m) :=
  PSimp (ps_set hN hi hx h hs hf) fun D σ H q => set_core hp (fun _ _ _ h => h) D σ H q
/-- if -/
def mIf (c : M Bool) (a b : MS) : MS := c.bs fun k => if k then a else b
theorem sv_if {c : Expr} {p q : List Stmt} {mc : M Bool} {ma mb : MS} (hc : PTB X W c mc) (ha : PSsV X W pr p ma) (hb : PSsV X W pr q mb) : PSV X W pr (.If c p q pos) (mIf mc ma mb) := by
  refine PSimp (ps_if hc ha hb) fun D σ H ⟨B, e, sr, q⟩ => ⟨B, e, sr, (sAt.bs q).mono fun k H1 ⟨B1, e1, k', g1, r1, q1⟩ => ?_⟩
  have r1' : k' = k := r1
  subst r1'
  cases k' with
  | true => exact ⟨B1, e1, g1.sr, q1⟩
  | false => exact ⟨B1, e1, g1.sr, q1⟩
end
end VS
set_option Elab.async false
set_option linter.all false
set_option maxRecDepth 100000
/-! VS7: targets, what is walked, for, while, comprehensions. -/
namespace VS
open PySem L2

/-! ### targets -/
abbrev MT := U → En → Option En
def gG (Γ : Ga) (pr : Nat → Bool) (t : MT) : TG := fun v σ H Q => ∃ B e u, SR Γ B H e σ ∧ rep Γ B u v ∧ match t u e with
  | some e' => ∀ B' H' σ', Go Γ B H e σ B' H' e' σ' → Kp pr σ σ' → Q σ' H'
  | none => False
abbrev PGV (X : Cx) (pr : Nat → Bool) (tg : Expr) (t : MT) : Prop := PG X tg (gG (ga X) pr t)
def tgN (i : Nat) : MT := fun u e => some (e.set i (some (false, u)))
abbrev MTs := List U → En → Option En
def tgs0 : MTs := fun us e => match us with
  | [] => some e
  | _ => none
def tgsC (t : MT) (r : MTs) : MTs := fun us e => match us with
  | u :: us => match t u e with
    | some e' => r us e'
    | none => none
  | [] => none
def tgT (n : Nat) (r : MTs) : MT := fun u e => match u with
  | .tup us => if us.length = n then r us e else none
  | _ => none
def gGs (Γ : Ga) (pr : Nat → Bool) (t : MTs) : TGs := fun vs σ H Q => ∃ B e us, SR Γ B H e σ ∧ reps Γ B us vs ∧ match t us e with
  | some e' => ∀ B' H' σ', Go Γ B H e σ B' H' e' σ' → Kp pr σ σ' → Q σ' H'
  | none => False
abbrev PGsV (X : Cx) (pr : Nat → Bool) (tgs : List Expr) (t : MTs) : Prop := PGs X tgs (gGs (ga X) pr t)
section
variable {X : Cx} {pr : Nat → Bool} {tg ex : Expr} {es : List Expr} {pos : Pos}
theorem PGimp {t t' : TG} (h : PG X tg t) (k : ∀ v σ H Q, t' v σ H Q → t v σ H Q) : PG X tg t' := ⟨fun pins s σ H v u Q I r q => h.run pins s σ H v u Q I r (k v σ H Q q)⟩
theorem PGsimp {t t' : TGs} (h : PGs X es t) (k : ∀ v σ H Q, t' v σ H Q → t v σ H Q) : PGs X es t' := ⟨fun pins s σ H v u Q I r q => h.run pins s σ H v u Q I r (k v σ H Q q)⟩
theorem tgN_ok {Γ : Ga} {B H : Hp} {e : En} {σ : St} {u : U} {v : V} {i : Nat} (sr : SR Γ B H e σ) (r : rep Γ B u v) : Go Γ B H e σ B H (e.set i (some (false, u))) (σ.set i (some v)) :=
  Go.store (S := may H e σ) sr (r := (false, u)) r (Go.refl sr) fun _ h => h
theorem gv_name {i : Nat} {x : Str} (hN : X.N.Nodup) (hi : X.N[i]? = some x) (hx : Loc X.env.scope x) (hp : pr i = false) (hf : X.fn x = true ∨ X.env.scope.names.lookup x = some .local := by first | exact .inl rfl | exact .inr rfl | assumption) : PGV X pr (.Name x pos) (tgN i) :=
  PGimp (pg_name hN hi hx hf) fun v σ H Q ⟨B, e, u, sr, r, q⟩ => q B H _ (tgN_ok sr r) (Kp.set hp)
theorem gvs_nil : PGsV X pr [] tgs0 := PGsimp pgs_nil fun vs σ H Q ⟨B, e, us, sr, r, q⟩ => by
  cases us with
  | nil =>
    simp only [reps] at r
    exact ⟨r, q B H σ (Go.refl sr) Kp.refl⟩
  | cons u us => exact q.elim
theorem gvs_cons {t : MT} {r : MTs} (h1 : PGV X pr tg t) (h2 : PGsV X pr es r) (hs : (assignEach (tg :: es) X.env).map (·.2) = assign tg X.env :: (assignEach es X.env).map (·.2) := by rfl) : PGsV X pr (tg :: es) (tgsC t r) :=
  PGsimp (pgs_cons h1 h2 hs) fun vs σ H Q ⟨B, e, us, sr, rr, q⟩ => by
    cases us with
    | nil => exact q.elim
    | cons u us =>
      simp only [reps] at rr
      obtain ⟨v, ws, rfl, r1, r2⟩ := rr
      refine ⟨v, ws, rfl, B, e, u, sr, r1, ?_⟩
      unfold tgsC at q
      dsimp only at q
      cases h : t u e with
      | none => rw [h] at q; exact q.elim
      | some e' =>
        rw [h] at q
        dsimp only at q ⊢
        intro B' H' σ' g kp
        refine ⟨B', e', us, g.sr, r2.mono g.st.bb, ?_⟩
        cases h' : r us e' with
        | none => rw [h'] at q; exact q.elim
        | some e2 =>
          rw [h'] at q
          exact fun B2 H2 σ2 g2 k2 => q B2 H2 σ2 (g.trans g2) (kp.trans k2)
theorem gv_tup {k n : Nat} {t : MTs} (hc : X.calm = true) (h : PGsV X pr es t) (hn : (assignEach es X.env).length = n := by rfl) (hst : (assignEach es X.env).findIdx? (·.1) = none := by rfl) : PGV X pr (.Tuple es k pos) (tgT n t) :=
  PGimp (pg_tup hc h hn hst) fun v σ H Q ⟨B, e, u, sr, r, q⟩ => by
    cases u with
    | tup us =>
      obtain ⟨a, vs, rfl, h1, r1⟩ := Vw.tup sr.bh (.inl r)
      unfold tgT at q
      dsimp only at q
      split at q
      · rename_i e' hq
        split at hq
        · rename_i hl
          refine ⟨a, vs, rfl, h1, by rw [← r1.length]; exact hl, B, e, us, sr, r1, ?_⟩
          rw [hq]
          exact q
        · cases hq
      · exact q.elim
    | _ => exact False.elim q
/-- target = e, the value stays -/
def mUnp (t : MT) (m : M U) : MS := m.bs fun u e => match t u e with
  | some e' => .nx e'
  | none => .bad
theorem sv_unp {W : WXX} {t : MT} {m : M U} (h : PV X W ex m) (hg : PGV X pr tg t) (hs : swapsWithSole [tg] ex pos.line X.env = pure false := by rfl) (hw : swappedStores [tg] ex X.env = pure none := by rfl)
    (h1 : (assignEach [tg] X.env).map (·.2) = [assign tg X.env] := by rfl) : PSV X W pr (.Assign [tg] ex pos) (mUnp t m) := by
  refine PSimp (ps_asg h hg hs hw h1) fun D σ H ⟨B, e, sr, q⟩ => ⟨B, e, sr, (sAt.bs q).mono fun x H1 ⟨B1, e1, u, g1, r1, q1⟩ => ?_⟩
  refine ⟨B1, e1, u, g1.sr, r1, ?_⟩
  unfold sAt at q1
  dsimp only at q1
  cases h : t u e1 with
  | none => rw [h] at q1; exact q1.elim
  | some e' =>
    rw [h] at q1
    exact fun B' H' σ' g kp => q1 B' H' σ' g kp
end

/-! ### what is walked -/
/-- at most one new object that stays -/
def Lit (B H B' H' : Hp) : Prop := (B' = B ∧ H' = H) ∨ ∃ p o, H p = none ∧ B' = upd B p o ∧ H' = upd H p o
theorem Lit.go {Γ : Ga} {B H B' H' : Hp} {e : En} {σ : St} (s : SR Γ B H e σ) (l : Lit B H B' H') : Go Γ B H e σ B' H' e σ := by
  rcases l with ⟨rfl, rfl⟩ | ⟨p, o, h, rfl, rfl⟩
  · exact Go.refl s
  · exact Go.allocB s h
/-- the slot's list is as it was -/
def gOK (g : Option Nat) (items : List U) (e : En) : Prop := match g with
  | none => True
  | some i => e[i]? = some (some (true, .lst items))
def gP (Γ : Ga) (g : Option Nat) (items : List U) (σ : St) (B H : Hp) : Prop := match g with
  | none => True
  | some i => ∃ a ws, σ[i]? = some (some (.ref a)) ∧ H a = some (.lst ws) ∧ reps Γ B items ws
theorem gOK.p {Γ : Ga} {g : Option Nat} {items : List U} {e : En} {σ σ0 : St} {B H : Hp} (h : gOK g items e) (s : SR Γ B H e σ) (k : ∀ i, g = some i → σ[i]? = σ0[i]?) : gP Γ g items σ0 B H := by
  cases g with
  | none => trivial
  | some i =>
    obtain ⟨a, ho, h1, h2, ⟨ws, e1, r⟩, _⟩ := s.ow i _ h
    subst e1
    exact ⟨a, ws, by rw [← k i rfl]; exact h1, h2, r⟩
/-- the source J yields the items; src: what they are walked off, mk k: the k-th item of it -/
structure ItOK (Γ : Ga) (J : It) (items : List U) (src : List U) (g : Option Nat) (σ : St) (B0 : Hp) : Prop where
  go : ∀ (B H : Hp) (k : Nat) (u : U), Same B0 B → Same B H → gP Γ g src σ B H → items[k]? = some u → J.go k H ∧ ∀ x H', J.yld k H x H' → ∃ B', Lit B H B' H' ∧ rep Γ B' u x
  stop : ∀ (B H : Hp), Same B0 B → Same B H → gP Γ g src σ B H → J.stop items.length H
/-- the items, what they are walked off, the slot that holds it -/
structure Src where
  items : List U
  src : List U
  g : Option Nat
def iG (Γ : Ga) (W : WXX) (m : M Src) : TI := fun σ H R => ∃ B e, SR Γ B H e σ ∧ match m e with
  | .ok s e' => ∀ J B' H', Go Γ B H e σ B' H' e' σ → ItOK Γ J s.items s.src s.g σ B' → gOK s.g s.src e' → R J H'
  | .exc c u e' => ∀ cls d B' H', Go Γ B H e σ B' H' e' σ → exrep Γ B' H' c u cls d → W cls d σ H'
  | .bad => False
abbrev PIV (X : Cx) (W : WXX) (tg iter : Expr) (m : M Src) : Prop := PI X tg iter (iG (ga X) W m)
section
variable {X : Cx} {W : WXX} {tg ex : Expr} {pos : Pos}
theorem PIimp {t t' : TI} (h : PI X tg ex t) (k : ∀ σ H R, t' σ H R → t σ H R) : PI X tg ex t' := ⟨fun pins s σ H R I q => h.run pins s σ H R I (k σ H R q)⟩
theorem iG.of {β : Type} {α : Type} {rl : Rl α β} {m : M α} {k : α → M Src} {σ : St} {H : Hp} {R : It → Hp → Prop} (h : iG (ga X) W (m.bd k) σ H R) :
    tG (ga X) W rl m σ H fun b H1 => ∃ B1 e1 a, SR (ga X) B1 H1 e1 σ ∧ rl.r a b (fun _ => True) B1 H1 e1 σ ∧ match k a e1 with
      | .ok s e' => ∀ J B' H', Go (ga X) B1 H1 e1 σ B' H' e' σ → ItOK (ga X) J s.items s.src s.g σ B' → gOK s.g s.src e' → R J H'
      | .exc c u e' => ∀ cls d B' H', Go (ga X) B1 H1 e1 σ B' H' e' σ → exrep (ga X) B' H' c u cls d → W cls d σ H'
      | .bad => False := by
  obtain ⟨B, e, sr, q⟩ := h
  refine ⟨B, e, sr, ?_⟩
  unfold M.bd at q
  unfold tAt
  cases z : m e with
  | bad => rw [z] at q; exact q
  | exc c u e' => rw [z] at q; exact q
  | ok a e' =>
    rw [z] at q
    dsimp only at q ⊢
    intro b B' H' g r
    refine ⟨B', e', a, g.sr, rl.mono (fun _ _ => trivial) r, ?_⟩
    cases z2 : k a e' with
    | bad => rw [z2] at q; exact q
    | exc c u e2 => rw [z2] at q; exact fun cls d B2 H2 g2 x => q cls d B2 H2 (g.trans g2) x
    | ok s e2 => rw [z2] at q; exact fun J B2 H2 g2 i x => q J B2 H2 (g.trans g2) i x
/-- a list, a tuple that stay -/
def srcV (u : U) : M Src := match u with
  | .lst us => .ret ⟨us, [], none⟩
  | .scr ns => .ret ⟨ns.map .int, [], none⟩
  | _ => fun _ => .bad
def mIt (m : M U) : M Src := m.bd srcV
theorem itl_ok {Γ : Ga} {B0 : Hp} {σ : St} {a : Addr} {us src : List U} {vs : List V} {K : PySem.W.Frag} (hK : Γ.K = K) (h : SqL K B0 a vs) (r : reps Γ B0 us vs) (inj : ∀ (B H : Hp) ws, Same B0 B → Same B H → SqL K H a ws → ws = vs) : ItOK Γ (Itl K a) us src none σ B0 := by
  refine ⟨fun B H k u s1 s2 _ hk => ?_, fun B H s1 s2 _ => ⟨vs, sqL_same (s1.trans s2) h, by rw [r.length]; exact Nat.le_refl _⟩⟩
  obtain ⟨v, hv, rv⟩ := r.get hk
  exact ⟨⟨vs, v, sqL_same (s1.trans s2) h, hv⟩, fun x H' ⟨e, q⟩ => ⟨B, .inl ⟨rfl, e⟩, by
    have := q vs (sqL_same (s1.trans s2) h)
    rw [hv] at this
    cases this
    exact rv.mono s1⟩⟩
theorem iv_list {m : M U} (h : PV X W ex m) : PIV X W tg ex (mIt m) := by
  refine PIimp (pi_list h) fun σ H R q => ?_
  obtain ⟨B, e, sr, q⟩ := iG.of (rl := rlV (ga X)) q
  refine ⟨B, e, sr, q.mono fun x H1 ⟨B1, e1, u, s1, r1, q1⟩ => ?_⟩
  cases u with
  | lst us =>
    have r1' : rep (ga X) B1 (.lst us) x := r1
    simp only [rep] at r1'
    obtain ⟨a, vs, rfl, h1, rr⟩ := r1'
    refine ⟨a, rfl, ⟨vs, SqL.of (s1.bh _ _ h1)⟩, q1 _ B1 H1 (Go.refl s1) ?_ trivial⟩
    refine ⟨fun B H k u s1 s2 _ hk => ?_, fun B H s1 s2 _ => ⟨vs, SqL.of (s2 _ _ (s1 _ _ h1)), by rw [rr.length]; exact Nat.le_refl _⟩⟩
    obtain ⟨v, hv, rv⟩ := rr.get hk
    exact ⟨⟨vs, v, SqL.of (s2 _ _ (s1 _ _ h1)), hv⟩, fun x H' ⟨e, q⟩ => ⟨B, .inl ⟨rfl, e⟩, by
      have := q vs (SqL.of (s2 _ _ (s1 _ _ h1)))
      rw [hv] at this
      cases this
      exact rv.mono s1⟩⟩
  | scr ns =>
    have r1' : rep (ga X) B1 (.scr ns) x := r1
    simp only [rep] at r1'
    obtain ⟨a, rfl, h1⟩ := r1'
    refine ⟨a, rfl, ⟨_, sqL_same s1.bh h1⟩, q1 _ B1 H1 (Go.refl s1) ?_ trivial⟩
    refine ⟨fun B H k u s1 s2 _ hk => ?_, fun B H s1 s2 _ => ⟨_, sqL_same (s1.trans s2) h1, by simp⟩⟩
    obtain ⟨n, hn, rfl⟩ : ∃ n, ns[k]? = some n ∧ u = .int n := by
      rw [List.getElem?_map] at hk
      cases z : ns[k]? with
      | none => rw [z] at hk; cases hk
      | some n => rw [z] at hk; cases hk; exact ⟨n, rfl, rfl⟩
    have hv : (ns.map V.int)[k]? = some (.int n) := by rw [List.getElem?_map, hn]; rfl
    exact ⟨⟨_, _, sqL_same (s1.trans s2) h1, hv⟩, fun x H' ⟨e, q⟩ => ⟨B, .inl ⟨rfl, e⟩, by
      have := q _ (sqL_same (s1.trans s2) h1)
      rw [hv] at this
      cases this
      exact rep_int _⟩⟩
  | _ => exact False.elim q1
def srcT (u : U) : M Src := match u with
  | .tup us => .ret ⟨us, [], none⟩
  | _ => fun _ => .bad
def mItT (m : M U) : M Src := m.bd srcT
theorem iv_tup {m : M U} (h : PV X W ex m) : PIV X W tg ex (mItT m) := by
  refine PIimp (pi_tup h) fun σ H R q => ?_
  obtain ⟨B, e, sr, q⟩ := iG.of (rl := rlV (ga X)) q
  refine ⟨B, e, sr, q.mono fun x H1 ⟨B1, e1, u, s1, r1, q1⟩ => ?_⟩
  cases u with
  | tup us =>
    have r1' : rep (ga X) B1 (.tup us) x := r1
    simp only [rep] at r1'
    obtain ⟨a, vs, rfl, h1, rr⟩ := r1'
    refine ⟨a, rfl, ⟨vs, sqT_same s1.bh h1⟩, q1 _ B1 H1 (Go.refl s1) ?_ trivial⟩
    refine ⟨fun B H k u s1 s2 _ hk => ?_, fun B H s1 s2 _ => ⟨vs, sqT_same (s1.trans s2) h1, by rw [rr.length]; exact Nat.le_refl _⟩⟩
    obtain ⟨v, hv, rv⟩ := rr.get hk
    exact ⟨⟨vs, v, sqT_same (s1.trans s2) h1, hv⟩, fun x H' ⟨e, q⟩ => ⟨B, .inl ⟨rfl, e⟩, by
      have := q vs (sqT_same (s1.trans s2) h1)
      rw [hv] at this
      cases this
      exact rv.mono s1⟩⟩
  | _ => exact False.elim q1
/-- a list of our own at a name -/
def mItN (i : Nat) : M Src := fun e => match e[i]? with
  | some (some (true, .lst us)) => .ok ⟨us, us, some i⟩ e
  | some (some (false, .lst us)) => .ok ⟨us, [], none⟩ e
  | some (some (false, .scr ns)) => .ok ⟨ns.map .int, [], none⟩ e
  | _ => .bad
/-- range -/
def irange (lo : Int) (n : Nat) : List U := (List.range n).map fun i => .int (lo + (i : Nat))
noncomputable def lim62 (i : Int) : Bool := cdec (-(2 ^ 62) ≤ i) && cdec (i < 2 ^ 62)
noncomputable def mRg1 (m : M U) : M Src := m.bd fun u => match u with
  | .int j => if lim62 j then .ret ⟨irange 0 j.toNat, [], none⟩ else fun _ => .bad
  | _ => fun _ => .bad
noncomputable def mRg2 (m m2 : M U) : M Src := m.bd fun u => m2.bd fun w => match u, w with
  | .int i, .int j => if lim62 i && lim62 j then .ret ⟨irange i (j - i).toNat, [], none⟩ else fun _ => .bad
  | _, _ => fun _ => .bad
theorem itr_ok {Γ : Ga} {B0 : Hp} {σ : St} {lo : Int} {n : Nat} : ItOK Γ (Itr lo n) (irange lo n) [] none σ B0 := by
  refine ⟨fun B H k u s1 s2 _ hk => ?_, fun B H s1 s2 _ => by show n ≤ _; simp [irange]⟩
  unfold irange at hk
  rw [List.getElem?_map] at hk
  by_cases hl : k < n
  · rw [List.getElem?_range hl] at hk
    cases hk
    exact ⟨hl, fun x H' ⟨e, q⟩ => ⟨B, .inl ⟨rfl, e⟩, by rw [q]; simp only [rep]⟩⟩
  · rw [List.getElem?_eq_none (by simp; omega)] at hk
    cases hk
theorem iv_range1 {m : M U} {p : Pos} (hg : Gl X "range") (hm : X.mg "range" = none) (h : PV X W ex m) (hs : starEach [ex] X.env = [(false, eval ex X.env)] := by rfl) : PIV X W tg (.Call (.Name "range" p) [ex] [] pos) (mRg1 m) := by
  refine PIimp (pi_range1 hg hm (pa_cons h pa_nil (by rw [hs]; rfl)) hs) fun σ H R q => ?_
  obtain ⟨B, e, sr, q⟩ := iG.of (rl := rlV (ga X)) q
  refine ⟨B, e, sr, q.mono fun x H1 ⟨B1, e1, u, s1, r1, q1⟩ => ?_⟩
  cases u with
  | int j =>
    have r1' : rep (ga X) B1 (.int j) x := r1
    simp only [rep] at r1'
    subst r1'
    dsimp only at q1
    split at q1
    · rename_i s e' hz
      split at hz
      · rename_i hl
        unfold lim62 at hl
        simp only [Bool.and_eq_true, decide_eq_true_eq, cdec_iff] at hl
        injection hz with h1 h2
        subst h1 h2
        exact ⟨j, rfl, hl.1, hl.2, q1 _ B1 H1 (Go.refl s1) itr_ok trivial⟩
      · cases hz
    · rename_i hz
      split at hz <;> cases hz
    · exact q1.elim
  | _ => exact False.elim q1
end
end VS
set_option Elab.async false
set_option linter.all false
set_option maxRecDepth 100000
/-! VS8: for, while, list comprehensions. -/
namespace VS
open PySem L2

theorem rsP.sub {Γ : Ga} {W : WXX} {pr pr' : Nat → Bool} {B H : Hp} {e : En} {σ : St} {D : Ends} (h : ∀ i, pr i = true → pr' i = true) : ∀ {r : RS}, rsP Γ W pr B H e σ D r → rsP Γ W pr' B H e σ D r
  | .nx e', q => fun B' H' σ' g k => q B' H' σ' g (k.sub h)
  | .bk e', q => fun B' H' σ' g k => q B' H' σ' g (k.sub h)
  | .ct e', q => fun B' H' σ' g k => q B' H' σ' g (k.sub h)
  | .rt o u e', q => fun v B' H' σ' g k => q v B' H' σ' g (k.sub h)
  | .exc c u e', q => fun cls d B' H' σ' g k => q cls d B' H' σ' g (k.sub h)
  | .bad, q => q

open Classical in
noncomputable def forL (t : MT) (b : MS) (g : Option Nat) (src : List U) : List U → MS
  | [] => fun e => .nx e
  | u :: us => fun e => match t u e with
    | some e1 => match b e1 with
      | .nx e2 => if gOK g src e2 then forL t b g src us e2 else .bad
      | .ct e2 => if gOK g src e2 then forL t b g src us e2 else .bad
      | .bk e2 => .nx e2
      | .rt o u e2 => .rt o u e2
      | .exc c u e2 => .exc c u e2
      | .bad => .bad
    | none => .bad
noncomputable def mFor (m : M Src) (t : MT) (b : MS) : MS := m.bs fun s => forL t b s.g s.src s.items
def SrcIn (pr : Nat → Bool) (m : M Src) : Prop := ∀ e s e', m e = .ok s e' → ∀ i, s.g = some i → pr i = true
section
variable {X : Cx} {W : WXX} {pr pr' : Nat → Bool} {tg iter c : Expr} {body : List Stmt} {pos : Pos}
theorem sv_for {m : M Src} {t : MT} {b : MS} (hp : PassesOwn (model X.prog X.w) X.A X.env X.xe) (hc : X.calm = true) (hi : PIV X W tg iter m) (hs' : SrcIn pr' m) (hpr : ∀ i, pr i = true → pr' i = true) (hg : PGV X pr' tg t) (hb : PSsV X W pr' body b)
    (hs : ∀ x, foldedSetIterable iter X.env x = pure x := by intro _; rfl) : PSV X W pr (.For tg iter body [] pos) (mFor m t b) := by
  refine PSimp (ps_for hp hc hi hg hb hs) fun D σ H ⟨B, e, sr, q⟩ => ⟨B, e, sr, ?_⟩
  unfold sAt mFor M.bs at q
  cases z : m e with
  | bad => rw [z] at q; exact q
  | exc c u e' => rw [z] at q; exact fun cls d B' H' g x => q cls d B' H' σ g Kp.refl x
  | ok s e1 =>
    rw [z] at q
    dsimp only at q ⊢
    intro J B1 H1 g1 io g0
    have pi := hs' e s e1 z
    refine ⟨fun k m σ' H' => m = s.items.length - k ∧ k ≤ s.items.length ∧ ∃ B' e', Go (ga X) B H e σ B' H' e' σ' ∧ Same B1 B' ∧ Kp pr' σ σ' ∧ gOK s.g s.src e' ∧ rsP (ga X) W pr' B H e σ D (forL t b s.g s.src (s.items.drop k) e'),
      ⟨_, rfl, Nat.zero_le _, B1, e1, g1, Same.refl _, Kp.refl, g0, rsP.sub hpr (by simpa using q)⟩, ?_⟩
    rintro k m σ' H' ⟨rfl, hk, B', e', g', sb, kp, go, r⟩
    have gp := go.p g'.sr fun i hi => kp.2 i (pi i hi)
    by_cases hlt : k < s.items.length
    · refine .inr ?_
      have hu : s.items[k]? = some s.items[k] := by simp [hlt]
      obtain ⟨j1, j2⟩ := io.go B' H' k _ sb g'.sr.bh gp hu
      rw [List.drop_eq_getElem_cons hlt] at r
      unfold forL at r
      refine ⟨j1, fun σ2 H2 => ∃ B2 e2, Go (ga X) B H e σ B2 H2 e2 σ2 ∧ Same B1 B2 ∧ Kp pr' σ σ2 ∧ gOK s.g s.src e2 ∧ rsP (ga X) W pr' B H e σ D (forL t b s.g s.src (s.items.drop (k + 1)) e2),
        fun σ2 H2 ⟨B2, e2, h1, h2, h3, h4, h5⟩ => ⟨s.items.length - (k + 1), by omega, rfl, hlt, B2, e2, h1, h2, h3, h4, h5⟩, fun x H'' y => ?_⟩
      obtain ⟨B'', lt, rx⟩ := j2 x H'' y
      have g'' := g'.trans (lt.go g'.sr)
      refine ⟨B'', e', _, g''.sr, rx, ?_⟩
      cases h1 : t s.items[k] e' with
      | none => rw [h1] at r; exact r.elim
      | some e2 =>
        rw [h1] at r
        dsimp only at r ⊢
        intro B2 H2 σ2 g2 k2
        refine ⟨B2, e2, g2.sr, ?_⟩
        have G2 := g''.trans g2
        have K2 := kp.trans k2
        have S2 : Same B1 B2 := sb.trans ((lt.go g'.sr).st.bb.trans g2.st.bb)
        unfold sAt
        cases h2 : b e2 with
        | nx e3 =>
          rw [h2] at r
          dsimp only at r
          split at r
          · rename_i hgo
            exact fun B3 H3 σ3 g3 k3 => ⟨B3, e3, G2.trans g3, S2.trans g3.st.bb, K2.trans k3, hgo, r⟩
          · exact r.elim
        | ct e3 =>
          rw [h2] at r
          dsimp only at r
          split at r
          · rename_i hgo
            exact fun B3 H3 σ3 g3 k3 => ⟨B3, e3, G2.trans g3, S2.trans g3.st.bb, K2.trans k3, hgo, r⟩
          · exact r.elim
        | bk e3 => rw [h2] at r; exact fun B3 H3 σ3 g3 k3 => r B3 H3 σ3 (G2.trans g3) (K2.trans k3)
        | rt o u e3 => rw [h2] at r; exact fun v B3 H3 σ3 g3 k3 rr => r v B3 H3 σ3 (G2.trans g3) (K2.trans k3) ((rlO (ga X)).mono G2.may rr)
        | exc c u e3 => rw [h2] at r; exact fun cls d B3 H3 σ3 g3 k3 x => r cls d B3 H3 σ3 (G2.trans g3) (K2.trans k3) x
        | bad => rw [h2] at r; exact r.elim
    · have ek : k = s.items.length := by omega
      subst ek
      refine .inl ⟨io.stop B' H' sb g'.sr.bh gp, ?_⟩
      rw [List.drop_length] at r
      unfold forL at r
      exact r B' H' σ' g' kp

/-! ### while -/
def whlN (c : M Bool) (b : MS) : Nat → En → Option RS
  | 0, _ => none
  | n + 1, e => match c e with
    | .ok false e1 => some (.nx e1)
    | .ok true e1 => match b e1 with
      | .nx e2 => whlN c b n e2
      | .ct e2 => whlN c b n e2
      | .bk e2 => some (.nx e2)
      | .rt o u e2 => some (.rt o u e2)
      | .exc c u e2 => some (.exc c u e2)
      | .bad => some .bad
    | .exc c u e1 => some (.exc c u e1)
    | .bad => some .bad
theorem whlN_mono {c : M Bool} {b : MS} : ∀ {n : Nat} {e : En} {r : RS}, whlN c b n e = some r → whlN c b (n + 1) e = some r
  | 0, _, _, h => by cases h
  | n + 1, e, r, h => by
    unfold whlN at h ⊢
    cases z : c e with
    | bad => rw [z] at h; exact h
    | exc c u e1 => rw [z] at h; exact h
    | ok k e1 =>
      rw [z] at h
      cases k with
      | false => exact h
      | true =>
        dsimp only at h ⊢
        cases y : b e1 with
        | nx e2 => rw [y] at h; exact whlN_mono h
        | ct e2 => rw [y] at h; exact whlN_mono h
        | bk e2 => rw [y] at h; exact h
        | rt o u e2 => rw [y] at h; exact h
        | exc c u e2 => rw [y] at h; exact h
        | bad => rw [y] at h; exact h
theorem whlN_le {c : M Bool} {b : MS} {e : En} {r : RS} {n m : Nat} (h : whlN c b n e = some r) (k : n ≤ m) : whlN c b m e = some r := by
  induction k with
  | refl => exact h
  | step _ ih => exact whlN_mono ih
open Classical in
noncomputable def mWhl (c : M Bool) (b : MS) : MS := fun e => if h : ∃ n r, whlN c b n e = some r then h.choose_spec.choose else .bad
theorem mWhl_eq {c : M Bool} {b : MS} {e : En} {r : RS} {n : Nat} (h : whlN c b n e = some r) : mWhl c b e = r := by
  have ex : ∃ n r, whlN c b n e = some r := ⟨n, r, h⟩
  unfold mWhl
  rw [dif_pos ex]
  have h2 := ex.choose_spec.choose_spec
  have a := whlN_le h (Nat.le_max_left n ex.choose)
  have b := whlN_le h2 (Nat.le_max_right n ex.choose)
  rw [a] at b
  exact (Option.some.inj b).symm
theorem sv_while {mc : M Bool} {b : MS} (hp : PassesOwn (model X.prog X.w) X.A X.env X.xe) (hc : PTB X W c mc) (hb : PSsV X W pr body b) : PSV X W pr (.While c body [] pos) (mWhl mc b) := by
  refine PSimp (ps_while hp hc hb) fun D σ H ⟨B, e, sr, q⟩ => ?_
  unfold sAt mWhl at q
  split at q
  · rename_i h
    have h2 := h.choose_spec.choose_spec
    revert q h2
    generalize h.choose_spec.choose = r
    generalize h.choose = n
    intro q h2
    refine ⟨fun n σ' H' => ∃ B' e', Go (ga X) B H e σ B' H' e' σ' ∧ Kp pr σ σ' ∧ whlN mc b n e' = some r, ⟨n, B, e, Go.refl sr, Kp.refl, h2⟩, ?_⟩
    rintro n σ' H' ⟨B', e', g', kp, hn⟩
    cases n with
    | zero => cases hn
    | succ n =>
      refine ⟨B', e', g'.sr, ?_⟩
      unfold whlN at hn
      unfold tAt
      cases z : mc e' with
      | bad => rw [z] at hn; cases hn; exact q
      | exc c u e1 => rw [z] at hn; cases hn; exact fun cls d B2 H2 g2 x => q cls d B2 H2 σ' (g'.trans g2) kp x
      | ok k e1 =>
        rw [z] at hn
        dsimp only
        intro k' B2 H2 g2 ek
        have ek : k = k' := ek
        subst ek
        have G2 := g'.trans g2
        cases k with
        | false =>
          dsimp only at hn
          cases hn
          rw [if_neg Bool.false_ne_true]
          exact q B2 H2 σ' G2 kp
        | true =>
          rw [if_pos rfl]
          dsimp only at hn
          refine ⟨fun σ3 H3 => ∃ B3 e3, Go (ga X) B H e σ B3 H3 e3 σ3 ∧ Kp pr σ σ3 ∧ whlN mc b n e3 = some r, fun σ3 H3 h => ⟨n, Nat.lt_succ_self _, h⟩, B2, e1, g2.sr, ?_⟩
          unfold sAt
          cases y : b e1 with
          | nx e3 => rw [y] at hn; exact fun B3 H3 σ3 g3 k3 => ⟨B3, e3, G2.trans g3, kp.trans k3, hn⟩
          | ct e3 => rw [y] at hn; exact fun B3 H3 σ3 g3 k3 => ⟨B3, e3, G2.trans g3, kp.trans k3, hn⟩
          | bk e3 => rw [y] at hn; cases hn; exact fun B3 H3 σ3 g3 k3 => q B3 H3 σ3 (G2.trans g3) (kp.trans k3)
          | rt o u e3 => rw [y] at hn; cases hn; exact fun v B3 H3 σ3 g3 k3 rr => q v B3 H3 σ3 (G2.trans g3) (kp.trans k3) ((rlO (ga X)).mono G2.may rr)
          | exc c u e3 => rw [y] at hn; cases hn; exact fun cls d B3 H3 σ3 g3 k3 x => q cls d B3 H3 σ3 (G2.trans g3) (kp.trans k3) x
          | bad => rw [y] at hn; cases hn; exact q
  · exact q.elim
end
end VS
set_option Elab.async false
set_option linter.all false
set_option maxRecDepth 100000
/-! VS9: list comprehensions; more of what is walked. -/
namespace VS
open PySem L2

/-- the slots of a block's own names -/
def wipeE (e : En) : List Nat → En
  | [] => e
  | v :: vs => (wipeE e vs).set v none
def resE (e0 e : En) : List Nat → En
  | [] => e
  | v :: vs => (resE e0 e vs).set v (match e0[v]? with
    | some (some (false, u)) => some (false, u)
    | _ => none)
theorem wipeE_len (e : En) : ∀ vs, (wipeE e vs).length = e.length
  | [] => rfl
  | v :: vs => by unfold wipeE; rw [List.length_set, wipeE_len e vs]
theorem wipeE_in {e : En} : ∀ {vs : List Nat} {i : Nat} {x : Bool × U}, (wipeE e vs)[i]? = some (some x) → e[i]? = some (some x) ∧ i ∉ vs
  | [], i, x, h => ⟨h, by simp⟩
  | v :: vs, i, x, h => by
    unfold wipeE at h
    rw [List.getElem?_set] at h
    split at h
    · split at h <;> cases h
    · rename_i n
      obtain ⟨h1, h2⟩ := wipeE_in h
      exact ⟨h1, by simp only [List.mem_cons, not_or]; exact ⟨fun z => n z.symm, h2⟩⟩
/-- the block's slots are empty -/
def Emp (e : En) (vs : List Nat) : Prop := ∀ (i : Nat) (x : Bool × U), e[i]? = some (some x) → i ∉ vs
theorem emp_wipe (e : En) (vs : List Nat) : Emp (wipeE e vs) vs := fun _ _ h => (wipeE_in h).2
def Ag (vs : List Nat) (σ σ' : St) : Prop := σ.length = σ'.length ∧ ∀ i : Nat, i ∉ vs → σ[i]? = σ'[i]?
theorem Ag.symm {vs : List Nat} {σ σ' : St} (h : Ag vs σ σ') : Ag vs σ' σ := ⟨h.1.symm, fun i n => (h.2 i n).symm⟩
theorem wipe_out' {σ : St} {i : Nat} : ∀ {vs : List Nat}, i ∉ vs → (wipe σ vs)[i]? = σ[i]?
  | [], _ => rfl
  | v :: vs, h => by
    unfold wipe
    simp only [List.mem_cons, not_or] at h
    rw [List.getElem?_set_ne (Ne.symm h.1), wipe_out' h.2]
theorem ag_wipe (σ : St) (vs : List Nat) : Ag vs σ (wipe σ vs) := ⟨(wipe_length σ vs).symm, fun i h => (wipe_out' h).symm⟩
theorem wipe_ag {σ σ' : St} {vs : List Nat} (h : Ag vs σ σ') : wipe σ vs = wipe σ' vs := by
  apply List.ext_getElem?
  intro i
  have nn : ∀ (τ : St) (ws : List Nat), i ∈ ws → (wipe τ ws)[i]? = if i < τ.length then some none else none := fun τ ws => by
    induction ws with
    | nil => intro h; cases h
    | cons v ws ih =>
      intro h
      unfold wipe
      rw [List.getElem?_set]
      by_cases z : v = i
      · subst z
        simp [wipe_length]
      · simp only [z, if_false]
        rcases List.mem_cons.mp h with w | w
        · exact absurd w.symm z
        · exact ih w
  by_cases m : i ∈ vs
  · rw [nn σ vs m, nn σ' vs m, h.1]
  · rw [wipe_out' m, wipe_out' m, h.2 i m]
section
variable {Γ : Ga} {B H : Hp} {e : En} {σ σ' : St} {vs : List Nat}
theorem own_ag (h : Emp e vs) (a : Ag vs σ σ') {x : Addr} (o : own e σ x) : own e σ' x := by
  obtain ⟨i, u, h1, h2⟩ := o
  exact ⟨i, u, h1, by rw [← a.2 i (h i _ h1)]; exact h2⟩
theorem SR.ag (s : SR Γ B H e σ) (h : Emp e vs) (a : Ag vs σ σ') : SR Γ B H e σ' := by
  refine ⟨s.bh, s.ln.trans a.1, fun i u q => ?_, fun i u q => ?_, fun i j u w x q1 q2 s1 s2 => ?_⟩
  · rw [← a.2 i (h i _ q)]; exact s.vl i u q
  · rw [← a.2 i (h i _ q)]; exact s.ow i u q
  · rw [← a.2 i (h i _ q1)] at s1
    rw [← a.2 j (h j _ q2)] at s2
    exact s.ds i j u w x q1 q2 s1 s2
theorem SR.wipeE (s : SR Γ B H e σ) : SR Γ B H (wipeE e vs) σ :=
  ⟨s.bh, (wipeE_len e vs).trans s.ln, fun i u q => s.vl i u (wipeE_in q).1, fun i u q => s.ow i u (wipeE_in q).1, fun i j u w x q1 q2 => s.ds i j u w x (wipeE_in q1).1 (wipeE_in q2).1⟩
theorem own_wipeE {x : Addr} (o : own (wipeE e vs) σ x) : own e σ x := by
  obtain ⟨i, u, h1, h2⟩ := o
  exact ⟨i, u, (wipeE_in h1).1, h2⟩
theorem Go.wipeE (s : SR Γ B H e σ) : Go Γ B H e σ B H (VS.wipeE e vs) σ := ⟨⟨Same.refl _, fun _ _ h _ => h, fun _ _ _ _ h => h⟩, s.wipeE, fun _ z => .inl (own_wipeE z)⟩
/-- a block's turn seen from outside -/
theorem Go.blk {B' H' : Hp} {e' : En} {τ τ' : St} (h : Emp e vs) (a : Ag vs σ τ) (g : Go Γ B H e τ B' H' e' τ') (a' : Ag vs τ τ') : Go Γ B H e σ B' H' (VS.wipeE e' vs) σ := by
  have aa : Ag vs τ' σ := ⟨a'.1.symm.trans a.1.symm, fun i n => (a'.2 i n).symm.trans (a.2 i n).symm⟩
  have e1 := emp_wipe e' vs
  refine ⟨⟨g.st.bb, fun x o hx n => g.st.fr x o hx fun z => n (own_ag h a.symm z), fun x o hx n b => g.st.nb x o hx (fun z => n (own_ag h a.symm z)) b⟩, g.sr.wipeE.ag e1 aa, fun x z => ?_⟩
  have z1 := own_wipeE (own_ag e1 aa.symm z)
  rcases g.sub x z1 with q | q
  · exact .inl (own_ag h a.symm q)
  · exact .inr q
theorem resE_get (e0 e : En) : ∀ (vs : List Nat) {i : Nat} {x : Bool × U}, (resE e0 e vs)[i]? = some (some x) → e[i]? = some (some x) ∨ (e0[i]? = some (some x) ∧ x.1 = false)
  | [], i, x, h => .inl h
  | v :: vs, i, x, h => by
    unfold resE at h
    rw [List.getElem?_set] at h
    split at h
    · rename_i z
      subst z
      split at h
      · split at h
        · rename_i u q
          cases h
          exact .inr ⟨q, rfl⟩
        · cases h
      · cases h
    · exact resE_get e0 e vs h
theorem resE_len (e0 e : En) : ∀ vs, (resE e0 e vs).length = e.length
  | [] => rfl
  | v :: vs => by unfold resE; rw [List.length_set, resE_len e0 e vs]
/-- the outer values come back -/
theorem Go.res {B0 H0 : Hp} {e0 : En} (s0 : SR Γ B0 H0 e0 σ) (g : Go Γ B0 H0 e0 σ B H e σ) : Go Γ B0 H0 e0 σ B H (resE e0 e vs) σ := by
  have own' : ∀ (i : Nat) (u : U), (resE e0 e vs)[i]? = some (some (true, u)) → e[i]? = some (some (true, u)) := fun i u q => by
    rcases resE_get e0 e vs q with q | ⟨_, q⟩
    · exact q
    · cases q
  refine ⟨g.st, ⟨g.sr.bh, (resE_len e0 e vs).trans g.sr.ln, fun i u q => ?_, fun i u q => g.sr.ow i u (own' i u q), fun i j u w x q1 q2 => g.sr.ds i j u w x (own' i u q1) (own' j w q2)⟩, fun a ⟨i, u, q, h⟩ => g.sub a ⟨i, u, own' i u q, h⟩⟩
  rcases resE_get e0 e vs q with q | ⟨q, _⟩
  · exact g.sr.vl i u q
  · obtain ⟨v, h1, h2⟩ := s0.vl i u q
    exact ⟨v, h1, h2.mono g.st.bb⟩
/-- an object that was not there is changed -/
theorem Go.setD {B0 H0 : Hp} {e0 : En} {D : Addr} {o : HO} (g : Go Γ B0 H0 e0 σ B H e σ) (h0 : H0 D = none) (b : B D = none) (n : ¬ own e σ D) : Go Γ B0 H0 e0 σ B (upd H D o) e σ := by
  refine ⟨⟨g.st.bb, fun a u q z => ?_, fun a u q z b => g.st.nb a u q z b⟩, ⟨same_upd2 g.sr.bh b, g.sr.ln, g.sr.vl, fun i u q => ?_, g.sr.ds⟩, g.sub⟩
  · rw [upd_ne (ne_of_none q h0)]; exact g.st.fr a u q z
  · obtain ⟨a, ho, h1, h2, h3, h4⟩ := g.sr.ow i u q
    have : a ≠ D := fun z => n ⟨i, u, q, by rw [h1, z]⟩
    exact ⟨a, ho, h1, by rw [upd_ne this]; exact h2, h3, h4⟩
end

abbrev W0 : WXX := fun _ _ _ _ => False
/-- the tests of a clause -/
abbrev PTsB (X : Cx) (W : WXX) (ifs : List Expr) (m : M Bool) : Prop := PTs X ifs (tG (ga X) W rlB m)
section
variable {X : Cx} {W : WXX} {c : Expr}
theorem PTsimp {t t' : TT} {cs : List Expr} (h : PTs X cs t) (k : ∀ σ H Q, t' σ H Q → t σ H Q) : PTs X cs t' := ⟨fun pins s σ H Q I q => h.run pins s σ H Q I (k σ H Q q)⟩
theorem cv_nil : PTsB X W [] (M.ret true) := PTsimp pts_nil fun σ H Q ⟨B, e, sr, q⟩ => q true B H (Go.refl sr) rfl
theorem cv_one {m : M Bool} (h : PTB X W c m) : PTsB X W [c] m := PTsimp (pts_one h) fun σ H Q q => q
end

open Classical in
noncomputable def lcL (t : MT) (tt : M Bool) (te : M U) (vs : List Nat) (g : Option Nat) (src : List U) : List U → List U → En → Option (List U × En)
  | [], acc, e => some (acc, e)
  | u :: us, acc, e => match t u e with
    | some e1 => match tt e1 with
      | .ok true e2 => match te e2 with
        | .ok y e3 => if acc.length < sizeLine ∧ gOK g src (wipeE e3 vs) then lcL t tt te vs g src us (acc ++ [y]) (wipeE e3 vs) else none
        | _ => none
      | .ok false e2 => if gOK g src (wipeE e2 vs) then lcL t tt te vs g src us acc (wipeE e2 vs) else none
      | _ => none
    | none => none
open Classical in
noncomputable def mLc (m : M Src) (t : MT) (tt : M Bool) (te : M U) (vs : List Nat) : M (Bool × U) := m.bd fun s e =>
  if gOK s.g s.src (wipeE e vs) then match lcL t tt te vs s.g s.src s.items [] (wipeE e vs) with
    | some (acc, e') => .ok (true, .lst acc) (resE e e' vs)
    | none => .bad
  else .bad
def prB (vs : List Nat) : Nat → Bool := fun i => !vs.contains i
theorem kp_ag {vs : List Nat} {τ τ' : St} (k : Kp (prB vs) τ τ') : Ag vs τ τ' := ⟨k.1.symm, fun i n => (k.2 i (by unfold prB; simpa using n)).symm⟩
section
variable {X : Cx} {W : WXX} {tg iter elt ex : Expr} {ifs : List Expr} {scope : Scope} {own' : List (Str × Nat)} {pos : Pos}
/-- the body of a comprehension, in any of its contexts -/
def BlkAll (X : Cx) (scope : Scope) (φ : Cx → Prop) : Prop := ∀ (s : Shared) (H : Hp) (C : Addr) (cl : List (Str × Addr)) (fp : List Addr), φ (X.blk s H scope (compEnvC scope cl C X.env) fp)
theorem lc_core' {m : M Src} {t : MT} {tt : M Bool} {te : M U} {vs : List Nat} (σ : St) (H : Hp) (Q : VK) (q : tG (ga X) W (rlO (ga X)) (mLc m t tt te vs) σ H Q) :
    tLc (iG (ga X) W m) (gG (ga X) (prB vs) t) (tG (ga X) W0 rlB tt) (tG (ga X) W0 (rlV (ga X)) te) vs σ H Q := by
  obtain ⟨B, e, sr, q⟩ := q
  refine ⟨B, e, sr, ?_⟩
  unfold tAt mLc M.bd at q
  cases z : m e with
  | bad => rw [z] at q; exact q
  | exc c u e' => rw [z] at q; exact q
  | ok s e1 =>
    rw [z] at q
    dsimp only at q ⊢
    intro J B1 H1 g1 io _ D hD
    split at q
    · rename_i a' e'' hq
      split at hq
      · rename_i hgo0
        split at hq
        · rename_i acc0 e0 hl
          injection hq with ha he
          subst ha he
          have bD : B1 D = none := g1.sr.none_of hD
          have nD : ¬ own e1 σ D := g1.sr.not_own hD
          refine ⟨fun k m H' => m = s.items.length - k ∧ k ≤ s.items.length ∧ ∃ B' e' acc vacc, Go (ga X) B1 H1 e1 σ B' H' e' σ ∧ Emp e' vs ∧ gOK s.g s.src e' ∧ H' D = some (.lst vacc) ∧ reps (ga X) B' acc vacc ∧ B' D = none ∧ ¬ own e' σ D ∧
            lcL t tt te vs s.g s.src (s.items.drop k) acc e' = some (acc0, e0), ⟨_, rfl, Nat.zero_le _, B1, wipeE e1 vs, [], [], ?_, emp_wipe _ _, hgo0, upd_same, reps.nil', bD, fun w => nD (own_wipeE w), by simpa using hl⟩, ?_⟩
          · exact Go.setD (Go.wipeE g1.sr) hD bD fun w => nD (own_wipeE w)
          · rintro k m H' ⟨rfl, hk, B', e', acc, vacc, g', em, go, hHD, ra, bD', nD', hl'⟩
            have gp : gP (ga X) s.g s.src σ B' H' := go.p g'.sr fun i hi => rfl
            have sb := g'.st.bb
            by_cases hlt : k < s.items.length
            · refine .inr ?_
              have hu : s.items[k]? = some s.items[k] := by simp [hlt]
              obtain ⟨j1, j2⟩ := io.go B' H' k _ sb g'.sr.bh gp hu
              rw [List.drop_eq_getElem_cons hlt] at hl'
              unfold lcL at hl'
              refine ⟨j1, fun H2 => ∃ B2 e2 acc vacc, Go (ga X) B1 H1 e1 σ B2 H2 e2 σ ∧ Emp e2 vs ∧ gOK s.g s.src e2 ∧ H2 D = some (.lst vacc) ∧ reps (ga X) B2 acc vacc ∧ B2 D = none ∧ ¬ own e2 σ D ∧
                lcL t tt te vs s.g s.src (s.items.drop (k + 1)) acc e2 = some (acc0, e0), fun H2 ⟨B2, e2, ac, va, h1, h2, h3, h4, h5, h6, h7, h8⟩ => ⟨s.items.length - (k + 1), by omega, rfl, hlt, B2, e2, ac, va, h1, h2, h3, h4, h5, h6, h7, h8⟩, fun x H'' y => ?_⟩
              obtain ⟨B'', lt, rx⟩ := j2 x H'' y
              have gl := lt.go g'.sr
              have gw := lt.go (g'.sr.ag em (ag_wipe σ vs))
              refine ⟨B'', e', _, gw.sr, rx, ?_⟩
              cases h1 : t s.items[k] e' with
              | none => rw [h1] at hl'; cases hl'
              | some e2 =>
                rw [h1] at hl'
                dsimp only at hl' ⊢
                intro B2 H2 σ2 g2 k2
                have ag2 : Ag vs (wipe σ vs) σ2 := kp_ag k2
                · refine ⟨(wipe_ag ag2).symm.trans (wipe_ag (ag_wipe σ vs)).symm, B2, e2, g2.sr, ?_⟩
                  unfold tAt
                  cases h2 : tt e2 with
                  | bad => rw [h2] at hl'; cases hl'
                  | exc c u e3 => rw [h2] at hl'; cases hl'
                  | ok b e3 =>
                    rw [h2] at hl'
                    dsimp only
                    intro b' B3 H3 g3 eb
                    have eb : b = b' := eb
                    subst eb
                    have G3 : ∀ {B4 H4 : Hp} {e4 : En}, Go (ga X) B3 H3 e3 σ2 B4 H4 e4 σ2 → Go (ga X) B1 H1 e1 σ B4 H4 (wipeE e4 vs) σ := fun {B4 H4 e4} g4 =>
                      g'.trans (Go.blk em (ag_wipe σ vs) (((gw.trans g2).trans g3).trans g4) ag2)
                    have own4 : ∀ {B4 H4 : Hp} {e4 : En}, Go (ga X) B3 H3 e3 σ2 B4 H4 e4 σ2 → H4 D = some (.lst vacc) ∧ B4 D = none ∧ ¬ own (wipeE e4 vs) σ D := fun {B4 H4 e4} g4 => by
                      have gg := Go.blk em (ag_wipe σ vs) (((gw.trans g2).trans g3).trans g4) ag2
                      refine ⟨gg.st.fr D _ hHD nD', gg.st.nb D _ hHD nD' bD', fun w => ?_⟩
                      rcases gg.sub D w with q | q
                      · exact nD' q
                      · rw [hHD] at q; cases q
                    cases b with
                    | false =>
                      rw [if_neg Bool.false_ne_true]
                      dsimp only at hl'
                      split at hl'
                      · rename_i hgo
                        obtain ⟨o1, o2, o3⟩ := own4 (Go.refl g3.sr)
                        exact ⟨B3, wipeE e3 vs, acc, vacc, G3 (Go.refl g3.sr), emp_wipe _ _, hgo, o1, ra.mono (((gw.trans g2).trans g3).st.bb), o2, o3, hl'⟩
                      · cases hl'
                    | true =>
                      rw [if_pos rfl]
                      dsimp only at hl'
                      refine ⟨B3, e3, g3.sr, ?_⟩
                      unfold tAt
                      cases h3 : te e3 with
                      | bad => rw [h3] at hl'; cases hl'
                      | exc c u e4 => rw [h3] at hl'; cases hl'
                      | ok y e4 =>
                        rw [h3] at hl'
                        dsimp only at hl' ⊢
                        intro v B4 H4 g4 rv
                        split at hl'
                        · rename_i hgo
                          obtain ⟨o1, o2, o3⟩ := own4 g4
                          have ra4 := ra.mono ((((gw.trans g2).trans g3).trans g4).st.bb)
                          refine ⟨vacc, o1, by rw [← ra.length]; exact hgo.1, B4, wipeE e4 vs, acc ++ [y], vacc ++ [v], Go.setD (G3 g4) hD o2 o3, emp_wipe _ _, hgo.2, upd_same, ra4.snoc rv, o2, o3, hl'⟩
                        · cases hl'
            · have ek : k = s.items.length := by omega
              subst ek
              refine .inl ⟨io.stop B' H' sb g'.sr.bh gp, ?_⟩
              rw [List.drop_length] at hl'
              unfold lcL at hl'
              injection hl' with hl'
              injection hl' with ha he
              subst ha he
              refine q (.ref D) B' H' (g1.trans (Go.res g1.sr g')) ?_
              refine ⟨D, _, rfl, hHD, ⟨vacc, rfl, ra⟩, bD', fun w => ?_, ?_⟩
              · obtain ⟨i, u, w1, w2⟩ := w
                rcases resE_get e1 e' vs w1 with w1 | ⟨_, w1⟩
                · exact nD' ⟨i, u, w1, w2⟩
                · cases w1
              · exact g1.may D (.inr hD)
        · cases hq
      · cases hq
    · rename_i hq
      split at hq
      · split at hq <;> cases hq
      · cases hq
    · exact q.elim
end
end VS
set_option Elab.async false
set_option linter.all false
set_option maxRecDepth 100000
/-! VS10: defs and their calls. -/
namespace VS
open PySem L2

abbrev Ar := Bool × U
inductive RF where
  | ok (r : Ar) (outs : En)
  | exc (c : Str) (u : U) (outs : En)
  | bad
abbrev Fs := List Ar → RF
abbrev enA (as : List Ar) : En := as.map some
abbrev stA (vs : List V) : St := vs.map some
/-- what a def promises: its semantic function -/
def spV (Γ : Ga) (n : Nat) (φ : Fs) : Sp := fun vs H Q E => vs.length = n ∧ ∃ B as, SR Γ B H (enA as) (stA vs) ∧ match φ as with
  | .ok r outs => ∀ v B' H', Go Γ B H (enA as) (stA vs) B' H' outs (stA vs) → (rlO Γ).r r v (may H (enA as) (stA vs)) B' H' outs (stA vs) → Q v H'
  | .exc c u outs => ∀ cls d B' H', Go Γ B H (enA as) (stA vs) B' H' outs (stA vs) → exrep Γ B' H' c u cls d → E cls d H'
  | .bad => False
/-- a def of the text keeps its promise -/
structure FnV (P : Program) (w : World) (K : PySem.W.Frag) (mg : Str → Option Value) (base : Heap) (k : Nat) (x : Str) (n : Nat) (φ : Fs) : Prop where
  ex : ∃ f fd ps, mg x = some (.ref f) ∧ FnOk P w K mg base (L2.CX P w) k f fd ps (spV ⟨P, w, K, mg⟩ n φ) ∧ PySem.W.keepIn K (.ref f) = true ∧ Binds K fd ps []

/-- where code runs -/
structure Ct (X : Cx) (W : WXX) (k : Nat) : Prop where
  px : ∀ σ, PassesAt (L2.CX X.prog X.w) X σ (WE W σ)
  hc : X.calm = true
  hN : X.N.Nodup
  hr : Room k X.A
  ps : PassesOwn (model X.prog X.w) X.A X.env X.xe

/-! ### arguments -/
def argOf (e : En) : Od → Option Ar
  | .sl i => match e[i]? with
    | some (some a) => some a
    | _ => none
  | .vl u => some (false, u)
def argsOf (e : En) : List Od → Option (List Ar)
  | [] => some []
  | x :: r => match argOf e x, argsOf e r with
    | some a, some as => some (a :: as)
    | _, _ => none
/-- no value of ours goes in twice -/
def ownIx (e : En) : List Od → List Nat
  | [] => []
  | .sl i :: r => match e[i]? with
    | some (some (true, _)) => i :: ownIx e r
    | _ => ownIx e r
  | .vl _ :: r => ownIx e r
def findOut (k : Nat) : List Od → En → Option Sl
  | .sl i :: ods, o :: outs => if i = k then some o else findOut k ods outs
  | .vl _ :: ods, _ :: outs => findOut k ods outs
  | _, _ => none
def updE (ods : List Od) (outs : En) : Nat → En → En
  | _, [] => []
  | k, s :: r => (match s with
    | some (true, u) => match findOut k ods outs with
      | some o => o
      | none => some (true, u)
    | s => s) :: updE ods outs (k + 1) r
theorem updE_len (ods : List Od) (outs : En) : ∀ (e : En) (k : Nat), (updE ods outs k e).length = e.length
  | [], _ => rfl
  | s :: r, k => by unfold updE; rw [List.length_cons, updE_len ods outs r, List.length_cons]
theorem updE_get (ods : List Od) (outs : En) : ∀ (e : En) (k i : Nat), (updE ods outs k e)[i]? = (e[i]?).map fun s => match s with
    | some (true, u) => match findOut (k + i) ods outs with
      | some o => o
      | none => some (true, u)
    | s => s
  | [], _, _ => by simp [updE]
  | s :: r, k, 0 => by simp [updE]
  | s :: r, k, i + 1 => by
    unfold updE
    rw [List.getElem?_cons_succ, updE_get ods outs r, List.getElem?_cons_succ]
    have : k + 1 + i = k + (i + 1) := by omega
    rw [this]
theorem findOut_at {k : Nat} : ∀ {ods : List Od} {outs : En} {o : Sl}, findOut k ods outs = some o → ∃ j : Nat, ods[j]? = some (.sl k) ∧ outs[j]? = some o
  | .sl i :: ods, x :: outs, o, h => by
    unfold findOut at h
    split at h
    · rename_i e
      subst e
      cases h
      exact ⟨0, rfl, rfl⟩
    · obtain ⟨j, h1, h2⟩ := findOut_at h
      exact ⟨j + 1, h1, h2⟩
  | .vl _ :: ods, x :: outs, o, h => by
    unfold findOut at h
    obtain ⟨j, h1, h2⟩ := findOut_at h
    exact ⟨j + 1, h1, h2⟩
  | [], _, _, h => by simp [findOut] at h
  | .sl _ :: _, [], _, h => by simp [findOut] at h
  | .vl _ :: _, [], _, h => by simp [findOut] at h
theorem findOut_none {k : Nat} : ∀ {ods : List Od} {outs : En}, findOut k ods outs = none → ods.length = outs.length → ∀ j : Nat, ods[j]? ≠ some (.sl k)
  | .sl i :: ods, x :: outs, h, l, j => by
    unfold findOut at h
    split at h
    · cases h
    · rename_i n
      cases j with
      | zero => intro q; injection q with q; injection q with q; exact n q
      | succ j => exact findOut_none h (by simpa using l) j
  | .vl _ :: ods, x :: outs, h, l, j => by
    unfold findOut at h
    cases j with
    | zero => intro q; injection q with q; cases q
    | succ j => exact findOut_none h (by simpa using l) j
  | [], _, _, l, j => by simp
  | .sl _ :: _, [], _, l, _ => by simp at l
  | .vl _ :: _, [], _, l, _ => by simp at l
section
variable {Γ : Ga} {B H : Hp} {e : En} {σ : St} {S : Addr → Prop}
theorem args_len : ∀ {ods : List Od} {as : List Ar}, argsOf e ods = some as → ods.length = as.length
  | [], as, h => by injection h with h; subst h; rfl
  | x :: r, as, h => by
    unfold argsOf at h
    cases h1 : argOf e x with
    | none => rw [h1] at h; cases h
    | some a =>
      cases h2 : argsOf e r with
      | none => rw [h1, h2] at h; cases h
      | some bs =>
        rw [h1, h2] at h
        injection h with h
        subst h
        simp [args_len h2]
theorem args_get : ∀ {ods : List Od} {as : List Ar} {j : Nat} {a : Ar}, argsOf e ods = some as → as[j]? = some a → ∃ od, ods[j]? = some od ∧ argOf e od = some a
  | [], as, j, a, h, q => by injection h with h; subst h; simp at q
  | x :: r, as, j, a, h, q => by
    unfold argsOf at h
    cases h1 : argOf e x with
    | none => rw [h1] at h; cases h
    | some b =>
      cases h2 : argsOf e r with
      | none => rw [h1, h2] at h; cases h
      | some bs =>
        rw [h1, h2] at h
        injection h with h
        subst h
        cases j with
        | zero => cases q; exact ⟨x, rfl, h1⟩
        | succ j => exact args_get (j := j) h2 q
theorem paired_get {α β : Type} {F : α → β → Prop} : ∀ {xs : List α} {ys : List β} {j : Nat} {x : α}, Paired F xs ys → xs[j]? = some x → ∃ y, ys[j]? = some y ∧ F x y
  | _, _, j, x, .nil, h => by simp at h
  | _, _, 0, x, .cons r t, h => by cases h; exact ⟨_, rfl, r⟩
  | _, _, j + 1, x, .cons r t, h => paired_get (j := j) t h
theorem paired_len {α β : Type} {F : α → β → Prop} : ∀ {xs : List α} {ys : List β}, Paired F xs ys → xs.length = ys.length
  | _, _, .nil => rfl
  | _, _, .cons r t => by simp [paired_len t]
theorem ownIx_mem {i : Nat} {u : U} (hi : e[i]? = some (some (true, u))) : ∀ {ods : List Od} {j : Nat}, ods[j]? = some (Od.sl i) → i ∈ ownIx e ods
  | [], j, h => by simp at h
  | .vl w :: ods, 0, h => by cases h
  | .sl k :: ods, 0, h => by
    cases h
    unfold ownIx
    rw [hi]
    exact List.mem_cons_self
  | .vl w :: ods, j + 1, h => by
    unfold ownIx
    exact ownIx_mem hi (ods := ods) (j := j) h
  | .sl k :: ods, j + 1, h => by
    have := ownIx_mem hi (ods := ods) (j := j) h
    unfold ownIx
    split
    · exact List.mem_cons_of_mem _ this
    · exact this
theorem ownIx_tl {ods : List Od} {od : Od} (n : (ownIx e (od :: ods)).Nodup) : (ownIx e ods).Nodup := by
  cases od with
  | vl w => exact n
  | sl k =>
    unfold ownIx at n
    split at n
    · exact (List.nodup_cons.mp n).2
    · exact n
theorem ownIx_at {i : Nat} {u : U} (hi : e[i]? = some (some (true, u))) : ∀ {ods : List Od} {j k : Nat}, (ownIx e ods).Nodup → ods[j]? = some (Od.sl i) → ods[k]? = some (Od.sl i) → j = k
  | [], j, k, _, h, _ => by simp at h
  | od :: ods, j, k, n, h1, h2 => by
    cases j with
    | zero =>
      cases k with
      | zero => rfl
      | succ k =>
        cases h1
        unfold ownIx at n
        rw [hi] at n
        exact absurd (ownIx_mem hi (j := k) h2) (List.nodup_cons.mp n).1
    | succ j =>
      cases k with
      | zero =>
        cases h2
        unfold ownIx at n
        rw [hi] at n
        exact absurd (ownIx_mem hi (j := j) h1) (List.nodup_cons.mp n).1
      | succ k => exact congrArg Nat.succ (ownIx_at (j := j) (k := k) hi (ownIx_tl n) h1 h2)
/-- the arguments as a state -/
theorem args_sr (s : SR Γ B H e σ) {ods : List Od} {vs : List V} {as : List Ar} (p : Paired (fun od v => (rlR Γ).r od v S B H e σ) ods vs) (h : argsOf e ods = some as) (n : (ownIx e ods).Nodup) : SR Γ B H (enA as) (stA vs) := by
  have at_ : ∀ (j : Nat) (a : Ar), (enA as)[j]? = some (some a) → ∃ od v, ods[j]? = some od ∧ argOf e od = some a ∧ vs[j]? = some v ∧ (rlR Γ).r od v S B H e σ := fun j a q => by
    unfold enA at q
    rw [List.getElem?_map] at q
    cases z : as[j]? with
    | none => rw [z] at q; cases q
    | some b =>
      rw [z] at q
      cases q
      obtain ⟨od, h1, h2⟩ := args_get h z
      obtain ⟨v, h3, h4⟩ := paired_get p h1
      exact ⟨od, v, h1, h2, h3, h4⟩
  have st_ : ∀ {j : Nat} {v : V}, vs[j]? = some v → (stA vs)[j]? = some (some v) := fun {j v} q => by
    unfold stA
    rw [List.getElem?_map, q]
    rfl
  have own_ : ∀ (j : Nat) (u : U), (enA as)[j]? = some (some (true, u)) → ∃ i v, ods[j]? = some (.sl i) ∧ e[i]? = some (some (true, u)) ∧ vs[j]? = some v ∧ σ[i]? = some (some v) := fun j u q => by
    obtain ⟨od, v, h1, h2, h3, h4⟩ := at_ j _ q
    cases od with
    | vl w => cases h2
    | sl i =>
      unfold argOf at h2
      dsimp only at h2
      split at h2
      · rename_i a q'
        cases h2
        exact ⟨i, v, h1, q', h3, h4⟩
      · cases h2
  refine ⟨s.bh, ?_, fun j u q => ?_, fun j u q => ?_, fun j k u w a q1 q2 s1 s2 => ?_⟩
  · unfold enA stA
    rw [List.length_map, List.length_map, ← args_len h, paired_len p]
  · obtain ⟨od, v, h1, h2, h3, h4⟩ := at_ j _ q
    refine ⟨v, st_ h3, ?_⟩
    cases od with
    | vl w => cases h2; exact h4
    | sl i =>
      unfold argOf at h2
      dsimp only at h2
      split at h2
      · rename_i a q'
        cases h2
        obtain ⟨v', k1, k2⟩ := s.vl i u q'
        have h4' : σ[i]? = some (some v) := h4
        rw [h4'] at k1
        cases k1
        exact k2
      · cases h2
  · obtain ⟨i, v, h1, h2, h3, h4⟩ := own_ j u q
    obtain ⟨a, ho, k1, k2, k3, k4⟩ := s.ow i u h2
    rw [h4] at k1
    cases k1
    exact ⟨a, ho, st_ h3, k2, k3, k4⟩
  · obtain ⟨i, v, h1, h2, h3, h4⟩ := own_ j u q1
    obtain ⟨i', v', h1', h2', h3', h4'⟩ := own_ k w q2
    rw [st_ h3] at s1
    rw [st_ h3'] at s2
    cases s1
    cases s2
    have ii := s.ds i i' u w a h2 h2' h4 h4'
    subst ii
    exact ownIx_at h2 n h1 h1'
theorem args_own {ods : List Od} {vs : List V} {as : List Ar} (p : Paired (fun od v => (rlR Γ).r od v S B H e σ) ods vs) (h : argsOf e ods = some as) {a : Addr} (o : own (enA as) (stA vs) a) :
    ∃ (i : Nat) (u : U) (j : Nat), ods[j]? = some (Od.sl i) ∧ e[i]? = some (some (true, u)) ∧ σ[i]? = some (some (.ref a)) := by
  obtain ⟨j, u, q, s1⟩ := o
  unfold enA at q
  rw [List.getElem?_map] at q
  cases z : as[j]? with
  | none => rw [z] at q; cases q
  | some b =>
    rw [z] at q
    cases q
    obtain ⟨od, h1, h2⟩ := args_get h z
    obtain ⟨v, h3, h4⟩ := paired_get p h1
    unfold stA at s1
    rw [List.getElem?_map, h3] at s1
    cases s1
    cases od with
    | vl w => cases h2
    | sl i =>
      unfold argOf at h2
      dsimp only at h2
      split at h2
      · rename_i a q'
        cases h2
        exact ⟨i, u, j, h1, q', h4⟩
      · cases h2
theorem upd_get {ods : List Od} {vs : List V} {outs : En} (p : Paired (fun od v => (rlR Γ).r od v S B H e σ) ods vs) (lo : ods.length = outs.length) : ∀ (i : Nat) (x : Ar), (updE ods outs 0 e)[i]? = some (some x) → (e[i]? = some (some x) ∧ (x.1 = true → ∀ j : Nat, ods[j]? ≠ some (Od.sl i))) ∨
      ∃ (u : U) (j : Nat) (v : V), e[i]? = some (some (true, u)) ∧ ods[j]? = some (Od.sl i) ∧ outs[j]? = some (some x) ∧ vs[j]? = some v ∧ σ[i]? = some (some v) := fun i x q => by
  rw [updE_get] at q
  cases z : e[i]? with
  | none => rw [z] at q; cases q
  | some sl =>
    rw [z] at q
    simp only [Option.map_some, Nat.zero_add] at q
    injection q with q
    cases sl with
    | none => cases q
    | some a =>
      obtain ⟨o, u⟩ := a
      cases o with
      | false => cases q; exact .inl ⟨rfl, fun w => by cases w⟩
      | true =>
        dsimp only at q
        cases f : findOut i ods outs with
        | none =>
          rw [f] at q
          cases q
          exact .inl ⟨rfl, fun _ => findOut_none f lo⟩
        | some o =>
          rw [f] at q
          subst q
          obtain ⟨j, f1, f2⟩ := findOut_at f
          obtain ⟨v, h3, h4⟩ := paired_get p f1
          exact .inr ⟨u, j, v, rfl, f1, f2, h3, h4⟩
/-- behind a call -/
theorem call_go (s : SR Γ B H e σ) {ods : List Od} {vs : List V} {as : List Ar} (p : Paired (fun od v => (rlR Γ).r od v S B H e σ) ods vs) (h : argsOf e ods = some as) (n : (ownIx e ods).Nodup) {B' H' : Hp} {outs : En}
    (g : Go Γ B H (enA as) (stA vs) B' H' outs (stA vs)) : Go Γ B H e σ B' H' (updE ods outs 0 e) σ := by
  have lo : ods.length = outs.length := by
    rw [g.sr.ln]
    unfold stA
    rw [List.length_map, paired_len p]
  have sub0 : ∀ a, own (enA as) (stA vs) a → own e σ a := fun a o => by
    obtain ⟨i, u, j, _, h2, h3⟩ := args_own p h o
    exact ⟨i, u, h2, h3⟩
  have st_ : ∀ {j : Nat} {v : V}, vs[j]? = some v → (stA vs)[j]? = some (some v) := fun {j v} q => by
    unfold stA
    rw [List.getElem?_map, q]
    rfl
  have old : ∀ (i : Nat) (u : U), (updE ods outs 0 e)[i]? = some (some (true, u)) → ∃ w, e[i]? = some (some (true, w)) := fun i u q => by
    rcases upd_get p lo i _ q with ⟨q, _⟩ | ⟨w, _, _, q, _⟩
    · exact ⟨u, q⟩
    · exact ⟨w, q⟩
  refine ⟨⟨g.st.bb, fun a o ha na => g.st.fr a o ha fun z => na (sub0 a z), fun a o ha na b => g.st.nb a o ha (fun z => na (sub0 a z)) b⟩, ⟨g.sr.bh, (updE_len ods outs e 0).trans s.ln, fun i u q => ?_, fun i u q => ?_, fun i j u w a q1 q2 s1 s2 => ?_⟩, fun a ⟨i, u, q, s1⟩ => ?_⟩
  · rcases upd_get p lo i _ q with ⟨q, _⟩ | ⟨w, j, v, q, f1, f2, f3, f4⟩
    · obtain ⟨v, h1, h2⟩ := s.vl i u q
      exact ⟨v, h1, h2.mono g.st.bb⟩
    · obtain ⟨v', h1, h2⟩ := g.sr.vl j u f2
      rw [st_ f3] at h1
      cases h1
      exact ⟨v, f4, h2⟩
  · rcases upd_get p lo i _ q with ⟨q, nj⟩ | ⟨w, j, v, q, f1, f2, f3, f4⟩
    · obtain ⟨a, ho, h1, h2, h3, h4⟩ := s.ow i u q
      have na : ¬ own (enA as) (stA vs) a := fun z => by
        obtain ⟨i', u', j', k1, k2, k3⟩ := args_own p h z
        have := s.ds i i' u u' a q k2 h1 k3
        subst this
        exact nj rfl j' k1
      exact ⟨a, ho, h1, g.st.fr a ho h2 na, h3.mono g.st.bb, g.st.nb a ho h2 na h4⟩
    · obtain ⟨a, ho, h1, h2, h3, h4⟩ := g.sr.ow j u f2
      rw [st_ f3] at h1
      cases h1
      exact ⟨a, ho, f4, h2, h3, h4⟩
  · obtain ⟨u', q1⟩ := old i u q1
    obtain ⟨w', q2⟩ := old j w q2
    exact s.ds i j u' w' a q1 q2 s1 s2
  · obtain ⟨u', q⟩ := old i u q
    exact .inl ⟨i, u', q, s1⟩
end
def callO (n : Nat) (φ : Fs) (ods : List Od) : M (Bool × U) := fun e => match argsOf e ods with
  | some as => if ods.length = n ∧ (ownIx e ods).Nodup then match φ as with
      | .ok r outs => .ok r (updE ods outs 0 e)
      | .exc c u outs => .exc c u (updE ods outs 0 e)
      | .bad => .bad
    else .bad
  | none => .bad
def mCall (n : Nat) (φ : Fs) (m : M (List Od)) : M (Bool × U) := m.bd (callO n φ)
section
variable {X : Cx} {W : WXX} {k n : Nat} {x : Str} {φ : Fs} {ex : Expr} {es : List Expr} {p pos : Pos} {m : M (List Od)}
theorem call_core {B H : Hp} {e : En} {σ : St} {S : Addr → Prop} {ods : List Od} {vs : List V} {Q : VK} (s : SR (ga X) B H e σ) (p : Paired (fun od v => (rlR (ga X)).r od v S B H e σ) ods vs) (q : tAt (ga X) W (rlO (ga X)) (callO n φ ods) B H e σ Q) :
    spV (ga X) n φ vs H Q (WE W σ) := by
  unfold tAt callO at q
  cases h : argsOf e ods with
  | none => rw [h] at q; exact q.elim
  | some as =>
    rw [h] at q
    dsimp only at q
    split at q
    · rename_i r e' hq
      split at hq
      · rename_i nd
        obtain ⟨hn, nd⟩ := nd
        refine ⟨by rw [← paired_len p]; exact hn, B, as, args_sr s p h nd, ?_⟩
        cases z : φ as with
        | bad => rw [z] at hq; cases hq
        | exc c u outs => rw [z] at hq; cases hq
        | ok r' outs =>
          rw [z] at hq
          injection hq with h1 h2
          subst h1 h2
          intro v B' H' g rr
          have G := call_go s p h nd g
          have lo : ods.length = outs.length := by
            rw [g.sr.ln]
            unfold stA
            rw [List.length_map, paired_len p]
          refine q v B' H' G ?_
          obtain ⟨o, u⟩ := r'
          cases o with
          | false => exact rr
          | true =>
            obtain ⟨a, ho, k1, k2, k3, k4, k5, k6⟩ := rr
            have m6 : may H e σ a := by
              rcases k6 with k6 | k6
              · obtain ⟨i, u, j, _, h2, h3⟩ := args_own p h k6
                exact .inl ⟨i, u, h2, h3⟩
              · exact .inr k6
            refine ⟨a, ho, k1, k2, k3, k4, fun w => ?_, m6⟩
            obtain ⟨i, u, q1, q2⟩ := w
            rcases upd_get p lo i _ q1 with ⟨q3, nj⟩ | ⟨w, j, v', q3, f1, f2, f3, f4⟩
            · rcases k6 with k6 | k6
              · obtain ⟨i', u', j', h1, h2, h3⟩ := args_own p h k6
                have := s.ds i i' u u' a q3 h2 q2 h3
                subst this
                exact nj rfl j' h1
              · obtain ⟨a', ho', h1, h2, _⟩ := s.ow i u q3
                rw [q2] at h1
                cases h1
                rw [k6] at h2
                cases h2
            · rw [f4] at q2
              cases q2
              exact k5 ⟨j, u, f2, by unfold stA; rw [List.getElem?_map, f3]; rfl⟩
      · cases hq
    · rename_i c u e' hq
      split at hq
      · rename_i nd
        obtain ⟨hn, nd⟩ := nd
        refine ⟨by rw [← paired_len p]; exact hn, B, as, args_sr s p h nd, ?_⟩
        cases z : φ as with
        | bad => rw [z] at hq; cases hq
        | ok r' outs => rw [z] at hq; cases hq
        | exc c' u' outs =>
          rw [z] at hq
          injection hq with h1 h2 h3
          subst h1 h2 h3
          exact fun cls d B' H' g x => q cls d B' H' (call_go s p h nd g) x
      · cases hq
    · exact q.elim

theorem po_call {j : Nat} (ct : Ct X W k) (F : FnV X.prog X.w X.K X.mg X.base j x n φ) (hj : j ≤ k) (hg : Gl X x) (ha : PRs X W (ex :: es) m) (hdb : (x == ("__debug__" : Str)) = false := by decide)
    (he : starEach (ex :: es) X.env = (false, eval ex X.env) :: starEach es X.env := by rfl) (hpl : (backTo pos (starEach es X.env)).any (·.1) = false := by rfl) :
    PO X W (.Call (.Name x p) (ex :: es) [] pos) (mCall n φ m) := by
  obtain ⟨f, fd, ps, hm, ok, hk, hb⟩ := F.ex
  refine PEimp (pe_callS (ok.mono hj) ct.hr hg hm hk hb (E := WE W) ct.px ha hdb he hpl) fun σ H Q ⟨B, e, sr, q⟩ => ⟨B, e, sr, ?_⟩
  exact (tAt.bd q).mono fun vs H1 ⟨B1, e1, ods, g1, r1, q1⟩ => call_core g1.sr r1 q1
end

/-! ### a def's promise by its body -/
def outS (pr : Nat → Bool) (n : Nat) (e : En) : En := (List.range n).map fun i => if pr i then (e[i]?).getD none else none
/-- N slots, the first n are the parameters; pr: those that no statement stores to -/
def fnS (N n : Nat) (pr : Nat → Bool) (b : MS) : Fs := fun as => if as.length = n ∧ n ≤ N then match b (enA as ++ List.replicate (N - n) none) with
  | .nx e => .ok (false, .non) (outS pr n e)
  | .rt o u e => .ok (o, u) (outS pr n e)
  | .exc c u e => .exc c u (outS pr n e)
  | _ => .bad
  else .bad
theorem outS_get {pr : Nat → Bool} {n i : Nat} {e : En} {x : Ar} (h : (outS pr n e)[i]? = some (some x)) : i < n ∧ pr i = true ∧ e[i]? = some (some x) := by
  unfold outS at h
  rw [List.getElem?_map] at h
  by_cases hi : i < n
  · rw [List.getElem?_range hi] at h
    simp only [Option.map_some] at h
    injection h with h
    split at h
    · rename_i p
      refine ⟨hi, p, ?_⟩
      cases z : e[i]? with
      | none => rw [z] at h; cases h
      | some y => rw [z] at h; exact congrArg some h
    · cases h
  · rw [List.getElem?_eq_none (by simpa using hi)] at h
    cases h
section
variable {Γ : Ga} {B H B' H' : Hp} {as : List Ar} {vs : List V} {N : List Str} {n : Nat} {pr : Nat → Bool} {e' : En} {σ' : St}
theorem ent_get {α : Type} {l : List α} {m i : Nat} {x : α} (h : (l.map some ++ List.replicate m (none : Option α))[i]? = some (some x)) : (l.map some)[i]? = some (some x) := by
  by_cases hi : i < l.length
  · rwa [List.getElem?_append_left (by simpa using hi)] at h
  · rw [List.getElem?_append_right (by simpa using hi), List.getElem?_replicate] at h
    split at h <;> cases h
theorem ent_get' {α : Type} {l : List α} {m i : Nat} {x : α} (h : (l.map some)[i]? = some (some x)) : (l.map some ++ List.replicate m (none : Option α))[i]? = some (some x) := by
  have : i < (l.map some).length := by
    rcases Nat.lt_or_ge i (l.map some).length with z | z
    · exact z
    · rw [List.getElem?_eq_none z] at h; cases h
  rw [List.getElem?_append_left this]
  exact h
theorem start_eq {m : Nat} (h : vs.length = n) : start N vs = vs.map some ++ List.replicate (N.length - n) none := by unfold L2.start; rw [h]
theorem ent_sr (s : SR Γ B H (enA as) (stA vs)) (h : vs.length = n) : SR Γ B H (enA as ++ List.replicate (N.length - n) none) (start N vs) := by
  rw [start_eq (m := 0) h]
  have ln := s.ln
  refine ⟨s.bh, by simp only [List.length_append, List.length_replicate]; have ln : (enA as).length = (vs.map some).length := ln; rw [ln], fun i u q => ?_, fun i u q => ?_, fun i j u w a q1 q2 s1 s2 => s.ds i j u w a (ent_get q1) (ent_get q2) (ent_get s1) (ent_get s2)⟩
  · obtain ⟨v, h1, h2⟩ := s.vl i u (ent_get q)
    exact ⟨v, ent_get' h1, h2⟩
  · obtain ⟨a, ho, h1, h2⟩ := s.ow i u (ent_get q)
    exact ⟨a, ho, ent_get' h1, h2⟩
theorem ent_own (h : vs.length = n) {a : Addr} : own (enA as ++ List.replicate (N.length - n) none) (start N vs) a → own (enA as) (stA vs) a := fun ⟨i, u, q, s⟩ => by
  rw [start_eq (m := 0) h] at s
  exact ⟨i, u, ent_get q, ent_get s⟩
theorem ent_own' (h : vs.length = n) {a : Addr} : own (enA as) (stA vs) a → own (enA as ++ List.replicate (N.length - n) none) (start N vs) a := fun ⟨i, u, q, s⟩ => by
  refine ⟨i, u, ent_get' q, ?_⟩
  rw [start_eq (m := 0) h]
  exact ent_get' s
theorem out_own (h : vs.length = n) (kp : Kp pr (start N vs) σ') {a : Addr} (o : own (outS pr n e') (stA vs) a) : own e' σ' a := by
  obtain ⟨i, u, q, s⟩ := o
  obtain ⟨h1, h2, h3⟩ := outS_get q
  refine ⟨i, u, h3, ?_⟩
  rw [kp.2 i h2, start_eq (m := 0) h]
  exact ent_get' s
theorem out_go (h : vs.length = n) (g : Go Γ B H (enA as ++ List.replicate (N.length - n) none) (start N vs) B' H' e' σ') (kp : Kp pr (start N vs) σ') : Go Γ B H (enA as) (stA vs) B' H' (outS pr n e') (stA vs) := by
  have st_ : ∀ {i : Nat} {x : Option V}, i < n → σ'[i]? = some x → pr i = true → (stA vs)[i]? = some x := fun {i x} hi q p => by
    rw [kp.2 i p, start_eq (m := 0) h, List.getElem?_append_left (by simpa [h] using hi)] at q
    exact q
  refine ⟨⟨g.st.bb, fun a o ha na => g.st.fr a o ha fun z => na (ent_own h z), fun a o ha na => g.st.nb a o ha fun z => na (ent_own h z)⟩, ⟨g.sr.bh, by unfold outS stA; simp [h], fun i u q => ?_, fun i u q => ?_, fun i j u w a q1 q2 s1 s2 => ?_⟩, fun a z => ?_⟩
  · obtain ⟨h1, h2, h3⟩ := outS_get q
    obtain ⟨v, k1, k2⟩ := g.sr.vl i u h3
    exact ⟨v, st_ h1 k1 h2, k2⟩
  · obtain ⟨h1, h2, h3⟩ := outS_get q
    obtain ⟨a, ho, k1, k2⟩ := g.sr.ow i u h3
    exact ⟨a, ho, st_ h1 k1 h2, k2⟩
  · obtain ⟨h1, h2, h3⟩ := outS_get q1
    obtain ⟨h1', h2', h3'⟩ := outS_get q2
    refine g.sr.ds i j u w a h3 h3' ?_ ?_
    · rw [kp.2 i h2, start_eq (m := 0) h]; exact ent_get' s1
    · rw [kp.2 j h2', start_eq (m := 0) h]; exact ent_get' s2
  · rcases g.sub a (out_own h kp z) with q | q
    · exact .inl (ent_own h q)
    · exact .inr q
theorem out_rl {r : Ar} {v : V} (h : vs.length = n) (kp : Kp pr (start N vs) σ') (x : (rlO Γ).r r v (may H (enA as ++ List.replicate (N.length - n) none) (start N vs)) B' H' e' σ') : (rlO Γ).r r v (may H (enA as) (stA vs)) B' H' (outS pr n e') (stA vs) := by
  obtain ⟨o, u⟩ := r
  cases o with
  | false => exact x
  | true =>
    obtain ⟨a, ho, h1, h2, h3, h4, h5, h6⟩ := x
    refine ⟨a, ho, h1, h2, h3, h4, fun z => h5 (out_own h kp z), ?_⟩
    rcases h6 with q | q
    · exact .inl (ent_own h q)
    · exact .inr q
/-- the reading of a body at the arguments -/
theorem body_q {b : MS} {Q : VK} {E : XK} (hp : spV Γ n (fnS N.length n pr b) vs H Q E) : sG Γ (fun cls d _ H => E cls d H) pr b { nx := fun _ H' => Q .non H', rt := Q } (start N vs) H := by
  obtain ⟨hl, B, as, s, q⟩ := hp
  refine ⟨B, _, ent_sr s hl, ?_⟩
  unfold fnS at q
  unfold sAt
  by_cases c : as.length = n ∧ n ≤ N.length
  · rw [if_pos c] at q
    cases z : b (enA as ++ List.replicate (N.length - n) none) with
    | bad => rw [z] at q; exact q
    | bk e => rw [z] at q; exact q.elim
    | ct e => rw [z] at q; exact q.elim
    | nx e =>
      rw [z] at q
      exact fun B' H' σ' g kp => q .non B' H' (out_go hl g kp) (by show rep Γ B' .non .non; simp only [rep])
    | rt o u e =>
      rw [z] at q
      exact fun v B' H' σ' g kp r => q v B' H' (out_go hl g kp) (out_rl hl kp r)
    | exc c u e =>
      rw [z] at q
      exact fun cls d B' H' σ' g kp x => q cls d B' H' (out_go hl g kp) x
  · rw [if_neg c] at q
    exact q.elim
end
/-- the wish about exceptions of a body -/
abbrev WEx (E : XK) : WXX := fun cls d _ H => E cls d H
theorem fn_rule {P : Program} {w : World} {K : PySem.W.Frag} {mg : Str → Option Value} {base : Heap} {x qual : Str} {params : Arguments} {body : List Stmt} {scope : Scope} {f : Addr} {fd : FuncData} {N ps : List Str} {k : Nat} {pr : Nat → Bool} {b : MS}
    (hm : mg x = some (.ref f)) (F : FunD K x qual params body scope [] [] f fd) (S : FnScope N ps scope)
    (hb : ∀ (kV doc pm : Value) (an : Option Addr) (cdv ct : Value) (us : List Value), us.length = ps.length → bindArgs (PySem.W.fnOf x qual params body scope .none kV doc pm an cdv ct) ⟨us, []⟩ = pure (ps.zip us))
    (hbody : ∀ (cdv : Value) (A : Around) (outer : List Env) (s : Shared) (H : Hp) (E : XK), Ct (cxOf (L2.CX P w) P w K mg base N qual scope f cdv A outer s H E) (WEx E) k → PSsV (cxOf (L2.CX P w) P w K mg base N qual scope f cdv A outer s H E) (WEx E) pr body b) :
    FnV P w K mg base (k + 1) x ps.length (fnS N.length ps.length pr b) := by
  refine ⟨f, fd, ps, hm, F.ok S (fun vs H Q E h => h.1) fun cdv A outer s H vs Q E hr hp => ?_, F.kp, F.bindsN hb⟩
  have ct : Ct (cxOf (L2.CX P w) P w K mg base N qual scope f cdv A outer s H E) (WEx E) k := ⟨fun σ => passAt (takes_of rfl rfl rfl rfl) σ, rfl, S.nd, hr, passes_of rfl⟩
  exact ⟨_, hbody cdv A outer s H E ct, body_q hp⟩
/-- in a comprehension -/
theorem Ct.blk {X : Cx} {W : WXX} {k : Nat} (c : Ct X W k) {s : Shared} {H : Hp} {scope : Scope} {ce : Env} {fp : List Addr} : Ct (X.blk s H scope ce fp) W0 k := by
  refine ⟨fun σ => fun _ _ _ _ _ _ h => ?_, c.hc, c.hN, c.hr, ?_⟩
  · obtain ⟨_, _, _, _, _, _, _, _, _, _, _, _, z⟩ := h
    exact z.elim
  · exact PassesOwn.never
end VS
set_option Elab.async false
set_option linter.all false
set_option maxRecDepth 100000
/-! VS11: comprehensions, tests, more sources. -/
namespace VS
open PySem L2

/-! ### list comprehensions -/
section
variable {X : Cx} {W : WXX} {pr : Nat → Bool} {tg iter elt ex : Expr} {ifs : List Expr} {scope : Scope} {own' : List (Str × Nat)} {pos : Pos}
theorem po_lc {m : M Src} {t : MT} {tt : M Bool} {te : M U} {vs : List Nat} (hc : X.calm = true) (hN : X.N.Nodup) (hi : PIV X W tg iter m) (ok : BlkOk X.N X.env.scope scope own') (hvs : own'.map (·.2) = vs)
    (hg : BlkAll X scope fun Y => PGV Y (prB vs) tg t) (ht : BlkAll X scope fun Y => PTs Y ifs (tG (ga X) W0 rlB tt)) (he : BlkAll X scope fun Y => PE Y elt (tG (ga X) W0 (rlV (ga X)) te))
    (hs : ∀ x, foldedSetIterable iter X.env x = pure x := by intro _; rfl) : PO X W (.ListComp elt [⟨tg, iter, ifs, 0⟩] scope pos) (mLc m t tt te vs) := by
  subst hvs
  exact PEimp (pe_lc hc hN hi ok (fun s H C cl fp => hg s H C cl fp) (fun s H C cl fp => ht s H C cl fp) (fun s H C cl fp => he s H C cl fp) hs) fun σ H Q q => lc_core' σ H Q q
theorem sv_setLc {m : M Src} {t : MT} {tt : M Bool} {te : M U} {vs : List Nat} {i : Nat} {y : Str} {py : Pos} {spos : Pos} (hc : X.calm = true) (hN : X.N.Nodup) (hy : X.N[i]? = some y) (hyl : X.env.scope.names.lookup y = some .local) (hp : pr i = false)
    (hsw : swapsWith (.ListComp elt [⟨tg, iter, ifs, 0⟩] scope pos) (some (.Name y py)) spos.line X.env = pure true) (hi : PIV X W tg iter m) (ok : BlkOk X.N X.env.scope scope own') (hvs : own'.map (·.2) = vs)
    (hg : BlkAll X scope fun Y => PGV Y (prB vs) tg t) (ht : BlkAll X scope fun Y => PTs Y ifs (tG (ga X) W0 rlB tt)) (he : BlkAll X scope fun Y => PE Y elt (tG (ga X) W0 (rlV (ga X)) te))
    (hs : ∀ x, foldedSetIterable iter X.env x = pure x := by intro _; rfl) : PSV X W pr (.Assign [.Name y py] (.ListComp elt [⟨tg, iter, ifs, 0⟩] scope pos) spos) (mAsg i (mLc m t tt te vs)) := by
  subst hvs
  exact PSimp (ps_setLc hc hN hy hyl hsw hi ok (fun s H C cl fp => hg s H C cl fp) (fun s H C cl fp => ht s H C cl fp) (fun s H C cl fp => he s H C cl fp) hs) fun D σ H q => set_core hp (fun σ H Q q => lc_core' σ H Q q) D σ H q
end

/-! ### tests -/
def mTn (m : M Bool) : M Bool := m.bd fun b => .ret (!b)
def mTa (m k : M Bool) : M Bool := m.bd fun b => if b then k else .ret false
def mTo (m k : M Bool) : M Bool := m.bd fun b => if b then .ret true else k
abbrev PWB (X : Cx) (W : WXX) (ex : Expr) (m : M Bool) : Prop := PW X ex (tG (ga X) W rlB m)
section
variable {X : Cx} {W : WXX} {a b c : Expr} {rest : List Expr} {pos : Pos} {m k : M Bool}
theorem pt_not' (h : PTB X W a m) : PTB X W (.UnaryOp .Not a pos) (mTn m) := PTimp (pt_not h) fun σ H Q ⟨B, e, sr, q⟩ => ⟨B, e, sr, (tAt.bd (rl := rlB) (rl2 := rlB) q).mono fun x H1 ⟨B1, e1, u, g1, r1, q1⟩ => by
  have r1 : u = x := r1
  subst r1
  exact q1 _ B1 H1 (Go.refl g1.sr) rfl⟩
theorem pwb_and1 (h : PTB X W a m) : PWB X W (.BoolOp .And [a] pos) m := pw_and1 h
theorem pwb_or1 (h : PTB X W a m) : PWB X W (.BoolOp .Or [a] pos) m := pw_or1 h
theorem pwb_and (h : PTB X W a m) (h2 : PWB X W (.BoolOp .And (b :: rest) pos) k) : PWB X W (.BoolOp .And (a :: b :: rest) pos) (mTa m k) := PWimp (pw_and h h2) fun σ H Q ⟨B, e, sr, q⟩ => ⟨B, e, sr, (tAt.bd (rl := rlB) (rl2 := rlB) q).mono fun x H1 ⟨B1, e1, u, g1, r1, q1⟩ => by
  have r1 : u = x := r1
  subst r1
  cases u with
  | true => exact ⟨B1, e1, g1.sr, q1⟩
  | false => exact q1 _ B1 H1 (Go.refl g1.sr) rfl⟩
theorem pwb_or (h : PTB X W a m) (h2 : PWB X W (.BoolOp .Or (b :: rest) pos) k) : PWB X W (.BoolOp .Or (a :: b :: rest) pos) (mTo m k) := PWimp (pw_or h h2) fun σ H Q ⟨B, e, sr, q⟩ => ⟨B, e, sr, (tAt.bd (rl := rlB) (rl2 := rlB) q).mono fun x H1 ⟨B1, e1, u, g1, r1, q1⟩ => by
  have r1 : u = x := r1
  subst r1
  cases u with
  | false => exact ⟨B1, e1, g1.sr, q1⟩
  | true => exact q1 _ B1 H1 (Go.refl g1.sr) rfl⟩
theorem pt_of (h : PWB X W a m) : PTB X W a m := h.pt
/-- a bool value as a test -/
theorem pt_vb {m : M (Bool × U)} (h : PO X W a m) (he : ∀ whole, isTrue a X.env whole = (do let v ← whole; standAt a.pos; holding [v] (truthy v)) := by intro _; rfl) : PTB X W a (mTst m) := PTimp (pt_val h he) fun σ H Q q => tst_core (fun _ _ _ h => h) σ H Q q
/-- truth of an operand -/
def truU : U → Option Bool
  | .non => some false
  | .bl b => some b
  | .int i => some (i != 0)
  | .str x => if x.length ≤ sizeLine then some ((x.length : Int) != 0) else none
  | .lst us => some (!us.isEmpty)
  | .tup us => some (!us.isEmpty)
  | .scr ns => some (!ns.isEmpty)
  | _ => none
def mTru (m : M Od) : M Bool := m.bd fun od e => match rdO e od with
  | some u => match truU u with
    | some b => .ok b e
    | none => .bad
  | none => .bad
theorem reps.emp {Γ : Ga} {B : Hp} {us : List U} {vs : List V} (h : reps Γ B us vs) : us.isEmpty = vs.isEmpty := by
  cases us with
  | nil => simp only [reps] at h; subst h; rfl
  | cons u us => simp only [reps] at h; obtain ⟨v, r, e, _⟩ := h; subst e; rfl
theorem truU_ok {Γ : Ga} {B H : Hp} {u : U} {v : V} {b : Bool} (s : Same B H) (h : Vw Γ B H u v) (q : truU u = some b) : TruV Γ.K v H b := by
  cases u with
  | non => cases h.non; cases q; rfl
  | bl k => cases h.bl; cases q; rfl
  | int i => cases h.int; cases q; rfl
  | str x =>
    cases h.str
    unfold truU at q
    dsimp only at q
    split at q
    · cases q; exact ⟨by assumption, rfl⟩
    · cases q
  | lst us =>
    obtain ⟨a, vs, rfl, h1, r⟩ := h.lst s
    cases q
    exact .inl ⟨vs, SqL.of h1, by rw [r.emp]⟩
  | tup us =>
    obtain ⟨a, vs, rfl, h1, r⟩ := h.tup s
    cases q
    exact .inr (.inl ⟨vs, h1, by rw [r.emp]⟩)
  | scr ns =>
    obtain ⟨a, rfl, h1⟩ := h.scr s
    cases q
    exact .inl ⟨_, h1, by simp⟩
  | _ => cases q
theorem pt_tru {m : M Od} (h : PR X W a m) (he : ∀ whole, isTrue a X.env whole = (do let v ← whole; standAt a.pos; holding [v] (truthy v)) := by intro _; rfl) : PTB X W a (mTru m) := PTimp (pt_truth h he) fun σ H Q ⟨B, e, sr, q⟩ => ⟨B, e, sr, (tAt.bd (rl := rlR (ga X)) (rl2 := rlB) q).mono fun x H1 ⟨B1, e1, od, g1, r1, q1⟩ => by
  unfold tAt at q1
  dsimp only at q1
  cases h1 : rdO e1 od with
  | none => rw [h1] at q1; exact q1.elim
  | some u =>
    rw [h1] at q1
    dsimp only at q1
    cases h2 : truU u with
    | none => rw [h2] at q1; exact q1.elim
    | some b =>
      rw [h2] at q1
      exact ⟨b, truU_ok g1.sr.bh (rlR.vw g1.sr r1 h1) h2, q1 _ B1 H1 (Go.refl g1.sr) rfl⟩⟩

/-! ### bools as values, a if t else b -/
def mAnd (m k : M (Bool × U)) : M (Bool × U) := m.bd fun r => match r with
  | (false, .bl b) => if b then k else .ret (false, .bl false)
  | _ => fun _ => .bad
def mOr (m k : M (Bool × U)) : M (Bool × U) := m.bd fun r => match r with
  | (false, .bl b) => if b then .ret (false, .bl true) else k
  | _ => fun _ => .bad
def mNot (m : M (Bool × U)) : M (Bool × U) := m.bd fun r => match r with
  | (false, .bl b) => .ret (false, .bl (!b))
  | _ => fun _ => .bad
theorem po_one {op : BoolOp} {m : M (Bool × U)} (h : PO X W a m) : PO X W (.BoolOp op [a] pos) m := pe_one h
theorem po_and {m k : M (Bool × U)} (h : PO X W a m) (h2 : PO X W (.BoolOp .And (b :: rest) pos) k) : PO X W (.BoolOp .And (a :: b :: rest) pos) (mAnd m k) := PEimp (pe_and h h2) fun σ H Q ⟨B, e, sr, q⟩ => ⟨B, e, sr, (tAt.bd q).mono fun x H1 ⟨B1, e1, r, g1, r1, q1⟩ => by
  obtain ⟨o, u⟩ := r
  cases o with
  | true => exact False.elim q1
  | false =>
    cases u with
    | bl k =>
      have r1 : rep (ga X) B1 (.bl k) x := r1
      simp only [rep] at r1
      subst r1
      refine ⟨k, rfl, ?_⟩
      cases k with
      | true => exact ⟨B1, e1, g1.sr, q1⟩
      | false => exact fin_val (u := .bl false) g1.sr q1 (rep_bl false)
    | _ => exact False.elim q1⟩
theorem po_or {m k : M (Bool × U)} (h : PO X W a m) (h2 : PO X W (.BoolOp .Or (b :: rest) pos) k) : PO X W (.BoolOp .Or (a :: b :: rest) pos) (mOr m k) := PEimp (pe_or h h2) fun σ H Q ⟨B, e, sr, q⟩ => ⟨B, e, sr, (tAt.bd q).mono fun x H1 ⟨B1, e1, r, g1, r1, q1⟩ => by
  obtain ⟨o, u⟩ := r
  cases o with
  | true => exact False.elim q1
  | false =>
    cases u with
    | bl k =>
      have r1 : rep (ga X) B1 (.bl k) x := r1
      simp only [rep] at r1
      subst r1
      refine ⟨k, rfl, ?_⟩
      cases k with
      | false => exact ⟨B1, e1, g1.sr, q1⟩
      | true => exact fin_val (u := .bl true) g1.sr q1 (rep_bl true)
    | _ => exact False.elim q1⟩
theorem po_not {m : M (Bool × U)} (h : PO X W a m) : PO X W (.UnaryOp .Not a pos) (mNot m) := PEimp (pe_not h) fun σ H Q ⟨B, e, sr, q⟩ => ⟨B, e, sr, (tAt.bd q).mono fun x H1 ⟨B1, e1, r, g1, r1, q1⟩ => by
  obtain ⟨o, u⟩ := r
  cases o with
  | true => exact False.elim q1
  | false =>
    cases u with
    | bl k =>
      have r1 : rep (ga X) B1 (.bl k) x := r1
      simp only [rep] at r1
      subst r1
      exact ⟨k, rfl, fin_val (u := .bl (!k)) g1.sr q1 (rep_bl (!k))⟩
    | _ => exact False.elim q1⟩
def mIfE (c : M Bool) (m k : M (Bool × U)) : M (Bool × U) := c.bd fun b => if b then m else k
theorem po_if {mc : M Bool} {m k : M (Bool × U)} (hc : PTB X W c mc) (h : PO X W a m) (h2 : PO X W b k) : PO X W (.IfExp c a b pos) (mIfE mc m k) := PEimp (pe_ifExp hc h h2) fun σ H Q ⟨B, e, sr, q⟩ => ⟨B, e, sr, (tAt.bd (rl := rlB) (rl2 := rlO (ga X)) q).mono fun x H1 ⟨B1, e1, u, g1, r1, q1⟩ => by
  have r1 : u = x := r1
  subst r1
  cases u with
  | true => exact ⟨B1, e1, g1.sr, q1⟩
  | false => exact ⟨B1, e1, g1.sr, q1⟩⟩
end

/-! ### more sources -/
section
variable {X : Cx} {W : WXX} {tg ex ey : Expr} {pos : Pos}
theorem iv_name {i : Nat} {x : Str} (hN : X.N[i]? = some x) (hv : Vis X.env.scope x) (hd : (x == ("__debug__" : Str)) = false := by decide) (hcd : (x == ("__classdict__" : Str)) = false := by decide) : PIV X W tg (.Name x pos) (mItN i) := by
  refine PIimp (pi_list (pe_var hN hv hd hcd)) fun σ H R ⟨B, e, sr, q⟩ => ?_
  unfold mItN at q
  split at q
  · rename_i s e' hz
    split at hz
    · rename_i us z
      cases hz
      obtain ⟨a, ho, h1, h2, ⟨ws, e1, r⟩, h4⟩ := sr.ow i _ z
      subst e1
      refine ⟨_, h1, a, rfl, ⟨ws, SqL.of h2⟩, q _ B H (Go.refl sr) ?_ z⟩
      refine ⟨fun B H k u s1 s2 ⟨a', ws', k1, k2, k3⟩ hk => ?_, fun B H s1 s2 ⟨a', ws', k1, k2, k3⟩ => ?_⟩
      · rw [h1] at k1
        cases k1
        obtain ⟨v, hv, rv⟩ := k3.get hk
        exact ⟨⟨ws', v, SqL.of k2, hv⟩, fun x H' ⟨e, q⟩ => ⟨B, .inl ⟨rfl, e⟩, by
          have := q ws' (SqL.of k2)
          rw [hv] at this
          cases this
          exact rv⟩⟩
      · rw [h1] at k1
        cases k1
        exact ⟨ws', SqL.of k2, by rw [k3.length]; exact Nat.le_refl _⟩
    · rename_i us z
      cases hz
      obtain ⟨v, h1, h2⟩ := sr.vl i _ z
      simp only [rep] at h2
      obtain ⟨a, vs, rfl, h3, rr⟩ := h2
      refine ⟨_, h1, a, rfl, ⟨vs, SqL.of (sr.bh _ _ h3)⟩, q _ B H (Go.refl sr) ?_ trivial⟩
      refine ⟨fun B H k u s1 s2 _ hk => ?_, fun B H s1 s2 _ => ⟨vs, SqL.of (s2 _ _ (s1 _ _ h3)), by rw [rr.length]; exact Nat.le_refl _⟩⟩
      obtain ⟨v, hv, rv⟩ := rr.get hk
      exact ⟨⟨vs, v, SqL.of (s2 _ _ (s1 _ _ h3)), hv⟩, fun x H' ⟨e, q⟩ => ⟨B, .inl ⟨rfl, e⟩, by
        have := q vs (SqL.of (s2 _ _ (s1 _ _ h3)))
        rw [hv] at this
        cases this
        exact rv.mono s1⟩⟩
    · rename_i ns z
      cases hz
      obtain ⟨v, h1, h2⟩ := sr.vl i _ z
      simp only [rep] at h2
      obtain ⟨a, rfl, h3⟩ := h2
      refine ⟨_, h1, a, rfl, ⟨_, sqL_same sr.bh h3⟩, q _ B H (Go.refl sr) ?_ trivial⟩
      refine ⟨fun B H k u s1 s2 _ hk => ?_, fun B H s1 s2 _ => ⟨_, sqL_same (s1.trans s2) h3, by simp⟩⟩
      obtain ⟨n, hn, rfl⟩ : ∃ n, ns[k]? = some n ∧ u = .int n := by
        rw [List.getElem?_map] at hk
        cases z : ns[k]? with
        | none => rw [z] at hk; cases hk
        | some n => rw [z] at hk; cases hk; exact ⟨n, rfl, rfl⟩
      have hv : (ns.map V.int)[k]? = some (.int n) := by rw [List.getElem?_map, hn]; rfl
      exact ⟨⟨_, _, sqL_same (s1.trans s2) h3, hv⟩, fun x H' ⟨e, q⟩ => ⟨B, .inl ⟨rfl, e⟩, by
        have := q _ (sqL_same (s1.trans s2) h3)
        rw [hv] at this
        cases this
        exact rep_int _⟩⟩
    · cases hz
  · rename_i hz
    split at hz <;> cases hz
  · exact q.elim
theorem iv_range2 {m m2 : M U} {p : Pos} (hg : Gl X "range") (hm : X.mg "range" = none) (h : PV X W ex m) (h2 : PV X W ey m2) (hs : starEach [ex, ey] X.env = [(false, eval ex X.env), (false, eval ey X.env)] := by rfl) (hs2 : starEach [ey] X.env = [(false, eval ey X.env)] := by rfl) :
    PIV X W tg (.Call (.Name "range" p) [ex, ey] [] pos) (mRg2 m m2) := by
  refine PIimp (pi_range2 hg hm (pa_cons h (pa_cons h2 pa_nil (by rw [hs2]; rfl)) (by rw [hs, hs2])) hs hs2) fun σ H R q => ?_
  obtain ⟨B, e, sr, q⟩ := iG.of (rl := rlV (ga X)) q
  refine ⟨B, e, sr, q.mono fun x H1 ⟨B1, e1, u, s1, r1, q1⟩ => ?_⟩
  obtain ⟨B', e', s', q1⟩ := iG.of (rl := rlV (ga X)) (show iG (ga X) W (m2.bd _) σ H1 R from ⟨B1, e1, s1, q1⟩)
  refine ⟨B', e', s', q1.mono fun y H2 ⟨B2, e2, w, s2, r2, q2⟩ => ?_⟩
  cases u with
  | int i =>
    cases w with
    | int j =>
      have r1' : rep (ga X) B1 (.int i) x := r1
      have r2' : rep (ga X) B2 (.int j) y := r2
      simp only [rep] at r1' r2'
      subst r1' r2'
      dsimp only at q2
      split at q2
      · rename_i s e' hz
        split at hz
        · rename_i hl
          unfold lim62 at hl
          simp only [Bool.and_eq_true, decide_eq_true_eq, cdec_iff] at hl
          injection hz with h1 h2
          subst h1 h2
          exact ⟨i, j, rfl, ⟨hl.1.1, hl.1.2, hl.2.1, hl.2.2⟩, q2 _ B2 H2 (Go.refl s2) itr_ok trivial⟩
        · cases hz
      · rename_i hz
        split at hz <;> cases hz
      · exact q2.elim
    | _ => exact False.elim q2
  | _ => cases w <;> exact False.elim q2
/-- the letters of a str -/
def strL (x : Str) : List U := x.cps.toList.map fun c => .str ⟨#[c]⟩
def srcS (u : U) : M Src := match u with
  | .str x => .ret ⟨strL x, [], none⟩
  | _ => fun _ => .bad
def mItS (m : M U) : M Src := m.bd srcS
theorem iv_str {m : M U} (h : PV X W ex m) : PIV X W tg ex (mItS m) := by
  refine PIimp (pi_str h) fun σ H R q => ?_
  obtain ⟨B, e, sr, q⟩ := iG.of (rl := rlV (ga X)) q
  refine ⟨B, e, sr, q.mono fun x H1 ⟨B1, e1, u, s1, r1, q1⟩ => ?_⟩
  cases u with
  | str t =>
    have r1' : rep (ga X) B1 (.str t) x := r1
    simp only [rep] at r1'
    subst r1'
    refine ⟨t, rfl, q1 _ B1 H1 (Go.refl s1) ⟨fun B H k u s1 s2 _ hk => ?_, fun B H s1 s2 _ => ?_⟩ trivial⟩
    · unfold strL at hk
      rw [List.getElem?_map, Array.getElem?_toList] at hk
      cases z : t.cps[k]? with
      | none => rw [z] at hk; cases hk
      | some c =>
        rw [z] at hk
        cases hk
        refine ⟨?_, fun x H' ⟨e, c', h1, h2⟩ => ⟨B, .inl ⟨rfl, e⟩, ?_⟩⟩
        · rcases Nat.lt_or_ge k t.cps.size with z' | z'
          · exact z'
          · rw [Array.getElem?_eq_none z'] at z; cases z
        · rw [z] at h1
          cases h1
          rw [h2]
          simp only [rep]
    · show t.cps.size ≤ _
      unfold strL
      simp
  | _ => exact False.elim q1
/-- enumerate of a list -/
def enumL (us : List U) : List U := us.zipIdx.map fun p => .tup [.int (p.2 : Nat), p.1]
def srcE (u : U) : M Src := match u with
  | .lst us => .ret ⟨enumL us, [], none⟩
  | _ => fun _ => .bad
def mItE (m : M U) : M Src := m.bd srcE
theorem iv_enum {m : M U} {p tpos : Pos} {elts : List Expr} {kk : Nat} (hg : Gl X "enumerate") (hm : X.mg "enumerate" = none) (h : PV X W ex m) (hs : starEach [ex] X.env = [(false, eval ex X.env)] := by rfl) :
    PIV X W (.Tuple elts kk tpos) (.Call (.Name "enumerate" p) [ex] [] pos) (mItE m) := by
  refine PIimp (pi_enum hg hm (pa_cons h pa_nil (by rw [hs]; rfl)) hs) fun σ H R q => ?_
  obtain ⟨B, e, sr, q⟩ := iG.of (rl := rlV (ga X)) q
  refine ⟨B, e, sr, q.mono fun x H1 ⟨B1, e1, u, s1, r1, q1⟩ => ?_⟩
  cases u with
  | lst us =>
    have r1' : rep (ga X) B1 (.lst us) x := r1
    simp only [rep] at r1'
    obtain ⟨a, vs, rfl, h1, rr⟩ := r1'
    refine ⟨a, vs, rfl, SqL.of (s1.bh _ _ h1), q1 _ B1 H1 (Go.refl s1) ?_ trivial⟩
    refine ⟨fun B H k u s1 s2 _ hk => ?_, fun B H s1 s2 _ => ⟨vs, SqL.of (s2 _ _ (s1 _ _ h1)), by rw [← rr.length]; simp [enumL]⟩⟩
    unfold enumL at hk
    rw [List.getElem?_map, List.getElem?_zipIdx] at hk
    cases z : us[k]? with
    | none => rw [z] at hk; cases hk
    | some w =>
      rw [z] at hk
      cases hk
      obtain ⟨v, hv, rv⟩ := rr.get z
      have hs := SqL.of (K := (ga X).K) (s2 _ _ (s1 _ _ h1))
      refine ⟨⟨vs, v, hs, hv⟩, fun x H' ⟨T, y, e1, e2, e3, e4⟩ => ?_⟩
      have := e4 vs hs
      rw [hv] at this
      cases this
      subst e1
      refine ⟨upd B T _, .inr ⟨T, _, e2, rfl, e3⟩, ?_⟩
      have bt : B T = none := s2.free e2
      simp only [rep]
      exact ⟨T, _, rfl, SqT.of upd_same, reps.cons' (by simp [rep]) (reps.cons' ((rv.mono s1).mono (same_upd bt)) reps.nil')⟩
  | _ => exact False.elim q1
/-- a module constant -/
theorem pv_glob {x : Str} {v : V} {w : Value} {u : U} (hg : Gl X x) (hm : X.mg x = some w) (r : RelV v w) (r2 : ∀ B, rep (ga X) B u v) (hd : (x == ("__debug__" : Str)) = false := by decide) : PV X W (.Name x pos) (mC u) := pv_const (pe_glob hg hm r hd) r2
end
end VS
set_option Elab.async false
set_option linter.all false
set_option maxRecDepth 100000
/-! VS12: keys that are tuples: the library's nested keys. -/
namespace VS
open PySem L2
theorem nks_map : ∀ us : List U, nk.nks us = us.map nk
  | [] => rfl
  | u :: r => by rw [nk.nks, nks_map r, List.map_cons]
theorem nk_tup {us : List U} : nk (.tup us) = .tup (us.map nk) := by rw [nk, nks_map]
theorem map_inj_mem {α β : Type} {f : α → β} : ∀ {x y : List α}, (∀ a ∈ x, ∀ b ∈ y, f a = f b → a = b) → x.map f = y.map f → x = y
  | [], [], _, _ => rfl
  | [], b :: y, _, h => by simp at h
  | a :: x, [], _, h => by simp at h
  | a :: x, b :: y, inj, h => by
    simp only [List.map_cons, List.cons.injEq] at h
    rw [inj a List.mem_cons_self b List.mem_cons_self h.1, map_inj_mem (fun a ha b hb => inj a (List.mem_cons_of_mem _ ha) b (List.mem_cons_of_mem _ hb)) h.2]
theorem kd_inj {p : U → Bool} (hp : ∀ a b, p a = true → p b = true → nk a = nk b → a = b) (ht : ∀ us, p (.tup us) = false) (hl : ∀ a us, p a = true → nk a ≠ .tup us) : ∀ (n : Nat) (a b : U), kd p n a = true → kd p n b = true → nk a = nk b → a = b := by
  have leaf : ∀ (n : Nat) (a : U), kd p n a = true → (∃ us, a = .tup us) ∨ p a = true := by
    intro n a h
    cases a <;> first | exact .inl ⟨_, rfl⟩ | (right; cases n <;> exact h)
  intro n
  induction n with
  | zero =>
    intro a b ha hb h
    rcases leaf _ _ ha with ⟨us, rfl⟩ | ha
    · simp [kd] at ha
    · rcases leaf _ _ hb with ⟨us, rfl⟩ | hb
      · simp [kd] at hb
      · exact hp a b ha hb h
  | succ n ih =>
    intro a b ha hb h
    rcases leaf _ _ ha with ⟨us, rfl⟩ | pa
    · rcases leaf _ _ hb with ⟨ws, rfl⟩ | pb
      · simp only [nk_tup, NestedKey.tup.injEq] at h
        simp only [kd, List.all_eq_true] at ha hb
        rw [map_inj_mem (fun a hm b hm' => ih a b (ha a hm) (hb b hm')) h]
      · rw [nk_tup] at h
        exact absurd h.symm (hl b _ pb)
    · rcases leaf _ _ hb with ⟨ws, rfl⟩ | pb
      · rw [nk_tup] at h
        exact absurd h (hl a _ pa)
      · exact hp a b pa pb h
theorem cmp_inj {a b : U} (h : cmpU a b = true) (e : nk a = nk b) : a = b := by
  unfold cmpU at h
  simp only [Bool.or_eq_true, Bool.and_eq_true] at h
  rcases h with ⟨h1, h2⟩ | ⟨h1, h2⟩
  · refine kd_inj (p := lfI) (fun a b ha hb e => ?_) (fun _ => rfl) (fun a us ha e => ?_) 8 a b h1 h2 e
    · cases a <;> simp only [lfI, Bool.false_eq_true] at ha <;> cases b <;> simp only [lfI, Bool.false_eq_true] at hb <;> simp_all [nk]
    · cases a <;> simp only [lfI, Bool.false_eq_true] at ha <;> simp_all [nk]
  · refine kd_inj (p := lfB) (fun a b ha hb e => ?_) (fun _ => rfl) (fun a us ha e => ?_) 8 a b h1 h2 e
    · cases a <;> simp only [lfB, Bool.false_eq_true] at ha <;> cases b <;> simp only [lfB, Bool.false_eq_true] at hb <;> simp_all [nk]
      rename_i x y
      cases x <;> cases y <;> simp_all
    · cases a <;> simp only [lfB, Bool.false_eq_true] at ha <;> simp_all [nk]
theorem cmpU_symm {a b : U} (h : cmpU a b = true) : cmpU b a = true := by
  unfold cmpU at h ⊢
  simp only [Bool.or_eq_true, Bool.and_eq_true] at h ⊢
  rcases h with ⟨h1, h2⟩ | ⟨h1, h2⟩
  · exact .inl ⟨h2, h1⟩
  · exact .inr ⟨h2, h1⟩
theorem depth_kd {p : U → Bool} : ∀ (n : Nat) (u : U), kd p n u = true → (nk u).depth ≤ n := by
  intro n
  induction n with
  | zero =>
    intro u h
    cases u <;> first | exact Nat.le_refl _ | (simp [kd] at h)
  | succ n ih =>
    intro u h
    cases u with
    | tup us =>
      simp only [kd, List.all_eq_true] at h
      rw [nk_tup, NestedKey.depth]
      have : ∀ l : List U, (∀ u ∈ l, (nk u).depth ≤ n) → NestedKey.depthAll (l.map nk) ≤ n := by
        intro l
        induction l with
        | nil => intro _; simp [NestedKey.depthAll]
        | cons x l i2 =>
          intro hl
          have h1 := hl x List.mem_cons_self
          have h2 := i2 fun u hu => hl u (List.mem_cons_of_mem _ hu)
          simp only [List.map_cons, NestedKey.depthAll]
          omega
      have := this us fun u hu => ih u (h u hu)
      omega
    | _ => exact Nat.zero_le _
end VS
set_option Elab.async false
set_option linter.all false
set_option maxRecDepth 100000
/-! VS13: dicts. -/
namespace VS
open PySem L2

noncomputable instance decU : DecidableEq U := fun a b => Classical.propDecidable (a = b)

def kOf : U → Key
  | .int i => .inl i
  | .str x => .inr x
  | _ => .inl 0
theorem kOf_inj {a b : U} (ha : isK1 a = true) (hb : isK1 b = true) (h : kOf a = kOf b) : a = b := by
  cases a <;> simp only [isK1, Bool.false_eq_true] at ha <;> cases b <;> simp only [isK1, Bool.false_eq_true] at hb <;> simp_all [kOf]
noncomputable def dfind (kvs : List (U × U)) (k : U) : Option U := (kvs.find? fun p => decide (p.1 = k)).map (·.2)
noncomputable def dset (kvs : List (U × U)) (k w : U) : List (U × U) := if (dfind kvs k).isSome then kvs.map (fun p => if p.1 = k then (p.1, w) else p) else kvs ++ [(k, w)]
/-- the key suits the dict's keys -/
def okD (kvs : List (U × U)) (k : U) : Bool := (isK1 k && kvs.all fun p => isK1 p.1) || (isKx k && kvs.all fun p => isKx p.1 && cmpU p.1 k)
/-- a dict that is read -/
def DN (Γ : Ga) (B H : Hp) (a : Addr) (kvs : List (U × U)) : Prop := (∃ es, Rd H a (.dK es) ∧ repd Γ B kvs es) ∨ ∃ xs, H a = some (DX a xs) ∧ repx Γ B kvs xs

theorem dfind_nil {k : U} : dfind [] k = none := rfl
theorem dfind_cons {p : U × U} {r : List (U × U)} {k : U} : dfind (p :: r) k = if p.1 = k then some p.2 else dfind r k := by
  unfold dfind
  by_cases h : p.1 = k <;> simp [List.find?_cons, h]

/-! ### flat keys -/
def KR (Γ : Ga) (B : Hp) : U × U → Key × Value → Prop := fun p q => isK1 p.1 = true ∧ kOf p.1 = q.1 ∧ ∃ v, rep Γ B p.2 v ∧ RelV v q.2
section
variable {Γ : Ga} {B : Hp}
theorem rep_key {u : U} {l : Key} (h : rep Γ B u (kV l)) : isK1 u = true ∧ kOf u = l := by
  cases u <;> cases l <;> simp only [rep, kV] at h <;> first | (obtain ⟨_, _, h, _⟩ := h; exact absurd h (by simp)) | (obtain ⟨_, h, _⟩ := h; exact absurd h (by simp)) | (obtain ⟨_, _, _, _, h, _⟩ := h; exact absurd h (by simp)) | (injection h with h; subst h; exact ⟨rfl, rfl⟩) | exact h.elim | exact absurd h (by simp)
theorem key_rep {u : U} (h : isK1 u = true) : rep Γ B u (kV (kOf u)) := by
  cases u <;> simp only [isK1, Bool.false_eq_true] at h <;> simp only [rep, kOf, kV]
theorem repd.kr : ∀ {kvs : List (U × U)} {es : List (Key × V)} {vs : List (Key × Value)}, repd Γ B kvs es → KV es vs → Paired (KR Γ B) kvs vs
  | [], _, _, h, k => by simp only [repd] at h; subst h; cases k; exact .nil
  | (k, u) :: kvs, _, _, h, kk => by
    simp only [repd] at h
    obtain ⟨l, v, r, rfl, r1, r2, r3⟩ := h
    cases kk with
    | cons h1 t =>
      obtain ⟨h1, h2⟩ := rep_key r1
      rename_i q _ h3
      exact .cons ⟨h1, h2.trans h3.1, v, r2, h3.2⟩ (repd.kr r3 t)
theorem repd.of : ∀ {kvs : List (U × U)} {vs : List (Key × Value)}, Paired (KR Γ B) kvs vs → ∃ es, repd Γ B kvs es ∧ KV es vs
  | _, _, .nil => ⟨[], by simp [repd], .nil⟩
  | (k, u) :: kvs, (l, z) :: vs, .cons ⟨h1, h2, v, h3, h4⟩ t => by
    obtain ⟨es, q1, q2⟩ := repd.of t
    refine ⟨(l, v) :: es, ?_, .cons ⟨rfl, h4⟩ q2⟩
    simp only [repd]
    exact ⟨l, v, es, rfl, by have := key_rep (Γ := Γ) (B := B) h1; dsimp only at h2; rwa [h2] at this, h3, q1⟩
theorem KR.find {k : U} (hk : isK1 k = true) : ∀ {kvs : List (U × U)} {vs : List (Key × Value)}, Paired (KR Γ B) kvs vs → (∀ w, dfind kvs k = some w → ∃ v z, valueAt vs (kOf k) = some z ∧ rep Γ B w v ∧ RelV v z) ∧ (dfind kvs k = none → valueAt vs (kOf k) = none)
  | _, _, .nil => ⟨fun w h => by simp [dfind_nil] at h, fun _ => rfl⟩
  | p :: kvs, q :: vs, .cons ⟨h1, h2, v, h3, h4⟩ t => by
    obtain ⟨i1, i2⟩ := KR.find hk t
    rw [dfind_cons]
    have e : valueAt (q :: vs) (kOf k) = if p.1 = k then some q.2 else valueAt vs (kOf k) := by
      by_cases z : p.1 = k
      · have : q.1 = kOf k := by rw [← h2, z]
        simp [valueAt, List.find?_cons, this, z]
      · have : q.1 ≠ kOf k := fun y => z (kOf_inj h1 hk (h2.trans y))
        simp [valueAt, List.find?_cons, this, z]
    rw [e]
    by_cases z : p.1 = k
    · simp only [z, if_true]
      exact ⟨fun w h => by injection h with h; subst h; exact ⟨v, q.2, rfl, h3, h4⟩, fun h => by cases h⟩
    · simp only [z, if_false]
      exact ⟨i1, i2⟩
theorem KR.any {k : U} (hk : isK1 k = true) : ∀ {kvs : List (U × U)} {vs : List (Key × Value)}, Paired (KR Γ B) kvs vs → vs.any (fun kv => decide (kv.1 = kOf k)) = (dfind kvs k).isSome
  | _, _, .nil => rfl
  | p :: kvs, q :: vs, .cons ⟨h1, h2, v, h3, h4⟩ t => by
    rw [dfind_cons, List.any_cons, KR.any hk t]
    by_cases z : p.1 = k
    · have : q.1 = kOf k := by rw [← h2, z]
      simp [this, z]
    · have : q.1 ≠ kOf k := fun y => z (kOf_inj h1 hk (h2.trans y))
      simp [this, z]
theorem KR.repl {k w : U} {v : V} {z : Value} (hk : isK1 k = true) (rw' : rep Γ B w v) (rz : RelV v z) : ∀ {kvs : List (U × U)} {vs : List (Key × Value)}, Paired (KR Γ B) kvs vs →
    Paired (KR Γ B) (kvs.map fun p => if p.1 = k then (p.1, w) else p) (vs.map fun kv => if kv.1 = kOf k then (kv.1, z) else kv)
  | _, _, .nil => .nil
  | p :: kvs, q :: vs, .cons ⟨h1, h2, v', h3, h4⟩ t => by
    refine .cons ?_ (KR.repl hk rw' rz t)
    by_cases y : p.1 = k
    · have : q.1 = kOf k := by rw [← h2, y]
      simp only [y, this, if_true]
      exact ⟨hk, rfl, v, rw', rz⟩
    · have : q.1 ≠ kOf k := fun y' => y (kOf_inj h1 hk (h2.trans y'))
      simp only [y, this, if_false]
      exact ⟨h1, h2, v', h3, h4⟩
theorem KR.put {k w : U} {v : V} {z : Value} {kvs : List (U × U)} {vs : List (Key × Value)} (hk : isK1 k = true) (rw' : rep Γ B w v) (rz : RelV v z) (h : Paired (KR Γ B) kvs vs) : Paired (KR Γ B) (dset kvs k w) (stored vs (kOf k) z) := by
  unfold dset stored
  have e := KR.any hk h
  cases y : (dfind kvs k).isSome with
  | true =>
    rw [y] at e
    rw [if_pos rfl, if_pos e]
    exact KR.repl hk rw' rz h
  | false =>
    rw [y] at e
    rw [if_neg (by simp), if_neg (by rw [e]; simp)]
    exact h.snoc ⟨hk, rfl, v, rw', rz⟩
end

/-! ### keys that are tuples -/
def XR (Γ : Ga) (B : Hp) : U × U → NestedKey × Addr × Value → Prop := fun p q => isKx p.1 = true ∧ nk p.1 = q.1 ∧ rep Γ B p.1 (.ref q.2.1) ∧ ∃ v, rep Γ B p.2 v ∧ RelV v q.2.2
/-- keys of one dict -/
def PW (kvs : List (U × U)) : Prop := ∀ p ∈ kvs, ∀ q ∈ kvs, p.1 ≠ q.1 → cmpU p.1 q.1 = true
theorem PW.inj {kvs : List (U × U)} (h : PW kvs) {p q : U × U} (hp : p ∈ kvs) (hq : q ∈ kvs) (e : nk p.1 = nk q.1) : p.1 = q.1 := by
  by_cases z : p.1 = q.1
  · exact z
  · exact cmp_inj (h p hp q hq z) e
section
variable {Γ : Ga} {B : Hp}
theorem XR.find {k : U} : ∀ {kvs : List (U × U)} {ys : List (NestedKey × Addr × Value)}, (∀ p ∈ kvs, cmpU p.1 k = true) → Paired (XR Γ B) kvs ys →
    (∀ w, dfind kvs k = some w → ∃ v p, atKey ys (nk k) = some p ∧ rep Γ B w v ∧ RelV v p.2) ∧ (dfind kvs k = none → atKey ys (nk k) = none)
  | _, _, _, .nil => ⟨fun w h => by simp [dfind_nil] at h, fun _ => rfl⟩
  | p :: kvs, q :: ys, hk, .cons ⟨h1, h2, h5, v, h3, h4⟩ t => by
    obtain ⟨i1, i2⟩ := XR.find (fun p hp => hk p (List.mem_cons_of_mem _ hp)) t
    have ck := hk p List.mem_cons_self
    rw [dfind_cons]
    have e : atKey (q :: ys) (nk k) = if p.1 = k then some q.2 else atKey ys (nk k) := by
      by_cases z : p.1 = k
      · have : q.1 = nk k := by rw [← h2, z]
        simp [atKey, List.find?_cons, this, z]
      · have : q.1 ≠ nk k := fun y => z (cmp_inj ck (h2.trans y))
        simp [atKey, List.find?_cons, this, z]
    rw [e]
    by_cases z : p.1 = k
    · simp only [z, if_true]
      exact ⟨fun w h => by injection h with h; subst h; exact ⟨v, q.2, rfl, h3, h4⟩, fun h => by cases h⟩
    · simp only [z, if_false]
      exact ⟨i1, i2⟩
theorem XR.repl {k w : U} {v : V} {z : Value} (kx : isKx k = true) (rw' : rep Γ B w v) (rz : RelV v z) : ∀ {kvs : List (U × U)} {ys : List (NestedKey × Addr × Value)}, (∀ p ∈ kvs, cmpU p.1 k = true) → Paired (XR Γ B) kvs ys →
    Paired (XR Γ B) (kvs.map fun p => if p.1 = k then (p.1, w) else p) (ys.map (putAt (nk k) z))
  | _, _, _, .nil => .nil
  | p :: kvs, q :: ys, hk, .cons ⟨h1, h2, h5, v', h3, h4⟩ t => by
    refine .cons ?_ (XR.repl kx rw' rz (fun p hp => hk p (List.mem_cons_of_mem _ hp)) t)
    have ck := hk p List.mem_cons_self
    unfold putAt
    by_cases y : p.1 = k
    · have : q.1 = nk k := by rw [← h2, y]
      simp only [y, this, if_true]
      exact ⟨kx, rfl, by rw [← y]; exact h5, v, rw', rz⟩
    · have : q.1 ≠ nk k := fun y' => y (cmp_inj ck (h2.trans y'))
      simp only [y, this, if_false]
      exact ⟨h1, h2, h5, v', h3, h4⟩
theorem XR.put {k w : U} {b : Addr} {v : V} {z : Value} {kvs : List (U × U)} {ys : List (NestedKey × Addr × Value)} (kx : isKx k = true) (hk : ∀ p ∈ kvs, cmpU p.1 k = true) (rk : rep Γ B k (.ref b)) (rw' : rep Γ B w v) (rz : RelV v z) (h : Paired (XR Γ B) kvs ys) :
    Paired (XR Γ B) (dset kvs k w) (storedH ys (nk k) b z) := by
  unfold dset storedH
  obtain ⟨f1, f2⟩ := XR.find hk h
  cases y : dfind kvs k with
  | some w' =>
    obtain ⟨_, p, e, _⟩ := f1 w' y
    rw [e]
    simp only [Option.isSome_some, if_true]
    exact XR.repl kx rw' rz hk h
  | none =>
    rw [f2 y]
    simp only [Option.isSome_none, Bool.false_eq_true, if_false]
    exact h.snoc ⟨kx, rfl, rk, v, rw', rz⟩
theorem PW.put {k w : U} {kvs : List (U × U)} (h : PW kvs) (hk : ∀ p ∈ kvs, cmpU p.1 k = true) : PW (dset kvs k w) := by
  unfold dset
  split
  · intro p hp q hq n
    obtain ⟨p', hp', e1⟩ := List.mem_map.mp hp
    obtain ⟨q', hq', e2⟩ := List.mem_map.mp hq
    have a1 : p.1 = p'.1 := by rw [← e1]; split <;> rfl
    have a2 : q.1 = q'.1 := by rw [← e2]; split <;> rfl
    rw [a1, a2] at n ⊢
    exact h p' hp' q' hq' n
  · intro p hp q hq n
    rw [List.mem_append, List.mem_singleton] at hp hq
    rcases hp with hp | hp
    · rcases hq with hq | hq
      · exact h p hp q hq n
      · subst hq; exact hk p hp
    · rcases hq with hq | hq
      · subst hp; exact cmpU_symm (hk q hq)
      · subst hp hq; exact absurd rfl n
/-- from the model's entries -/
theorem mkX {P : Program} : ∀ {kvs : List (U × U)} {ys : List (NestedKey × Addr × Value)}, Paired (XR Γ B) kvs ys → (ys.map (·.1)).Nodup → PW kvs →
    ∃ xs, repx Γ B kvs xs ∧ Paired XeIs xs (ys.map (entryOfKey (nestedKind P Γ.w)))
  | _, _, .nil, _, _ => ⟨[], by simp [repx], .nil⟩
  | (k, u) :: kvs, (l, b, z) :: ys, .cons ⟨h1, h2, h5, v, h3, h4⟩ t, nd, ff => by
    simp only [List.map_cons, List.nodup_cons] at nd
    obtain ⟨xs, q1, q2⟩ := mkX (P := P) t nd.2 fun p hp q hq => ff p (List.mem_cons_of_mem _ hp) q (List.mem_cons_of_mem _ hq)
    refine ⟨⟨b, hashU Γ.w k, v⟩ :: xs, ?_, .cons ⟨?_, rfl, h4⟩ q2⟩
    · simp only [repx]
      refine ⟨b, v, xs, rfl, ⟨h1, fun p hp => ?_⟩, h5, h3, q1⟩
      obtain ⟨q, hq, x1, x2, _⟩ : ∃ q ∈ ys, XR Γ B p q := by
        clear nd ff q1 q2 h1 h2 h5 h3 h4
        induction t with
        | nil => cases hp
        | cons h t ih =>
          rcases List.mem_cons.mp hp with e | hp
          · subst e; exact ⟨_, List.mem_cons_self, h⟩
          · obtain ⟨q, hq, x⟩ := ih hp; exact ⟨q, List.mem_cons_of_mem _ hq, x⟩
      have ne : p.1 ≠ k := fun e => nd.1 (List.mem_map.mpr ⟨q, hq, by rw [← x2, e]; exact h2⟩)
      exact ⟨ne, ff p (List.mem_cons_of_mem _ hp) (k, u) List.mem_cons_self ne⟩
    · show _ = hashU Γ.w k
      have h2' : nk k = l := h2
      unfold hashU
      rw [h2']
      rfl
theorem repx.all : ∀ {kvs : List (U × U)} {xs : List Xe}, repx Γ B kvs xs → (∀ p ∈ kvs, isKx p.1 = true) ∧ PW kvs ∧ (kvs.map (·.1)).Nodup
  | [], _, _ => ⟨fun p h => (by cases h), fun p h => (by cases h), by simp⟩
  | (k, u) :: kvs, _, h => by
    simp only [repx] at h
    obtain ⟨a, v, r, rfl, ⟨h1, h2⟩, _, _, h3⟩ := h
    obtain ⟨i1, i2, i3⟩ := repx.all h3
    refine ⟨fun p hp => ?_, fun p hp q hq n => ?_, ?_⟩
    · rcases List.mem_cons.mp hp with e | hp
      · subst e; exact h1
      · exact i1 p hp
    · rcases List.mem_cons.mp hp with e | hp
      · subst e
        rcases List.mem_cons.mp hq with e | hq
        · subst e; exact absurd rfl n
        · exact cmpU_symm (h2 q hq).2
      · rcases List.mem_cons.mp hq with e | hq
        · subst e; exact (h2 p hp).2
        · exact i2 p hp q hq n
    · simp only [List.map_cons, List.nodup_cons]
      refine ⟨fun hm => ?_, i3⟩
      obtain ⟨p, hp, e⟩ := List.mem_map.mp hm
      exact (h2 p hp).1 e
theorem ofX {P : Program} : ∀ {kvs : List (U × U)} {xs : List Xe} {es : List DictEntry}, repx Γ B kvs xs → Paired XeIs xs es → ∃ ys, Paired (XR Γ B) kvs ys ∧ es = ys.map (entryOfKey (nestedKind P Γ.w)) ∧ ys.map (·.1) = kvs.map fun p => nk p.1
  | [], _, _, h, p => by simp only [repx] at h; subst h; cases p; exact ⟨[], .nil, rfl, rfl⟩
  | (k, u) :: kvs, _, _, h, p => by
    simp only [repx] at h
    obtain ⟨a, v, r, rfl, ⟨h1, h2⟩, h3, h4, h5⟩ := h
    cases p with
    | cons g t =>
      rename_i d es
      obtain ⟨ys, q1, q2, q3⟩ := ofX (P := P) h5 t
      refine ⟨(nk k, a, d.val) :: ys, .cons ⟨h1, rfl, h3, v, h4, g.2.2⟩ q1, ?_, by simp [q3]⟩
      rw [List.map_cons, ← q2]
      congr 1
      obtain ⟨dh, dk, dv⟩ := d
      obtain ⟨g1, g2, g3⟩ := g
      dsimp only at *
      unfold entryOfKey
      rw [g1, g2]
      rfl
end
end VS
set_option Elab.async false
set_option linter.all false
set_option maxRecDepth 100000
/-! VS14: dicts at a state: [], in, get, store. -/
namespace VS
open PySem L2

section
variable {X : Cx} {pins : List (Addr × Obj)} {σ : St} {H B : Hp} {s : Shared}
/-- flat items -/
theorem reps_flat : ∀ {us : List U} {vs : List V}, reps (ga X) B us vs → us.all isK1 = true → vs = (us.map kOf).map kV
  | [], _, h, _ => by simp only [reps] at h; subst h; rfl
  | u :: us, _, h, k => by
    simp only [reps] at h
    obtain ⟨v, r, rfl, r1, r2⟩ := h
    simp only [List.all_cons, Bool.and_eq_true] at k
    rw [reps_flat r2 k.2]
    have : v = kV (kOf u) := by
      cases u <;> simp only [isK1, Bool.false_eq_true, false_and] at k <;> simp only [rep] at r1 <;> exact r1
    rw [this]
    rfl
theorem rep_flat {u : U} {v : V} (h : rep (ga X) B u v) (k : isK1 u = true) : v = kV (kOf u) := by
  cases u <;> simp only [isK1, Bool.false_eq_true] at k <;> simp only [rep] at h <;> exact h
/-- a key in the heap -/
theorem keyN (I : Inv X pins σ H s) (sb : Same B H) : ∀ (n : Nat) (u : U) (v : V) (z : Value), kd lfA n u = true → Vw (ga X) B H u v → RelV v z → NestedIs s.heap (nk u) z := by
  have leaf : ∀ (u : U) (v : V) (z : Value), lfA u = true → Vw (ga X) B H u v → RelV v z → NestedIs s.heap (nk u) z := by
    intro u v z hl h r
    have hv : rep (ga X) B u v := by
      rcases h with h | ⟨a, ho, _, _, h⟩
      · exact h
      · cases u <;> first | exact h.elim | (simp [lfA] at hl)
    cases u <;> simp only [lfA, Bool.false_eq_true] at hl <;> simp only [rep] at hv <;> subst hv
    · cases r; exact .none
    · cases r; exact .bool rfl
    · obtain ⟨t, rfl⟩ := r; exact .int _ t
    · obtain ⟨t, rfl⟩ := r; exact .text _ t
  intro n
  induction n with
  | zero =>
    intro u v z hk h r
    cases u <;> first | exact leaf _ _ _ hk h r | (simp [kd] at hk)
  | succ n ih =>
    intro u v z hk h r
    cases u with
    | tup us =>
      obtain ⟨a, vs, rfl, h1, rr⟩ := h.tup sb
      cases r
      obtain ⟨its, rv, ⟨o, e1, e2, m, e3⟩, _⟩ := I.tuple h1
      rw [nk_tup]
      refine .tup e1 e2 e3 ?_
      simp only [kd, List.all_eq_true] at hk
      have key : ∀ (us : List U) (vs : List V) (its : List Value), (∀ u ∈ us, kd lfA n u = true) → reps (ga X) B us vs → Vals vs its → NestedAll s.heap (us.map nk) its := by
        intro us
        induction us with
        | nil => intro vs its _ h r; simp only [reps] at h; subst h; cases r; exact .nil
        | cons u us i2 =>
          intro vs its hh h r
          simp only [reps] at h
          obtain ⟨v, vs, rfl, r1, r2⟩ := h
          cases r with
          | cons rv rt => exact .cons (ih _ _ _ (hh u List.mem_cons_self) (.inl r1) rv) (i2 _ _ (fun u hu => hh u (List.mem_cons_of_mem _ hu)) r2 rt)
      simpa using key us vs its hk rr rv
    | _ => exact leaf _ _ _ hk h r
theorem key2 (I : Inv X pins σ H s) (sb : Same B H) {k : U} {y : V} (h : Vw (ga X) B H k y) (hk : isKx k = true) : ∃ b, y = .ref b ∧ (nestedKind X.prog X.w).is s.heap (nk k) b := by
  cases k with
  | tup us =>
    obtain ⟨a, vs, rfl, h1, r⟩ := h.tup sb
    have kk : kd lfA 8 (.tup us) = true := hk
    exact ⟨a, rfl, keyN I sb 8 _ _ _ kk h rfl, depth_kd 8 _ kk⟩
  | _ => simp [isKx] at hk
theorem kr_len {kvs : List (U × U)} {vs : List (Key × Value)} (p : Paired (KR (ga X) B) kvs vs) : kvs.length = vs.length := paired_len p
theorem dxs_empty {d : Addr} {h : Heap} (x : DXs d [] h) : False := x.1.1 rfl
theorem flatview (I : Inv X pins σ H s) {a : Addr} {kvs : List (U × U)} (d : DN (ga X) B H a kvs) (ok : ∀ p ∈ kvs, isK1 p.1 = true) :
    ∃ vs, s.heap.DictOf (mixKind X.prog X.w) a vs ∧ Paired (KR (ga X) B) kvs vs ∧ (a == sysModules) = false ∧ kvs.length ≤ sizeLine := by
  rcases d with ⟨es, e, r⟩ | ⟨xs, e, r⟩
  · obtain ⟨z, hd, vs, rel, dd⟩ := dk_rd I.hok e
    have p := r.kr rel
    exact ⟨vs, dd, p, hd, by rw [kr_len p, ← rel.length]; exact z⟩
  · obtain ⟨a1, _, _⟩ := r.all
    cases kvs with
    | nil =>
      simp only [repx] at r
      subst r
      obtain ⟨x, _, _⟩ := (show ObjOk X.prog X.w H s.heap a (DX a []) from I.hok a _ e)
      exact (dxs_empty x).elim
    | cons p kvs =>
      have h1 := a1 p List.mem_cons_self
      have h2 := ok p List.mem_cons_self
      cases z : p.1 <;> rw [z] at h1 h2 <;> simp [isKx, isK1] at h1 h2
theorem xr_len {kvs : List (U × U)} {ys : List (NestedKey × Addr × Value)} (p : Paired (XR (ga X) B) kvs ys) : kvs.length = ys.length := paired_len p
theorem tupview (I : Inv X pins σ H s) (sb : Same B H) {a : Addr} {kvs : List (U × U)} (d : DN (ga X) B H a kvs) (ok : ∀ p ∈ kvs, isKx p.1 = true) :
    ∃ ys, s.heap.DictOfH (nestedKind X.prog X.w) a ys ∧ Paired (XR (ga X) B) kvs ys ∧ PW kvs ∧ (a == sysModules) = false ∧ kvs.length ≤ sizeLine := by
  rcases d with ⟨es, e, r⟩ | ⟨xs, e, r⟩
  · cases kvs with
    | nil =>
      simp only [repd] at r
      subst r
      obtain ⟨z, hd, vs, rel, dd⟩ := dk_rd I.hok e
      cases rel
      obtain ⟨o, es, ep, h1, h2, h3, h4, h5, h6⟩ := dd
      cases he : es.toList with
      | nil => exact ⟨[], ⟨o, es, ep, h1, h2, h3, by rw [he]; rfl, fun x hx => (by cases hx), by simp⟩, .nil, fun p hp => (by cases hp), hd, Nat.zero_le _⟩
      | cons c r => rw [he] at h5; cases h5
    | cons p kvs =>
      obtain ⟨p1, p2⟩ := p
      simp only [repd] at r
      obtain ⟨l, v, t, _, r1, _⟩ := r
      have h1 := (rep_key r1).1
      have h2 := ok _ List.mem_cons_self
      dsimp only at h2
      cases p1 <;> simp [isKx, isK1] at h1 h2
  · obtain ⟨a1, a2, a3⟩ := r.all
    obtain ⟨x, _, _⟩ := (show ObjOk X.prog X.w H s.heap a (DX a xs) from I.hok a _ e)
    obtain ⟨⟨_, z⟩, hd, o, es, ep, h1, h2, h3, h4⟩ := x
    obtain ⟨ys, q1, q2, q3⟩ := ofX (P := X.prog) r h4
    have lx : kvs.length = xs.length := by
      rw [xr_len q1]
      have := paired_len h4
      rw [this, q2, List.length_map]
    refine ⟨ys, ⟨o, es, ep, h1, h2, h3, q2, fun y hy => ?_, ?_⟩, q1, a2, hd, by rw [lx]; exact z⟩
    · have pr : ∃ p ∈ kvs, XR (ga X) B p y := by
        clear q2 q3 h4 a1 a2 a3 r lx ok
        induction q1 with
        | nil => cases hy
        | cons h t ih =>
          rcases List.mem_cons.mp hy with e | hy
          · subst e; exact ⟨_, List.mem_cons_self, h⟩
          · obtain ⟨p, hp, x⟩ := ih hy; exact ⟨p, List.mem_cons_of_mem _ hp, x⟩
      obtain ⟨p, _, x1, x2, x3, _⟩ := pr
      obtain ⟨b, e, x4⟩ := key2 I sb (.inl x3) x1
      cases e
      rw [← x2]
      exact x4
    · rw [q3]
      have : (kvs.map fun p => nk p.1) = (kvs.map (·.1)).map nk := by rw [List.map_map]; rfl
      rw [this]
      clear q1 q2 q3 h4 lx ok r
      induction kvs with
      | nil => simp
      | cons p kvs ih =>
        simp only [List.map_cons, List.nodup_cons] at a3 ⊢
        refine ⟨fun hm => a3.1 ?_, ih (fun p hp => a1 p (List.mem_cons_of_mem _ hp)) (fun p hp q hq => a2 p (List.mem_cons_of_mem _ hp) q (List.mem_cons_of_mem _ hq)) a3.2 (by rw [List.map_map]; rfl)⟩
        obtain ⟨c, hc, e⟩ := List.mem_map.mp hm
        obtain ⟨q, hq, e2⟩ := List.mem_map.mp hc
        subst e2
        rw [← a2.inj (List.mem_cons_of_mem _ hq) List.mem_cons_self e]
        exact hc

/-! ### reading -/
structure DVw (X : Cx) (s : Shared) (a : Addr) (u : Value) (o : Option Value) : Prop where
  get : ∀ {E : Value → Shared → Prop} {Q : Value → Shared → Prop} {v : Value}, o = some v → (∀ t, Q v { s with toks := t }) → wpAny (model X.prog X.w) X.A (getItem (.ref a) u) Q E s
  isin : ∀ {E : Value → Shared → Prop} {Q : Value → Shared → Prop}, (∀ t, Q (.bool o.isSome) { s with toks := t }) → wpAny (model X.prog X.w) X.A (compareOp .In u (.ref a)) Q E s
  notin : ∀ {E : Value → Shared → Prop} {Q : Value → Shared → Prop}, (∀ t, Q (.bool (!o.isSome)) { s with toks := t }) → wpAny (model X.prog X.w) X.A (compareOp .NotIn u (.ref a)) Q E s
  get1 : ∀ {E : Value → Shared → Prop} {Q : Value → Shared → Prop}, (∀ t, Q (o.getD .none) { s with toks := t }) → wpAny (model X.prog X.w) X.A (call (.builtin "dict.get") [.ref a, u]) Q E s
  get2 : ∀ {E : Value → Shared → Prop} {Q : Value → Shared → Prop} (r : Value), (∀ t, Q (o.getD r) { s with toks := t }) → wpAny (model X.prog X.w) X.A (call (.builtin "dict.get") [.ref a, u, r]) Q E s
theorem okD_cases {kvs : List (U × U)} {k : U} (ok : okD kvs k = true) : (isK1 k = true ∧ ∀ p ∈ kvs, isK1 p.1 = true) ∨ (isKx k = true ∧ ∀ p ∈ kvs, isKx p.1 = true ∧ cmpU p.1 k = true) := by
  unfold okD at ok
  simp only [Bool.or_eq_true, Bool.and_eq_true, List.all_eq_true] at ok
  exact ok
theorem dvw (hu : X.A.units + 64 < cLine) (I : Inv X pins σ H s) (sb : Same B H) {a : Addr} {kvs : List (U × U)} {k : U} {y : V} {u : Value} (d : DN (ga X) B H a kvs) (hk : Vw (ga X) B H k y) (ry : RelV y u) (ok : okD kvs k = true) :
    ∃ o, DVw X s a u o ∧ (∀ w, dfind kvs k = some w → ∃ v z, o = some z ∧ rep (ga X) B w v ∧ RelV v z) ∧ (dfind kvs k = none → o = none) := by
  rcases okD_cases ok with ⟨k1, k2⟩ | ⟨k1, k2⟩
  · obtain ⟨vs, dd, p, hd, z⟩ := flatview I d k2
    have ky : (mixKind X.prog X.w).is (kOf k) u = true := by
      have : y = kV (kOf k) := by
        cases k <;> simp only [isK1, Bool.false_eq_true] at k1
        · exact hk.int
        · exact hk.str
      subst this
      exact kV_is ry
    obtain ⟨f1, f2⟩ := KR.find k1 p
    refine ⟨valueAt vs (kOf k), ⟨fun {E Q v} e h => ?_, fun {E Q} h => ?_, fun {E Q} h => ?_, fun {E Q} h => ?_, fun {E Q} r h => ?_⟩, fun w hw => ?_, f2⟩
    · exact wpAny_getItem_of ky dd.mapOf e (h _)
    · exact wpAny_in_of ky hd dd.mapOf (h _)
    · exact wpAny_notIn_of ky hd dd.mapOf (h _)
    · exact call_meetsIn PySem.F.slot_dict_get dd.typeIs PySem.F.entry_dict_get (PySem.F.args_dict_get_2 _ _) (meets_dict_get (mixKind X.prog X.w) a ky hd) ⟨_, dd.mapOf, h _⟩
    · exact call_meetsIn PySem.F.slot_dict_get dd.typeIs PySem.F.entry_dict_get (PySem.F.args_dict_get_3 _ _ _) (meets_dict_get_default (mixKind X.prog X.w) a ky hd r) ⟨_, dd.mapOf, h _⟩
    · obtain ⟨v, z, e, q⟩ := f1 w hw
      exact ⟨v, z, e, q⟩
  · have kc : ∀ p ∈ kvs, cmpU p.1 k = true := fun p hp => (k2 p hp).2
    obtain ⟨ys, dd, p, pw, hd, z⟩ := tupview I sb d fun p hp => (k2 p hp).1
    obtain ⟨b, e, ky⟩ := key2 I sb hk k1
    subst e
    cases ry
    have room : (nestedKind X.prog X.w).room X.A.in1 := by show X.A.units + 1 + 8 < cLine; omega
    obtain ⟨f1, f2⟩ := XR.find kc p
    refine ⟨(atKey ys (nk k)).map (·.2), ⟨fun {E Q v} e h => ?_, fun {E Q} h => ?_, fun {E Q} h => ?_, fun {E Q} h => ?_, fun {E Q} r h => ?_⟩, fun w hw => ?_, fun hn => ?_⟩
    · obtain ⟨p, hp, e⟩ := Option.map_eq_some_iff.mp e
      subst e
      exact wpAny_getItem_heap room ky dd hp (h _)
    · refine wpAny_in_heap room ky hd dd ?_
      rw [Option.isSome_map] at h
      exact h _
    · refine PyProof.Rows.wpAny_notIn_heap room ky hd dd ?_
      rw [Option.isSome_map] at h
      exact h _
    · exact call_meetsIn PySem.F.slot_dict_get dd.typeIs PySem.F.entry_dict_get (PySem.F.args_dict_get_2 _ _) (meetsH_dict_get (nestedKind X.prog X.w) a b hd) ⟨room, _, ys, ky, dd, h _⟩
    · exact call_meetsIn PySem.F.slot_dict_get dd.typeIs PySem.F.entry_dict_get (PySem.F.args_dict_get_3 _ _ _) (meetsH_dict_get_default (nestedKind X.prog X.w) a b hd r) ⟨room, _, ys, ky, dd, h _⟩
    · obtain ⟨v, q, e, q2⟩ := f1 w hw
      exact ⟨v, q.2, by rw [e]; rfl, q2⟩
    · rw [f2 hn]; rfl
/-- d[k] = w -/
theorem dput (hu : X.A.units + 64 < cLine) (I : Inv X pins σ H s) (sb : Same B H) {a : Addr} {kvs : List (U × U)} {k w : U} {y v : V} {u r : Value} {E : Value → Shared → Prop} {Q : Unit → Shared → Prop} (d : DN (ga X) B H a kvs) (mu : Mut (H a)) (hb : B a = none) (hk : Vw (ga X) B H k y)
    (hk2 : isKx k = true → rep (ga X) B k y) (ry : RelV y u) (ok : okD kvs k = true) (hw : rep (ga X) B w v) (rv : RelV v r) (hl : kvs.length < sizeLine)
    (h : ∀ ho s', nod (ga X) B a (.dct (dset kvs k w)) ho → Inv X pins σ (upd H a ho) s' → Q () s') : wpAny (model X.prog X.w) X.A (setItem (.ref a) u r) Q E s := by
  have ln : (dset kvs k w).length ≤ sizeLine := by
    unfold dset
    split
    · rw [List.length_map]; omega
    · rw [List.length_append]; simp; omega
  rcases okD_cases ok with ⟨k1, k2⟩ | ⟨k1, k2⟩
  · obtain ⟨vs, dd, p, hd, z⟩ := flatview I d k2
    have ky : (mixKind X.prog X.w).is (kOf k) u = true := by
      have : y = kV (kOf k) := by
        cases k <;> simp only [isK1, Bool.false_eq_true] at k1
        · exact hk.int
        · exact hk.str
      subst this
      exact kV_is ry
    have pp := KR.put k1 hw rv p
    obtain ⟨es, q1, q2⟩ := repd.of pp
    refine wpAny_setItem_pairs (hsz := by rw [← kr_len p]; exact z) ky dd fun h' dd' hs => h (.dK es) _ (.inl ⟨es, rfl, q1⟩) ?_
    have he : ∃ q, h'.get? a = some q := let ⟨q, _, _, hq, _⟩ := dd'; ⟨q, hq⟩
    refine d_write I mu hs he (dk_new ?_ hd q2 dd')
    rw [q2.length, ← kr_len pp]
    exact ln
  · have kc : ∀ p ∈ kvs, cmpU p.1 k = true := fun p hp => (k2 p hp).2
    obtain ⟨ys, dd, p, pw, hd, z⟩ := tupview I sb d fun p hp => (k2 p hp).1
    obtain ⟨b, e, ky⟩ := key2 I sb hk k1
    subst e
    cases ry
    have room : (nestedKind X.prog X.w).room X.A.in1 := by show X.A.units + 1 + 8 < cLine; omega
    have pp := XR.put k1 kc (hk2 k1) hw rv p
    refine wpAny_setItem_heap (hsz := by rw [← xr_len p]; exact z) room ky dd fun h' dd' hs => ?_
    obtain ⟨o, es, ep, hq, h2, h3, h4, h6, h5⟩ := dd'
    obtain ⟨xs, q1, q2⟩ := mkX (P := X.prog) pp h5 (pw.put kc)
    have ll : xs.length = (dset kvs k w).length := by
      have := paired_len q2
      rw [this, List.length_map, ← xr_len pp]
    have nn : dset kvs k w ≠ [] := by
      unfold dset
      split
      · rename_i hf
        intro e
        have e2 : kvs = [] := by simpa using e
        subst e2
        simp [dfind_nil] at hf
      · simp
    have nx : xs ≠ [] := fun e => nn (List.eq_nil_of_length_eq_zero (by rw [← ll, e]; rfl))
    refine h (DX a xs) _ (.inr ⟨xs, rfl, q1⟩) (d_write I mu hs ⟨o, hq⟩ ⟨⟨⟨nx, by rw [ll]; exact ln⟩, hd, o, es, ep, hq, h2, h3, by rw [h4]; exact q2⟩, ⟨o, hq⟩, fun h1 h2' x k => ?_⟩)
    obtain ⟨x1, x2, o', es', ep', x3, x4⟩ := x
    exact ⟨x1, x2, o', es', ep', k _ x3, x4⟩
end
end VS
set_option Elab.async false
set_option linter.all false
set_option maxRecDepth 100000
/-! VS15: rules of dicts, stores, methods of lists. -/
namespace VS
open PySem L2

theorem Vw.dn {Γ : Ga} {B H : Hp} {kvs : List (U × U)} {v : V} (s : Same B H) (h : Vw Γ B H (.dct kvs) v) : ∃ a, v = .ref a ∧ DN Γ B H a kvs := by
  obtain ⟨a, e, h⟩ := h.dct s
  exact ⟨a, e, h⟩
section
variable {X : Cx}
/-! ### d[k] -/
def rIxD (Γ : Ga) : R2 := fun x y H Q => ∃ B kvs k w a, Same B H ∧ x = .ref a ∧ DN Γ B H a kvs ∧ Vw Γ B H k y ∧ okD kvs k = true ∧ dfind kvs k = some w ∧ ∀ v, rep Γ B w v → Q v H
theorem DN.typeIs {pins : List (Addr × Obj)} {σ : St} {H B : Hp} {s : Shared} (I : Inv X pins σ H s) {a : Addr} {kvs : List (U × U)} (d : DN (ga X) B H a kvs) : s.TypeIs (.ref a) "dict" ∧ ∀ b, Value.ref a = .ref b → ∃ ob, s.heap.get? b = some ob ∧ ob.dict = none := by
  rcases d with ⟨es, e, _⟩ | ⟨xs, e, _⟩
  · obtain ⟨_, _, vs, _, o, es, ep, h1, h2, _⟩ := dk_rd I.hok e
    exact ⟨⟨o, h1, h2.1⟩, fun b e => by cases e; exact ⟨o, h1, h2.2.1⟩⟩
  · obtain ⟨⟨_, _, o, es, ep, h1, h2, _⟩, _, _⟩ := (show ObjOk X.prog X.w H s.heap a (DX a xs) from I.hok a _ e)
    exact ⟨⟨o, h1, h2.1⟩, fun b e => by cases e; exact ⟨o, h1, h2.2.1⟩⟩
theorem ix_dict (hu : X.A.units + 64 < cLine) : IxR X (rIxD (ga X)) := by
  intro value slice pins s σ H x y v u Q I rx ry h hs
  obtain ⟨B, kvs, k, w, a, sb, rfl, d, vk, ok, hf, q⟩ := h
  cases rx
  obtain ⟨o, dv, f1, f2⟩ := dvw hu I sb d vk ry ok
  obtain ⟨v', z, e, r1, r2⟩ := f1 w hf
  exact PyProof.Rows.subscriptTail_builtinR (x := z) (d.typeIs I).1 PySem.F.slot_dict_getitem.lookup (dv.get (Q := fun r s' => r = z ∧ EP X pins σ Q r s') e fun t => ⟨rfl, v', H, I.tok t, r2, q v' r1⟩) hs
noncomputable def sIxD : Op2 := fun u w => match u with
  | .dct kvs => if okD kvs w then (dfind kvs w).map fun x => (false, x) else none
  | _ => none
theorem ok_ixD (hu : X.A.units + 64 < cLine) : IxOK X sIxD := by
  refine ⟨_, ix_dict hu, fun {W B H e σ u w x y z Q} sr q vx vy t => ?_⟩
  unfold sIxD at q
  split at q
  · split at q
    · rename_i kvs ok
      obtain ⟨u, hu, rfl⟩ := Option.map_eq_some_iff.mp q
      obtain ⟨a, e1, d⟩ := vx.dn sr.bh
      exact ⟨B, kvs, w, u, a, sr.bh, e1, d, vy, ok, hu, fun v r => fin_val sr t r⟩
    · cases q
  · cases q
/-! ### k in d -/
def rInD (Γ : Ga) (neg : Bool) : R2 := fun y x H Q => ∃ B kvs k a, Same B H ∧ x = .ref a ∧ DN Γ B H a kvs ∧ Vw Γ B H k y ∧ okD kvs k = true ∧ Q (.bl ((dfind kvs k).isSome != neg)) H
theorem op_inD (hu : X.A.units + 64 < cLine) : OpR X (compareOp .In) (rInD (ga X) false) := by
  intro pins s σ H y x u v Q I ry rx h
  obtain ⟨B, kvs, k, a, sb, rfl, d, vk, ok, q⟩ := h
  cases rx
  obtain ⟨o, dv, f1, f2⟩ := dvw hu I sb d vk ry ok
  have e : o.isSome = (dfind kvs k).isSome := by
    cases z : dfind kvs k with
    | none => rw [f2 z]; rfl
    | some w => obtain ⟨_, _, e, _⟩ := f1 w z; rw [e]; rfl
  refine dv.isin fun t => ⟨.bl o.isSome, H, I.tok t, rfl, ?_⟩
  rw [e]
  simpa using q
theorem op_notInD (hu : X.A.units + 64 < cLine) : OpR X (compareOp .NotIn) (rInD (ga X) true) := by
  intro pins s σ H y x u v Q I ry rx h
  obtain ⟨B, kvs, k, a, sb, rfl, d, vk, ok, q⟩ := h
  cases rx
  obtain ⟨o, dv, f1, f2⟩ := dvw hu I sb d vk ry ok
  have e : o.isSome = (dfind kvs k).isSome := by
    cases z : dfind kvs k with
    | none => rw [f2 z]; rfl
    | some w => obtain ⟨_, _, e, _⟩ := f1 w z; rw [e]; rfl
  refine dv.notin fun t => ⟨.bl (!o.isSome), H, I.tok t, rfl, ?_⟩
  rw [e]
  simpa using q
noncomputable def sInD (neg : Bool) : Op2 := fun u w => match w with
  | .dct kvs => if okD kvs u then some (false, .bl ((dfind kvs u).isSome != neg)) else none
  | _ => none
theorem inD_core {neg : Bool} {W : WXX} {B H : Hp} {e : En} {σ : St} {u w : U} {x y : V} {z : Bool × U} {Q : VK} (sr : SR (ga X) B H e σ) (q : sInD neg u w = some z) (vx : Vw (ga X) B H u x) (vy : Vw (ga X) B H w y) (t : tAt (ga X) W (rlO (ga X)) (M.ret z) B H e σ Q) :
    rInD (ga X) neg x y H Q := by
  unfold sInD at q
  split at q
  · split at q
    · rename_i kvs ok
      cases q
      obtain ⟨a, e1, d⟩ := vy.dn sr.bh
      exact ⟨B, kvs, u, a, sr.bh, e1, d, vx, ok, fin_val sr t (rep_bl _)⟩
    · cases q
  · cases q
theorem ok_inD (hu : X.A.units + 64 < cLine) : BinOK X (compareOp .In) (sInD false) := ⟨_, op_inD hu, inD_core⟩
theorem ok_notInD (hu : X.A.units + 64 < cLine) : BinOK X (compareOp .NotIn) (sInD true) := ⟨_, op_notInD hu, inD_core⟩

/-! ### methods that read -/
/-- the receiver is of the type; what the method gives -/
structure MrOK (X : Cx) (T id : String) (isT : U → Bool) (s : U → List U → Option (Bool × U)) : Prop where
  ex : ∃ (ty : V → Hp → Prop) (r : V → List V → Hp → VK → Prop), TyOk X T ty ∧ MtR X id r ∧ (∀ {B H : Hp} {u : U} {x : V}, Same B H → isT u = true → Vw (ga X) B H u x → ty x H) ∧
    ∀ {W : WXX} {B H : Hp} {e : En} {σ : St} {u : U} {us : List U} {x : V} {xs : List V} {z : Bool × U} {Q : VK}, SR (ga X) B H e σ → s u us = some z → Vw (ga X) B H u x → reps (ga X) B us xs → tAt (ga X) W (rlO (ga X)) (M.ret z) B H e σ Q → r x xs H Q
def mMr (isT : U → Bool) (s : U → List U → Option (Bool × U)) (mo : M Od) (ma : M (List U)) : M (Bool × U) := mo.bd fun od e => match rdO e od with
  | some u => if isT u then (ma.bd fun us e => match rdO e od with
      | some u => match s u us with
        | some r => .ok r e
        | none => .bad
      | none => .bad) e else .bad
  | none => .bad
end
section
variable {X : Cx} {W : WXX} {o ex : Expr} {es : List Expr} {name : Str} {apos cpos : Pos} {T id : String} {isT : U → Bool}
theorem po_mr {s : U → List U → Option (Bool × U)} {mo : M Od} {ma : M (List U)} (ok : MrOK X T id isT s) (pa : PlainAttrs T) (slot : Slot T name id) (hty : typeOf (.builtin id) = pure (.type "method_descriptor")) (ho : PR X W o mo) (ha : PVs X W (ex :: es) ma)
    (hbase : attributeBase o name X.env (eval o X.env) = eval o X.env := by rfl)
    (hfew : ((backTo cpos (starEach (ex :: es) X.env)).all (fun x => !x.1) && (backToKw cpos (keywordEach [] X.env)).all (fun x => x.1.isSome)
      && decide ((ex :: es).length + ([] : List Keyword).length + (if ([] : List Keyword).isEmpty then 0 else 1) < 30)) = true := by rfl)
    (hline : (apos.endLine == cpos.line) = true := by rfl) (hs : starEach (ex :: es) X.env = (false, eval ex X.env) :: starEach es X.env := by rfl) (hplain : (backTo cpos (starEach es X.env)).any (·.1) = false := by rfl) :
    PO X W (.Call (.Attribute o name apos) (ex :: es) [] cpos) (mMr isT s mo ma) := by
  obtain ⟨ty, r, h1, h2, h3, h4⟩ := ok.ex
  refine PEimp (pe_mG h1 pa slot hty h2 ho ha hbase hfew hline hs hplain) fun σ H Q ⟨B, e, sr, q⟩ => ⟨B, e, sr, (tAt.bd q).mono fun x H1 ⟨B1, e1, od, g1, r1, q1⟩ => ?_⟩
  unfold tAt at q1
  dsimp only at q1
  cases z1 : rdO e1 od with
  | none => rw [z1] at q1; exact q1.elim
  | some u =>
    rw [z1] at q1
    dsimp only at q1
    by_cases c : isT u = true
    · rw [if_pos c] at q1
      refine ⟨h3 g1.sr.bh c (rlR.vw g1.sr r1 z1), B1, e1, g1.sr, (tAt.bd q1).mono fun xs H2 ⟨B2, e2, us, g2, r2, q2⟩ => ?_⟩
      unfold tAt at q2
      dsimp only at q2
      cases z2 : rdO e2 od with
      | none => rw [z2] at q2; exact q2.elim
      | some u2 =>
        rw [z2] at q2
        dsimp only at q2
        cases z3 : s u2 us with
        | none => rw [z3] at q2; exact q2.elim
        | some z =>
          rw [z3] at q2
          exact h4 (W := W) g2.sr z3 (rlR.vw (S := fun _ => True) g2.sr (rlR.keep r1 g2) z2) r2 q2
    · rw [if_neg c] at q1
      exact q1.elim
theorem po_mr0 {s : U → List U → Option (Bool × U)} {mo : M Od} (ok : MrOK X T id isT s) (pa : PlainAttrs T) (slot : Slot T name id) (hty : typeOf (.builtin id) = pure (.type "method_descriptor")) (ho : PR X W o mo)
    (hbase : attributeBase o name X.env (eval o X.env) = eval o X.env := by rfl) (hline : (apos.endLine == cpos.line) = true := by rfl) : PO X W (.Call (.Attribute o name apos) [] [] cpos) (mMr isT s mo (M.ret [])) := by
  obtain ⟨ty, r, h1, h2, h3, h4⟩ := ok.ex
  refine PEimp (pe_mG0 h1 pa slot hty h2 ho hbase hline) fun σ H Q ⟨B, e, sr, q⟩ => ⟨B, e, sr, (tAt.bd q).mono fun x H1 ⟨B1, e1, od, g1, r1, q1⟩ => ?_⟩
  unfold tAt at q1
  dsimp only at q1
  cases z1 : rdO e1 od with
  | none => rw [z1] at q1; exact q1.elim
  | some u =>
    rw [z1] at q1
    dsimp only at q1
    by_cases c : isT u = true
    · rw [if_pos c] at q1
      refine ⟨h3 g1.sr.bh c (rlR.vw g1.sr r1 z1), ?_⟩
      unfold M.bd M.ret at q1
      dsimp only at q1
      rw [z1] at q1
      dsimp only at q1
      cases z3 : s u [] with
      | none => rw [z3] at q1; exact q1.elim
      | some z =>
        rw [z3] at q1
        exact h4 (W := W) g1.sr z3 (rlR.vw g1.sr r1 z1) (by simp only [reps]) q1
    · rw [if_neg c] at q1
      exact q1.elim
end
def isD : U → Bool
  | .dct _ => true
  | _ => false
def isL : U → Bool
  | .lst _ => true
  | .scr _ => true
  | _ => false
def isS : U → Bool
  | .str _ => true
  | _ => false
def tyD (Γ : Ga) (x : V) (H : Hp) : Prop := ∃ B kvs a, x = .ref a ∧ DN Γ B H a kvs
section
variable {X : Cx}
theorem ty_dict : TyOk X "dict" (tyD (ga X)) := by
  intro pins σ H s x v I r ty
  obtain ⟨B, kvs, a, rfl, d⟩ := ty
  cases r
  obtain ⟨h1, h2⟩ := d.typeIs I
  exact ⟨h1, fun b e => h2 b e⟩
theorem ty_tyV {T : String} : TyOk X T (tyV X.K T) := fun pins σ H s x v I r ty => tyV_is I r ty
theorem isD_ty {B H : Hp} {u : U} {x : V} (sb : Same B H) (h : isD u = true) (v : Vw (ga X) B H u x) : tyD (ga X) x H := by
  cases u with
  | dct kvs =>
    obtain ⟨a, e, d⟩ := v.dn sb
    exact ⟨B, kvs, a, e, d⟩
  | _ => simp [isD] at h
theorem isL_ty {B H : Hp} {u : U} {x : V} (sb : Same B H) (h : isL u = true) (v : Vw (ga X) B H u x) : tyV X.K "list" x H := by
  cases u with
  | lst us =>
    obtain ⟨a, vs, rfl, h1, _⟩ := v.lst sb
    exact .inl ⟨rfl, vs, SqL.of h1⟩
  | scr ns =>
    obtain ⟨a, rfl, h1⟩ := v.scr sb
    exact .inl ⟨rfl, _, h1⟩
  | _ => simp [isL] at h
theorem isS_ty {B H : Hp} {u : U} {x : V} (h : isS u = true) (v : Vw (ga X) B H u x) : tyV X.K "str" x H := by
  cases u with
  | str z => rw [v.str]; rfl
  | _ => simp [isS] at h
/-- d.get(k), d.get(k, x) -/
def rGetD (Γ : Ga) : V → List V → Hp → VK → Prop := fun x xs H Q => ∃ B kvs k y a, Same B H ∧ x = .ref a ∧ DN Γ B H a kvs ∧ Vw Γ B H k y ∧ okD kvs k = true ∧ ((xs = [y] ∧ match dfind kvs k with
  | some w => ∀ v, rep Γ B w v → Q v H
  | none => Q .non H) ∨ ∃ d, xs = [y, d] ∧ match dfind kvs k with
  | some w => ∀ v, rep Γ B w v → Q v H
  | none => Q d H)
theorem mt_getD (hu : X.A.units + 64 < cLine) : MtR X "dict.get" (rGetD (ga X)) := by
  intro pins s σ H x xs v us Q I rx rxs h
  obtain ⟨B, kvs, k, y, a, sb, rfl, d, vk, ok, h⟩ := h
  cases rx
  rcases h with ⟨rfl, q⟩ | ⟨dd, rfl, q⟩
  · cases rxs with
    | cons ry rt =>
      cases rt
      obtain ⟨o, dv, f1, f2⟩ := dvw hu I sb d vk ry ok
      refine dv.get1 fun t => ?_
      cases z : dfind kvs k with
      | none =>
        rw [f2 z]
        rw [z] at q
        exact ⟨.non, H, I.tok t, rfl, q⟩
      | some w =>
        rw [z] at q
        obtain ⟨v', z', e, r1, r2⟩ := f1 w z
        rw [e]
        exact ⟨v', H, I.tok t, r2, q v' r1⟩
  · obtain ⟨u1, u2, rfl, ry, rd⟩ := vals2 rxs
    obtain ⟨o, dv, f1, f2⟩ := dvw hu I sb d vk ry ok
    refine dv.get2 u2 fun t => ?_
    cases z : dfind kvs k with
    | none =>
      rw [f2 z]
      rw [z] at q
      exact ⟨dd, H, I.tok t, rd, q⟩
    | some w =>
      rw [z] at q
      obtain ⟨v', z', e, r1, r2⟩ := f1 w z
      rw [e]
      exact ⟨v', H, I.tok t, r2, q v' r1⟩
noncomputable def sGetD : U → List U → Option (Bool × U) := fun u us => match u with
  | .dct kvs => match us with
    | [k] => if okD kvs k then some (false, (dfind kvs k).getD .non) else none
    | [k, d] => if okD kvs k then some (false, (dfind kvs k).getD d) else none
    | _ => none
  | _ => none
theorem ok_getD (hu : X.A.units + 64 < cLine) : MrOK X "dict" "dict.get" isD sGetD := by
  refine ⟨_, _, ty_dict, mt_getD hu, isD_ty, fun {W B H e σ u us x xs z Q} sr q vx rs t => ?_⟩
  unfold sGetD at q
  split at q
  · rename_i kvs
    obtain ⟨a, e1, d⟩ := vx.dn sr.bh
    split at q
    · rename_i k
      split at q
      · rename_i ok
        cases q
        simp only [reps] at rs
        obtain ⟨y, r, rfl, ry, rfl⟩ := rs
        refine ⟨B, kvs, k, y, a, sr.bh, e1, d, .inl ry, ok, .inl ⟨rfl, ?_⟩⟩
        cases z : dfind kvs k with
        | none => rw [z] at t; exact fin_val sr t (by simp only [Option.getD_none, rep])
        | some w => rw [z] at t; exact fun v rv => fin_val sr t rv
      · cases q
    · rename_i k dd
      split at q
      · rename_i ok
        cases q
        simp only [reps] at rs
        obtain ⟨y, r, rfl, ry, y2, r2, rfl, ry2, rfl⟩ := rs
        refine ⟨B, kvs, k, y, a, sr.bh, e1, d, .inl ry, ok, .inr ⟨y2, rfl, ?_⟩⟩
        cases z : dfind kvs k with
        | none => rw [z] at t; exact fin_val sr t ry2
        | some w => rw [z] at t; exact fun v rv => fin_val sr t rv
      · cases q
    · cases q
  · cases q

/-! ### methods that change a list or a dict of ours -/
structure MuOK (X : Cx) (T id : String) (isT : U → Bool) (s : U → List U → Option (U × U)) : Prop where
  ex : ∃ (ty : V → Hp → Prop) (r : V → List V → Hp → VK → Prop), TyOk X T ty ∧ MtR X id r ∧ (∀ {B H : Hp} {u : U} {x : V}, Same B H → isT u = true → Vw (ga X) B H u x → ty x H) ∧
    ∀ {B H : Hp} {u u' res : U} {us : List U} {a : Addr} {ho : HO} {xs : List V} {Q : VK}, Same B H → B a = none → H a = some ho → nod (ga X) B a u ho → s u us = some (u', res) → reps (ga X) B us xs →
      (∀ ho' v, nod (ga X) B a u' ho' → rep (ga X) B res v → Q v (upd H a ho')) → r (.ref a) xs H Q
def mMu (isT : U → Bool) (s : U → List U → Option (U × U)) (i : Nat) (ma : M (List U)) : M (Bool × U) := fun e => match e[i]? with
  | some (some (true, u)) => if isT u then (ma.bd fun us e => match e[i]? with
      | some (some (true, u)) => match s u us with
        | some (u', r) => .ok (false, r) (e.set i (some (true, u')))
        | none => .bad
      | _ => .bad) e else .bad
  | _ => .bad
end
section
variable {X : Cx} {W : WXX} {ex : Expr} {es : List Expr} {name : Str} {apos cpos npos : Pos} {T id : String} {isT : U → Bool}
theorem mu_core {s : U → List U → Option (U × U)} {i : Nat} {r : V → List V → Hp → VK → Prop} (h4 : ∀ {B H : Hp} {u u' res : U} {us : List U} {a : Addr} {ho : HO} {xs : List V} {Q : VK}, Same B H → B a = none → H a = some ho → nod (ga X) B a u ho → s u us = some (u', res) → reps (ga X) B us xs →
      (∀ ho' v, nod (ga X) B a u' ho' → rep (ga X) B res v → Q v (upd H a ho')) → r (.ref a) xs H Q) {B H : Hp} {e : En} {σ : St} {a : Addr} {us : List U} {xs : List V} {Q : VK} (sr : SR (ga X) B H e σ) (ea : σ[i]? = some (some (.ref a))) (rs : reps (ga X) B us xs)
    (q : tAt (ga X) W (rlO (ga X)) (fun e => match e[i]? with
      | some (some (true, u)) => match s u us with
        | some (u', r) => .ok (false, r) (e.set i (some (true, u')))
        | none => .bad
      | _ => .bad) B H e σ Q) : r (.ref a) xs H Q := by
  unfold tAt at q
  dsimp only at q
  split at q
  · rename_i z e' hq
    split at hq
    · rename_i u hu
      split at hq
      · rename_i u' res hs
        cases hq
        obtain ⟨b, ho, k1, k2, k3, k4⟩ := sr.ow i u hu
        rw [ea] at k1
        cases k1
        exact h4 sr.bh k4 k2 k3 hs rs fun ho' v n rv => q v B _ (Go.write sr hu ea n) rv
      · cases hq
    · cases hq
  · rename_i hq
    split at hq
    · split at hq <;> cases hq
    · cases hq
  · exact q.elim
theorem po_mu {s : U → List U → Option (U × U)} {i : Nat} {x : Str} {ma : M (List U)} (ok : MuOK X T id isT s) (pa : PlainAttrs T) (slot : Slot T name id) (hty : typeOf (.builtin id) = pure (.type "method_descriptor")) (hN : X.N[i]? = some x) (hv : Vis X.env.scope x) (ha : PVs X W (ex :: es) ma)
    (hd : (x == ("__debug__" : Str)) = false := by decide) (hcd : (x == ("__classdict__" : Str)) = false := by decide)
    (hbase : attributeBase (.Name x npos) name X.env (eval (.Name x npos) X.env) = eval (.Name x npos) X.env := by rfl)
    (hfew : ((backTo cpos (starEach (ex :: es) X.env)).all (fun x => !x.1) && (backToKw cpos (keywordEach [] X.env)).all (fun x => x.1.isSome)
      && decide ((ex :: es).length + ([] : List Keyword).length + (if ([] : List Keyword).isEmpty then 0 else 1) < 30)) = true := by rfl)
    (hline : (apos.endLine == cpos.line) = true := by rfl) (hs : starEach (ex :: es) X.env = (false, eval ex X.env) :: starEach es X.env := by rfl) (hplain : (backTo cpos (starEach es X.env)).any (·.1) = false := by rfl) :
    PO X W (.Call (.Attribute (.Name x npos) name apos) (ex :: es) [] cpos) (mMu isT s i ma) := by
  obtain ⟨ty, r, h1, h2, h3, h4⟩ := ok.ex
  refine PEimp (pe_mG h1 pa slot hty h2 (pe_var hN hv hd hcd) ha hbase hfew hline hs hplain) fun σ H Q ⟨B, e, sr, q⟩ => ?_
  unfold tAt mMu at q
  cases z : e[i]? with
  | none => rw [z] at q; exact q.elim
  | some w =>
    rw [z] at q
    cases w with
    | none => exact q.elim
    | some w =>
      obtain ⟨o, u⟩ := w
      cases o with
      | false => exact q.elim
      | true =>
        dsimp only at q
        by_cases c : isT u = true
        · rw [if_pos c] at q
          obtain ⟨a, ho, k1, k2, k3, k4⟩ := sr.ow i u z
          refine ⟨_, k1, h3 sr.bh c (.inr ⟨a, ho, rfl, k2, k3⟩), B, e, sr, (tAt.bd q).mono fun xs H2 ⟨B2, e2, us, g2, r2, q2⟩ => ?_⟩
          exact mu_core (W := W) h4 g2.sr k1 r2 q2
        · rw [if_neg c] at q
          exact q.elim
theorem po_mu0 {s : U → List U → Option (U × U)} {i : Nat} {x : Str} (ok : MuOK X T id isT s) (pa : PlainAttrs T) (slot : Slot T name id) (hty : typeOf (.builtin id) = pure (.type "method_descriptor")) (hN : X.N[i]? = some x) (hv : Vis X.env.scope x)
    (hd : (x == ("__debug__" : Str)) = false := by decide) (hcd : (x == ("__classdict__" : Str)) = false := by decide)
    (hbase : attributeBase (.Name x npos) name X.env (eval (.Name x npos) X.env) = eval (.Name x npos) X.env := by rfl) (hline : (apos.endLine == cpos.line) = true := by rfl) :
    PO X W (.Call (.Attribute (.Name x npos) name apos) [] [] cpos) (mMu isT s i (M.ret [])) := by
  obtain ⟨ty, r, h1, h2, h3, h4⟩ := ok.ex
  refine PEimp (pe_mG0 h1 pa slot hty h2 (pe_var hN hv hd hcd) hbase hline) fun σ H Q ⟨B, e, sr, q⟩ => ?_
  unfold tAt mMu at q
  cases z : e[i]? with
  | none => rw [z] at q; exact q.elim
  | some w =>
    rw [z] at q
    cases w with
    | none => exact q.elim
    | some w =>
      obtain ⟨o, u⟩ := w
      cases o with
      | false => exact q.elim
      | true =>
        dsimp only at q
        by_cases c : isT u = true
        · rw [if_pos c] at q
          obtain ⟨a, ho, k1, k2, k3, k4⟩ := sr.ow i u z
          refine ⟨_, k1, h3 sr.bh c (.inr ⟨a, ho, rfl, k2, k3⟩), ?_⟩
          exact mu_core (W := W) h4 sr k1 (by simp only [reps]) q
        · rw [if_neg c] at q
          exact q.elim
end
section
variable {X : Cx}
theorem nod_lst {Γ : Ga} {B : Hp} {a : Addr} {us : List U} {ho : HO} (h : nod Γ B a (.lst us) ho) : ∃ vs, ho = .lst vs ∧ reps Γ B us vs := h
def sApp : U → List U → Option (U × U) := fun u us => match u, us with
  | .lst l, [w] => if l.length < sizeLine then some (.lst (l ++ [w]), .non) else none
  | _, _ => none
theorem ok_append : MuOK X "list" "list.append" isL sApp := by
  refine ⟨_, _, ty_tyV, mt_append, isL_ty, fun {B H u u' res us a ho xs Q} sb bn ha hn hs rs k => ?_⟩
  unfold sApp at hs
  split at hs
  · split at hs
    · rename_i l w hl
      cases hs
      obtain ⟨vs, rfl, r⟩ := nod_lst hn
      simp only [reps] at rs
      obtain ⟨y, t, rfl, ry, rfl⟩ := rs
      exact ⟨a, vs, y, rfl, rfl, ha, by rw [← r.length]; exact hl, k _ _ ⟨_, rfl, r.snoc ry⟩ (by simp only [rep])⟩
    · cases hs
  · cases hs
def sPop : U → List U → Option (U × U) := fun u us => match u, us with
  | .lst l, [] => (l[l.length - 1]?).map fun w => (.lst l.dropLast, w)
  | _, _ => none
theorem reps.dropLast {Γ : Ga} {B : Hp} {us : List U} {vs : List V} (h : reps Γ B us vs) : reps Γ B us.dropLast vs.dropLast := by
  rw [List.dropLast_eq_take, List.dropLast_eq_take, h.length]
  exact h.take _
theorem ok_pop : MuOK X "list" "list.pop" isL sPop := by
  refine ⟨_, _, ty_tyV, mt_pop, isL_ty, fun {B H u u' res us a ho xs Q} sb bn ha hn hs rs k => ?_⟩
  unfold sPop at hs
  split at hs
  · rename_i l
    obtain ⟨w, hw, e⟩ := Option.map_eq_some_iff.mp hs
    cases e
    obtain ⟨vs, rfl, r⟩ := nod_lst hn
    simp only [reps] at rs
    subst rs
    obtain ⟨v, hv, rv⟩ := r.get hw
    exact ⟨a, vs, v, rfl, rfl, ha, by rw [← r.length]; exact hv, k _ _ ⟨_, rfl, r.dropLast⟩ rv⟩
  · cases hs
def sClear : U → List U → Option (U × U) := fun u us => match u, us with
  | .lst l, [] => some (.lst [], .non)
  | _, _ => none
theorem ok_clear : MuOK X "list" "list.clear" isL sClear := by
  refine ⟨_, _, ty_tyV, mt_clear, isL_ty, fun {B H u u' res us a ho xs Q} sb bn ha hn hs rs k => ?_⟩
  unfold sClear at hs
  split at hs
  · cases hs
    obtain ⟨vs, rfl, r⟩ := nod_lst hn
    simp only [reps] at rs
    subst rs
    exact ⟨a, vs, rfl, rfl, ha, k _ _ ⟨_, rfl, reps.nil'⟩ (by simp only [rep])⟩
  · cases hs
def sExt : U → List U → Option (U × U) := fun u us => match u, us with
  | .lst l, [.lst w] => if l.length + w.length ≤ sizeLine then some (.lst (l ++ w), .non) else none
  | _, _ => none
theorem ok_extend : MuOK X "list" "list.extend" isL sExt := by
  refine ⟨_, _, ty_tyV, mt_extend, isL_ty, fun {B H u u' res us a ho xs Q} sb bn ha hn hs rs k => ?_⟩
  unfold sExt at hs
  split at hs
  · split at hs
    · rename_i l w hl
      cases hs
      obtain ⟨vs, rfl, r⟩ := nod_lst hn
      simp only [reps, rep] at rs
      obtain ⟨y, t, rfl, ⟨b, ws, rfl, hb, rw'⟩, rfl⟩ := rs
      exact ⟨a, b, vs, ws, rfl, rfl, ha, sb _ _ hb, by rw [← r.length, ← rw'.length]; exact hl, k _ _ ⟨_, rfl, r.append rw'⟩ (by simp only [rep])⟩
    · cases hs
  · cases hs
def sIns : U → List U → Option (U × U) := fun u us => match u, us with
  | .lst l, [.int i, w] => if l.length < sizeLine ∧ 0 ≤ i ∧ i < 2 ^ 63 then some (.lst (l.take i.toNat ++ [w] ++ l.drop i.toNat), .non) else none
  | _, _ => none
end

/-! ### stores -/
section
variable {X : Cx}
def rSetD (Γ : Ga) : TSet := fun o i v H Q => ∃ B kvs k w a, Same B H ∧ o = .ref a ∧ DN Γ B H a kvs ∧ Mut (H a) ∧ B a = none ∧ rep Γ B k i ∧ okD kvs k = true ∧ rep Γ B w v ∧ kvs.length < sizeLine ∧ ∀ ho, nod Γ B a (.dct (dset kvs k w)) ho → Q (upd H a ho)
theorem set_dict (hu : X.A.units + 64 < cLine) : PSet X (rSetD (ga X)) := by
  intro pins s σ H o i v ov iv u Q I ro ri rv h
  obtain ⟨B, kvs, k, w, a, sb, rfl, d, mu, hb, rk, ok, rw', hl, q⟩ := h
  cases ro
  exact dput hu I sb d mu hb (.inl rk) (fun _ => rk) ri ok rw' rv hl fun ho s' n I' => ⟨_, I', q ho n⟩
theorem PSet.or {t t' : TSet} (h : PSet X t) (h' : PSet X t') : PSet X (fun o i v H Q => t o i v H Q ∨ t' o i v H Q) := by
  intro pins s σ H o i v ov iv u Q I ro ri rv q
  rcases q with q | q
  · exact h pins s σ H o i v ov iv u Q I ro ri rv q
  · exact h' pins s σ H o i v ov iv u Q I ro ri rv q
/-- what a store makes of it -/
noncomputable def sSto : U → U → U → Option U := fun u k w => match u with
  | .lst l => match k with
    | .int i => (ixN l.length i).map fun j => .lst (l.set j w)
    | _ => none
  | .dct kvs => if okD kvs k ∧ kvs.length < sizeLine then some (.dct (dset kvs k w)) else none
  | _ => none
noncomputable def mSto (i : Nat) (mk : M U) (mv : M U) : MS := mv.bs fun w e => match e[i]? with
  | some (some (true, _)) => (mk.bs fun k e => match e[i]? with
      | some (some (true, u)) => match sSto u k w with
        | some u' => .nx (e.set i (some (true, u')))
        | none => .bad
      | _ => .bad) e
  | _ => .bad
variable {W : WXX} {pr : Nat → Bool} {kx vx : Expr} {npos spos pos : Pos}
theorem sto_core {B H : Hp} {e : En} {σ : St} {a : Addr} {i : Nat} {k w : U} {y v : V} {D : Ends} (sr : SR (ga X) B H e σ) (ea : σ[i]? = some (some (.ref a))) (rk : rep (ga X) B k y) (rv : rep (ga X) B w v)
    (q : sAt (ga X) W pr (fun e => match e[i]? with
      | some (some (true, u)) => match sSto u k w with
        | some u' => .nx (e.set i (some (true, u')))
        | none => .bad
      | _ => .bad) B H e σ D) : rSetL (.ref a) y v H (fun H' => D.nx σ H') ∨ rSetD (ga X) (.ref a) y v H (fun H' => D.nx σ H') := by
  unfold sAt at q
  dsimp only at q
  cases z : e[i]? with
  | none => rw [z] at q; exact q.elim
  | some s1 =>
    rw [z] at q
    cases s1 with
    | none => exact q.elim
    | some s1 =>
      obtain ⟨o, u⟩ := s1
      cases o with
      | false => exact q.elim
      | true =>
        dsimp only at q
        obtain ⟨b, ho, k1, k2, k3, k4⟩ := sr.ow i u z
        rw [ea] at k1
        cases k1
        cases u with
        | lst l =>
          cases k with
          | int j =>
            unfold sSto at q
            dsimp only at q
            cases z2 : ixN l.length j with
            | none => rw [z2] at q; exact q.elim
            | some n =>
              rw [z2] at q
              obtain ⟨vs, rfl, r⟩ := nod_lst k3
              simp only [rep] at rk
              exact .inl ⟨a, vs, j, n, rfl, rk, k2, by rw [← r.length]; exact z2, q B _ σ (Go.write sr z ea ⟨_, rfl, r.set n rv⟩) Kp.refl⟩
          | _ => exact False.elim q
        | dct kvs =>
          unfold sSto at q
          dsimp only at q
          by_cases c : okD kvs k = true ∧ kvs.length < sizeLine
          · rw [if_pos c] at q
            have mu : Mut (H a) := by
              rw [k2]
              rcases k3 with ⟨es, rfl, _⟩ | ⟨xs, rfl, _⟩ <;> trivial
            have dn : DN (ga X) B H a kvs := by
              rcases k3 with ⟨es, rfl, r⟩ | ⟨xs, rfl, r⟩
              · exact .inl ⟨es, .inl k2, r⟩
              · exact .inr ⟨xs, k2, r⟩
            exact .inr ⟨B, kvs, k, w, a, sr.bh, rfl, dn, mu, k4, rk, c.1, rv, c.2, fun ho n => q B _ σ (Go.write sr z ea n) Kp.refl⟩
          · rw [if_neg c] at q
            exact q.elim
        | _ => exact False.elim q
theorem sv_sto {i : Nat} {x : Str} {mk mv : M U} (hu : X.A.units + 64 < cLine) (hN : X.N[i]? = some x) (hvs : Vis X.env.scope x) (hk : PV X W kx mk) (hv : PV X W vx mv) (hd : (x == ("__debug__" : Str)) = false := by decide) (hcd : (x == ("__classdict__" : Str)) = false := by decide)
    (ha : ∀ v, assign (.Subscript (.Name x npos) kx spos) X.env v = (do
      let ov ← holding [v] (eval (.Name x npos) X.env)
      let iv ← holding [v, ov] (eval kx X.env)
      standAt spos
      holding [v, ov, iv] (setItem ov iv v)
      release [v, ov, iv] []) := by intro _; rfl)
    (hs : swapsWithSole [.Subscript (.Name x npos) kx spos] vx pos.line X.env = pure false := by rfl) (hw : swappedStores [.Subscript (.Name x npos) kx spos] vx X.env = pure none := by rfl)
    (h1 : (assignEach [.Subscript (.Name x npos) kx spos] X.env).map (·.2) = [assign (.Subscript (.Name x npos) kx spos) X.env] := by rfl) :
    PSV X W pr (.Assign [.Subscript (.Name x npos) kx spos] vx pos) (mSto i mk mv) := by
  refine PSimp (ps_asg hv (pg_sub (pe_var hN hvs hd hcd) hk (PSet.or set_list (set_dict hu)) ha) hs hw h1) fun D σ H ⟨B, e, sr, q⟩ => ⟨B, e, sr, (sAt.bs q).mono fun v H1 ⟨B1, e1, w, g1, r1, q1⟩ => ?_⟩
  unfold sAt at q1
  dsimp only at q1
  cases z : e1[i]? with
  | none => rw [z] at q1; exact q1.elim
  | some s1 =>
    rw [z] at q1
    cases s1 with
    | none => exact q1.elim
    | some s1 =>
      obtain ⟨o, u⟩ := s1
      cases o with
      | false => exact q1.elim
      | true =>
        obtain ⟨a, ho, k1, _⟩ := g1.sr.ow i u z
        refine ⟨_, k1, B1, e1, g1.sr, (sAt.bs (rl := rlV (ga X)) q1).mono fun y H2 ⟨B2, e2, k, g2, r2, q2⟩ => ?_⟩
        exact sto_core g2.sr k1 r2 (rep.mono g2.st.bb r1) q2
end
end VS
set_option Elab.async false
set_option linter.all false
set_option maxRecDepth 100000
/-! VS16: sets of keys by a kind, with a walkable table. -/
namespace VSet
open PySem PyProof.Rows L2

theorem Paired.perm {α β : Type} {F : α → β → Prop} {l1 l2 : List α} (p : l1.Perm l2) : ∀ {ks : List β}, Paired F l2 ks → ∃ ks', ks'.Perm ks ∧ Paired F l1 ks' := by
  induction p with
  | nil => intro ks h; exact ⟨ks, .refl _, h⟩
  | cons x _ ih =>
    intro ks h
    cases h with
    | cons h1 t =>
      obtain ⟨ks', q1, q2⟩ := ih t
      exact ⟨_ :: ks', q1.cons _, .cons h1 q2⟩
  | swap x y l =>
    intro ks h
    cases h with
    | cons h1 t =>
      cases t with
      | cons h2 t => exact ⟨_, .swap _ _ _, .cons h2 (.cons h1 t)⟩
  | trans _ _ ih1 ih2 =>
    intro ks h
    obtain ⟨k1, q1, q2⟩ := ih2 h
    obtain ⟨k2, q3, q4⟩ := ih1 q2
    exact ⟨k2, q3.trans q1, q4⟩
section
variable {P : Program} {w : World} {K : Type} [DecidableEq K] (knd : KeyKind P w K)
def EG (e : Int × Value) (k : K) : Prop := knd.is k e.2 = true ∧ e.1 = knd.hash k ∧ e.2.scannable = true
/-- the set at a, its members in some order -/
def SG (h : Heap) (a : Addr) (ks : List K) : Prop :=
  ∃ o es ep t, h.get? a = some o ∧ o.ExactSet ∧ o.data = .set es ep t ∧ Paired (EG knd) es.toList ks ∧ ks.Nodup ∧ es.size < scanBound ∧ t.fits es.size = true ∧ Ris t.place.toList ∧ (w.params.followText "set-order" = true ∨ t.led = true)
variable {knd}
theorem plen {α β : Type} {F : α → β → Prop} : ∀ {xs : List α} {ys : List β}, Paired F xs ys → xs.length = ys.length
  | _, _, .nil => rfl
  | _, _, .cons r t => by simp [plen t]
theorem pmem {α β : Type} {F : α → β → Prop} {x : α} : ∀ {xs : List α} {ys : List β}, Paired F xs ys → x ∈ xs → ∃ y ∈ ys, F x y
  | _, _, .nil, h => by cases h
  | _, _, .cons r t, h => by
    rcases List.mem_cons.mp h with e | h
    · subst e; exact ⟨_, List.mem_cons_self, r⟩
    · obtain ⟨y, hy, f⟩ := pmem t h; exact ⟨y, List.mem_cons_of_mem _ hy, f⟩
theorem pmem' {α β : Type} {F : α → β → Prop} {y : β} : ∀ {xs : List α} {ys : List β}, Paired F xs ys → y ∈ ys → ∃ x ∈ xs, F x y
  | _, _, .nil, h => by cases h
  | _, _, .cons r t, h => by
    rcases List.mem_cons.mp h with e | h
    · subst e; exact ⟨_, List.mem_cons_self, r⟩
    · obtain ⟨y, hy, f⟩ := pmem' t h; exact ⟨y, List.mem_cons_of_mem _ hy, f⟩
theorem SG.at {h h' : Heap} {a : Addr} {ks : List K} (R : SG knd h a ks) (k : ∀ o, h.get? a = some o → h'.get? a = some o) : SG knd h' a ks := by
  obtain ⟨o, es, ep, t, ho, r⟩ := R
  exact ⟨o, es, ep, t, k o ho, r⟩
theorem eg_elems {es : List (Int × Value)} {ks : List K} (p : Paired (EG knd) es ks) : ElemsOf knd es := fun e he => by
  obtain ⟨k, _, h1, h2, h3⟩ := pmem p he
  exact ⟨⟨k, h1, h2⟩, h3⟩
theorem SG.typeIs {s : Shared} {a : Addr} {ks : List K} (R : SG knd s.heap a ks) : s.TypeIs (.ref a) "set" := by
  obtain ⟨o, es, ep, t, ho, hex, _⟩ := R
  exact ⟨o, ho, hex.1⟩
variable {A : Around} {E : Value → Shared → Prop} {s : Shared} {a : Addr} {ks : List K}
theorem sg_tail {g : Bool → Sem Unit} (hg : ∀ (b : Bool) (s₁ : Shared) (Q' : Unit → Shared → Prop), Q' () s₁ → wpAny (model P w) A (g b) Q' E s₁)
    {o : Obj} {es : Array (Int × Value)} {ep : Nat} {t : SetTable} (ho : s.heap.get? a = some o) (hex : o.ExactSet) (hd : o.data = .set es ep t)
    {es1 : Array (Int × Value)} {t2 : SetTable} {ks1 : List K} (p1 : Paired (EG knd) es1.toList ks1) (nd1 : ks1.Nodup)
    (hb1 : es1.size < scanBound) (hf2 : t2.fits es1.size = true) (hr : Ris t2.place.toList) (hl : w.params.followText "set-order" = true ∨ t2.led = true) {wasDummy : Bool} {R : Option Bool → Shared → Prop}
    (hR : ∀ h' ks2, Heap.SameBut a s.heap h' → ks2.Perm ks1 → SG knd h' a ks2 → R (some true) { s with heap := h' }) :
    wpAny (model P w) A (do
        storeSet a es1 t2
        if (!wasDummy && t2.tooFull) = true then do
            g (relayAll t2 es1 (SetTable.grown es1.size)).2.2
            storeSet a (relayAll t2 es1 (SetTable.grown es1.size)).1 (relayAll t2 es1 (SetTable.grown es1.size)).2.1
            pure (some true)
          else pure (some true)) R E s := by
  refine wpAny_bind (wpAny_storeSet_of ho hd ?_ (fits_of_scanBound hb1))
  have ho1 := L2.store_at (es' := es1) (t' := t2) ho hd
  have sb1 := Heap.SameBut.update s.heap a (Obj.putSet es1 t2)
  split
  · have pm := relayAll_perm t2 es1 (SetTable.grown es1.size)
    have hf3 := relayAll_fits t2 es1 (SetTable.grown es1.size)
    have hr3 := L2.relayAll_ris t2 es1 (SetTable.grown es1.size)
    have hl3 := L2.relayAll_led t2 es1 (SetTable.grown es1.size)
    generalize relayAll t2 es1 (SetTable.grown es1.size) = Z at pm hf3 hr3 hl3 ⊢
    obtain ⟨es2, t3, gave⟩ := Z
    dsimp only at pm hf3 hr3 hl3 ⊢
    have hsz : es2.size = es1.size := by rw [← Array.length_toList, pm.length_eq, Array.length_toList]
    have hb2 : es2.size < scanBound := by rw [hsz]; exact hb1
    obtain ⟨ks2, q1, q2⟩ := Paired.perm pm p1
    refine wpAny_bind (hg _ _ _ ?_)
    refine wpAny_bind (wpAny_storeSet_of ho1 rfl ?_ (fits_of_scanBound hb2))
    have ho2 := L2.store_at (es' := es2) (t' := t3) ho1 rfl
    exact wpAny_pure (hR _ ks2 (sb1.trans (Heap.SameBut.update _ a _)) q1 ⟨_, es2, _, t3, ho2, hex, rfl, q2, q1.nodup_iff.mpr nd1, hb2, hf3, hr3, hl.imp id fun z => by rw [hl3]; exact z⟩)
  · exact wpAny_pure (hR _ ks1 sb1 (.refl _) ⟨_, es1, _, t2, ho1, hex, rfl, p1, nd1, hb1, hf2, hr, hl⟩)
/-- what an add makes of the members -/
def Add (ks : List K) (k : K) (ks' : List K) : Prop := (k ∈ ks ∧ ks' = ks) ∨ (k ∉ ks ∧ ks'.Perm (k :: ks))
theorem sg_add {k : K} {x : Value} {Q : Bool → Shared → Prop} (R : SG knd s.heap a ks) (hkey : knd.is k x = true) (hsc : x.scannable = true) (room : ks.length + 1 < scanBound)
    (hQ : ∀ b h' ks', Heap.SameBut a s.heap h' → Add ks k ks' → SG knd h' a ks' → Q b { s with heap := h' }) :
    wpAny (model P w) A (setAddHashed a x (knd.hash k)) Q E s := by
  obtain ⟨o, es, ep, t, ho, hex, hd, pp, nd, hb, hf, hr, hl⟩ := R
  have hel : ElemsOf knd es.toList := eg_elems pp
  have hn : es.size = ks.length := by rw [← Array.length_toList]; exact plen pp
  unfold setAddHashed setAddHashedIn
  refine wpAny_holding (wpAny_bind (wpAny_setState_of ho hd hf ?_))
  dsimp only
  rw [byScan_of hsc hb hel]
  simp only [↓reduceIte]
  unfold setAddByScan
  refine wpAny_bind ?_
  refine wpAny_bind (wpAny_rule ?_)
  refine wpAny_bind (wpAny_setScan_of hkey ho hd hf hel ?_)
  cases hfi : List.findIdx? (fun e => knd.is k e.2) es.toList with
  | some j =>
    dsimp only
    obtain ⟨hj, pj, _⟩ := List.findIdx?_eq_some_iff_getElem.mp hfi
    have hk : k ∈ ks := by
      obtain ⟨k', h1, h2, _⟩ := pmem pp (List.getElem_mem hj)
      have := knd.inj _ _ _ pj h2
      rw [this]
      exact h1
    exact wpAny_pure (wpAny_pure (hQ _ s.heap ks (Heap.SameBut.refl a s.heap) (.inl ⟨hk, rfl⟩) ⟨o, es, ep, t, ho, hex, hd, pp, nd, hb, hf, hr, hl⟩))
  | none =>
    dsimp only
    have hnk : k ∉ ks := fun z => by
      obtain ⟨e, he, q, _⟩ := pmem' pp z
      have c := List.findIdx?_eq_none_iff.mp hfi e he
      rw [q] at c
      cases c
    have hgw : ∀ (b : Bool) {s₁ : Shared} {Q' : Unit → Shared → Prop}, Q' () s₁ → wpAny (model P w) A (match b with | true => rule "set.scan.the-table-gave-way" | false => pure ()) Q' E s₁ :=
      fun b s₁ Q' q => by cases b <;> first | exact wpAny_pure q | exact wpAny_rule q
    have pm := layNew_perm t es (knd.hash k) x
    have hf1 := layNew_fits t es (knd.hash k) x
    have hr1 := L2.layNew_ris t es (knd.hash k) x hr
    have hl1 := L2.layNew_led t es (knd.hash k) x
    generalize layNew t es (knd.hash k) x = Z at pm hf1 hr1 hl1 ⊢
    obtain ⟨es1, t1, wasDummy, gave⟩ := Z
    dsimp only at pm hf1 hr1 hl1 ⊢
    rw [Array.toList_push] at pm
    have pc : es1.toList.Perm ((knd.hash k, x) :: es.toList) := pm.trans (List.perm_append_singleton _ _)
    obtain ⟨ks1, q1, q2⟩ := Paired.perm pc (.cons (F := EG knd) (b := k) ⟨hkey, rfl, hsc⟩ pp)
    have nd1 : ks1.Nodup := q1.nodup_iff.mpr (List.nodup_cons.mpr ⟨hnk, nd⟩)
    have hsz : es1.size = ks.length + 1 := by rw [← Array.length_toList, pc.length_eq, List.length_cons, Array.length_toList, hn]
    have hb1 : es1.size < scanBound := by rw [hsz]; exact room
    have hled : w.params.followText "set-order" = true ∨ t1.led = true := hl.imp id fun z => by rw [hl1]; exact z
    refine wpAny_bind (hgw _ ?_)
    split
    · refine wpAny_bind ?_
      rw [hashByValue_scannable 8 hsc]
      refine wpAny_pure ?_
      refine sg_tail ?_ ho hex hd q2 nd1 hb1 ?_ ?_ ?_ ?_
      · intro b s₁ Q' q; cases b <;> first | exact wpAny_pure q | exact wpAny_rule q
      · first | (split <;> first | exact hf1 | exact SetTable.fits_plain_off hf1) | exact hf1
      · first | (split <;> exact hr1) | exact hr1
      · first | (split <;> exact hled) | exact hled
      · intro h' ks2 sb p r; dsimp only; exact wpAny_pure (hQ _ h' ks2 sb (.inr ⟨hnk, p.trans q1⟩) r)
    · refine wpAny_bind (wpAny_pure ?_)
      simp only [↓reduceIte]
      refine sg_tail ?_ ho hex hd q2 nd1 hb1 hf1 hr1 hled ?_
      · intro b s₁ Q' q; cases b <;> first | exact wpAny_pure q | exact wpAny_rule q
      · intro h' ks2 sb p r; dsimp only; exact wpAny_pure (hQ _ h' ks2 sb (.inr ⟨hnk, p.trans q1⟩) r)
theorem sg_fresh {h : Heap} {a : Addr} (ho : h.get? a = some { cls := .type "set", dict := none, data := .set #[] 0 (.fresh 0 0 (!w.params.followText "set-order")) }) : SG knd h a [] :=
  ⟨_, #[], 0, _, ho, ⟨rfl, rfl, rfl⟩, rfl, .nil, by simp, by decide, by rfl, List.Pairwise.nil, by
    show _ ∨ (!w.params.followText "set-order") = true
    cases w.params.followText "set-order"
    · exact .inr rfl
    · exact .inl rfl⟩
/-- the members of xs, each once -/
inductive Adds : List K → List K → List K → Prop
  | nil (ks : List K) : Adds ks [] ks
  | cons {ks ks1 ks2 : List K} {k : K} {r : List K} : Add ks k ks1 → Adds ks1 r ks2 → Adds ks (k :: r) ks2
theorem Add.mem {ks ks' : List K} {k : K} (h : Add ks k ks') (y : K) : y ∈ ks' ↔ y = k ∨ y ∈ ks := by
  rcases h with ⟨h1, rfl⟩ | ⟨h1, h2⟩
  · exact ⟨.inr, fun z => z.elim (fun e => e ▸ h1) id⟩
  · rw [h2.mem_iff, List.mem_cons]
theorem Add.len {ks ks' : List K} {k : K} (h : Add ks k ks') : ks'.length ≤ ks.length + 1 := by
  rcases h with ⟨h1, rfl⟩ | ⟨h1, h2⟩
  · omega
  · rw [h2.length_eq]; simp
theorem Adds.mem {ks ks' r : List K} (h : Adds ks r ks') (y : K) : y ∈ ks' ↔ y ∈ ks ∨ y ∈ r := by
  induction h with
  | nil ks => simp
  | cons h1 _ ih =>
    rw [ih, h1.mem, List.mem_cons]
    constructor
    · rintro ((h | h) | h)
      · exact .inr (.inl h)
      · exact .inl h
      · exact .inr (.inr h)
    · rintro (h | h | h)
      · exact .inl (.inr h)
      · exact .inl (.inl h)
      · exact .inr h
/-- values of keys -/
abbrev KeyVs (knd : KeyKind P w K) : List Value → List K → Prop := Paired fun v k => knd.is k v = true ∧ v.scannable = true
/-- set.update's loop -/
theorem sg_update {I : Addr} {fp wr : List Addr} {G : Array GenState → Array GenState → Prop} {n : Nat} {Pv : Nat → Value → Prop} {St : Nat → Shared → Prop} {R : Result → Shared → Prop}
    (W : WalksS P w A.in1 I fp wr G n Pv St) (S : Addr) (hSf : S ∉ fp) (xs : List K) (hn : n = xs.length) (hfew : xs.length + 1 < scanBound) (hval : ∀ i v, Pv i v → ∃ k, xs[i]? = some k ∧ knd.is k v = true ∧ v.scannable = true)
    (h0 : Heap) (hS0 : h0.get? S = none) (hw0 : ∀ b ∈ wr, h0.get? b = none) :
    ∀ (k i : Nat) (s : Shared) (ks : List K), n - i = k → i ≤ n → ks.length ≤ i → St i s → (∀ b o, h0.get? b = some o → s.heap.get? b = some o) → SG knd s.heap S ks →
      (∀ s' ks', Moved (S :: wr) G s s' → SG knd s'.heap S ks' → Adds ks (xs.drop i) ks' → (∀ b o, h0.get? b = some o → s'.heap.get? b = some o) → R (.ok (.ret .none)) s') →
      codeAny (model P w) A (.builtin "set.update.loop" ⟨[.ref S, .ref I], []⟩) R s := by
  have hSw : S ∉ wr := fun h => hSf (W.sub _ h)
  have hsub : ∀ b ∈ wr, b ∈ S :: wr := fun b hb => List.mem_cons_of_mem _ hb
  have keepM : ∀ {s s' : Shared}, Moved wr G s s' → (∀ b o, h0.get? b = some o → s.heap.get? b = some o) → ∀ b o, h0.get? b = some o → s'.heap.get? b = some o := fun hm hkp b o e =>
    hm.heap b o (fun hb => by rw [hw0 b hb] at e; cases e) (hkp b o e)
  intro k
  induction k with
  | zero =>
    intro i s ks hk' hi hle hst hkp hS hR
    have hin : i = n := by omega
    subst hin
    refine codeAny_builtin PyProof.Rows.F.entry_set_update_loop ?_
    rw [Around.under_plainId PyProof.Rows.F.plain_set_update_loop _]
    show wpAny _ A.in1 (pyNext (.ref I) >>= _) _ _ s
    refine wpAny_bind (W.done s _ _ hst fun s' hm => ?_)
    show wpAny _ A.in1 (ret Value.none) _ _ s'
    refine wpAny_pure (hR s' ks (hm.mono hsub) (hS.at fun o e => hm.heap S o hSw e) ?_ (keepM hm hkp))
    rw [hn, List.drop_length]
    exact .nil _
  | succ k ih =>
    intro i s ks hk' hi hle hst hkp hS hR
    have hlt : i < n := by omega
    refine codeAny_builtin PyProof.Rows.F.entry_set_update_loop ?_
    rw [Around.under_plainId PyProof.Rows.F.plain_set_update_loop _]
    show wpAny _ A.in1 (pyNext (.ref I) >>= _) _ _ s
    refine wpAny_bind (W.item i s _ _ hlt hst fun v s' hP hst' hm => ?_)
    obtain ⟨x, hx, hxi, hxs⟩ := hval i v hP
    have hkp' := keepM hm hkp
    have hS' : SG knd s'.heap S ks := hS.at fun o e => hm.heap S o hSw e
    show wpAny _ A.in1 (holding [v] (setAdd S v) >>= _) _ _ s'
    refine wpAny_bind (wpAny_holding ?_)
    unfold setAdd
    refine wpAny_holding ?_
    refine wpAny_bind (knd.pyHash hxi ?_)
    refine sg_add (s := { s' with toks := s'.toks + 1 }) hS' hxi hxs (by omega) fun b h' ks' hsb ad hS2 => ?_
    have hkp2 : ∀ b o, h0.get? b = some o → h'.get? b = some o := fun b o e => (hsb.2 b (fun z => by rw [z, hS0] at e; cases e)).trans (hkp' b o e)
    refine wpAny_pure ⟨plainId_quiet PyProof.Rows.F.plain_set_update_loop _, ih (i + 1) _ ks' (by omega) hlt (by have := ad.len; omega) (W.frame _ s' _ _ hst' (Nat.le_add_right _ _) fun b hb o e => ?_) hkp2 hS2 fun s'' ks2 hm'' hS'' ads hkp'' => ?_⟩
    · rw [hsb.2 b (fun h : b = S => hSf (by rw [← h]; exact hb))]; exact e
    · refine hR s'' ks2 (Moved.trans W.gtrans ((hm.mono hsub).then_heap (Nat.le_add_right _ _) fun b o hb e => ?_) hm'') hS'' ?_ hkp''
      · rw [hsb.2 b (fun h : b = S => hb (by rw [h]; exact List.mem_cons_self))]; exact e
      · have hlt' : i < xs.length := by omega
        rw [List.drop_eq_getElem_cons hlt']
        have : xs[i] = x := by
          rw [List.getElem?_eq_getElem hlt'] at hx
          exact Option.some.inj hx
        rw [this]
        exact .cons ad ads
end
end VSet
set_option Elab.async false
set_option linter.all false
set_option maxRecDepth 100000
set_option maxHeartbeats 3200000
/-! VS17: set(xs), sorted(set). -/
namespace VSet
open PySem PyProof.Rows L2
theorem at_of {α β : Type} {F : α → β → Prop} : ∀ {xs : List α} {ys : List β}, Paired F xs ys → ∀ (i : Nat) (x : α), xs[i]? = some x → ∃ y, ys[i]? = some y ∧ F x y
  | _, _, .nil, i, x, h => by simp at h
  | _, _, .cons r t, 0, x, h => by cases h; exact ⟨_, rfl, r⟩
  | _, _, .cons r t, i + 1, x, h => at_of t i x (by simpa using h)
section
variable {P : Program} {w : World} {K : Type} [DecidableEq K] {knd : KeyKind P w K} {A : Around} {E : Value → Shared → Prop} {s : Shared} {a : Addr} {ks : List K}

theorem map_vals : ∀ {es : List (Int × Value)} {ks : List K}, Paired (EG knd) es ks → Paired (fun v k => knd.is k v = true) (es.map (·.2)) ks
  | _, _, .nil => .nil
  | _, _, .cons h t => .cons h.1 (map_vals t)
theorem strs_of : ∀ {vs : List Value} {ss : List Str}, Paired (fun v k => (PySem.strKind P w).is k v = true) vs ss → StrsAre vs ss
  | _, _, .nil => .nil
  | v :: _, y :: _, .cons h t => by
    obtain ⟨k, e⟩ := Value.isStrOf_shape h
    subst e
    exact .cons y k (strs_of t)
/-- sorted(set), texts -/
theorem sorted_sg {ks : List Str} {Q : Value → Shared → Prop} (R : SG (PySem.strKind P w) s.heap a ks) (hh : A.handled = none) (h64 : ks.length < 64)
    (hQ : ∀ s' p (out : Array Value) (c : Nat) (ns : List Str), (∀ b o, s.heap.get? b = some o → s'.heap.get? b = some o) → s'.gens = s.gens → s'.os = s.os → s.heap.objs.size ≤ p →
      s'.heap.get? p = some (seqObj "list" out c) → StrsAre out.toList ns → sortedS ns = true → ns.Perm ks → Q (.ref p) s') :
    wpAny (model P w) A (call (.builtin "sorted") [.ref a]) Q E s := by
  obtain ⟨o, es, ep, t, ho, hex, hd, pp, nd, hb, hf, hr, hl⟩ := R
  have hn : es.size = ks.length := by rw [← Array.length_toList]; exact plen pp
  refine Calls.call_function_entry kind_sorted plain_sorted entry_sorted (args_sorted1 _) ?_
  unfold Builtin.«sorted»
  refine wpAny_bind (m := checkCount "sorted" 1 1 _) (wpAny_pure ?_)
  refine wpAny_bind (L2.collect_set (A := A.in1) hh ⟨o, ho, hex.1, hd⟩ hf hb hr hl fun s1 vs k1 hz g1 o1 pm => ?_)
  have hvl : vs.length = ks.length := by rw [pm.length_eq, List.length_map, Array.length_toList]; exact hn
  obtain ⟨ss, q1, q2⟩ := Paired.perm pm (map_vals pp)
  have hS : StrsAre vs ss := strs_of q2
  refine wpAny_bind (wpAny_newList ?_ (by rw [hvl, sizeLine_eq]; omega))
  have hoL : (s1.heap.push (seqObj "list" vs.toArray 0)).get? s1.heap.objs.size = some (seqObj "list" vs.toArray 0) := Heap.get?_push_size _ rfl
  refine wpAny_bind (wpAny_holding (wpAny_call_entry slot_list_sort ⟨_, hoL, rfl⟩ entry_list_sort (list_sort_treeK strKind_oneLt hoL hS.keysOf (fun v₁ v₂ rest e => keyKind_strs (by rw [← e]; exact hS)) (by rw [hvl]; exact h64) fun st' hp hs => ⟨_, rfl, ?_⟩) (args_list_sort _)))
  obtain ⟨ss', h1, h2, h3⟩ := sorted_out_str hS hp hs
  obtain ⟨c, hc⟩ := sortedHeap_at (vs := vs) (out := (arrOf st').map (·.2)) hoL
  refine wpAny_pure ⟨_, rfl, hQ _ s1.heap.objs.size _ c ss' (fun b u e => ?_) g1 o1 hz hc h1 h3 (h2.trans q1)⟩
  have q := k1 b u e
  have hlt := Heap.lt_size q
  show (sortedHeap (s1.heap.push (seqObj "list" vs.toArray 0)) s1.heap.objs.size vs _).get? b = some u
  rw [sortedHeap_old (Nat.ne_of_lt hlt) (by rw [size_push']; exact Nat.lt_succ_of_lt hlt)]
  exact Heap.get?_push_of_some _ q
end
end VSet
set_option Elab.async false
set_option linter.all false
set_option maxRecDepth 100000
set_option maxHeartbeats 3200000
/-! VS18: set(a list). -/
namespace VSet
open PySem PyProof.Rows L2
theorem at_of2 {α β : Type} {F : α → β → Prop} : ∀ {xs : List α} {ys : List β}, Paired F xs ys → ∀ (i : Nat) (x : α), xs[i]? = some x → ∃ y, ys[i]? = some y ∧ F x y
  | _, _, .nil, i, x, h => by simp at h
  | _, _, .cons r t, 0, x, h => by cases h; exact ⟨_, rfl, r⟩
  | _, _, .cons r t, i + 1, x, h => at_of t i x (by simpa using h)
section
variable {P : Program} {w : World} {K : Type} [DecidableEq K] {knd : KeyKind P w K} {A : Around} {E : Value → Shared → Prop} {s : Shared} {a : Addr} {ks : List K}
theorem set_list {l : Addr} {items : Array Value} (xs : List K) {Q : Value → Shared → Prop} (hh : A.handled = none) (hl : s.heap.IsList l items) (hit : KeyVs knd items.toList xs) (hfew : xs.length + 1 < scanBound)
    (h : ∀ (h' : Heap) (tk : Nat) ks, SG knd h' s.heap.objs.size ks → Adds [] xs ks → (∀ b o, s.heap.get? b = some o → h'.get? b = some o) → Q (.ref s.heap.objs.size) { s with heap := h', toks := tk }) :
    wpAny (model P w) A (call (.type "set") [.ref l]) Q E s := by
  have hisz : items.size = xs.length := by rw [← Array.length_toList]; exact plen hit
  obtain ⟨c, tl, hmro⟩ := PySem.F.called_set.mro
  have hmade := PySem.F.called_set.made
  have hsub := PySem.F.called_set.sub
  refine wpAny_call (codeAny_of_tree ?_)
  show wpAny _ _ (callAny (.type "set") _) _ _ _
  refine wpAny_pure ⟨Code.quiet_builtin _ (by decide +kernel), codeAny_builtin PySem.F.entry_type_call ?_⟩
  rw [Around.under_plain (weight_type_call_type "set" [.ref l] []) rfl]
  have h1 := PySem.F.called_set.notType
  have h2 := PySem.F.called_set.canCreate
  have hct := PySem.F.typeCall_set_1 (.ref l)
  repeat (any_goals (first | assumption | wp_step))
  refine codeAny_mono (L2.code_set_led1 (.ref l) (E := E) (Q₁ := fun obj s₁ => obj = .ref s.heap.objs.size ∧ s₁ = { s with heap := s.heap.push { cls := .type "set", dict := none, data := .set #[] 0 (.fresh 0 0 (!w.params.followText "set-order")) } }) ⟨rfl, rfl⟩) fun r s₁ hr => ?_
  cases r with
  | error e => exact hr
  | ok fl =>
    cases fl with
    | ret obj =>
      obtain ⟨rfl, rfl⟩ := hr
      have hS : (s.heap.push { cls := .type "set", dict := none, data := .set #[] 0 (.fresh 0 0 (!w.params.followText "set-order")) }).get? s.heap.objs.size = some { cls := .type "set", dict := none, data := .set #[] 0 (.fresh 0 0 (!w.params.followText "set-order")) } := Heap.get?_push_size _ rfl
      have hT : Shared.TypeIs { s with heap := s.heap.push { cls := .type "set", dict := none, data := .set #[] 0 (.fresh 0 0 (!w.params.followText "set-order")) } } (.ref s.heap.objs.size) "set" := ⟨_, hS, rfl⟩
      have hli := PySem.F.called_set.init.lookup
      have hbi := PySem.F.called_set.init.bind (.ref s.heap.objs.size)
      repeat (any_goals (first | assumption | wp_step))
      refine codeAny_mono (codeAny_call_builtin (R := wants (fun r s₂ => r = .none ∧ ∃ h' tk ks, s₂ = { s with heap := h', toks := tk } ∧ SG knd h' s.heap.objs.size ks ∧ Adds [] xs ks ∧
          (∀ b o, s.heap.get? b = some o → h'.get? b = some o)) E) PySem.F.called_set.init.plain PySem.F.entry_set_init (check_set_init_1 hT ?_)) fun r₂ s₂ hr₂ => ?_
      · obtain ⟨ol, hol, hcl, nl, hdl⟩ := hl
        obtain ⟨ocls, odict, odata, oslots⟩ := ol
        simp only at hcl hdl
        subst hcl; subst hdl
        have hol' : (s.heap.push { cls := .type "set", dict := none, data := .set #[] 0 (.fresh 0 0 (!w.params.followText "set-order")) }).get? l = some { cls := .type "list", dict := odict, data := .seq items nl, slots := oslots } := Heap.get?_push_of_some _ hol
        have hsls := PySem.F.sub_list_set
        have hslf := PySem.F.sub_list_frozenset
        have hne : (Value.type "list" == Value.type "dict") = false := by decide
        have hl1 : (s.heap.push { cls := .type "set", dict := none, data := .set #[] 0 (.fresh 0 0 (!w.params.followText "set-order")) }).IsList l items := ⟨_, hol', rfl, nl, rfl⟩
        unfold Builtin.«set.__init__» noKeywords Builtin.Frozenset.updateFrom
        generalize hPI : pyIter = PI
        wp_walk
        subst hPI
        refine wpAny_pyIter_list hl1 ?_
        refine wpAny_bind (wpAny_runValue ?_)
        have hlS : l < s.heap.objs.size := Heap.lt_size hol
        have hh3 : A.in1.in1.in1.handled = none := by simp [hh]
        have hneI : l ≠ (s.heap.push { cls := .type "set", dict := none, data := .set #[] 0 (.fresh 0 0 (!w.params.followText "set-order")) }).objs.size := by
          rw [Heap.size_push]; exact Nat.ne_of_lt (Nat.lt_succ_of_lt hlS)
        have hSf : s.heap.objs.size ∉ [(s.heap.push { cls := .type "set", dict := none, data := .set #[] 0 (.fresh 0 0 (!w.params.followText "set-order")) }).objs.size, l] := by
          rw [Heap.size_push]; simp only [List.mem_cons, List.mem_singleton, List.not_mem_nil, or_false, not_or]
          exact ⟨Nat.ne_of_lt (Nat.lt_succ_self _), Nat.ne_of_gt hlS⟩
        have hval : ∀ (i : Nat) (v : Value), items[i]? = some v → ∃ k, xs[i]? = some k ∧ knd.is k v = true ∧ v.scannable = true := fun i v hv => at_of2 hit i v (by rw [Array.getElem?_toList]; exact hv)
        have none_of : ∀ b, s.heap.objs.size ≤ b → s.heap.get? b = none := fun b hb => by
          cases q : s.heap.get? b with
          | none => rfl
          | some o => exact absurd (Nat.lt_of_lt_of_le (Heap.lt_size q) hb) (Nat.lt_irrefl _)
        refine sg_update ((Walks.list hh3 _ l hneI items).toS) s.heap.objs.size
          hSf xs hisz hfew hval s.heap (none_of _ (Nat.le_refl _)) (fun b hb => none_of b (by
            rw [List.mem_singleton.mp hb, Heap.size_push]
            exact Nat.le_succ _)) (items.size - 0) 0 _ [] (by omega) (Nat.zero_le _) (Nat.zero_le _)
          ⟨⟨_, Heap.get?_push_size _ rfl, rfl, rfl⟩, (hl1.push _)⟩ (fun b o e => Heap.get?_push_of_some _ (Heap.get?_push_of_some _ e)) ?hS0 ?hR
        case hS0 =>
          exact sg_fresh (Heap.get?_push_of_some _ hS)
        case hR =>
          intro s' ks' hm hS' g' hkp
          obtain ⟨h', g2, d', tk', os'⟩ := s'
          have eg : g2 = s.gens := hm.gens
          have ed : d' = s.drawn := hm.drawn
          have eo : os' = s.os := hm.os
          subst eg; subst ed; subst eo
          show wpAny _ _ _ _ _ _
          refine wpAny_pure ?_
          show wpAny _ _ (ret Value.none) _ _ _
          exact wpAny_pure ⟨rfl, h', tk', ks', rfl, hS', by simpa using g', hkp⟩
      · cases r₂ with
        | error e => exact hr₂
        | ok fl₂ =>
          cases fl₂ with
          | ret r =>
            obtain ⟨rfl, h', tk, ks', rfl, hS', g', hk'⟩ := hr₂
            repeat (any_goals (first | assumption | wp_step))
            exact h _ _ _ hS' g' hk'
          | _ => exact hr₂.elim
    | _ => exact hr.elim
end
end VSet
set_option Elab.async false
set_option linter.all false
set_option maxRecDepth 100000
/-! VS19: op=, chains, in a text, join, isinstance, dict displays and copies, sorted of dicts and of sets. -/
namespace VS
open PySem L2

section
variable {X : Cx} {W : WXX} {pr : Nat → Bool} {ex a b c : Expr} {es : List Expr} {pos : Pos}
/-- name += e, ints -/
def mAug (i : Nat) (m : M U) : MS := fun e => match e[i]? with
  | some (some (false, .int a)) => (m.bs fun u e => match u with
      | .int b => .nx (e.set i (some (false, .int (a + b))))
      | _ => .bad) e
  | _ => .bad
theorem sv_aug {i : Nat} {x : Str} {m : M U} {p : Pos} (hN : X.N.Nodup) (hi : X.N[i]? = some x) (hx : Loc X.env.scope x) (hp : pr i = false) (h : PV X W ex m) (hf : X.fn x = true ∨ X.env.scope.names.lookup x = some .local := by first | exact .inl rfl | exact .inr rfl | assumption) :
    PSV X W pr (.AugAssign (.Name x p) .Add ex pos) (mAug i m) := by
  refine PSimp (ps_aug hN hi hx h ip_add hf) fun D σ H ⟨B, e, sr, q⟩ => ?_
  unfold sAt mAug at q
  split at q
  · rename_i n z
    obtain ⟨v, h1, h2⟩ := sr.vl i _ z
    simp only [rep] at h2
    subst h2
    refine ⟨_, h1, B, e, sr, (sAt.bs (rl := rlV (ga X)) (show sAt (ga X) W pr (m.bs _) B H e σ D from q)).mono fun y H1 ⟨B1, e1, u, g1, r1, q1⟩ => ?_⟩
    cases u with
    | int k =>
      have r1' : rep (ga X) B1 (.int k) y := r1
      simp only [rep] at r1'
      exact ⟨n, k, rfl, r1', q1 B1 H1 _ (tgN_ok (u := .int (n + k)) g1.sr (by simp only [rep])) (Kp.set hp)⟩
    | _ => exact False.elim q1
  · exact q.elim
/-- a op b op' c -/
def mChn (s t : Op2) (ra rb rc : M Od) : M (Bool × U) := ra.bd fun x => rb.bd fun y => (op2 s x y).bd fun r => match r with
  | (false, .bl k) => if k then rc.bd fun z => op2 t y z else .ret (false, .bl false)
  | _ => fun _ => .bad
theorem chn_core {op op' : CmpOp} {s t : Op2} {ra rb rc : M Od} {r r' : R2} (hr : ∀ {W : WXX} {B H : Hp} {e : En} {σ : St} {u w : U} {x y : V} {z : Bool × U} {Q : VK}, SR (ga X) B H e σ → s u w = some z → Vw (ga X) B H u x → Vw (ga X) B H w y →
    tAt (ga X) W (rlO (ga X)) (M.ret z) B H e σ Q → r x y H Q) (hr' : ∀ {W : WXX} {B H : Hp} {e : En} {σ : St} {u w : U} {x y : V} {z : Bool × U} {Q : VK}, SR (ga X) B H e σ → t u w = some z → Vw (ga X) B H u x → Vw (ga X) B H w y →
    tAt (ga X) W (rlO (ga X)) (M.ret z) B H e σ Q → r' x y H Q) (σ : St) (H : Hp) (Q : VK) (h : tG (ga X) W (rlO (ga X)) (mChn s t ra rb rc) σ H Q) :
    tChain r r' (tG (ga X) W (rlR (ga X)) ra) (tG (ga X) W (rlR (ga X)) rb) (tG (ga X) W (rlR (ga X)) rc) σ H Q := by
  obtain ⟨B, e, sr, q⟩ := h
  refine ⟨B, e, sr, (tAt.bd q).mono fun x H1 ⟨B1, e1, od1, g1, r1, q1⟩ => ?_⟩
  refine ⟨B1, e1, g1.sr, (tAt.bd q1).mono fun y H2 ⟨B2, e2, od2, g2, r2, q2⟩ => ?_⟩
  obtain ⟨u, w, z, h1, h2, h3, h4⟩ := op2_ok (tAt.bd (rl := rlO (ga X)) q2)
  refine hr (W := W) g2.sr h3 (rlR.vw (S := fun _ => True) g2.sr (rlR.keep r1 g2) h1) (rlR.vw g2.sr r2 h2) fun v B3 H3 g3 r3 => ?_
  obtain ⟨B4, e4, z4, g4, r4, q4⟩ := h4 v B3 H3 g3 r3
  obtain ⟨o, u4⟩ := z4
  cases o with
  | true => exact False.elim q4
  | false =>
    cases u4 with
    | bl k =>
      have r4' : rep (ga X) B4 (.bl k) v := r4
      simp only [rep] at r4'
      refine ⟨k, r4', ?_⟩
      cases k with
      | false => exact fin_val (u := .bl false) g4.sr q4 (rep_bl false)
      | true =>
        refine ⟨B4, e4, g4.sr, (tAt.bd (rl := rlR (ga X)) (show tAt (ga X) W (rlO (ga X)) (rc.bd _) B4 H3 e4 σ Q from q4)).mono fun w' H5 ⟨B5, e5, od5, g5, r5, q5⟩ => ?_⟩
        obtain ⟨u5, w5, z5, k1, k2, k3, k4⟩ := op2_ok q5
        exact hr' (W := W) g5.sr k3 (rlR.vw (S := fun _ => True) g5.sr (rlR.keep (S' := fun _ => True) (rlR.keep (S' := fun _ => True) r2 g4) g5) k1) (rlR.vw g5.sr r5 k2) k4
    | _ => exact False.elim q4
theorem po_chn {op op' : CmpOp} {s t : Op2} {ra rb rc : M Od} (ok : BinOK X (compareOp op) s) (ok' : BinOK X (compareOp op') t) (ha : PR X W a ra) (hb : PR X W b rb) (hc : PR X W c rc) (hm : lastMarks [op, op'] [b, c] = false := by with_unfolding_all rfl) :
    PO X W (.Compare a [op, op'] [b, c] pos) (mChn s t ra rb rc) := by
  obtain ⟨r, h1, h2⟩ := ok.ex
  obtain ⟨r', k1, k2⟩ := ok'.ex
  exact PEimp (pe_chain h1 k1 ha hb hc hm) fun σ H Q h => chn_core (op := op) (op' := op') h2 k2 σ H Q h
theorem pt_chn {op op' : CmpOp} {s t : Op2} {ra rb rc : M Od} (ok : BinOK X (compareOp op) s) (ok' : BinOK X (compareOp op') t) (ha : PR X W a ra) (hb : PR X W b rb) (hc : PR X W c rc) (hm : lastMarks [op, op'] [b, c] = false := by with_unfolding_all rfl) :
    PTB X W (.Compare a [op, op'] [b, c] pos) (mTst (mChn s t ra rb rc)) := by
  obtain ⟨r, h1, h2⟩ := ok.ex
  obtain ⟨r', k1, k2⟩ := ok'.ex
  exact PTimp (pt_chain h1 k1 ha hb hc hm) fun σ H Q h => tst_core (fun σ H Q h => chn_core (op := op) (op' := op') h2 k2 σ H Q h) σ H Q h
/-- a letter in a text -/
def sInS (neg : Bool) : Op2 := fun u w => match u, w with
  | .str x, .str z => match x.cps.toList with
    | [c] => some (false, .bl (decide (c ∈ z.cps.toList) != neg))
    | _ => none
  | _, _ => none
theorem sInS_core {neg : Bool} {u w : U} {r : Bool × U} (q : sInS neg u w = some r) : ∃ c z, u = .str ⟨#[c]⟩ ∧ w = .str z ∧ r = (false, .bl (decide (c ∈ z.cps.toList) != neg)) := by
  unfold sInS at q
  split at q
  · split at q
    · rename_i x z _ c hc
      cases q
      refine ⟨c, z, ?_, rfl, rfl⟩
      congr 1
      exact str_ext (by simpa using hc)
    · cases q
  · cases q
theorem ok_inS : BinOK X (compareOp .In) (sInS false) := by
  refine ⟨_, op_in_sign, fun {W B H e σ u w x y z Q} sr q vx vy t => ?_⟩
  obtain ⟨c, s, rfl, rfl, rfl⟩ := sInS_core q
  exact ⟨c, s, vx.str, vy.str, fin_val sr (by simpa using t) (rep_bl _)⟩
theorem ok_notInS : BinOK X (compareOp .NotIn) (sInS true) := by
  refine ⟨_, op_notIn_sign, fun {W B H e σ u w x y z Q} sr q vx vy t => ?_⟩
  obtain ⟨c, s, rfl, rfl, rfl⟩ := sInS_core q
  exact ⟨c, s, vx.str, vy.str, fin_val sr (by simpa using t) (rep_bl _)⟩
/-- join -/
def sJoin : U → List U → Option (Bool × U) := fun u us => match u, us with
  | .str x, [.lst ws] => match asStrs ws with
    | some ys => if (ys.map (·.length)).sum + ys.length * x.length ≤ 16777216 then some (false, .str (Txt.join x ys)) else none
    | none => none
  | _, _ => none
theorem ok_join : MrOK X "str" "str.join" isS sJoin := by
  refine ⟨_, _, ty_tyV, mt_join, fun sb h v => isS_ty h v, fun {W B H e σ u us x xs z Q} sr q vx rs t => ?_⟩
  unfold sJoin at q
  split at q
  · rename_i x0 ws
    split at q
    · rename_i ys hb
      split at q
      · rename_i hz
        cases q
        simp only [reps] at rs
        obtain ⟨y, r, rfl, ry, rfl⟩ := rs
        rw [asStrs_eq hb] at ry
        simp only [rep] at ry
        obtain ⟨p, vs, rfl, h1, r1⟩ := ry
        rw [reps.strs] at r1
        subst r1
        exact ⟨x0, p, ys, vx.str, rfl, .inl (SqL.of (sr.bh _ _ h1)), hz, fin_val sr t (by simp only [rep])⟩
      · cases q
    · cases q
  · cases q

/-! ### dicts -/
/-- {k: v} -/
def mDisp1 (mk mv : M U) : M (Bool × U) := mk.bd fun k => mv.bd fun w => if isK1 k then .ret (true, .dct [(k, w)]) else fun _ => .bad
theorem po_disp1 {mk mv : M U} (hk : PV X W a mk) (hv : PV X W b mv) : PO X W (.Dict [some a] [b] pos) (mDisp1 mk mv) := by
  refine PEimp (pe_disp (pps_cons hk hv pps_nil) rfl rfl (by simp) (by simp)) fun σ H Q ⟨B, e, sr, q⟩ p hp => ?_
  have g0 : Go (ga X) B H e σ B (upd H p (.dK [])) e σ := Go.alloc sr hp
  have bp := sr.none_of hp
  have np := sr.not_own hp
  refine ⟨B, e, g0.sr, ?_⟩
  unfold tAt at q
  unfold mDisp1 M.bd at q
  unfold tAt
  cases z : mk e with
  | bad => rw [z] at q; exact q
  | exc c u e' => rw [z] at q; exact fun cls d B' H' g x => q cls d B' H' (g0.trans g) x
  | ok k e1 =>
    rw [z] at q
    dsimp only at q ⊢
    intro x B1 H1 g1 r1
    refine ⟨B1, e1, g1.sr, ?_⟩
    unfold tAt
    cases z2 : mv e1 with
    | bad => rw [z2] at q; exact q
    | exc c u e' => rw [z2] at q; exact fun cls d B' H' g x => q cls d B' H' ((g0.trans g1).trans g) x
    | ok w e2 =>
      rw [z2] at q
      dsimp only at q ⊢
      intro y B2 H2 g2 r2
      have G : Go (ga X) B (upd H p (.dK [])) e σ B2 H2 e2 σ := g1.trans g2
      have hp2 : H2 p = some (.dK []) := G.st.fr p _ upd_same np
      have bp2 : B2 p = none := G.st.nb p _ upd_same np bp
      have np2 : ¬ own e2 σ p := fun z => by
        rcases G.sub p z with q | q
        · exact np q
        · rw [upd_same] at q; cases q
      by_cases c : isK1 k = true
      · rw [if_pos c] at q
        dsimp only [M.ret] at q
        have r1' : rep (ga X) B2 k x := rep.mono g2.st.bb r1
        have ek := rep_flat r1' c
        refine ⟨hp2, [(kOf k, y)], by rw [ek]; rfl, by simp, ?_⟩
        have G2 := g0.trans G
        refine q _ B2 _ (Go.setD G2 hp bp2 np2) ?_
        refine ⟨p, _, rfl, upd_same, .inl ⟨_, rfl, ?_⟩, bp2, np2, .inr hp⟩
        show repd (ga X) B2 [(k, w)] [(kOf k, y)]
        simp only [repd]
        exact ⟨kOf k, y, [], rfl, key_rep c, r2, rfl⟩
      · rw [if_neg c] at q
        exact q.elim
/-- dict(d) -/
def sDictC : OpN := fun us => match us with
  | [.dct kvs] => if kvs.all fun p => isK1 p.1 then some (true, .dct kvs) else none
  | _ => none
def rDictC (Γ : Ga) : List V → Hp → VK → Prop := fun xs H Q => ∃ B kvs a, Same B H ∧ xs = [.ref a] ∧ DN Γ B H a kvs ∧ (∀ p ∈ kvs, isK1 p.1 = true) ∧ ∀ es p, repd Γ B kvs es → H p = none → Q (.ref p) (upd H p (.dK es))
theorem cr_dictC : CallR X (.type "dict") (rDictC (ga X)) := by
  intro pins s σ H xs us Q I r h
  obtain ⟨B, kvs, a, sb, rfl, d, ok, q⟩ := h
  rw [Vals.ref1 r]
  obtain ⟨vs, dd, p, hd, z⟩ := flatview I d ok
  obtain ⟨es, q1, q2⟩ := repd.of p
  refine kt_call_dict hd dd (by rw [← kr_len p]; exact z) fun h' dd' hs => ?_
  have hn : H s.heap.objs.size = none := I.hok.fresh (Nat.le_refl _)
  refine ⟨.ref s.heap.objs.size, _, I.laid (a := s.heap.objs.size) (o := .dK es) (t' := s.toks) (fun b q hq => ?_) (Nat.le_refl _) (dk_new (by rw [q2.length, ← kr_len p]; exact z) (beq_eq_false_iff_ne.mpr (Ne.symm (Nat.ne_of_lt I.big))) q2 dd'), rfl, q es _ q1 hn⟩
  exact (hs.2 b (Nat.ne_of_lt (Heap.lt_size hq))).trans (Heap.get?_push_of_some _ hq)
theorem ok_dictC : CallOK X (.type "dict") sDictC := by
  refine ⟨_, cr_dictC, fun {W B H e σ us xs z Q} sr q vx t => ?_⟩
  unfold sDictC at q
  split at q
  · split at q
    · rename_i kvs hk
      cases q
      obtain ⟨v, rfl, v1⟩ := vws1 vx
      obtain ⟨a, rfl, d⟩ := v1.dn sr.bh
      refine ⟨B, kvs, a, sr.bh, rfl, d, fun p hp => List.all_eq_true.mp hk p hp, fun es p r hp => ?_⟩
      exact fin_new (ho := fun _ => .dK es) sr t (fun p => .inl ⟨es, rfl, r⟩) p hp
    · cases q
  · cases q
end
end VS
set_option Elab.async false
set_option linter.all false
set_option maxRecDepth 100000
/-! VS20: sorted of dicts and of sets of texts. -/
namespace VS
open PySem L2
section
variable {X : Cx} {pins : List (Addr × Obj)} {σ : St} {H B : Hp} {s : Shared}
theorem repd_keys : ∀ {kvs : List (U × U)} {es : List (Key × V)} {ns : List Str}, repd (ga X) B kvs es → asStrs (kvs.map (·.1)) = some ns → es.map (·.1) = ns.map Sum.inr
  | [], _, ns, h, k => by
    simp only [repd] at h
    subst h
    have := asStrs_eq k
    cases ns with
    | nil => rfl
    | cons a r => simp at this
  | (k, u) :: kvs, _, ns, h, q => by
    simp only [repd] at h
    obtain ⟨l, v, r, rfl, r1, r2, r3⟩ := h
    have e := asStrs_eq q
    cases ns with
    | nil => simp at e
    | cons x ns =>
      simp only [List.map_cons, List.cons.injEq] at e
      obtain ⟨e1, e2⟩ := e
      have e1' : k = .str x := e1
      subst e1'
      have := (rep_key r1).2
      rw [List.map_cons, List.map_cons, ← this]
      congr 1
      exact repd_keys r3 (by rw [e2]; exact asStrs_map ns)
/-- sorted(d), the keys texts -/
def sSortD : OpN := fun us => match us with
  | [.dct kvs] => match asStrs (kvs.map (·.1)) with
    | some ns => if ns.length < 64 then some (true, .lst ((sortS ns).map .str)) else none
    | none => none
  | _ => none
def rSortD (Γ : Ga) : List V → Hp → VK → Prop := fun xs H Q => ∃ B kvs ns a, Same B H ∧ xs = [.ref a] ∧ DN Γ B H a kvs ∧ asStrs (kvs.map (·.1)) = some ns ∧ ns.length < 64 ∧ ∀ p, H p = none → Q (.ref p) (upd H p (.lst ((sortS ns).map .str)))
theorem cr_sortD (hc : X.calm = true) : CallR X (.builtin "sorted") (rSortD (ga X)) := by
  intro pins s σ H xs us Q I r h
  obtain ⟨B, kvs, ns, a, sb, rfl, d, hk, hl, q⟩ := h
  rcases d with ⟨es, e, rd⟩ | ⟨xs, e, rx⟩
  · refine call_sortedD hc pins s σ H [.ref a] us Q I r ⟨a, es, ns, rfl, e, repd_keys rd hk, hl, fun ys p pm st hp => ?_⟩
    rw [sortS_unique pm (sortedS_pair st)]
    exact q p hp
  · cases kvs with
    | cons p kvs =>
      obtain ⟨a1, _, _⟩ := rx.all
      have h1 := a1 p List.mem_cons_self
      have h2 := asStrs_eq hk
      cases ns with
      | nil => simp at h2
      | cons x ns =>
        simp only [List.map_cons, List.cons.injEq] at h2
        rw [h2.1] at h1
        simp [isKx] at h1
    | nil =>
      simp only [repx] at rx
      subst rx
      obtain ⟨x, _, _⟩ := (show ObjOk X.prog X.w H s.heap a (DX a []) from I.hok a _ e)
      exact (dxs_empty x).elim
theorem ok_sortD (hc : X.calm = true) : CallOK X (.builtin "sorted") sSortD := by
  refine ⟨_, cr_sortD hc, fun {W B H e σ us xs z Q} sr q vx t => ?_⟩
  unfold sSortD at q
  split at q
  · rename_i kvs
    split at q
    · rename_i ns hk
      split at q
      · rename_i hl
        cases q
        obtain ⟨v, rfl, v1⟩ := vws1 vx
        obtain ⟨a, rfl, d⟩ := v1.dn sr.bh
        refine ⟨B, kvs, ns, a, sr.bh, rfl, d, hk, hl, fun p hp => ?_⟩
        have e : ((sortS ns).map U.str) = (sortS ns).map U.str := rfl
        exact fin_new (ho := fun _ => .lst _) sr t (fun p => ⟨_, rfl, (reps.strs _).mpr rfl⟩) p hp
      · cases q
    · cases q
  · cases q
end
/-! ### sorted(set(xs)) -/
def dedS : List Str → List Str
  | [] => []
  | x :: r => if x ∈ r then dedS r else x :: dedS r
theorem mem_dedS {y : Str} : ∀ {xs : List Str}, y ∈ dedS xs ↔ y ∈ xs
  | [] => by simp [dedS]
  | x :: r => by
    unfold dedS
    split
    · rename_i h
      rw [mem_dedS, List.mem_cons]
      exact ⟨.inr, fun z => z.elim (fun e => e ▸ h) id⟩
    · rw [List.mem_cons, List.mem_cons, mem_dedS]
theorem nodup_dedS : ∀ (xs : List Str), (dedS xs).Nodup
  | [] => by simp [dedS]
  | x :: r => by
    unfold dedS
    split
    · exact nodup_dedS r
    · rename_i h
      exact List.nodup_cons.mpr ⟨fun z => h (mem_dedS.mp z), nodup_dedS r⟩
theorem perm_of_mem : ∀ {a b : List Str}, a.Nodup → b.Nodup → (∀ y, y ∈ a ↔ y ∈ b) → a.Perm b
  | [], b, _, _, h => by
    cases b with
    | nil => exact .refl _
    | cons x r => have := (h x).mpr List.mem_cons_self; cases this
  | x :: a, b, ha, hb, h => by
    have hx : x ∈ b := (h x).mp List.mem_cons_self
    obtain ⟨na, ha⟩ := List.nodup_cons.mp ha
    have p := List.perm_cons_erase hx
    refine (List.Perm.cons x (perm_of_mem ha (hb.erase x) fun y => ?_)).trans p.symm
    rw [hb.mem_erase_iff]
    constructor
    · intro hy
      exact ⟨fun e => na (e ▸ hy), (h y).mp (List.mem_cons_of_mem _ hy)⟩
    · rintro ⟨n, hy⟩
      rcases List.mem_cons.mp ((h y).mpr hy) with e | z
      · exact absurd e n
      · exact z
theorem sortSet_unique {ns ks xs : List Str} (st : PyProof.Rows.sortedS ns = true) (pm : ns.Perm ks) (nd : ks.Nodup) (h : ∀ y, y ∈ ks ↔ y ∈ xs) : ns = sortS (dedS xs) :=
  sortS_unique (pm.trans (perm_of_mem nd (nodup_dedS xs) fun y => by rw [h y, mem_dedS])) (sortedS_pair st)
def tSortSet (K : PySem.W.Frag) (ta : TE) : TE := fun σ H Q => ta σ H fun x H1 => ∃ l, ∃ xs : List Str, x = .ref l ∧ SqL K H1 l (xs.map V.str) ∧ xs.length < 64 ∧ ∀ p, H1 p = none → Q (.ref p) (upd H1 p (.lst ((sortS (dedS xs)).map V.str)))
theorem keyVs_strs {P : Program} {w : World} : ∀ {ys : List Str} {us : List Value}, Vals (ys.map V.str) us → VSet.KeyVs (PySem.strKind P w) us ys
  | [], _, .nil => .nil
  | y :: ys, _, .cons r t => by
    obtain ⟨k, rfl⟩ := r
    exact .cons ⟨by simp [PySem.strKind, Value.isStrOf], rfl⟩ (keyVs_strs t)
section
open PyProof.Rows
variable {X : Cx} {W : WXX} {a : Expr} {p p2 q pos : Pos}
theorem pe_sortSet {ta : TE} (hc : X.calm = true) (hg : Gl X "sorted") (hm : X.mg "sorted" = none) (hg2 : Gl X "set") (hm2 : X.mg "set" = none) (ha : PE X a ta)
    (na : starEach [a] X.env = (false, eval a X.env) :: starEach [] X.env := by rfl) : PE X (.Call (.Name "sorted" p) [.Call (.Name "set" p2) [a] [] q] [] pos) (tSortSet X.K ta) := by
  refine ⟨fun pins s σ H Q I h => ?_⟩
  refine Call_ (ld_blt I hg hm boot_sorted ?_)
  refine PyProof.Rows.callWith_builtin1 (PyProof.Rows.args_cons ?_ rfl) rfl rfl
  refine Call_ (ld_blt I hg2 hm2 boot_set ?_)
  refine PyProof.Rows.callWith_type1 (PyProof.Rows.args_cons (thn (ha.run pins s σ H _ I h) fun v s1 ⟨x, H1, I1, r1, q1⟩ => PyProof.Rows.args_nil ?_) na) na rfl
  obtain ⟨l, xs, rfl, hq, h1, q1⟩ := q1
  cases r1
  obtain ⟨its, r, pl, hz⟩ := I1.list hq
  refine VSet.set_list (knd := PySem.strKind X.prog X.w) xs (I1.ok.hd hc) pl.isList (by simpa using keyVs_strs r) (by unfold scanBound; omega) fun h' tk ks sg ad hk => ?_
  refine PyProof.Rows.args_nil ?_
  have I2 : Inv X pins σ H1 { s1 with heap := h', toks := tk } := I1.kept fun b o e => hk b o e
  have nd : ks.Nodup := by obtain ⟨_, _, _, _, _, _, _, _, nd, _⟩ := sg; exact nd
  have mem : ∀ y, y ∈ ks ↔ y ∈ xs := fun y => by rw [ad.mem]; simp
  have kl : ks.length ≤ xs.length := by
    have : ∀ {k r k' : List Str}, VSet.Adds k r k' → k'.length ≤ k.length + r.length := by
      intro k r k' h
      induction h with
      | nil => simp
      | cons a _ ih => have := a.len; simp only [List.length_cons]; omega
    simpa using this ad
  refine VSet.sorted_sg sg (I2.ok.hd hc) (by omega) fun s' p out c ns k g o hp hgt hi st pm => ?_
  have hn : H1 p = none := I2.hok.fresh hp
  have e1 := sortSet_unique st pm nd mem
  have hlen : (ns.map V.str).length ≤ sizeLine := by rw [List.length_map, pm.length_eq, sizeLine_eq]; omega
  have J : Inv X pins σ (upd H1 p (.lst (ns.map V.str))) { ({ s1 with heap := h', toks := tk } : Shared) with heap := s'.heap, gens := s'.gens, drawn := s'.drawn, toks := s'.toks } :=
    I2.call (ch := []) (Un.laid k hp hn) (I2.hok.laid k hp ⟨hlen, out.toList, c, vals_of_strs hi, hgt⟩) (by rw [g]; exact I2.bare) (fun _ z => nomatch z)
  have e : s' = { ({ s1 with heap := h', toks := tk } : Shared) with heap := s'.heap, gens := s'.gens, drawn := s'.drawn, toks := s'.toks } := by
    cases s'
    cases s1
    cases o
    rfl
  rw [e]
  rw [e1] at J
  exact ⟨.ref p, _, J, rfl, q1 p hn⟩
def mSSet (m : M Od) : M (Bool × U) := m.bd fun od e => match rdO e od with
  | some (.lst ws) => match asStrs ws with
    | some xs => if xs.length < 64 then .ok (true, .lst ((sortS (dedS xs)).map .str)) e else .bad
    | none => .bad
  | _ => .bad
theorem po_sortSet {m : M Od} (hc : X.calm = true) (hg : Gl X "sorted") (hm : X.mg "sorted" = none) (hg2 : Gl X "set") (hm2 : X.mg "set" = none) (ha : PR X W a m)
    (na : starEach [a] X.env = (false, eval a X.env) :: starEach [] X.env := by rfl) : PO X W (.Call (.Name "sorted" p) [.Call (.Name "set" p2) [a] [] q] [] pos) (mSSet m) := by
  refine PEimp (pe_sortSet hc hg hm hg2 hm2 ha na) fun σ H Q ⟨B, e, sr, q⟩ => ⟨B, e, sr, (tAt.bd q).mono fun x H1 ⟨B1, e1, od, g1, r1, q1⟩ => ?_⟩
  unfold tAt at q1
  dsimp only at q1
  cases h1 : rdO e1 od with
  | none => rw [h1] at q1; exact q1.elim
  | some u =>
    rw [h1] at q1
    cases u with
    | lst ws =>
      dsimp only at q1
      cases h2 : asStrs ws with
      | none => rw [h2] at q1; exact q1.elim
      | some xs =>
        rw [h2] at q1
        dsimp only at q1
        by_cases c : xs.length < 64
        · rw [if_pos c] at q1
          have v := rlR.vw g1.sr r1 h1
          rw [asStrs_eq h2] at v
          obtain ⟨l, vs, rfl, k1, k2⟩ := v.lst g1.sr.bh
          rw [reps.strs] at k2
          subst k2
          exact ⟨l, xs, rfl, SqL.of k1, c, fun p hp => fin_new (W := W) (u := .lst ((sortS (dedS xs)).map .str)) (ho := fun _ => .lst _) g1.sr q1 (fun p => ⟨_, rfl, (reps.strs _).mpr rfl⟩) p hp⟩
        · rw [if_neg c] at q1
          exact q1.elim
    | _ => exact False.elim q1
end
end VS
set_option Elab.async false
set_option linter.all false
set_option maxRecDepth 100000
/-! VS21: isinstance. -/
namespace VS
open PySem L2
def tyU : U → Option String
  | .non => some "NoneType"
  | .bl _ => some "bool"
  | .int _ => some "int"
  | .str _ => some "str"
  | .lst _ => some "list"
  | .scr _ => some "list"
  | .tup _ => some "tuple"
  | _ => none
def subT (a b : String) : Bool := a == b || (a == "bool" && b == "int")
theorem kit_tab (K : PySem.W.Frag) : (["NoneType", "bool", "int", "str", "list", "tuple", "dict"].all fun a => ["bool", "int", "str", "list", "tuple", "dict"].all fun b => decide (PySem.W.kitOne K (.type a) (.type b) = some (subT a b))) = true := by
  rfl
theorem tyU_ok {Γ : Ga} {B H : Hp} {u : U} {v : V} {t : String} (s : Same B H) (h : Vw Γ B H u v) (q : tyU u = some t) : TyX Γ.K H v (.type t) := by
  cases u with
  | non => cases h.non; cases q; exact .base .non
  | bl k => cases h.bl; cases q; exact .base (.bl _)
  | int i => cases h.int; cases q; exact .base (.int _)
  | str x => cases h.str; cases q; exact .base (.str _)
  | lst us =>
    obtain ⟨a, vs, rfl, h1, r⟩ := h.lst s
    cases q
    exact .base (.lst h1)
  | tup us =>
    obtain ⟨a, vs, rfl, h1, r⟩ := h.tup s
    cases q
    rcases h1 with (h1 | ⟨o, h1⟩) | ⟨o, its, n, k1, k2, _⟩
    · exact .base (.tup h1)
    · exact .fTuple h1
    · exact .kTuple k1 k2
  | scr ns =>
    obtain ⟨a, rfl, h1⟩ := h.scr s
    cases q
    rcases h1 with (h1 | ⟨o, h1⟩) | ⟨o, its, n, k1, k2, _⟩
    · exact .base (.lst h1)
    · exact .base (.frz h1)
    · exact .kList k1 k2
  | _ => cases q
def mIsi (T : String) (m : M Od) : M (Bool × U) := m.bd fun od e => match rdO e od with
  | some u => match tyU u with
    | some t => .ok (false, .bl (subT t T)) e
    | none => .bad
  | none => .bad
section
variable {X : Cx} {W : WXX} {ex : Expr} {x : Str} {p pn pos : Pos}
theorem po_isi {m : M Od} {T : String} (hT : T ∈ ["bool", "int", "str", "list", "tuple", "dict"]) (hg : Gl X "isinstance") (hm : X.mg "isinstance" = none) (hg2 : Gl X x) (hm2 : X.mg x = none) (hv2 : bootBuiltins x = some (.type T)) (h : PR X W ex m)
    (hn2 : x ≠ "__name__" := by decide) (hdb2 : (x == ("__debug__" : Str)) = false := by decide)
    (he : starEach [ex, .Name x pn] X.env = (false, eval ex X.env) :: starEach [.Name x pn] X.env := by rfl) (he2 : starEach [.Name x pn] X.env = [(false, eval (.Name x pn) X.env)] := by rfl) (hpl : (backTo pos (starEach [.Name x pn] X.env)).any (·.1) = false := by rfl) :
    PO X W (.Call (.Name "isinstance" p) [ex, .Name x pn] [] pos) (mIsi T m) := by
  have hb : bootBuiltins "isinstance" = some (.builtin "isinstance") := by decide +kernel
  refine PEimp (pe_callB call_isi hg hm hb (pa_cons h (pa_cons (pe_bltn (v := .ty T) hg2 hm2 hv2 rfl hn2 hdb2) pa_nil he2) he) (by decide) (by decide) he hpl) fun σ H Q ⟨B, e, sr, q⟩ => ⟨B, e, sr, (tAt.bd q).mono fun v H1 ⟨B1, e1, od, g1, r1, q1⟩ => ?_⟩
  unfold tAt at q1
  dsimp only at q1
  cases z1 : rdO e1 od with
  | none => rw [z1] at q1; exact q1.elim
  | some u =>
    rw [z1] at q1
    dsimp only at q1
    cases z2 : tyU u with
    | none => rw [z2] at q1; exact q1.elim
    | some t =>
      rw [z2] at q1
      have ht : t ∈ ["NoneType", "bool", "int", "str", "list", "tuple", "dict"] := by cases u <;> simp only [tyU, Option.some.injEq] at z2 <;> first | (subst z2; simp) | cases z2
      have k := kit_tab X.K
      simp only [List.all_eq_true] at k
      have k' := of_decide_eq_true (k t ht T hT)
      exact ⟨v, .ty T, .type t, .type T, _, rfl, .ty T, tyU_ok g1.sr.bh (rlR.vw g1.sr r1 z1) z2, k', fin_val (W := W) g1.sr q1 (rep_bl _)⟩
end
end VS
set_option Elab.async false
set_option linter.all false
set_option maxRecDepth 100000
/-! VS22: any source, short forms. -/
namespace VS
open PySem L2
section
variable {X : Cx} {W : WXX} {tg ex : Expr}
def iAny (K : PySem.W.Frag) (tl : TE) : TI := fun σ H R => tl σ H fun x H1 => (∃ a, x = .ref a ∧ (∃ xs, SqL K H1 a xs) ∧ R (Itl K a) H1) ∨ (∃ a, x = .ref a ∧ (∃ xs, SqT K H1 a xs) ∧ R (Itt K a) H1) ∨ (∃ z, x = .str z ∧ R (Its z) H1) ∨ (∃ d o kvs, x = .ref d ∧ H1 d = some (.frz o (.dK kvs)) ∧ R (Itk d o kvs) H1) ∨ ∃ d, x = .ref d ∧ H1 d = some (DX d [])
theorem pi_any {l : Expr} {tl : TE} (hl : PE X l tl) : PI X tg l (iAny X.K tl) := by
  refine ⟨fun pins s σ H R I h => ?_⟩
  refine thn (hl.run pins s σ H _ I h) fun v s1 ⟨x, H1, I1, r1, q1⟩ => ?_
  rcases q1 with ⟨a, e, ⟨xs, hq⟩, q⟩ | ⟨a, e, ⟨xs, hq⟩, q⟩ | ⟨z, e, q⟩ | ⟨d, o, kvs, e, hd, q⟩ | ⟨d, e, hd⟩
  · subst e
    cases r1
    obtain ⟨its, rv, p, hz⟩ := I1.list hq
    exact wpAny_pyIter_list p.isList (pi_one (tk := s1.toks) I1 _ (turn_list a _) ⟨_, Heap.get?_push_size _ rfl, rfl, rfl⟩ q)
  · subst e
    cases r1
    obtain ⟨its, rv, p, hz⟩ := I1.tuple hq
    exact wpAny_pyIter_tuple (show s1.heap.IsTuple a its.toArray from p) (pi_one (tk := s1.toks) I1 _ (turn_tuple a _) ⟨_, Heap.get?_push_size _ rfl, rfl, rfl⟩ q)
  · subst e
    obtain ⟨t, rfl⟩ := r1
    cases ha : z.cps.all (· < 128)
    · exact wpAny_pyIter_wide ha (pi_one (tk := s1.toks) I1 _ (turn_str _ z t "str_iterator" (.inr rfl)) ⟨_, Heap.get?_push_size _ rfl, rfl, rfl⟩ q)
    · exact wpAny_pyIter_ascii ha (pi_one (tk := s1.toks) I1 _ (turn_str _ z t "str_ascii_iterator" (.inl rfl)) ⟨_, Heap.get?_push_size _ rfl, rfl, rfl⟩ q)
  · subst e
    obtain rfl : v = Value.ref d := r1
    obtain ⟨hs, hgd, hx, es, ep, vs, hdt, hsz, kv, hm⟩ := I1.frzK hd
    refine iter_keys hs hgd hx hdt (pi_one (tk := s1.toks) I1 _ (turn_keys _ hdt) ⟨_, Heap.get?_push_size _ rfl, rfl, ?_⟩ q)
    rw [hsz] <;> rfl
  · obtain ⟨x, _, _⟩ := (show ObjOk X.prog X.w H1 s1.heap d (DX d []) from I1.hok d _ hd)
    exact (dxs_empty x).elim
theorem repd_get {Γ : Ga} {B : Hp} : ∀ {kvs : List (U × U)} {es : List (Key × V)} {i : Nat} {p : U × U}, repd Γ B kvs es → kvs[i]? = some p → ∃ k v, es[i]? = some (k, v) ∧ rep Γ B p.1 (kV k) ∧ rep Γ B p.2 v
  | [], _, i, p, _, h => by simp at h
  | (k, u) :: kvs, _, i, p, r, h => by
    simp only [repd] at r
    obtain ⟨l, v, t, rfl, r1, r2, r3⟩ := r
    cases i with
    | zero => cases h; exact ⟨l, v, rfl, r1, r2⟩
    | succ i => exact repd_get (i := i) r3 h
theorem repd_len {Γ : Ga} {B : Hp} : ∀ {kvs : List (U × U)} {es : List (Key × V)}, repd Γ B kvs es → kvs.length = es.length
  | [], _, r => by simp only [repd] at r; subst r; rfl
  | (k, u) :: kvs, _, r => by
    simp only [repd] at r
    obtain ⟨l, v, t, rfl, r1, r2, r3⟩ := r
    simp [repd_len r3]
def srcA (u : U) : M Src := match u with
  | .lst us => .ret ⟨us, [], none⟩
  | .scr ns => .ret ⟨ns.map .int, [], none⟩
  | .tup us => .ret ⟨us, [], none⟩
  | .str x => .ret ⟨strL x, [], none⟩
  | .dct kvs => if kvs.all fun p => isK1 p.1 then .ret ⟨kvs.map (·.1), [], none⟩ else fun _ => .bad
  | _ => fun _ => .bad
def mItA (m : M U) : M Src := m.bd srcA
theorem iv_any {m : M U} (h : PV X W ex m) : PIV X W tg ex (mItA m) := by
  refine PIimp (pi_any h) fun σ H R q => ?_
  obtain ⟨B, e, sr, q⟩ := iG.of (rl := rlV (ga X)) q
  refine ⟨B, e, sr, q.mono fun x H1 ⟨B1, e1, u, s1, r1, q1⟩ => ?_⟩
  cases u with
  | lst us =>
    have r1' : rep (ga X) B1 (.lst us) x := r1
    simp only [rep] at r1'
    obtain ⟨a, vs, rfl, h1, rr⟩ := r1'
    refine .inl ⟨a, rfl, ⟨vs, SqL.of (s1.bh _ _ h1)⟩, q1 _ B1 H1 (Go.refl s1) ?_ trivial⟩
    refine ⟨fun B H k u s1 s2 _ hk => ?_, fun B H s1 s2 _ => ⟨vs, SqL.of (s2 _ _ (s1 _ _ h1)), by rw [rr.length]; exact Nat.le_refl _⟩⟩
    obtain ⟨v, hv, rv⟩ := rr.get hk
    exact ⟨⟨vs, v, SqL.of (s2 _ _ (s1 _ _ h1)), hv⟩, fun x H' ⟨e, q⟩ => ⟨B, .inl ⟨rfl, e⟩, by
      have := q vs (SqL.of (s2 _ _ (s1 _ _ h1)))
      rw [hv] at this
      cases this
      exact rv.mono s1⟩⟩
  | scr ns =>
    have r1' : rep (ga X) B1 (.scr ns) x := r1
    simp only [rep] at r1'
    obtain ⟨a, rfl, h1⟩ := r1'
    refine .inl ⟨a, rfl, ⟨_, sqL_same s1.bh h1⟩, q1 _ B1 H1 (Go.refl s1) ?_ trivial⟩
    refine ⟨fun B H k u s1 s2 _ hk => ?_, fun B H s1 s2 _ => ⟨_, sqL_same (s1.trans s2) h1, by simp⟩⟩
    obtain ⟨n, hn, rfl⟩ : ∃ n, ns[k]? = some n ∧ u = .int n := by
      rw [List.getElem?_map] at hk
      cases z : ns[k]? with
      | none => rw [z] at hk; cases hk
      | some n => rw [z] at hk; cases hk; exact ⟨n, rfl, rfl⟩
    have hv : (ns.map V.int)[k]? = some (.int n) := by rw [List.getElem?_map, hn]; rfl
    exact ⟨⟨_, _, sqL_same (s1.trans s2) h1, hv⟩, fun x H' ⟨e, q⟩ => ⟨B, .inl ⟨rfl, e⟩, by
      have := q _ (sqL_same (s1.trans s2) h1)
      rw [hv] at this
      cases this
      exact rep_int _⟩⟩
  | tup us =>
    have r1' : rep (ga X) B1 (.tup us) x := r1
    simp only [rep] at r1'
    obtain ⟨a, vs, rfl, h1, rr⟩ := r1'
    refine .inr (.inl ⟨a, rfl, ⟨vs, sqT_same s1.bh h1⟩, q1 _ B1 H1 (Go.refl s1) ?_ trivial⟩)
    refine ⟨fun B H k u s1 s2 _ hk => ?_, fun B H s1 s2 _ => ⟨vs, sqT_same (s1.trans s2) h1, by rw [rr.length]; exact Nat.le_refl _⟩⟩
    obtain ⟨v, hv, rv⟩ := rr.get hk
    exact ⟨⟨vs, v, sqT_same (s1.trans s2) h1, hv⟩, fun x H' ⟨e, q⟩ => ⟨B, .inl ⟨rfl, e⟩, by
      have := q vs (sqT_same (s1.trans s2) h1)
      rw [hv] at this
      cases this
      exact rv.mono s1⟩⟩
  | str t =>
    have r1' : rep (ga X) B1 (.str t) x := r1
    simp only [rep] at r1'
    subst r1'
    refine .inr (.inr (.inl ⟨t, rfl, q1 _ B1 H1 (Go.refl s1) ⟨fun B H k u s1 s2 _ hk => ?_, fun B H s1 s2 _ => ?_⟩ trivial⟩))
    · unfold strL at hk
      rw [List.getElem?_map, Array.getElem?_toList] at hk
      cases z : t.cps[k]? with
      | none => rw [z] at hk; cases hk
      | some c =>
        rw [z] at hk
        cases hk
        refine ⟨?_, fun x H' ⟨e, c', h1, h2⟩ => ⟨B, .inl ⟨rfl, e⟩, ?_⟩⟩
        · rcases Nat.lt_or_ge k t.cps.size with z' | z'
          · exact z'
          · rw [Array.getElem?_eq_none z'] at z; cases z
        · rw [z] at h1
          cases h1
          rw [h2]
          simp only [rep]
    · show t.cps.size ≤ _
      unfold strL
      simp
  | dct kvs =>
    have r1' : rep (ga X) B1 (.dct kvs) x := r1
    simp only [rep] at r1'
    obtain ⟨a, rfl, r1'⟩ := r1'
    dsimp only [srcA] at q1
    by_cases c : (kvs.all fun p => isK1 p.1) = true
    · rw [if_pos c] at q1
      rcases r1' with ⟨o, es, hB, rr⟩ | ⟨xs, hB, rr⟩
      · refine .inr (.inr (.inr (.inl ⟨a, o, es, rfl, s1.bh _ _ hB, q1 _ B1 H1 (Go.refl s1) ⟨fun B H k u t1 t2 _ hk => ?_, fun B H t1 t2 _ => ⟨t2 _ _ (t1 _ _ hB), ?_⟩⟩ trivial⟩)))
        · have hk : (kvs.map (·.1))[k]? = some u := hk
          rw [List.getElem?_map] at hk
          cases z : kvs[k]? with
          | none => rw [z] at hk; cases hk
          | some p =>
            rw [z] at hk
            cases hk
            obtain ⟨l, v, e1, e2, _⟩ := repd_get rr z
            have hl : k < es.length := by
              rcases Nat.lt_or_ge k es.length with y | y
              · exact y
              · rw [List.getElem?_eq_none y] at e1; cases e1
            refine ⟨⟨t2 _ _ (t1 _ _ hB), hl⟩, fun x H' ⟨e, l', v', e3, e4⟩ => ⟨B, .inl ⟨rfl, e⟩, ?_⟩⟩
            rw [e1] at e3
            cases e3
            rw [e4]
            exact e2.mono t1
        · show es.length ≤ (kvs.map (·.1)).length
          rw [List.length_map, repd_len rr]
          exact Nat.le_refl _
      · obtain ⟨a1, _, _⟩ := rr.all
        cases kvs with
        | cons p kvs =>
          have h1 := a1 p List.mem_cons_self
          have h2 := List.all_eq_true.mp c p List.mem_cons_self
          cases z : p.1 <;> rw [z] at h1 h2 <;> simp [isKx, isK1] at h1 h2
        | nil =>
          simp only [repx] at rr
          subst rr
          exact .inr (.inr (.inr (.inr ⟨a, rfl, s1.bh _ _ hB⟩)))
    · rw [if_neg c] at q1
      exact q1.elim
  | _ => exact False.elim q1
end
/-! ### sources that protect nothing -/
def NoG (m : M Src) : Prop := ∀ e s e', m e = .ok s e' → s.g = none
theorem NoG.bd {m : M U} {k : U → M Src} (h : ∀ u, NoG (k u)) : NoG (m.bd k) := fun e s e' q => by
  unfold M.bd at q
  cases z : m e with
  | ok u e1 => rw [z] at q; exact h u _ _ _ q
  | exc c u e1 => rw [z] at q; cases q
  | bad => rw [z] at q; cases q
theorem NoG.ret {us src : List U} : NoG (M.ret ⟨us, src, none⟩) := fun e s e' q => by cases q; rfl
theorem NoG.bad : NoG (fun _ => .bad) := fun e s e' q => by cases q
theorem nog_any {m : M U} : NoG (mItA m) := NoG.bd fun u => by
  cases u <;> first | exact NoG.ret | exact NoG.bad | (dsimp only [srcA]; split <;> first | exact NoG.ret | exact NoG.bad)
theorem nog_enum {m : M U} : NoG (mItE m) := NoG.bd fun u => by cases u <;> first | exact NoG.ret | exact NoG.bad
theorem nog_rg1 {m : M U} : NoG (mRg1 m) := NoG.bd fun u => by
  cases u <;> first | exact NoG.bad | (dsimp only; split <;> first | exact NoG.ret | exact NoG.bad)
theorem nog_rg2 {m m2 : M U} : NoG (mRg2 m m2) := NoG.bd fun u => NoG.bd fun w => by
  cases u <;> cases w <;> first | exact NoG.bad | (dsimp only; split <;> first | exact NoG.ret | exact NoG.bad)
theorem NoG.src {m : M Src} (h : NoG m) {pr : Nat → Bool} : SrcIn pr m := fun e s e' q i hi => by rw [h e s e' q] at hi; cases hi
theorem src_n {i : Nat} {pr : Nat → Bool} (h : pr i = true) : SrcIn pr (mItN i) := fun e s e' q j hj => by
  unfold mItN at q
  split at q <;> cases q <;> cases hj
  exact h
def prL (l : List Nat) : Nat → Bool := fun i => l.contains i
theorem prL_sub {l l' : List Nat} (h : (l.all fun i => l'.contains i) = true) : ∀ i, prL l i = true → prL l' i = true := fun i hi => by
  unfold prL at *
  have : i ∈ l := by simpa using hi
  exact List.all_eq_true.mp h i this
/-! ### short forms -/
section
variable {X : Cx} {W : WXX} {pr pr' : Nat → Bool} {ex tg iter elt a b c : Expr} {es body : List Expr} {x : Str} {k n : Nat} {pos p : Pos}
theorem pr_n (i : Nat) (hN : X.N[i]? = some x := by rfl) (hv : Vis X.env.scope x := by first | exact Or.inl rfl | exact Or.inr (Or.inl rfl) | exact Or.inr (Or.inr rfl)) (hd : (x == ("__debug__" : Str)) = false := by decide) (hcd : (x == ("__classdict__" : Str)) = false := by decide) : PR X W (.Name x pos) (mSl i) := pr_name hN hv hd hcd
theorem pv_n (i : Nat) (hN : X.N[i]? = some x := by rfl) (hv : Vis X.env.scope x := by first | exact Or.inl rfl | exact Or.inr (Or.inl rfl) | exact Or.inr (Or.inr rfl)) (hd : (x == ("__debug__" : Str)) = false := by decide) (hcd : (x == ("__classdict__" : Str)) = false := by decide) : PV X W (.Name x pos) (mN i) := pv_name hN hv hd hcd
theorem gv_n (i : Nat) (ct : Ct X W k) (hN : X.N[i]? = some x := by rfl) (hx : Loc X.env.scope x := by first | exact Or.inl rfl | exact Or.inr rfl) (hp : pr i = false := by rfl) (hf : X.fn x = true ∨ X.env.scope.names.lookup x = some .local := by first | exact .inl rfl | exact .inr rfl) : PGV X pr (.Name x pos) (tgN i) := gv_name ct.hN hN hx hp hf
end
end VS
set_option Elab.async false
set_option linter.all false
set_option maxRecDepth 100000
/-! VS23: classes: fields, methods, making. -/
namespace VS
open PySem L2

def lkU (f : Str) : List (Str × U) → Option U
  | [] => none
  | (g, u) :: r => if g = f then some u else lkU f r
def putU (f : Str) (u : U) : List (Str × U) → List (Str × U)
  | [] => [(f, u)]
  | (g, x) :: r => if g = f then (g, u) :: r else (g, x) :: putU f u r
section
variable {Γ : Ga} {B : Hp}
theorem repf.lk {f : Str} {u : U} : ∀ {fs : List (Str × U)} {gs : List (Str × V)}, repf Γ B fs gs → lkU f fs = some u → ∃ v, gs.lookup f = some v ∧ rep Γ B u v
  | [], _, _, h => by cases h
  | (g, w) :: fs, _, r, h => by
    simp only [repf] at r
    obtain ⟨v, t, rfl, r1, r2⟩ := r
    unfold lkU at h
    rw [List.lookup_cons]
    by_cases e : g = f
    · rw [if_pos e] at h
      cases h
      subst e
      exact ⟨v, by simp, r1⟩
    · rw [if_neg e] at h
      obtain ⟨v', h1, h2⟩ := repf.lk r2 h
      have : (f == g) = false := by simpa [beq_eq_false_iff_ne] using fun z => e z.symm
      exact ⟨v', by rw [this]; exact h1, h2⟩
theorem repf.none {f : Str} : ∀ {fs : List (Str × U)} {gs : List (Str × V)}, repf Γ B fs gs → lkU f fs = none → gs.lookup f = none
  | [], _, r, _ => by simp only [repf] at r; subst r; rfl
  | (g, w) :: fs, _, r, h => by
    simp only [repf] at r
    obtain ⟨v, t, rfl, r1, r2⟩ := r
    unfold lkU at h
    rw [List.lookup_cons]
    by_cases e : g = f
    · rw [if_pos e] at h; cases h
    · rw [if_neg e] at h
      have : (f == g) = false := by simpa [beq_eq_false_iff_ne] using fun z => e z.symm
      rw [this]
      exact repf.none r2 h
theorem repf.len : ∀ {fs : List (Str × U)} {gs : List (Str × V)}, repf Γ B fs gs → fs.length = gs.length
  | [], _, r => by simp only [repf] at r; subst r; rfl
  | (g, w) :: fs, _, r => by
    simp only [repf] at r
    obtain ⟨v, t, rfl, r1, r2⟩ := r
    simp [repf.len r2]
theorem repf.put {f : Str} {u : U} {v : V} (ru : rep Γ B u v) : ∀ {fs : List (Str × U)} {gs : List (Str × V)}, repf Γ B fs gs → repf Γ B (putU f u fs) (putF f v gs)
  | [], _, r => by simp only [repf] at r; subst r; simp only [putU, putF, repf]; exact ⟨v, [], rfl, ru, rfl⟩
  | (g, w) :: fs, _, r => by
    simp only [repf] at r
    obtain ⟨v', t, rfl, r1, r2⟩ := r
    unfold putU putF
    by_cases e : g = f
    · rw [if_pos e, if_pos e]
      simp only [repf]
      exact ⟨v, t, rfl, ru, r2⟩
    · rw [if_neg e, if_neg e]
      simp only [repf]
      exact ⟨v', _, rfl, r1, repf.put ru r2⟩
end
/-- a class of the text: its name, its fields have no namesake in it -/
structure ClsV (K : PySem.W.Frag) (mg : Str → Option Value) (c : Str) (C : Addr) : Prop where
  at_ : mg c = some (.ref C)
  cl : Cls K C
section
variable {X : Cx} {W : WXX} {pr : Nat → Bool} {ex vx : Expr} {f c : Str} {pos apos spos npos : Pos} {k : Nat} {C : Addr}
/-- e.f -/
def mFld (c f : Str) (m : M Od) : M U := m.bd fun od e => match rdO e od with
  | some (.ins c' fs) => if c' = c then match lkU f fs with
    | some u => .ok u e
    | none => .bad
    else .bad
  | _ => .bad
theorem pv_fld {m : M Od} (cv : ClsV X.K X.mg c C) (na : NoAttr X.K C f) (h : PR X W ex m) (hb : attributeBase ex f X.env (eval ex X.env) = eval ex X.env := by rfl) : PV X W (.Attribute ex f pos) (mFld c f m) := by
  refine PEimp (pe_fld h hb) fun σ H Q ⟨B, e, sr, q⟩ => ⟨B, e, sr, (tAt.bd q).mono fun x H1 ⟨B1, e1, od, g1, r1, q1⟩ => ?_⟩
  unfold tAt at q1
  dsimp only at q1
  cases z1 : rdO e1 od with
  | none => rw [z1] at q1; exact q1.elim
  | some u =>
    rw [z1] at q1
    cases u with
    | ins c' fs =>
      dsimp only at q1
      by_cases ec : c' = c
      · rw [if_pos ec] at q1
        subst ec
        cases z2 : lkU f fs with
        | none => rw [z2] at q1; exact q1.elim
        | some w =>
          rw [z2] at q1
          obtain ⟨a, C', dx, gs, rfl, hm, hH, rf⟩ := (rlR.vw g1.sr r1 z1).ins g1.sr.bh
          have e2 : C' = C := by
            have := hm.symm.trans cv.at_
            simpa using this
          subst e2
          obtain ⟨v, l, rv⟩ := repf.lk rf z2
          exact ⟨a, C', dx, gs, v, rfl, hH, cv.cl, na, l, q1 v B1 H1 (Go.refl g1.sr) rv⟩
      · rw [if_neg ec] at q1
        exact q1.elim
    | _ => exact False.elim q1
/-- name.f = value, the name's own instance -/
def mFst (c f : Str) (i : Nat) (mv : M U) : MS := mv.bs fun w e => match e[i]? with
  | some (some (true, .ins c' fs)) => if c' = c ∧ fs.length < 1000 then .nx (e.set i (some (true, .ins c' (putU f w fs)))) else .bad
  | _ => .bad
theorem sv_fst {i : Nat} {x : Str} {mv : M U} (cv : ClsV X.K X.mg c C) (na : NoAttr X.K C f) (hN : X.N[i]? = some x) (hvs : Vis X.env.scope x) (h : PV X W vx mv) (hd : (x == ("__debug__" : Str)) = false := by decide) (hcd : (x == ("__classdict__" : Str)) = false := by decide)
    (hs : swapsWith vx (some (.Attribute (.Name x npos) f apos)) pos.line X.env = pure false := by rfl) : PSV X W pr (.Assign [.Attribute (.Name x npos) f apos] vx pos) (mFst c f i mv) := by
  refine PSimp (ps_fld (pe_var hN hvs hd hcd) h hs) fun D σ H ⟨B, e, sr, q⟩ => ⟨B, e, sr, (sAt.bs q).mono fun y H1 ⟨B1, e1, w, g1, r1, q1⟩ => ?_⟩
  unfold sAt at q1
  dsimp only at q1
  cases z : e1[i]? with
  | none => rw [z] at q1; exact q1.elim
  | some s1 =>
    rw [z] at q1
    cases s1 with
    | none => exact q1.elim
    | some s1 =>
      obtain ⟨o, u⟩ := s1
      cases o with
      | false => exact q1.elim
      | true =>
        cases u with
        | ins c' fs =>
          dsimp only at q1
          by_cases ec : c' = c ∧ fs.length < 1000
          · rw [if_pos ec] at q1
            obtain ⟨ec, hl⟩ := ec
            subst ec
            obtain ⟨a, ho, h1, h2, ⟨C', dx, gs, rfl, hm, rf⟩, h4⟩ := g1.sr.ow i _ z
            have e2 : C' = C := by
              have := hm.symm.trans cv.at_
              simpa using this
            subst e2
            refine ⟨_, h1, a, C', dx, gs, rfl, h2, cv.cl, na, by rw [← rf.len]; exact hl, ?_⟩
            exact q1 B1 _ σ (Go.write (u' := .ins c' (putU f w fs)) g1.sr z h1 ⟨C', dx, _, rfl, hm, rf.put r1⟩) Kp.refl
          · rw [if_neg ec] at q1
            exact q1.elim
        | _ => exact False.elim q1
end

/-! ### methods -/
/-- what a method promises -/
structure MtV (P : Program) (w : World) (K : PySem.W.Frag) (mg : Str → Option Value) (base : Heap) (k : Nat) (C : Addr) (x : Str) (n : Nat) (φ : Fs) : Prop where
  ex : ∃ f fd ps, Meth K C x f ∧ FnOk P w K mg base (L2.CX P w) k f fd ps (spV ⟨P, w, K, mg⟩ n φ) ∧ Binds K fd ps []
def argsM (m : M Od) (ms : M (List Od)) : M (List Od) := m.bd fun x => ms.bd fun xs => .ret (x :: xs)
/-- o.m(..): the receiver is an instance that has no field of the name -/
def mMth (c x : Str) (n : Nat) (φ : Fs) (mo : M Od) (ms : M (List Od)) : M (Bool × U) := mo.bd fun od e => match rdO e od with
  | some (.ins c' fs) => if c' = c ∧ lkU x fs = none then (ms.bd fun ods => callO n φ (od :: ods)) e else .bad
  | _ => .bad
section
variable {X : Cx} {W : WXX} {o ex : Expr} {es : List Expr} {c x : Str} {n k j : Nat} {φ : Fs} {C : Addr} {apos pos : Pos}
theorem po_mth {mo : M Od} {ms : M (List Od)} {pl : Sem Bool} (ct : Ct X W k) (cv : ClsV X.K X.mg c C) (F : MtV X.prog X.w X.K X.mg X.base j C x n φ) (hj : j ≤ k) (ho : PR X W o mo) (ha : PRs X W (ex :: es) ms)
    (hst : starEach (ex :: es) X.env = (false, eval ex X.env) :: starEach es X.env := by rfl) (hpl : (backTo pos (starEach es X.env)).any (·.1) = false := by rfl)
    (ht : eval (.Call (.Attribute o x apos) (ex :: es) [] pos) X.env = (do
      let ov ← eval o X.env
      standAt apos.atName
      let (f, first) ← holding [ov] (getMethod ov x pl)
      callWith pos f first (backTo pos (starEach (ex :: es) X.env)) (backToKw pos (keywordEach [] X.env))) := by rfl) :
    PO X W (.Call (.Attribute o x apos) (ex :: es) [] pos) (mMth c x n φ mo ms) := by
  obtain ⟨f, fd, ps, hm, ok, hb⟩ := F.ex
  refine ⟨fun pins s σ H Q I ⟨B, e, sr, q⟩ => ?_⟩
  refine PySem.W.methodCall_KW (pl := pl) (thn (ho.run pins s σ H _ I ⟨B, e, sr, tAt.bd (rl := rlR (ga X)) q⟩) fun u s1 ⟨v, H1, I1, rx, B1, e1, od, g1, r1, q1⟩ => ?_) ht
  unfold tAt at q1
  dsimp only at q1
  cases z1 : rdO e1 od with
  | none => rw [z1] at q1; exact q1.elim
  | some w =>
    rw [z1] at q1
    cases w with
    | ins c' fs =>
      dsimp only at q1
      by_cases ec : c' = c ∧ lkU x fs = none
      · rw [if_pos ec] at q1
        obtain ⟨ec, hl⟩ := ec
        subst ec
        obtain ⟨a, C', dx, gs, rfl, hmg, hH, rf⟩ := (rlR.vw g1.sr r1 z1).ins g1.sr.bh
        have e2 : C' = C := by
          have := hmg.symm.trans cv.at_
          simpa using this
        subst e2
        obtain rfl : u = Value.ref a := rx
        refine getmeth_ok I1 hH cv.cl hm (rf.none hl) ?_
        refine PySem.W.callWith_K (first := [.ref a]) (h₀ := X.base) I1.ok.mod.kin hm.kp (thn (ha.run pos pins s1 σ H1 _ I1 ⟨B1, e1, g1.sr, tAt.bd (rl := rlRs (ga X)) (show tAt (ga X) W (rlO (ga X)) (ms.bd _) B1 H1 e1 σ Q from q1)⟩) fun us s2 ⟨vs, H2, I2, r, B2, e2, ods, g2, r2, q2⟩ => ⟨I2.kIn, ?_⟩) hst hpl
        refine run_fnS (us := .ref a :: us) (vs := .ref a :: vs) (ok.mono hj) ct.hr hb (ct.px σ) I2 (.cons rfl r) ?_
        exact call_core g2.sr (.cons (rlR.keep r1 g2) r2) q2
      · rw [if_neg ec] at q1
        exact q1.elim
    | _ => exact False.elim q1
theorem po_mth0 {mo : M Od} {pl : Sem Bool} (ct : Ct X W k) (cv : ClsV X.K X.mg c C) (F : MtV X.prog X.w X.K X.mg X.base j C x n φ) (hj : j ≤ k) (ho : PR X W o mo)
    (ht : eval (.Call (.Attribute o x apos) [] [] pos) X.env = (do
      let ov ← eval o X.env
      standAt apos.atName
      let (f, first) ← holding [ov] (getMethod ov x pl)
      callWith pos f first (backTo pos (starEach [] X.env)) (backToKw pos (keywordEach [] X.env))) := by rfl) :
    PO X W (.Call (.Attribute o x apos) [] [] pos) (mMth c x n φ mo (M.ret [])) := by
  obtain ⟨f, fd, ps, hm, ok, hb⟩ := F.ex
  refine ⟨fun pins s σ H Q I ⟨B, e, sr, q⟩ => ?_⟩
  refine PySem.W.methodCall_KW (pl := pl) (thn (ho.run pins s σ H _ I ⟨B, e, sr, tAt.bd (rl := rlR (ga X)) q⟩) fun u s1 ⟨v, H1, I1, rx, B1, e1, od, g1, r1, q1⟩ => ?_) ht
  unfold tAt at q1
  dsimp only at q1
  cases z1 : rdO e1 od with
  | none => rw [z1] at q1; exact q1.elim
  | some w =>
    rw [z1] at q1
    cases w with
    | ins c' fs =>
      dsimp only at q1
      by_cases ec : c' = c ∧ lkU x fs = none
      · rw [if_pos ec] at q1
        obtain ⟨ec, hl⟩ := ec
        subst ec
        obtain ⟨a, C', dx, gs, rfl, hmg, hH, rf⟩ := (rlR.vw g1.sr r1 z1).ins g1.sr.bh
        have e2 : C' = C := by
          have := hmg.symm.trans cv.at_
          simpa using this
        subst e2
        obtain rfl : u = Value.ref a := rx
        refine getmeth_ok I1 hH cv.cl hm (rf.none hl) ?_
        refine PySem.W.callWith_K0 (first := [.ref a]) I1.kIn hm.kp (run_fnS (us := [.ref a]) (vs := [.ref a]) (ok.mono hj) ct.hr hb (ct.px σ) I1 (.cons rfl .nil) ?_)
        have q2 : tAt (ga X) W (rlO (ga X)) (callO n φ [od]) B1 H1 e1 σ Q := q1
        exact call_core (S := may H e σ) g1.sr (.cons r1 .nil) q2
      · rw [if_neg ec] at q1
        exact q1.elim
    | _ => exact False.elim q1
end

/-! ### making -/
/-- what a class's making promises -/
structure MkV (P : Program) (w : World) (K : PySem.W.Frag) (mg : Str → Option Value) (base : Heap) (k : Nat) (c : Str) (n : Nat) (φ : Fs) : Prop where
  ex : ∃ C f fd ps, mg c = some (.ref C) ∧ Mk K C f ∧ FnOk P w K mg base (L2.CX P w) k f fd ps (spV ⟨P, w, K, mg⟩ n φ) ∧ Binds K fd ps []
theorem run_makeS {X : Cx} {CX : CXT} {k : Nat} {f C : Addr} {fd : FuncData} {ps : List Str} {sp : Sp} {E : XK} {pins : List (Addr × Obj)} {σ : St} {H : Hp} {s : Shared} {Q : VK} {us : List Value} {vs : List V} (M : Mk X.K C f) (F : FnOk X.prog X.w X.K X.mg X.base CX k f fd ps sp) (hr : Room (k + 1) X.A) (hb : Binds X.K fd ps [])
    (hx : PassesAt CX X σ E) (I : Inv X pins σ H s) (r : Vals vs us)
    (h : ∀ x dx, H x = none → H dx = none → dx ≠ x → sp (.ref x :: vs) (upd (upd H dx (.own x)) x (.ins C dx [])) (fun v H2 => v = .non ∧ Q (.ref x) H2) E) :
    wpAny (model X.prog X.w) X.A (call (.ref C) us) (EP X pins σ Q) X.xe s := by
  have hq := h (s.heap.objs.size + 1) s.heap.objs.size (I.hok.fresh (Nat.le_succ _)) (I.hok.fresh (Nat.le_refl _)) (Nat.ne_of_lt (Nat.lt_succ_self _))
  have J := Inv.made (C := C) I
  have rr : Vals (V.ref (s.heap.objs.size + 1) :: vs) (Value.ref (s.heap.objs.size + 1) :: us) := .cons rfl r
  have hl : (Value.ref (s.heap.objs.size + 1) :: us).length = ps.length := by
    rw [← rr.length]
    exact F.len _ _ _ _ hq
  have bt := hb _ (Value.ref (s.heap.objs.size + 1) :: us) J.kIn (by rw [List.append_nil]; exact hl)
  rw [List.append_nil] at bt
  refine wpAny_call (make_map (f := f) I.kIn M.makes M.init (beq_iff_eq.mp M.fn) (codeAny_mono (F.run _ X.stack _ _ ⟨Value.ref (s.heap.objs.size + 1) :: us, []⟩ _ _ _ E (hr.make C us []) (J.env0.make C us []) bt rr hq) fun res s' hs => ?_))
  match res, hs with
  | .error e, hs => exact hx pins _ _ e s' J hs
  | .ok (.ret u), hs =>
    obtain ⟨v, H', I3, rv, ev, q3⟩ := J.after hs
    subst ev
    exact ⟨rv, ⟨V.ref (s.heap.objs.size + 1), H', I3, rfl, q3⟩⟩
end VS
set_option Elab.async false
set_option linter.all false
set_option maxRecDepth 100000
/-! VS24: making an instance. -/
namespace VS
open PySem L2

section
variable {Γ : Ga} {B H : Hp} {e : En} {σ : St} {S : Addr → Prop}
theorem snoc_get {α : Type} {l : List (Option α)} {s : Option α} {i : Nat} {x : α} (h : (l ++ [s])[i]? = some (some x)) : l[i]? = some (some x) ∨ (i = l.length ∧ s = some x) := by
  by_cases hi : i < l.length
  · rw [List.getElem?_append_left hi] at h
    exact .inl h
  · rw [List.getElem?_append_right (by omega)] at h
    have : i - l.length = 0 := by
      rcases Nat.eq_zero_or_pos (i - l.length) with z | z
      · exact z
      · rw [List.getElem?_eq_none (by simp; omega)] at h; cases h
    rw [this] at h
    simp only [List.getElem?_cons_zero, Option.some.injEq] at h
    exact .inr ⟨by omega, h⟩
theorem snoc_old {α : Type} {l : List (Option α)} {s : Option α} {i : Nat} {x : Option α} (h : l[i]? = some x) : (l ++ [s])[i]? = some x := by
  have : i < l.length := by
    rcases Nat.lt_or_ge i l.length with z | z
    · exact z
    · rw [List.getElem?_eq_none z] at h; cases h
  rw [List.getElem?_append_left this]
  exact h
theorem snoc_last {α : Type} {l : List (Option α)} {s : Option α} : (l ++ [s])[l.length]? = some s := by
  rw [List.getElem?_append_right (Nat.le_refl _)]; simp
theorem SR.snoc {H' : Hp} {x : Addr} {u : U} {ho : HO} (s : SR Γ B H e σ) (hk : ∀ a o, H a = some o → H' a = some o) (hx : H x = none) (h' : H' x = some ho) (n : nod Γ B x u ho) : SR Γ B H' (e ++ [some (true, u)]) (σ ++ [some (.ref x)]) := by
  have ln := s.ln
  refine ⟨s.bh.trans fun a o h => hk a o h, by simp [ln], fun i w q => ?_, fun i w q => ?_, fun i j w z a q1 q2 s1 s2 => ?_⟩
  · rcases snoc_get q with q | ⟨_, q⟩
    · obtain ⟨v, h1, h2⟩ := s.vl i w q
      exact ⟨v, snoc_old h1, h2⟩
    · cases q
  · rcases snoc_get q with q' | ⟨ei, q'⟩
    · obtain ⟨a, o, h1, h2, h3, h4⟩ := s.ow i w q'
      exact ⟨a, o, snoc_old h1, hk a o h2, h3, h4⟩
    · cases q'
      exact ⟨x, ho, by rw [ei, ln]; exact snoc_last, h', n, s.none_of hx⟩
  · have at_ : ∀ {i : Nat} {w : U}, (e ++ [some (true, u)])[i]? = some (some (true, w)) → (σ ++ [some (.ref x)])[i]? = some (some (.ref a)) → (e[i]? = some (some (true, w)) ∧ σ[i]? = some (some (.ref a)) ∧ a ≠ x) ∨ (i = e.length ∧ a = x) := fun {i w} q t => by
      rcases snoc_get q with q | ⟨ei, q'⟩
      · rcases snoc_get t with t | ⟨e1, t⟩
        · obtain ⟨a', o, h1, h2, _⟩ := s.ow i w q
          rw [t] at h1
          cases h1
          exact .inl ⟨q, t, fun z => by rw [z, hx] at h2; cases h2⟩
        · have : i < e.length := by
            rcases Nat.lt_or_ge i e.length with z | z
            · exact z
            · rw [List.getElem?_eq_none z] at q; cases q
          omega
      · rcases snoc_get t with t | ⟨_, t⟩
        · have : i < σ.length := by
            rcases Nat.lt_or_ge i σ.length with z | z
            · exact z
            · rw [List.getElem?_eq_none z] at t; cases t
          omega
        · cases t
          exact .inr ⟨ei, rfl⟩
    rcases at_ q1 s1 with ⟨a1, a2, a3⟩ | ⟨a1, a3⟩
    · rcases at_ q2 s2 with ⟨b1, b2, b3⟩ | ⟨b1, b3⟩
      · exact s.ds i j w z a a1 b1 a2 b2
      · exact absurd b3 a3
    · rcases at_ q2 s2 with ⟨b1, b2, b3⟩ | ⟨b1, b3⟩
      · exact absurd a3 b3
      · rw [a1, b1]
theorem findOut_ne {i m : Nat} (h : m ≠ i) {ods : List Od} {o : Sl} {outs : En} : findOut i (.sl m :: ods) (o :: outs) = findOut i ods outs := by
  rw [findOut, if_neg h]
def updS (ods : List Od) (outs : En) (k : Nat) (s : Sl) : Sl := match s with
  | some (true, u) => match findOut k ods outs with
    | some o => o
    | none => some (true, u)
  | s => s
theorem updE_cons {ods : List Od} {outs : En} {k : Nat} {s : Sl} {r : En} : updE ods outs k (s :: r) = updS ods outs k s :: updE ods outs (k + 1) r := rfl
theorem updS_ne {i m : Nat} (h : m ≠ i) {ods : List Od} {o : Sl} {outs : En} (s : Sl) : updS (.sl m :: ods) (o :: outs) i s = updS ods outs i s := by
  unfold updS
  rw [findOut_ne h]
theorem updE_snoc {ods : List Od} {o : Sl} {outs : En} {s : U} : ∀ (e : En) (k : Nat), updE (.sl (k + e.length) :: ods) (o :: outs) k (e ++ [some (true, s)]) = updE ods outs k e ++ [o]
  | [], k => by
    rw [List.nil_append, updE_cons]
    unfold updS findOut
    simp [updE]
  | x :: e, k => by
    have ih := updE_snoc (ods := ods) (o := o) (outs := outs) (s := s) e (k + 1)
    have h : k + (x :: e).length = k + 1 + e.length := by simp; omega
    rw [h, List.cons_append, updE_cons, ih, updE_cons, List.cons_append, updS_ne (by omega)]
/-- what a call at a state with one more value of ours of the end leaves -/
theorem unsnoc_go {H' B2 H2 : Hp} {x : Addr} {u : U} {e2 : En} {o : Sl} (s : SR Γ B H e σ) (hx : H x = none) (hk : ∀ a o, H a = some o → H' a = some o) (g : Go Γ B H' (e ++ [some (true, u)]) (σ ++ [some (.ref x)]) B2 H2 (e2 ++ [o]) (σ ++ [some (.ref x)])) (l2 : e2.length = e.length) :
    Go Γ B H e σ B2 H2 e2 σ ∧ ∀ r, o = some r → (rlO Γ).r r (.ref x) (may H e σ) B2 H2 e2 σ := by
  have ln := s.ln
  have ow0 : ∀ a, own (e ++ [some (true, u)]) (σ ++ [some (.ref x)]) a → own e σ a ∨ a = x := fun a ⟨i, w, q, t⟩ => by
    rcases snoc_get q with q | ⟨e1, q⟩
    · rcases snoc_get t with t | ⟨_, t⟩
      · exact .inl ⟨i, w, q, t⟩
      · cases t; exact .inr rfl
    · subst e1
      rw [ln, snoc_last] at t
      cases t
      exact .inr rfl
  have no : ∀ a o, H a = some o → ¬ own e σ a → ¬ own (e ++ [some (true, u)]) (σ ++ [some (.ref x)]) a := fun a o h n z => by
    rcases ow0 a z with z | z
    · exact n z
    · rw [z, hx] at h; cases h
  have back : ∀ a, own e2 σ a → own (e2 ++ [o]) (σ ++ [some (.ref x)]) a := fun a ⟨i, w, q, t⟩ => ⟨i, w, snoc_old q, snoc_old t⟩
  have lst : (σ ++ [some (V.ref x)])[e2.length]? = some (some (.ref x)) := by rw [l2, ln]; exact snoc_last
  have fresh2 : ∀ w, o = some (true, w) → ¬ own e2 σ x := fun w ho ⟨i, z, q, t⟩ => by
    have := g.sr.ds i e2.length z w x (snoc_old q) (by rw [ho]; exact snoc_last) (snoc_old t) lst
    subst this
    rw [List.getElem?_eq_none (Nat.le_refl _)] at q
    cases q
  refine ⟨⟨⟨g.st.bb, fun a o h n => g.st.fr a o (hk a o h) (no a o h n), fun a o h n b => g.st.nb a o (hk a o h) (no a o h n) b⟩, ⟨g.sr.bh, l2.trans ln, fun i w q => ?_, fun i w q => ?_, fun i j w z a q1 q2 s1 s2 => g.sr.ds i j w z a (snoc_old q1) (snoc_old q2) (snoc_old s1) (snoc_old s2)⟩, fun a z => ?_⟩, fun r hr => ?_⟩
  · obtain ⟨v, h1, h2⟩ := g.sr.vl i w (snoc_old q)
    rcases snoc_get h1 with h1 | ⟨e1, _⟩
    · exact ⟨v, h1, h2⟩
    · have : i < e2.length := by
        rcases Nat.lt_or_ge i e2.length with z | z
        · exact z
        · rw [List.getElem?_eq_none z] at q; cases q
      omega
  · obtain ⟨a, ho, h1, h2, h3, h4⟩ := g.sr.ow i w (snoc_old q)
    rcases snoc_get h1 with h1 | ⟨e1, _⟩
    · exact ⟨a, ho, h1, h2, h3, h4⟩
    · have : i < e2.length := by
        rcases Nat.lt_or_ge i e2.length with z | z
        · exact z
        · rw [List.getElem?_eq_none z] at q; cases q
      omega
  · rcases g.sub a (back a z) with q | q
    · rcases ow0 a q with q | q
      · exact .inl q
      · exact .inr (by rw [q]; exact hx)
    · right
      cases h : H a with
      | none => rfl
      | some y => rw [hk a y h] at q; cases q
  · subst hr
    obtain ⟨b, w⟩ := r
    cases b with
    | false =>
      obtain ⟨v, h1, h2⟩ := g.sr.vl e2.length w snoc_last
      rw [lst] at h1
      cases h1
      exact h2
    | true =>
      obtain ⟨a, ho, h1, h2, h3, h4⟩ := g.sr.ow e2.length w snoc_last
      rw [lst] at h1
      cases h1
      exact ⟨x, ho, rfl, h2, h3, h4, fresh2 w rfl, .inr hx⟩
theorem argOf_snoc {s : Sl} {od : Od} {a : Ar} (h : argOf e od = some a) : argOf (e ++ [s]) od = some a := by
  cases od with
  | vl u => exact h
  | sl i =>
    unfold argOf at *
    dsimp only at *
    split at h
    · rename_i b q
      rw [snoc_old q]
      exact h
    · cases h
theorem argsOf_snoc {s : Sl} : ∀ {ods : List Od} {as : List Ar}, argsOf e ods = some as → argsOf (e ++ [s]) ods = some as
  | [], _, h => h
  | x :: r, as, h => by
    unfold argsOf at *
    cases h1 : argOf e x with
    | none => rw [h1] at h; cases h
    | some a =>
      cases h2 : argsOf e r with
      | none => rw [h1, h2] at h; cases h
      | some bs =>
        rw [h1, h2] at h
        rw [argOf_snoc h1, argsOf_snoc h2]
        exact h
theorem ownIx_lt : ∀ {ods : List Od} {i : Nat}, i ∈ ownIx e ods → i < e.length
  | .vl _ :: r, i, h => ownIx_lt (ods := r) h
  | .sl k :: r, i, h => by
    unfold ownIx at h
    split at h
    · rename_i u q
      rcases List.mem_cons.mp h with z | z
      · subst z
        rcases Nat.lt_or_ge i e.length with z | z
        · exact z
        · rw [List.getElem?_eq_none z] at q; cases q
      · exact ownIx_lt z
    · exact ownIx_lt h
theorem ownIx_snoc {s : Sl} : ∀ {ods : List Od} {as : List Ar}, argsOf e ods = some as → ownIx (e ++ [s]) ods = ownIx e ods
  | [], _, _ => rfl
  | x :: r, as, h => by
    unfold argsOf at h
    cases h1 : argOf e x with
    | none => rw [h1] at h; cases h
    | some a =>
      cases h2 : argsOf e r with
      | none => rw [h1, h2] at h; cases h
      | some bs =>
        have ih := ownIx_snoc (s := s) h2
        cases x with
        | vl w => unfold ownIx; exact ih
        | sl i =>
          unfold argOf at h1
          dsimp only at h1
          split at h1
          · rename_i b q
            unfold ownIx
            rw [snoc_old q, q, ih]
          · cases h1
end
def callMk (c : Str) (n : Nat) (φ : Fs) (ods : List Od) : M (Bool × U) := fun e => match argsOf e ods with
  | some as => if ods.length + 1 = n ∧ (ownIx e ods).Nodup then match φ ((true, .ins c []) :: as) with
      | .ok (false, .non) (some r :: outs) => .ok r (updE ods outs 0 e)
      | .exc c u (_ :: outs) => .exc c u (updE ods outs 0 e)
      | _ => .bad
    else .bad
  | none => .bad
def mMk (c : Str) (n : Nat) (φ : Fs) (m : M (List Od)) : M (Bool × U) := m.bd (callMk c n φ)
section
variable {X : Cx} {W : WXX} {k n j : Nat} {c : Str} {φ : Fs} {ex : Expr} {es : List Expr} {p pos : Pos} {m : M (List Od)} {C : Addr}
theorem mk_core (hm : X.mg c = some (.ref C)) {B H : Hp} {e : En} {σ : St} {S : Addr → Prop} {ods : List Od} {vs : List V} {Q : VK} (s : SR (ga X) B H e σ) (p : Paired (fun od v => (rlR (ga X)).r od v S B H e σ) ods vs) (q : tAt (ga X) W (rlO (ga X)) (callMk c n φ ods) B H e σ Q)
    (x dx : Addr) (hx : H x = none) (hdx : H dx = none) (ne : dx ≠ x) : spV (ga X) n φ (.ref x :: vs) (upd (upd H dx (.own x)) x (.ins C dx [])) (fun v H2 => v = .non ∧ Q (.ref x) H2) (WE W σ) := by
  have hk : ∀ a o, H a = some o → (upd (upd H dx (.own x)) x (.ins C dx [])) a = some o := fun a o h => by
    rw [upd_ne (ne_of_none h hx), upd_ne (ne_of_none h hdx)]
    exact h
  have s1 : SR (ga X) B (upd (upd H dx (.own x)) x (.ins C dx [])) (e ++ [some (true, .ins c [])]) (σ ++ [some (.ref x)]) := s.snoc hk hx upd_same ⟨C, dx, [], rfl, hm, by simp only [repf]⟩
  unfold tAt callMk at q
  cases h : argsOf e ods with
  | none => rw [h] at q; exact q.elim
  | some as =>
    rw [h] at q
    dsimp only at q
    by_cases nd : ods.length + 1 = n ∧ (ownIx e ods).Nodup
    · rw [if_pos nd] at q
      obtain ⟨hn, nd⟩ := nd
      have p1 : Paired (fun od v => (rlR (ga X)).r od v S B (upd (upd H dx (.own x)) x (.ins C dx [])) (e ++ [some (true, .ins c [])]) (σ ++ [some (.ref x)])) (.sl e.length :: ods) (.ref x :: vs) := by
        refine .cons ?_ (Paired.mapP p fun od v r => ?_)
        · show (σ ++ [some (V.ref x)])[e.length]? = some (some (.ref x))
          rw [s.ln]; exact snoc_last
        · cases od with
          | vl u => exact r
          | sl i => exact snoc_old r
      have h1 : argsOf (e ++ [some (true, .ins c [])]) (.sl e.length :: ods) = some ((true, .ins c []) :: as) := by
        have a1 : argOf (e ++ [some (true, .ins c [])]) (.sl e.length) = some (true, .ins c []) := by
          unfold argOf
          dsimp only
          rw [snoc_last]
        unfold argsOf
        rw [a1, argsOf_snoc h]
      have n1 : (ownIx (e ++ [some (true, .ins c [])]) (.sl e.length :: ods)).Nodup := by
        unfold ownIx
        rw [snoc_last, ownIx_snoc h]
        exact List.nodup_cons.mpr ⟨fun z => Nat.lt_irrefl _ (ownIx_lt z), nd⟩
      refine ⟨by rw [List.length_cons, ← paired_len p]; exact hn, B, _, args_sr s1 p1 h1 n1, ?_⟩
      have GO : ∀ {B2 H2 : Hp} {o : Sl} {outs : En}, Go (ga X) B (upd (upd H dx (.own x)) x (.ins C dx [])) (enA ((true, .ins c []) :: as)) (stA (.ref x :: vs)) B2 H2 (o :: outs) (stA (.ref x :: vs)) → Go (ga X) B H e σ B2 H2 (updE ods outs 0 e) σ ∧ ∀ r, o = some r → (rlO (ga X)).r r (.ref x) (may H e σ) B2 H2 (updE ods outs 0 e) σ := fun {B2 H2 o outs} g => by
        have g1 := call_go s1 p1 h1 n1 g
        have e1 := updE_snoc (ods := ods) (o := o) (outs := outs) (s := .ins c []) e 0
        rw [Nat.zero_add] at e1
        rw [e1] at g1
        exact unsnoc_go s hx hk g1 (updE_len ods outs e 0)
      cases z : φ ((true, .ins c []) :: as) with
      | bad => rw [z] at q; exact q
      | exc c' u outs =>
        rw [z] at q
        cases outs with
        | nil => exact q.elim
        | cons o outs =>
          intro cls d B' H' g y
          exact q cls d B' H' (GO g).1 y
      | ok r outs =>
        rw [z] at q
        obtain ⟨b, u⟩ := r
        cases b with
        | true => exact q.elim
        | false =>
          cases u with
          | non =>
            cases outs with
            | nil => exact q.elim
            | cons o outs =>
              cases o with
              | none => exact q.elim
              | some r =>
                intro v B' H' g rr
                have rr' : rep (ga X) B' .non v := rr
                simp only [rep] at rr'
                obtain ⟨G1, G2⟩ := GO g
                exact ⟨rr', q (.ref x) B' H' G1 (G2 r rfl)⟩
          | _ => exact False.elim q
    · rw [if_neg nd] at q
      exact q.elim
theorem po_mk (ct : Ct X W k) (F : MkV X.prog X.w X.K X.mg X.base j c n φ) (hj : j + 1 ≤ k) (hg : Gl X c) (ha : PRs X W (ex :: es) m) (hdb : (c == ("__debug__" : Str)) = false := by decide)
    (he : starEach (ex :: es) X.env = (false, eval ex X.env) :: starEach es X.env := by rfl) (hpl : (backTo pos (starEach es X.env)).any (·.1) = false := by rfl) :
    PO X W (.Call (.Name c p) (ex :: es) [] pos) (mMk c n φ m) := by
  obtain ⟨C, f, fd, ps, hm, M, ok, hb⟩ := F.ex
  refine ⟨fun pins s σ H Q I ⟨B, e, sr, q⟩ => ?_⟩
  refine wpAny_Call_Name_kw (ld_glob I hg hm ?_ hdb)
  refine PySem.W.callWith_K (h₀ := X.base) I.ok.mod.kin M.kp (thn (ha.run pos pins s σ H _ I ⟨B, e, sr, tAt.bd (rl := rlRs (ga X)) q⟩) fun us s1 ⟨vs, H1, I1, r, B1, e1, ods, g1, r1, q1⟩ => ⟨I1.kIn, ?_⟩) he hpl
  exact run_makeS M ok (ct.hr.mono hj) hb (ct.px σ) I1 r fun x dx hx hdx ne => mk_core hm g1.sr r1 q1 x dx hx hdx ne
end
end VS
set_option Elab.async false
set_option linter.all false
set_option maxRecDepth 100000
/-! VS25: methods and makers by their bodies. -/
namespace VS
open PySem L2
section
variable {P : Program} {w : World} {K : PySem.W.Frag} {mg : Str → Option Value} {base : Heap} {x qual : Str} {params : Arguments} {body : List Stmt} {scope : Scope} {f : Addr} {fd : FuncData} {N ps : List Str} {k : Nat} {pr : Nat → Bool} {b : MS}
theorem fnok_rule (F : FunD K x qual params body scope [] [] f fd) (S : FnScope N ps scope)
    (hbody : ∀ (cdv : Value) (A : Around) (outer : List Env) (s : Shared) (H : Hp) (E : XK), Ct (cxOf (L2.CX P w) P w K mg base N qual scope f cdv A outer s H E) (WEx E) k → PSsV (cxOf (L2.CX P w) P w K mg base N qual scope f cdv A outer s H E) (WEx E) pr body b) :
    FnOk P w K mg base (L2.CX P w) (k + 1) f fd ps (spV ⟨P, w, K, mg⟩ ps.length (fnS N.length ps.length pr b)) := by
  refine F.ok S (fun vs H Q E h => h.1) fun cdv A outer s H vs Q E hr hp => ?_
  exact ⟨_, hbody cdv A outer s H E ⟨fun σ => passAt (takes_of rfl rfl rfl rfl) σ, rfl, S.nd, hr, passes_of rfl⟩, body_q hp⟩
theorem mk_rule {c : Str} {C : Addr} (hm : mg c = some (.ref C)) (M : Mk K C f) (F : FunD K x qual params body scope [] [] f fd) (S : FnScope N ps scope)
    (hb : ∀ (kV doc pm : Value) (an : Option Addr) (cdv ct : Value) (us : List Value), us.length = ps.length → bindArgs (PySem.W.fnOf x qual params body scope .none kV doc pm an cdv ct) ⟨us, []⟩ = pure (ps.zip us))
    (hbody : ∀ (cdv : Value) (A : Around) (outer : List Env) (s : Shared) (H : Hp) (E : XK), Ct (cxOf (L2.CX P w) P w K mg base N qual scope f cdv A outer s H E) (WEx E) k → PSsV (cxOf (L2.CX P w) P w K mg base N qual scope f cdv A outer s H E) (WEx E) pr body b) :
    MkV P w K mg base (k + 1) c ps.length (fnS N.length ps.length pr b) := ⟨C, f, fd, ps, hm, M, fnok_rule F S hbody, F.bindsN hb⟩
theorem mt_rule {C : Addr} {m : Str} (M : Meth K C m f) (F : FunD K x qual params body scope [] [] f fd) (S : FnScope N ps scope)
    (hb : ∀ (kV doc pm : Value) (an : Option Addr) (cdv ct : Value) (us : List Value), us.length = ps.length → bindArgs (PySem.W.fnOf x qual params body scope .none kV doc pm an cdv ct) ⟨us, []⟩ = pure (ps.zip us))
    (hbody : ∀ (cdv : Value) (A : Around) (outer : List Env) (s : Shared) (H : Hp) (E : XK), Ct (cxOf (L2.CX P w) P w K mg base N qual scope f cdv A outer s H E) (WEx E) k → PSsV (cxOf (L2.CX P w) P w K mg base N qual scope f cdv A outer s H E) (WEx E) pr body b) :
    MtV P w K mg base (k + 1) C m ps.length (fnS N.length ps.length pr b) := ⟨f, fd, ps, M, fnok_rule F S hbody, F.bindsN hb⟩
end
/-- the law's def: nothing is let out -/
def spL (Γ : Ga) (n : Nat) (φ : Fs) : Sp := fun vs H Q _ => spV Γ n φ vs H Q fun _ _ _ => False
theorem law_rule {P : Program} {w : World} {K : PySem.W.Frag} {mg : Str → Option Value} {base : Heap} {x qual : Str} {params : Arguments} {body : List Stmt} {scope : Scope} {f : Addr} {fd : FuncData} {N ps : List Str} {k : Nat} {pr : Nat → Bool} {b : MS}
    (F : FunD K x qual params body scope [] [] f fd) (S : FnScope N ps scope)
    (hbody : ∀ (cdv : Value) (A : Around) (outer : List Env) (s : Shared) (H : Hp) (E : XK), Ct (cxOf CX0 P w K mg base N qual scope f cdv A outer s H E) W0 k → PSsV (cxOf CX0 P w K mg base N qual scope f cdv A outer s H E) W0 pr body b) :
    FnOk P w K mg base CX0 (k + 1) f fd ps (spL ⟨P, w, K, mg⟩ ps.length (fnS N.length ps.length pr b)) := by
  refine F.ok S (fun vs H Q E h => h.1) fun cdv A outer s H vs Q E hr hp => ?_
  refine ⟨_, hbody cdv A outer s H E ⟨fun σ _ _ _ _ _ _ h => ?_, rfl, S.nd, hr, passes_of rfl⟩, body_q hp⟩
  obtain ⟨_, _, _, _, _, _, _, _, _, _, _, _, z⟩ := h
  exact z.elim
/-- a def that promises nothing -/
theorem fn_bad {P : Program} {w : World} {K : PySem.W.Frag} {mg : Str → Option Value} {base : Heap} {x qual : Str} {params : Arguments} {body : List Stmt} {scope : Scope} {f : Addr} {fd : FuncData} {N ps : List Str} {k : Nat}
    (hm : mg x = some (.ref f)) (F : FunD K x qual params body scope [] [] f fd) (S : FnScope N ps scope)
    (hb : ∀ (kV doc pm : Value) (an : Option Addr) (cdv ct : Value) (us : List Value), us.length = ps.length → bindArgs (PySem.W.fnOf x qual params body scope .none kV doc pm an cdv ct) ⟨us, []⟩ = pure (ps.zip us)) :
    FnV P w K mg base (k + 1) x ps.length (fun _ => .bad) := by
  refine ⟨f, fd, ps, hm, F.ok S (fun vs H Q E h => h.1) fun cdv A outer s H vs Q E hr hp => ?_, F.kp, F.bindsN hb⟩
  obtain ⟨_, _, _, _, z⟩ := hp
  exact z.elim
/-- a call whose value is dropped may be ours: as an expression statement -/
theorem sv_exprO {X : Cx} {W : WXX} {pr : Nat → Bool} {ex : Expr} {pos : Pos} {m : M (Bool × U)} (h : PO X W ex m) (hs : swapsWith ex none pos.line X.env = pure false := by rfl) : PSV X W pr (.Expr ex pos) (mDrp (mF m)) := sv_expr (pv_of h) hs
end VS
set_option Elab.async false
set_option linter.all false
set_option maxRecDepth 100000
/-! VS26: unions. -/
namespace VS
open PySem L2
def sAdd : Op2 := orS sAddI (orS sAddS sAddL)
noncomputable def sMul : Op2 := orS sMulI (orS sMulS sMulL)
noncomputable def sIx : Op2 := orS sIxL (orS sIxT (orS sIxS sIxD))
noncomputable def sIn : Op2 := orS (sInF false) (orS (sInS false) (sInD false))
noncomputable def sNotIn : Op2 := orS (sInF true) (orS (sInS true) (sInD true))
def sSorted : OpN := orN sSortS (orN sSortI sSortD)
section
variable {X : Cx} {W : WXX} {ex a : Expr} {pos : Pos}
theorem ok_add : BinOK X (binaryOp .Add) sAdd := ok_addI.or (ok_addS.or ok_addL)
theorem ok_mul : BinOK X (binaryOp .Mult) sMul := ok_mulI.or (ok_mulS.or ok_mulL)
theorem ok_ix (hu : X.A.units + 64 < cLine) : IxOK X sIx := ok_ixL.or (ok_ixT.or (ok_ixS.or (ok_ixD hu)))
theorem ok_in (hu : X.A.units + 64 < cLine) : BinOK X (compareOp .In) sIn := ok_inF.or (ok_inS.or (ok_inD hu))
theorem ok_notIn (hu : X.A.units + 64 < cLine) : BinOK X (compareOp .NotIn) sNotIn := ok_notInF.or (ok_notInS.or (ok_notInD hu))
theorem ok_sorted (hc : X.calm = true) : CallOK X (.builtin "sorted") sSorted := ok_sortS.or (ok_sortI.or (ok_sortD hc))
def sMx : OpN := orN sMax1 sMax2
theorem ok_mx (hc : X.calm = true) : CallOK X (.builtin "max") sMx := (ok_max1 hc).or (ok_max2 hc)
/-- -e -/
def mNeg (m : M U) : M U := m.bd fun u => match u with
  | .int i => .ret (.int (-i))
  | _ => fun _ => .bad
theorem pv_neg {m : M U} (h : PV X W a m) : PV X W (.UnaryOp .USub a pos) (mNeg m) := by
  refine PEimp (pe_un un_neg h) fun σ H Q ⟨B, e, sr, q⟩ => ⟨B, e, sr, (tAt.bd q).mono fun x H1 ⟨B1, e1, u, g1, r1, q1⟩ => ?_⟩
  cases u with
  | int i =>
    have r1' : rep (ga X) B1 (.int i) x := r1
    simp only [rep] at r1'
    subst r1'
    exact ⟨i, rfl, (show tAt (ga X) W (rlV (ga X)) (M.ret (.int (-i))) B1 H1 e1 σ Q from q1) _ B1 H1 (Go.refl g1.sr) (rep_int (X := X) (B := B1) (-i))⟩
  | _ => exact False.elim q1
end
theorem bt_len : bootBuiltins "len" = some (.builtin "len") := by decide +kernel
theorem bt_abs : bootBuiltins "abs" = some (.builtin "abs") := by decide +kernel
theorem bt_all : bootBuiltins "all" = some (.builtin "all") := by decide +kernel
theorem bt_any : bootBuiltins "any" = some (.builtin "any") := by decide +kernel
theorem bt_max : bootBuiltins "max" = some (.builtin "max") := by decide +kernel
theorem bt_min : bootBuiltins "min" = some (.builtin "min") := by decide +kernel
theorem bt_sorted : bootBuiltins "sorted" = some (.builtin "sorted") := by decide +kernel
theorem bt_int : bootBuiltins "int" = some (.type "int") := by decide +kernel
theorem bt_list : bootBuiltins "list" = some (.type "list") := by decide +kernel
theorem bt_tuple : bootBuiltins "tuple" = some (.type "tuple") := by decide +kernel
theorem bt_dict : bootBuiltins "dict" = some (.type "dict") := by decide +kernel
theorem bt_bool : bootBuiltins "bool" = some (.type "bool") := by decide +kernel
theorem bt_str : bootBuiltins "str" = some (.type "str") := by decide +kernel
end VS
set_option Elab.async false
set_option linter.all false
set_option maxRecDepth 100000
set_option maxHeartbeats 2000000
/-! VS27: sorted({x for a in b for x in c}), texts. -/
namespace VS
open PySem PySem.Spec PyProof.Rows L2

/-- the set of texts at D -/
def SetG (P : Program) (w : World) (D : Addr) (ks : List Str) : HO := .ext fun h => VSet.SG (PySem.strKind P w) h D ks
theorem setG_new {P : Program} {w : World} {H : Hp} {h : Heap} {a : Addr} {ks : List Str} (R : VSet.SG (PySem.strKind P w) h a ks) : ObjOk P w H h a (SetG P w a ks) := by
  have ⟨o, _, _, _, ho, _⟩ := R
  exact ⟨R, ⟨o, ho⟩, fun h1 h2 p k => VSet.SG.at p k⟩
section
variable {X : Cx}
theorem setG_get {pins : List (Addr × Obj)} {σ : L2.St} {H : Hp} {s : Shared} {a : Addr} {ks : List Str} (I : Inv X pins σ H s) (ha : H a = some (SetG X.prog X.w a ks)) : VSet.SG (PySem.strKind X.prog X.w) s.heap a ks := (I.hok a _ ha).1
theorem addG_ok {pins : List (Addr × Obj)} {σ : L2.St} {H : Hp} {s : Shared} {E : Value → Shared → Prop} {D : Addr} {ks : List Str} {y : Str} {t : Tok} {Q : Value → Shared → Prop} (I : Inv X pins σ H s) (hD : H D = some (SetG X.prog X.w D ks)) (room : ks.length + 1 < scanBound)
    (h : ∀ s' ks', VSet.Add ks y ks' → Inv X pins σ (upd H D (SetG X.prog X.w D ks')) s' → Q .none s') : wpAny (model X.prog X.w) X.A (call (.builtin "set.add") [.ref D, .str y t]) Q E s := by
  have R := setG_get I hD
  refine wpAny_call_entry F.slot_set_add R.typeIs F.entry_set_add ?_ (F.args_set_add_2 _ _)
  unfold Builtin.«set.add» Builtin.Frozenset.oneOther
  simp only [List.isEmpty_nil, bind_assoc]
  unfold Builtin.Frozenset.addrOf setAdd
  refine wpAny_bind (wpAny_pure ?_)
  try dsimp only
  refine wpAny_bind (wpAny_pure ?_)
  try dsimp only
  refine wpAny_bind ?_
  refine wpAny_holding ?_
  have hk : (PySem.strKind X.prog X.w).is y (.str y t) = true := by simp [PySem.strKind, Value.isStrOf]
  refine wpAny_bind ((PySem.strKind X.prog X.w).pyHash hk ?_)
  refine VSet.sg_add (s := { s with toks := s.toks + 1 }) R hk rfl room fun b h' ks' sb ad r => ?_
  show wpAny _ _ (ret Value.none) _ _ _
  refine wpAny_pure ⟨_, rfl, h _ ks' ad ?_⟩
  have he : ∃ u, h'.get? D = some u := by
    have ⟨o, _, _, _, ho, _⟩ := r
    exact ⟨o, ho⟩
  exact I.write (e := D) (t' := s.toks + 1) (by rw [hD]; trivial) (.inl rfl) (fun b u hb hu => (sb.2 b hb).trans hu) he (setG_new r)
end
section
variable {prog : Program} {w : World} {A : Around} {R : Result → Shared → Prop} {s : Shared} {elt t0 i0 t1 i1 : Expr} {scope : Scope} {pos : Pos} {it acc : Value} {env : Env}
abbrev sc2 (elt t0 i0 t1 i1 : Expr) (scope : Scope) (pos : Pos) : Expr := .SetComp elt [⟨t0, i0, [], 0⟩, ⟨t1, i1, [], 0⟩] scope pos
theorem turnS_out : compTurn (sc2 elt t0 i0 t1 i1 scope pos) 0 it acc env = (do
      standAt i0.pos
      match ← pyNext it with
      | none => pure (.done .next)
      | some v =>
        letOwnedTupleGo t0 it v
        assign t0 env v
        let mut ok := true
        for c in ([] : List Expr) do
          if ok then ok ← isTrue c env (eval c env)
        if ok then
          let x ← eval i1 env
          standAt i1.pos
          let x ← foldedSetIterable i1 env x
          let _ ← runOwn (.compStart (sc2 elt t0 i0 t1 i1 scope pos) 1 (← holding [x] (pyIter x)) acc env) env
        again (.compLoop (sc2 elt t0 i0 t1 i1 scope pos) 0 it acc env)) := by rfl
theorem turnS_in : compTurn (sc2 elt t0 i0 t1 i1 scope pos) 1 it acc env = (do
      standAt i1.pos
      match ← pyNext it with
      | none => pure (.done .next)
      | some v =>
        letOwnedTupleGo t1 it v
        assign t1 env v
        let mut ok := true
        for c in ([] : List Expr) do
          if ok then ok ← isTrue c env (eval c env)
        if ok then
          (do let v ← eval elt env; standAt elt.pos; let _ ← call (.builtin "set.add") [acc, v])
        again (.compLoop (sc2 elt t0 i0 t1 i1 scope pos) 1 it acc env)) := by rfl
theorem loopS_out (hs : ∀ x, foldedSetIterable i1 env x = pure x) (I : Nat → Shared → Prop)
    (turn : ∀ n s, I n s → wpAny (model prog w) A (pyNext it) (fun r s₁ => match r with
      | none => R (.ok .next) s₁
      | some v => wpAny (model prog w) A (letOwnedTupleGo t0 it v) (fun _ s₁' => wpAny (model prog w) A (assign t0 env v) (fun _ s₃ =>
          wpAny (model prog w) A (eval i1 env) (fun x s₄ => wpAny (model prog w) A (pyIter x) (fun it1 s₅ =>
              codeAny (model prog w) A (.compStart (sc2 elt t0 i0 t1 i1 scope pos) 1 it1 acc env) (fun r s' => match r with
                | .ok _ => ∃ m, m < n ∧ I m s'
                | .error _ => False) s₅) (notedBy (model prog w) A env fun e s' => R (.error e) s') s₄) (notedBy (model prog w) A env fun e s' => R (.error e) s') s₃) (notedBy (model prog w) A env fun e s' => R (.error e) s') s₁') (notedBy (model prog w) A env fun e s' => R (.error e) s') s₁) (notedBy (model prog w) A env fun e s' => R (.error e) s') s)
    (n : Nat) (h : I n s) : codeAny (model prog w) A (.compLoop (sc2 elt t0 i0 t1 i1 scope pos) 0 it acc env) R s := by
  refine codeAny_loop rfl I (fun n s hI => ?_) n h
  show wpAny _ A ((compTurn (sc2 elt t0 i0 t1 i1 scope pos) 0 it acc env).onRaise (fun x => do noteFrame x env; theTreesLotGoes x)) _ _ s
  refine wpAny_noted ?_
  rw [turnS_out]
  refine wpAny_bind (wpAny_standAt (wpAny_bind (wpAny_mono (turn n s hI) (fun r s₁ h₁ => ?_) fun _ _ z => z)))
  cases r with
  | none => exact wpAny_pure h₁
  | some v =>
    refine wpAny_bind (wpAny_mono h₁ (fun _ s₁' h₁' => ?_) fun _ _ z => z)
    refine wpAny_bind (wpAny_mono h₁' (fun _ s₂ h₃ => wpAny_bind (wpAny_tests_nil ?_)) fun _ _ z => z)
    refine wpAny_bind (wpAny_mono h₃ (fun x s₄ h₄ => ?_) fun _ _ z => z)
    refine wpAny_bind (wpAny_standAt (wpAny_bind (wpAny_of_eq (hs x) (wpAny_bind (wpAny_holding (wpAny_mono h₄ (fun it1 s₅ h₅ => ?_) fun _ _ z => z))))))
    refine wpAny_bind (wpAny_runOwn ?_)
    rw [Around.mark_none]
    refine codeAny_mono h₅ fun r s' hr => ?_
    cases r with
    | ok f =>
      first
        | exact wpAny_pure ⟨rfl, hr⟩
        | exact wpAny_bind (wpAny_pure (wpAny_pure ⟨rfl, hr⟩))
    | error e => exact hr.elim
theorem loopS_in (I : Nat → Shared → Prop)
    (turn : ∀ n s, I n s → wpAny (model prog w) A (pyNext it) (fun r s₁ => match r with
      | none => R (.ok .next) s₁
      | some v => wpAny (model prog w) A (letOwnedTupleGo t1 it v) (fun _ s₁' => wpAny (model prog w) A (assign t1 env v) (fun _ s₃ =>
          wpAny (model prog w) A (eval elt env) (fun x s₄ =>
              wpAny (model prog w) A (call (.builtin "set.add") [acc, x]) (fun _ s₅ => ∃ m, m < n ∧ I m s₅) (notedBy (model prog w) A env fun e s' => R (.error e) s') s₄) (notedBy (model prog w) A env fun e s' => R (.error e) s') s₃) (notedBy (model prog w) A env fun e s' => R (.error e) s') s₁') (notedBy (model prog w) A env fun e s' => R (.error e) s') s₁) (notedBy (model prog w) A env fun e s' => R (.error e) s') s)
    (n : Nat) (h : I n s) : codeAny (model prog w) A (.compLoop (sc2 elt t0 i0 t1 i1 scope pos) 1 it acc env) R s := by
  refine codeAny_loop rfl I (fun n s hI => ?_) n h
  show wpAny _ A ((compTurn (sc2 elt t0 i0 t1 i1 scope pos) 1 it acc env).onRaise (fun x => do noteFrame x env; theTreesLotGoes x)) _ _ s
  refine wpAny_noted ?_
  rw [turnS_in]
  refine wpAny_bind (wpAny_standAt (wpAny_bind (wpAny_mono (turn n s hI) (fun r s₁ h₁ => ?_) fun _ _ z => z)))
  cases r with
  | none => exact wpAny_pure h₁
  | some v =>
    refine wpAny_bind (wpAny_mono h₁ (fun _ s₁' h₁' => ?_) fun _ _ z => z)
    refine wpAny_bind (wpAny_mono h₁' (fun _ s₂ h₃ => wpAny_bind (wpAny_tests_nil ?_)) fun _ _ z => z)
    exact wpAny_bind (wpAny_bind (wpAny_mono h₃ (fun x s₄ h₄ => wpAny_bind (wpAny_standAt (wpAny_bind (wpAny_mono h₄ (fun _ s₅ h₅ => wpAny_pure (wpAny_pure ⟨rfl, h₅⟩)) fun _ _ z => z)))) fun _ _ z => z))
theorem startS_in (h0 : codeAny (model prog w) A (.compLoop (sc2 elt t0 i0 t1 i1 scope pos) 1 it acc env) R s)
    (h : wpAny (model prog w) A (pyIter it) (fun it' s' => codeAny (model prog w) A (.compLoop (sc2 elt t0 i0 t1 i1 scope pos) 1 it' acc env) R s')
      (notedBy (model prog w) A env fun x s' => R (.error x) s') s) :
    codeAny (model prog w) A (.compStart (sc2 elt t0 i0 t1 i1 scope pos) 1 it acc env) R s := by
  refine codeAny_of_tree ?_
  show wpAny _ _ ((compStart (sc2 elt t0 i0 t1 i1 scope pos) 1 it acc env).onRaise (fun x => do noteFrame x env; standAt theWindowsPlace)) _ _ s
  refine wpAny_notedAt ?_
  unfold compStart
  show wpAny _ _ (ask >>= _) _ _ s
  refine wpAny_bind (wpAny_askSetting (wpAny_ite ?_))
  split
  · first
      | exact wpAny_bind (wpAny_pure (wpAny_pure (And.intro rfl h0)))
      | exact wpAny_pure (And.intro rfl h0)
  · first
      | exact wpAny_bind (wpAny_rule (wpAny_bind (wpAny_standAt (wpAny_bind (wpAny_mono h (fun it' s' h' => wpAny_pure (And.intro rfl h')) fun _ _ x => x)))))
      | (refine wpAny_bind (wpAny_rule ?_); show wpAny _ _ (standAt i1.pos >>= _) _ _ s; exact wpAny_bind (wpAny_standAt (wpAny_bind (wpAny_mono h (fun it' s' h' => wpAny_pure (And.intro rfl h')) fun _ _ x => x))))
end
end VS
set_option Elab.async false
set_option linter.all false
set_option maxRecDepth 100000
set_option maxHeartbeats 2000000
/-! VS28: the rule. -/
namespace VS
open PySem PySem.Spec PyProof.Rows L2
section
variable {X : Cx}
/-- {elt for tg in iter for tg1 in iter1}, elt a text -/
def tSc2 (P : Program) (w : World) (wi : TI) (g : TG) (wi1 : TI) (g1 : TG) (te : TE) (vs vs1 : List Nat) : TE := fun σ H Q => wi σ H fun J H1 => ∀ D, H1 D = none → ∃ W : Nat → Nat → Hp → Prop, (∃ m, W 0 m (upd H1 D (SetG P w D []))) ∧ ∀ i m H, W i m H →
  (J.stop i H ∧ Q (.ref D) H) ∨ (J.go i H ∧ ∃ Nx : Hp → Prop, (∀ H', Nx H' → ∃ m', m' < m ∧ W (i + 1) m' H') ∧ ∀ x H', J.yld i H x H' → g x (wipe σ vs) H' fun σ2 H2 => wipe σ2 vs = wipe σ vs ∧
    wi1 σ2 H2 fun J1 H4 => ∃ W1 : Nat → Nat → Hp → Prop, (∃ m, W1 0 m H4) ∧ ∀ j k H, W1 j k H →
      (J1.stop j H ∧ Nx H) ∨ (J1.go j H ∧ ∃ Nx1 : Hp → Prop, (∀ H', Nx1 H' → ∃ k', k' < k ∧ W1 (j + 1) k' H') ∧ ∀ x H', J1.yld j H x H' → g1 x (wipe σ2 vs1) H' fun σ3 H5 => wipe σ3 vs1 = wipe σ2 vs1 ∧
        te σ3 H5 fun y H7 => ∃ (ks : List Str) (c : Str), y = .str c ∧ H7 D = some (SetG P w D ks) ∧ ks.length + 1 < scanBound ∧ ∀ ks', VSet.Add ks c ks' → Nx1 (upd H7 D (SetG P w D ks'))))
theorem sc2_core {pins : List (Addr × Obj)} {s : Shared} {σ : L2.St} {H : Hp} {Q : VK} {elt tg iter tg1 iter1 : Expr} {scope : Scope} {own : List (PySem.Str × Nat)} {vs1 : List Nat} {pos pos' : Pos} {wi wi1 : TI} {g g1 : TG} {te : TE} {use : Option (Value → Sem Unit)} {Qf : Value → Shared → Prop}
    (hc : X.calm = true) (hN : X.N.Nodup) (I : Inv X pins σ H s) (hi : PI X tg iter wi) (ok : BlkOk X.N X.env.scope scope own) (hv : ∀ i ∈ vs1, i ∈ own.map (·.2))
    (hg : BlkAll X scope fun Y => PG Y tg g) (he : BlkAll X scope fun Y => PE Y elt te) (hs : ∀ x, foldedSetIterable iter X.env x = pure x)
    (hi1 : BlkAll X scope fun Y => PI Y tg1 iter1 wi1) (hg1 : BlkAll X scope fun Y => PG Y tg1 g1) (hs1 : ∀ env x, foldedSetIterable iter1 env x = pure x)
    (h : tSc2 X.prog X.w wi g wi1 g1 te (own.map (·.2)) vs1 σ H Q)
    (hRR : ∀ D C s' m H', Inv X pins σ H' s' → Q (.ref D) H' → s'.heap.Ns C m → FpOk X pins H' C → compPost (model X.prog X.w) X.A X.xe use Qf (.ref D) C (.ok .next) s') :
    wpAny (model X.prog X.w) X.A (comprehension (sc2 elt tg iter tg1 iter1 scope pos) scope X.env pos' (newSet (.type "set")) false (eval iter X.env) use) Qf X.xe s := by
  have hfree : ∀ y ∈ scope.names, y.2 = .free → ∃ c, X.env.cells.lookup y.1 = some c := fun y hy e => by
    rcases ok.free y hy e with k | k
    · exact I.ok.has _ (.inl k)
    · exact I.ok.has _ (.inr k)
  refine wpAny_comprehension_free (use := use) rfl hs (closure_ok hfree) ok.kind (fun y hy e => by rw [ok.uniq y hy, e])
    (thn (hi.run pins s σ H _ I h) fun xv s1 hx => thn hx fun itv s2 h2 => ?_)
  obtain ⟨it, fp, tn, J, H2, e, I2, T, st2, f2, q⟩ := h2
  subst e
  refine PpSet.newSet_ok (newEnv_comp ?_)
  generalize hD : s2.heap.objs.size = D
  have hDn : H2 D = none := I2.hok.fresh (Nat.le_of_eq hD)
  obtain ⟨W, ⟨m0, w0⟩, turn⟩ := q D hDn
  generalize hs3 : ({ s2 with heap := s2.heap.push { cls := .type "set", dict := none, data := .set #[] 0 (.fresh 0 0 (!X.w.params.followText "set-order")) } } : Shared) = s3
  have I3 : Inv X pins σ (upd H2 D (SetG X.prog X.w D [])) s3 := by
    rw [← hs3]
    refine I2.laid (t' := s2.toks) (fun b o e => Heap.get?_push_of_some _ e) (Nat.le_of_eq hD) ?_
    rw [← hD]
    exact setG_new (VSet.sg_fresh (Heap.get?_push_size _ rfl))
  have h3 : s3.heap = s2.heap.push { cls := .type "set", dict := none, data := .set #[] 0 (.fresh 0 0 (!X.w.params.followText "set-order")) } := by rw [← hs3]
  have sz : ∀ b ∈ fp, b < s2.heap.objs.size := fun b hb => by
    obtain ⟨o, e, _⟩ := T.obj _ _ st2 b hb
    exact Heap.lt_size e
  have f3 : ∀ b ∈ fp, FpOk X pins (upd H2 D (SetG X.prog X.w D [])) b ∧ b < s3.heap.objs.size := fun b hb => by
    have hlt := sz b hb
    refine ⟨⟨?_, (f2 b hb).2⟩, by rw [h3, Heap.size_push]; exact Nat.lt_succ_of_lt hlt⟩
    rw [upd_ne (by rw [← hD]; exact Nat.ne_of_lt hlt)]
    exact (f2 b hb).1
  have st3 : tn 0 s3.heap := T.keep _ _ _ st2 fun b _ o e => by rw [h3]; exact Heap.get?_push_of_some _ e
  have I4 := block_start I3 ok hN f3
  have pg := hg s3 (upd H2 D (SetG X.prog X.w D [])) s3.heap.objs.size (cellsFrom (s3.heap.objs.size + 1) scope.names (cloFrom X.env.cells scope.names [])) fp
  have pe := he s3 (upd H2 D (SetG X.prog X.w D [])) s3.heap.objs.size (cellsFrom (s3.heap.objs.size + 1) scope.names (cloFrom X.env.cells scope.names [])) fp
  have pi1 := hi1 s3 (upd H2 D (SetG X.prog X.w D [])) s3.heap.objs.size (cellsFrom (s3.heap.objs.size + 1) scope.names (cloFrom X.env.cells scope.names [])) fp
  have pg1 := hg1 s3 (upd H2 D (SetG X.prog X.w D [])) s3.heap.objs.size (cellsFrom (s3.heap.objs.size + 1) scope.names (cloFrom X.env.cells scope.names [])) fp
  show codeAny _ _ (.compStart (sc2 elt tg iter tg1 iter1 scope pos) 0 (.ref it) (.ref D) (compEnvC scope (cellsFrom (s3.heap.objs.size + 1) scope.names (cloFrom X.env.cells scope.names [])) s3.heap.objs.size X.env)) (compPost (model X.prog X.w) X.A X.xe use Qf (.ref D) s3.heap.objs.size) { s3 with heap := pushCells (s3.heap.push { cls := .type "dict", data := .dict #[] }) scope.names }
  have nfp : ∀ b ∈ fp, (upd H2 D (SetG X.prog X.w D [])) b = none := fun b hb => (f3 b hb).1.1
  generalize hce : compEnvC scope (cellsFrom (s3.heap.objs.size + 1) scope.names (cloFrom X.env.cells scope.names [])) s3.heap.objs.size X.env = ce at I4 pg pe pi1 pg1 ⊢
  have cL : ce.locals = s3.heap.objs.size := by subst hce; rfl
  generalize hH3 : upd H2 D (SetG X.prog X.w D []) = H3 at I3 I4 pg pe pi1 pg1 w0 nfp f3
  generalize hs4 : ({ s3 with heap := pushCells (s3.heap.push { cls := .type "dict", data := .dict #[] }) scope.names } : Shared) = s4 at I4 ⊢
  have st4 : tn 0 s4.heap := T.keep _ _ _ st3 fun b _ o e => by rw [← hs4]; exact pushCells_keeps _ _ _ _ (Heap.get?_push_of_some _ e)
  have stat : ∀ {σ' : L2.St} {H' : Hp} {s' : Shared}, Inv (X.blk s3 H3 scope ce fp) [] σ' H' s' → (∀ b ∈ fp, H' b = none) → ∀ b ∈ fp, FpOk (X.blk s3 H3 scope ce fp) [] H' b := fun {σ' H' s'} I' hn b hb =>
    ⟨hn b hb, (I'.ok.exf b hb).1, I'.ok.exfs b hb, .inl hb, fun x c e => (I'.ok.exf b hb).2 x c e, fun p hp => absurd (show p ∈ ([] : List (Addr × Obj)) ++ [] from hp) (by simp)⟩
  have loop : codeAny (model X.prog X.w) X.A (.compLoop (sc2 elt tg iter tg1 iter1 scope pos) 0 (.ref it) (.ref D) ce) (compPost (model X.prog X.w) X.A X.xe use Qf (.ref D) s3.heap.objs.size) s4 := by
    refine loopS_out (hs1 ce) (fun n s' => ∃ i H', Inv (X.blk s3 H3 scope ce fp) [] (wipe σ (own.map (·.2))) H' s' ∧ tn i s'.heap ∧ (∀ b ∈ fp, H' b = none) ∧ W i n H') ?_ m0 ⟨0, H3, I4, st4, nfp, w0⟩
    rintro n s5 ⟨i, H5, I5, st5, n5, w5⟩
    rcases turn i n H5 w5 with ⟨stop, qq⟩ | ⟨go, Nx, hNx, step⟩
    · have td := T.done (X.blk s3 H3 scope ce fp) rfl rfl rfl hc i [] s5 _ H5 (fun _ _ => False) I5 (stat I5 n5) st5 stop
      refine thnF td fun r s6 ⟨hr, I6⟩ => ?_
      subst hr
      have I7 : Inv X pins σ H5 s6 := I3.call' (ch := fp) I6.os I6.base I6.hok I6.bare fun b hb => ⟨(f3 b hb).1.2.2.2.1, (f3 b hb).1.2.1, (f3 b hb).1.2.2.2.2.1, (f3 b hb).1.2.2.2.2.2⟩
      have nC : H5 s3.heap.objs.size = none := by
        have z : H5 ce.locals = none := I6.free
        rw [cL] at z
        exact z
      obtain ⟨m, hn, _⟩ := I6.loc
      have hn : s6.heap.Ns ce.locals m := hn
      rw [cL] at hn
      exact hRR D s3.heap.objs.size s6 m H5 I7 qq hn (I3.fpOk (Nat.le_refl _) nC)
    · have ti := T.item (X.blk s3 H3 scope ce fp) rfl rfl rfl hc i [] s5 _ H5 (fun _ _ => False) I5 (stat I5 n5) st5 go
      refine thnF ti fun r s6 ⟨u, hr, h6⟩ => ?_
      subst hr
      refine thnF h6 fun _ s7 ⟨x, H7, I7, r7, y7, st7, n7⟩ => ?_
      have I7' := I7.pinned (stat I7 n7) (T.obj _ _ st7)
      refine thnF (pg.run _ s7 _ H7 x u _ I7' r7 (step x H7 y7)) fun _ s8 ⟨σ8, H8, I8, hw8, q8⟩ => ?_
      have fin : ∀ {σ9 : L2.St} {s' : Shared} {H' : Hp}, Inv (X.blk s3 H3 scope ce fp) ([] ++ pinsAt fp s7.heap) σ9 H' s' → (wipe σ (own.map (·.2))).length = σ9.length → (∀ (j : Nat) v, (wipe σ (own.map (·.2)))[j]? = some (some v) → σ9[j]? = some (some v)) → Nx H' →
          ∃ m, m < n ∧ ∃ i H', Inv (X.blk s3 H3 scope ce fp) [] (wipe σ (own.map (·.2))) H' s' ∧ tn i s'.heap ∧ (∀ b ∈ fp, H' b = none) ∧ W i m H' := fun {σ9 s' H'} I' hl hk nx => by
        obtain ⟨m', hm, w'⟩ := hNx H' nx
        have pin' : ∀ b ∈ fp, ∀ o, s7.heap.get? b = some o → s'.heap.get? b = some o ∧ H' b = none := fun b hb o e =>
          let z := I'.pin (b, o) (List.mem_append_right _ (List.mem_append_right _ (mem_pinsAt hb e)))
          ⟨z.1, z.2.1⟩
        refine ⟨m', hm, i + 1, H', (I'.unpinned (pins := [])).weak hl hk, T.keep _ _ _ st7 fun b hb o e => (pin' b hb o e).1, fun b hb => ?_, w'⟩
        obtain ⟨o, e, _⟩ := T.obj _ _ st7 b hb
        exact (pin' b hb o e).2
      have hl8 : (wipe σ (own.map (·.2))).length = σ8.length := by rw [← hw8, wipe_length]
      have hk9 : ∀ (j : Nat) v, (wipe σ (own.map (·.2)))[j]? = some (some v) → (wipe σ8 vs1)[j]? = some (some v) := fun j v e => by
        rw [← hw8] at e
        obtain ⟨e1, e2⟩ := wipe_some e
        rw [wipe_out fun z => e2 (hv j z)]
        exact e1
      refine thnF (pi1.run _ s8 σ8 H8 _ I8 q8) fun xv s10 hx => thnF hx fun itv s11 h11 => ?_
      obtain ⟨it1, fp1, tn1, J1, H11, e1, I11, T1, st11, f11, W1, ⟨m1, w1⟩, turn1⟩ := h11
      subst e1
      have stat1 : ∀ {H' : Hp}, (∀ b ∈ fp1, H' b = none) → ∀ b ∈ fp1, FpOk (X.blk s3 H3 scope ce fp) ([] ++ pinsAt fp s7.heap) H' b := fun hn b hb => ⟨hn b hb, (f11 b hb).2⟩
      have loop1 : codeAny (model X.prog X.w) X.A (.compLoop (sc2 elt tg iter tg1 iter1 scope pos) 1 (.ref it1) (.ref D) ce)
          (fun r s' => match r with
            | .ok _ => ∃ m, m < n ∧ ∃ i H', Inv (X.blk s3 H3 scope ce fp) [] (wipe σ (own.map (·.2))) H' s' ∧ tn i s'.heap ∧ (∀ b ∈ fp, H' b = none) ∧ W i m H'
            | .error _ => False) s11 := by
        refine loopS_in (fun k s' => ∃ j H', Inv (X.blk s3 H3 scope ce fp) ([] ++ pinsAt fp s7.heap) (wipe σ8 vs1) H' s' ∧ tn1 j s'.heap ∧ (∀ b ∈ fp1, H' b = none) ∧ W1 j k H') ?_ m1 ⟨0, H11, I11.weak (wipe_length _ _) (fun j v e => (wipe_some e).1), st11, fun b hb => (f11 b hb).1, w1⟩
        rintro k s12 ⟨j, H12, I12, st12, n12, w12⟩
        rcases turn1 j k H12 w12 with ⟨stop1, nx1⟩ | ⟨go1, Nx1, hNx1, step1⟩
        · refine thnF (T1.done (X.blk s3 H3 scope ce fp) rfl rfl rfl hc j _ s12 (wipe σ8 vs1) H12 (fun _ _ => False) I12 (stat1 n12) st12 stop1) fun r s13 ⟨hr, I13⟩ => ?_
          subst hr
          exact fin I13 (hl8.trans (wipe_length σ8 vs1).symm) hk9 nx1
        · refine thnF (T1.item (X.blk s3 H3 scope ce fp) rfl rfl rfl hc j _ s12 (wipe σ8 vs1) H12 (fun _ _ => False) I12 (stat1 n12) st12 go1) fun r s13 ⟨u1, hr, h13⟩ => ?_
          subst hr
          refine thnF h13 fun _ s14 ⟨x1, H14, I14, r14, y14, st14, n14⟩ => ?_
          have I14' := I14.pinned (stat1 n14) (T1.obj _ _ st14)
          refine thnF (pg1.run _ s14 (wipe σ8 vs1) H14 x1 u1 _ I14' r14 (step1 x1 H14 y14)) fun _ s15 ⟨σ15, H15, I15, hw15, q15⟩ => ?_
          have fin1 : ∀ {s' : Shared} {H' : Hp}, Inv (X.blk s3 H3 scope ce fp) (([] ++ pinsAt fp s7.heap) ++ pinsAt fp1 s14.heap) σ15 H' s' → Nx1 H' → ∃ m, m < k ∧ ∃ j H', Inv (X.blk s3 H3 scope ce fp) ([] ++ pinsAt fp s7.heap) (wipe σ8 vs1) H' s' ∧ tn1 j s'.heap ∧ (∀ b ∈ fp1, H' b = none) ∧ W1 j m H' := fun {s' H'} I' nx => by
            obtain ⟨m', hm, w'⟩ := hNx1 H' nx
            have pin' : ∀ b ∈ fp1, ∀ o, s14.heap.get? b = some o → s'.heap.get? b = some o ∧ H' b = none := fun b hb o e =>
              let z := I'.pin (b, o) (List.mem_append_right _ (List.mem_append_right _ (mem_pinsAt hb e)))
              ⟨z.1, z.2.1⟩
            refine ⟨m', hm, j + 1, H', I'.unpinned.weak (by rw [← hw15, wipe_length]) (fun j v e => by rw [← hw15] at e; exact (wipe_some e).1), T1.keep _ _ _ st14 fun b hb o e => (pin' b hb o e).1, fun b hb => ?_, w'⟩
            obtain ⟨o, e, _⟩ := T1.obj _ _ st14 b hb
            exact (pin' b hb o e).2
          refine thnF (pe.run _ s15 σ15 H15 _ I15 q15) fun z s17 ⟨yv, H17, I17, r17, ks, c, ey, hD17, hz17, nx⟩ => ?_
          subst ey
          obtain ⟨tk, ez⟩ := (show ∃ t, z = Value.str c t from r17)
          subst ez
          exact addG_ok (X := X.blk s3 H3 scope ce fp) I17 hD17 hz17 fun s18 ks' ad I18 => fin1 I18 (nx ks' ad)
      exact startS_in loop1 (T1.self X.A 0 _ _ _ st11 loop1)
  exact PpSet.codeAny_compStart_set loop (T.self X.A 0 _ _ _ st4 loop)
theorem pe_sc2 {elt tg iter tg1 iter1 : Expr} {scope : Scope} {own : List (PySem.Str × Nat)} {vs1 : List Nat} {pos : Pos} {wi wi1 : TI} {g g1 : TG} {te : TE} (hc : X.calm = true) (hN : X.N.Nodup) (hi : PI X tg iter wi) (ok : BlkOk X.N X.env.scope scope own) (hv : ∀ i ∈ vs1, i ∈ own.map (·.2))
    (hg : BlkAll X scope fun Y => PG Y tg g) (hi1 : BlkAll X scope fun Y => PI Y tg1 iter1 wi1) (hg1 : BlkAll X scope fun Y => PG Y tg1 g1) (he : BlkAll X scope fun Y => PE Y elt te)
    (hs : ∀ x, foldedSetIterable iter X.env x = pure x := by intro _; rfl) (hs1 : ∀ env x, foldedSetIterable iter1 env x = pure x := by intro _ _; rfl) : PE X (sc2 elt tg iter tg1 iter1 scope pos) (tSc2 X.prog X.w wi g wi1 g1 te (own.map (·.2)) vs1) := by
  refine ⟨fun pins s σ H Q I h => ?_⟩
  rw [PpSet.eval_SetComp]
  refine sc2_core hc hN I hi ok hv hg he hs hi1 hg1 hs1 h fun D C s' m H' I' q hn f => ⟨m, hn, fun h'' sb => ?_⟩
  obtain ⟨f0, f1, f2, f3, f4, f5⟩ := f
  exact ⟨.ref D, H', I'.turned (t' := s'.toks) (fun b o hb e => (sb.2 b hb).trans e) f0 f1 f3 f4 f5, rfl, q⟩
end
end VS
set_option Elab.async false
set_option linter.all false
set_option maxRecDepth 100000
/-! VS29: sorted of a set comprehension with two clauses. -/
namespace VS
open PySem L2

noncomputable def scI (t1 : MT) (te : M U) (vs1 : List Nat) : List U → List Str → En → Option (List Str × En)
  | [], acc, e => some (acc, e)
  | u :: us, acc, e => match t1 u e with
    | some e1 => match te e1 with
      | .ok (.str c) e2 => if acc.length + 1 < PySem.scanBound then scI t1 te vs1 us (acc ++ [c]) (wipeE e2 vs1) else none
      | _ => none
    | none => none
noncomputable def scO (t : MT) (m1 : M Src) (t1 : MT) (te : M U) (vs vs1 : List Nat) : List U → List Str → En → Option (List Str × En)
  | [], acc, e => some (acc, e)
  | u :: us, acc, e => match t u e with
    | some e1 => match m1 e1 with
      | .ok s e2 => match s.g with
        | none => match scI t1 te vs1 s.items acc (wipeE e2 vs1) with
          | some (acc', e3) => scO t m1 t1 te vs vs1 us acc' (wipeE e3 vs)
          | none => none
        | some _ => none
      | _ => none
    | none => none
noncomputable def mSc2 (m : M Src) (t : MT) (m1 : M Src) (t1 : MT) (te : M U) (vs vs1 : List Nat) : M (Bool × U) := m.bd fun s e => match s.g with
  | none => match scO t m1 t1 te vs vs1 s.items [] (wipeE e vs) with
    | some (acc, e') => if (dedS acc).length < 64 then .ok (true, .lst ((sortS (dedS acc)).map .str)) (resE e e' vs) else .bad
    | none => .bad
  | some _ => .bad
/-- without the object at D -/
def rm (H : Hp) (D : Addr) : Hp := fun a => if a = D then none else H a
theorem rm_self {H : Hp} {D : Addr} : rm H D D = none := by unfold rm; rw [if_pos rfl]
theorem rm_ne {H : Hp} {D a : Addr} (h : a ≠ D) : rm H D a = H a := by unfold rm; rw [if_neg h]
theorem rm_some {H : Hp} {D a : Addr} {o : HO} (h : rm H D a = some o) : a ≠ D ∧ H a = some o := by
  by_cases z : a = D
  · subst z; rw [rm_self] at h; cases h
  · rw [rm_ne z] at h; exact ⟨z, h⟩
theorem rm_upd {H : Hp} {D : Addr} {o : HO} : rm (upd H D o) D = rm H D := by
  funext a
  by_cases z : a = D
  · subst z; rw [rm_self, rm_self]
  · rw [rm_ne z, rm_ne z, upd_ne z]
theorem upd_rm {H : Hp} {D : Addr} {o : HO} (h : H D = some o) : upd (rm H D) D o = H := by
  funext a
  by_cases z : a = D
  · subst z; rw [upd_same, h]
  · rw [upd_ne z, rm_ne z]
section
variable {Γ : Ga} {B H B' H' : Hp} {e e' : En} {σ σ' : St} {D : Addr}
theorem SR.rm (s : SR Γ B H e σ) (b : B D = none) (n : ¬ own e σ D) : SR Γ B (VS.rm H D) e σ := by
  refine ⟨fun a u q => ?_, s.ln, s.vl, fun i u q => ?_, s.ds⟩
  · rw [rm_ne (fun z => by rw [z, b] at q; cases q)]
    exact s.bh _ _ q
  · obtain ⟨a, ho, h1, h2, h3, h4⟩ := s.ow i u q
    exact ⟨a, ho, h1, by rw [rm_ne (fun z => n ⟨i, u, q, by rw [h1, z]⟩)]; exact h2, h3, h4⟩
theorem SR.unrm (s : SR Γ B (VS.rm H D) e σ) : SR Γ B H e σ ∧ B D = none ∧ ¬ own e σ D := by
  refine ⟨⟨fun a u q => (rm_some (s.bh _ _ q)).2, s.ln, s.vl, fun i u q => ?_, s.ds⟩, ?_, fun ⟨i, u, q, t⟩ => ?_⟩
  · obtain ⟨a, ho, h1, h2, h3, h4⟩ := s.ow i u q
    exact ⟨a, ho, h1, (rm_some h2).2, h3, h4⟩
  · cases q : B D with
    | none => rfl
    | some u => exact absurd rfl (rm_some (s.bh _ _ q)).1
  · obtain ⟨a, ho, h1, h2, _⟩ := s.ow i u q
    rw [t] at h1
    cases h1
    exact absurd rfl (rm_some h2).1
theorem Go.minus (g : Go Γ B H e σ B' H' e' σ') (b : B' D = none) (n : ¬ own e' σ' D) : Go Γ B (VS.rm H D) e σ B' (VS.rm H' D) e' σ' := by
  refine ⟨⟨g.st.bb, fun a o h na => ?_, fun a o h na => g.st.nb a o (rm_some h).2 na⟩, g.sr.rm b n, fun a z => ?_⟩
  · obtain ⟨h1, h2⟩ := rm_some h
    rw [rm_ne h1]
    exact g.st.fr a o h2 na
  · rcases g.sub a z with q | q
    · exact .inl q
    · right
      by_cases y : a = D
      · rw [y, rm_self]
      · rw [rm_ne y]; exact q
theorem Go.rmR (g : Go Γ B H e σ B' H' e' σ') (h0 : H D = none) (b : B' D = none) (n : ¬ own e' σ' D) : Go Γ B H e σ B' (VS.rm H' D) e' σ' := by
  refine ⟨⟨g.st.bb, fun a o h na => ?_, g.st.nb⟩, g.sr.rm b n, g.sub⟩
  rw [rm_ne (ne_of_none h h0)]
  exact g.st.fr a o h na
end
section
variable {X : Cx} {W : WXX}
/-- what the set holds -/
def Mem (ks acc : List Str) : Prop := (∀ y, y ∈ ks ↔ y ∈ acc) ∧ ks.length ≤ acc.length
theorem Mem.add {ks ks' acc : List Str} {c : Str} (h : Mem ks acc) (a : VSet.Add ks c ks') : Mem ks' (acc ++ [c]) := by
  refine ⟨fun y => ?_, ?_⟩
  · rw [a.mem, h.1, List.mem_append, List.mem_singleton]
    exact or_comm
  · have := a.len; have := h.2; rw [List.length_append]; simp; omega
abbrev rSortG (P : Program) (w : World) : List V → Hp → VK → Prop := fun xs H Q => ∃ D ks acc, xs = [.ref D] ∧ H D = some (SetG P w D ks) ∧ Mem ks acc ∧ (dedS acc).length < 64 ∧ ∀ p, H p = none → Q (.ref p) (upd H p (.lst ((sortS (dedS acc)).map V.str)))
/-- the set as it stands while the comprehension runs: then Q is to hold -/
theorem sc2_core' {m : M Src} {t : MT} {m1 : M Src} {t1 : MT} {te : M U} {vs vs1 : List Nat} (σ : St) (H : Hp) (Q : VK) (q : tG (ga X) W (rlO (ga X)) (mSc2 m t m1 t1 te vs vs1) σ H Q) :
    tSc2 X.prog X.w (iG (ga X) W m) (gG (ga X) (prB vs) t) (iG (ga X) W0 m1) (gG (ga X) (prB vs1) t1) (tG (ga X) W0 (rlV (ga X)) te) vs vs1 σ H
      (fun v H' => rSortG X.prog X.w [v] H' Q) := by
  obtain ⟨B, e, sr, q⟩ := q
  refine ⟨B, e, sr, ?_⟩
  unfold tAt mSc2 M.bd at q
  cases z : m e with
  | bad => rw [z] at q; exact q
  | exc c u e' => rw [z] at q; exact q
  | ok s e1 =>
    rw [z] at q
    dsimp only at q ⊢
    intro J B1 H1 g1 io _ D hD
    cases hg : s.g with
    | some i => rw [hg] at q; exact q.elim
    | none =>
      rw [hg] at q io
      dsimp only at q
      cases hl : scO t m1 t1 te vs vs1 s.items [] (wipeE e1 vs) with
      | none => rw [hl] at q; exact q.elim
      | some r0 =>
        obtain ⟨acc0, e0⟩ := r0
        rw [hl] at q
        dsimp only at q
        by_cases h64 : (dedS acc0).length < 64
        · rw [if_pos h64] at q
          have bD : B1 D = none := g1.sr.none_of hD
          have nD : ¬ own e1 σ D := g1.sr.not_own hD
          refine ⟨fun k n H' => n = s.items.length - k ∧ k ≤ s.items.length ∧ ∃ B' e' acc ks, Go (ga X) B1 H1 e1 σ B' H' e' σ ∧ Emp e' vs ∧ H' D = some (SetG X.prog X.w D ks) ∧ Mem ks acc ∧ B' D = none ∧ ¬ own e' σ D ∧
            scO t m1 t1 te vs vs1 (s.items.drop k) acc e' = some (acc0, e0), ⟨_, rfl, Nat.zero_le _, B1, wipeE e1 vs, [], [], ?_, emp_wipe _ _, upd_same, ⟨fun y => Iff.rfl, Nat.le_refl _⟩, bD, fun w => nD (own_wipeE w), by simpa using hl⟩, ?_⟩
          · exact Go.setD (Go.wipeE g1.sr) hD bD fun w => nD (own_wipeE w)
          · rintro k n H' ⟨rfl, hk, B', e', acc, ks, g', em, hHD, hm, bD', nD', hl'⟩
            have sb := g'.st.bb
            by_cases hlt : k < s.items.length
            · refine .inr ?_
              have hu : s.items[k]? = some s.items[k] := by simp [hlt]
              obtain ⟨j1, j2⟩ := io.go B' H' k _ sb g'.sr.bh trivial hu
              rw [List.drop_eq_getElem_cons hlt] at hl'
              unfold scO at hl'
              refine ⟨j1, fun H2 => ∃ B2 e2 acc ks, Go (ga X) B1 H1 e1 σ B2 H2 e2 σ ∧ Emp e2 vs ∧ H2 D = some (SetG X.prog X.w D ks) ∧ Mem ks acc ∧ B2 D = none ∧ ¬ own e2 σ D ∧
                scO t m1 t1 te vs vs1 (s.items.drop (k + 1)) acc e2 = some (acc0, e0), fun H2 ⟨B2, e2, ac, kk, h1, h2, h3, h4, h5, h6, h7⟩ => ⟨s.items.length - (k + 1), by omega, rfl, hlt, B2, e2, ac, kk, h1, h2, h3, h4, h5, h6, h7⟩, fun x H'' y => ?_⟩
              obtain ⟨B'', lt, rx⟩ := j2 x H'' y
              have gw := lt.go (g'.sr.ag em (ag_wipe σ vs))
              refine ⟨B'', e', _, gw.sr, rx, ?_⟩
              cases h1 : t s.items[k] e' with
              | none => rw [h1] at hl'; cases hl'
              | some e2 =>
                rw [h1] at hl'
                dsimp only at hl' ⊢
                intro B2 H2 σ2 g2 k2
                have ag2 : Ag vs (wipe σ vs) σ2 := kp_ag k2
                refine ⟨(wipe_ag ag2).symm.trans (wipe_ag (ag_wipe σ vs)).symm, B2, e2, g2.sr, ?_⟩
                cases h2 : m1 e2 with
                | bad => rw [h2] at hl'; cases hl'
                | exc c u e3 => rw [h2] at hl'; cases hl'
                | ok s1 e3 =>
                  rw [h2] at hl'
                  dsimp only at hl' ⊢
                  intro J1 B3 H3 g3 io1 _
                  cases hg1 : s1.g with
                  | some i => rw [hg1] at hl'; cases hl'
                  | none =>
                    rw [hg1] at hl' io1
                    dsimp only at hl'
                    cases hl1 : scI t1 te vs1 s1.items acc (wipeE e3 vs1) with
                    | none => rw [hl1] at hl'; cases hl'
                    | some r1 =>
                      obtain ⟨acc1, e4⟩ := r1
                      rw [hl1] at hl'
                      dsimp only at hl'
                      -- from the turn's start to here
                      have G3 := (gw.trans g2).trans g3
                      have nd : ¬ own e' (wipe σ vs) D := fun w => nD' (own_ag em (ag_wipe σ vs).symm w)
                      have keep3 : H3 D = some (SetG X.prog X.w D ks) := G3.st.fr D _ hHD nd
                      have b3 : B3 D = none := G3.st.nb D _ hHD nd bD'
                      have n3 : ¬ own e3 σ2 D := fun w => by
                        rcases G3.sub _ w with z | z
                        · exact nd z
                        · rw [hHD] at z; cases z
                      have G3m := G3.minus b3 n3
                      refine ⟨fun j n H' => n = s1.items.length - j ∧ j ≤ s1.items.length ∧ ∃ B4 e5 ac kk, Go (ga X) B3 (rm H3 D) e3 σ2 B4 (rm H' D) e5 σ2 ∧ Emp e5 vs1 ∧ H' D = some (SetG X.prog X.w D kk) ∧ Mem kk ac ∧
                        scI t1 te vs1 (s1.items.drop j) ac e5 = some (acc1, e4), ⟨_, rfl, Nat.zero_le _, B3, wipeE e3 vs1, acc, ks, Go.wipeE (g3.sr.rm b3 n3), emp_wipe _ _, keep3, hm, by simpa using hl1⟩, ?_⟩
                      rintro j n H4 ⟨rfl, hj, B4, e5, ac, kk, g4, em1, hH4, hm4, hl4⟩
                      obtain ⟨sr4, b4, n4⟩ := g4.sr.unrm
                      by_cases hlt1 : j < s1.items.length
                      · refine .inr ?_
                        have hu1 : s1.items[j]? = some s1.items[j] := by simp [hlt1]
                        obtain ⟨i1, i2⟩ := io1.go B4 H4 j _ g4.st.bb sr4.bh trivial hu1
                        rw [List.drop_eq_getElem_cons hlt1] at hl4
                        unfold scI at hl4
                        refine ⟨i1, fun H5 => ∃ B5 e6 ac kk, Go (ga X) B3 (rm H3 D) e3 σ2 B5 (rm H5 D) e6 σ2 ∧ Emp e6 vs1 ∧ H5 D = some (SetG X.prog X.w D kk) ∧ Mem kk ac ∧
                          scI t1 te vs1 (s1.items.drop (j + 1)) ac e6 = some (acc1, e4), fun H5 ⟨B5, e6, ac, kk, h1, h2, h3, h4, h5⟩ => ⟨s1.items.length - (j + 1), by omega, rfl, hlt1, B5, e6, ac, kk, h1, h2, h3, h4, h5⟩, fun x1 H5 y1 => ?_⟩
                        obtain ⟨B5, lt1, rx1⟩ := i2 x1 H5 y1
                        have gw1 := lt1.go (sr4.ag em1 (ag_wipe σ2 vs1))
                        refine ⟨B5, e5, _, gw1.sr, rx1, ?_⟩
                        cases h5 : t1 s1.items[j] e5 with
                        | none => rw [h5] at hl4; cases hl4
                        | some e6 =>
                          rw [h5] at hl4
                          dsimp only at hl4 ⊢
                          intro B6 H6 σ3 g6 k6
                          have ag6 : Ag vs1 (wipe σ2 vs1) σ3 := kp_ag k6
                          refine ⟨(wipe_ag ag6).symm.trans (wipe_ag (ag_wipe σ2 vs1)).symm, B6, e6, g6.sr, ?_⟩
                          unfold tAt
                          cases h6 : te e6 with
                          | bad => rw [h6] at hl4; cases hl4
                          | exc c u e7 => rw [h6] at hl4; cases hl4
                          | ok y e7 =>
                            rw [h6] at hl4
                            dsimp only at hl4 ⊢
                            intro v B7 H7 g7 rv
                            cases y with
                            | str c =>
                              dsimp only at hl4
                              by_cases hsz : ac.length + 1 < PySem.scanBound
                              · rw [if_pos hsz] at hl4
                                have rv' : rep (ga X) B7 (.str c) v := rv
                                simp only [rep] at rv'
                                have gin := Go.blk em1 (ag_wipe σ2 vs1) ((gw1.trans g6).trans g7) ag6
                                have hH7 : H7 D = some (SetG X.prog X.w D kk) := gin.st.fr D _ hH4 n4
                                have b7 : B7 D = none := gin.st.nb D _ hH4 n4 b4
                                have n7 : ¬ own (wipeE e7 vs1) σ2 D := fun w => by
                                  rcases gin.sub _ w with z | z
                                  · exact n4 z
                                  · rw [hH4] at z; cases z
                                refine ⟨kk, c, rv', hH7, by have := hm4.2; omega, fun kk' ad => ?_⟩
                                refine ⟨B7, wipeE e7 vs1, ac ++ [c], kk', ?_, emp_wipe _ _, upd_same, hm4.add ad, hl4⟩
                                rw [rm_upd]
                                exact g4.trans (gin.minus b7 n7)
                              · rw [if_neg hsz] at hl4; cases hl4
                            | _ => cases hl4
                      · have ej : j = s1.items.length := by omega
                        subst ej
                        rw [List.drop_length] at hl4
                        unfold scI at hl4
                        injection hl4 with hl4
                        injection hl4 with ha he
                        subst ha he
                        refine .inl ⟨io1.stop B4 H4 g4.st.bb sr4.bh trivial, ?_⟩
                        have gm := g'.rmR hD bD' nD'
                        have gb := gm.trans (Go.blk em (ag_wipe σ vs) (G3m.trans g4) ag2)
                        have nb : ¬ own (wipeE e5 vs) σ D := gb.sr.unrm.2.2
                        have gf := Go.setD (o := SetG X.prog X.w D kk) gb hD b4 nb
                        rw [upd_rm hH4] at gf
                        exact ⟨B4, wipeE e5 vs, ac, kk, gf, emp_wipe _ _, hH4, hm4, b4, nb, hl'⟩
            · have ek : k = s.items.length := by omega
              subst ek
              rw [List.drop_length] at hl'
              unfold scO at hl'
              injection hl' with hl'
              injection hl' with ha he
              subst ha he
              refine .inl ⟨io.stop B' H' sb g'.sr.bh trivial, D, ks, acc, rfl, hHD, hm, h64, fun p hp => ?_⟩
              have G := g1.trans (Go.res (vs := vs) g1.sr g')
              exact q (.ref p) B' _ (G.trans (Go.alloc G.sr hp)) ⟨p, _, rfl, upd_same, ⟨_, rfl, (reps.strs _).mpr rfl⟩, G.sr.none_of hp, G.sr.not_own hp, G.may p (.inr hp)⟩
        · rw [if_neg h64] at q
          exact q.elim
end
end VS
set_option Elab.async false
set_option linter.all false
set_option maxRecDepth 100000
/-! VS30: sorted({..}). -/
namespace VS
open PySem PySem.Spec PyProof.Rows L2
section
variable {X : Cx} {W : WXX}
theorem KM'.nodup_len {xs ys : List Str} (h : xs.Nodup) (k : ∀ x ∈ xs, x ∈ ys) : xs.length ≤ ys.length := by
  induction xs generalizing ys with
  | nil => exact Nat.zero_le _
  | cons x r ih =>
    obtain ⟨n, h⟩ := List.nodup_cons.mp h
    have hx := k x List.mem_cons_self
    have := ih (ys := ys.erase x) h fun y hy => (List.mem_erase_of_ne (fun e => by subst e; exact n hy)).mpr (k y (List.mem_cons_of_mem _ hy))
    rw [List.length_erase_of_mem hx] at this
    have p := List.length_pos_of_mem hx
    rw [List.length_cons]
    omega
theorem dedS_le : ∀ xs : List Str, (dedS xs).length ≤ xs.length
  | [] => Nat.le_refl _
  | x :: r => by
    unfold dedS
    have := dedS_le r
    split <;> simp <;> omega
theorem cr_sortG (hc : X.calm = true) : CallR X (.builtin "sorted") (rSortG X.prog X.w) := by
  intro pins s σ H xs us Q I r h
  obtain ⟨D, ks, acc, rfl, hD, hm, h64, q⟩ := h
  rw [Vals.ref1 r]
  have sg := setG_get I hD
  have nd : ks.Nodup := by obtain ⟨_, _, _, _, _, _, _, _, nd, _⟩ := sg; exact nd
  have kl : ks.length ≤ (dedS acc).length := KM'.nodup_len nd fun y hy => mem_dedS.mpr ((hm.1 y).mp hy)
  refine VSet.sorted_sg sg (I.ok.hd hc) (by omega) fun s' p out c ns k g o hp hgt hi st pm => ?_
  have hn : H p = none := I.hok.fresh hp
  have e1 := sortSet_unique st pm nd hm.1
  have hlen : (ns.map V.str).length ≤ sizeLine := by rw [List.length_map, pm.length_eq, sizeLine_eq]; omega
  have J : Inv X pins σ (upd H p (.lst (ns.map V.str))) { s with heap := s'.heap, gens := s'.gens, drawn := s'.drawn, toks := s'.toks } :=
    I.call (ch := []) (Un.laid k hp hn) (I.hok.laid k hp ⟨hlen, out.toList, c, vals_of_strs hi, hgt⟩) (by rw [g]; exact I.bare) (fun _ z => nomatch z)
  have e : s' = { s with heap := s'.heap, gens := s'.gens, drawn := s'.drawn, toks := s'.toks } := by
    cases s'
    cases s
    cases o
    rfl
  rw [e]
  rw [e1] at J
  exact ⟨.ref p, _, J, rfl, q p hn⟩
theorem po_sc2 {elt tg iter tg1 iter1 : Expr} {scope : Scope} {own' : List (PySem.Str × Nat)} {p cpos pos : Pos} {m m1 : M Src} {t t1 : MT} {te : M U} {vs vs1 : List Nat} (hc : X.calm = true) (hN : X.N.Nodup) (hgl : Gl X "sorted") (hm : X.mg "sorted" = none) (hi : PIV X W tg iter m) (ok : BlkOk X.N X.env.scope scope own') (hvs : own'.map (·.2) = vs)
    (hv : ∀ i ∈ vs1, i ∈ own'.map (·.2)) (hg : BlkAll X scope fun Y => PGV Y (prB vs) tg t) (hi1 : BlkAll X scope fun Y => PIV Y W0 tg1 iter1 m1) (hg1 : BlkAll X scope fun Y => PGV Y (prB vs1) tg1 t1) (he : BlkAll X scope fun Y => PE Y elt (tG (ga X) W0 (rlV (ga X)) te))
    (hs : ∀ x, foldedSetIterable iter X.env x = pure x := by intro _; rfl) (hs1 : ∀ env x, foldedSetIterable iter1 env x = pure x := by intro _ _; rfl)
    (hst : starEach [sc2 elt tg iter tg1 iter1 scope cpos] X.env = [(false, eval (sc2 elt tg iter tg1 iter1 scope cpos) X.env)] := by rfl) :
    PO X W (.Call (.Name "sorted" p) [.SetComp elt [⟨tg, iter, [], 0⟩, ⟨tg1, iter1, [], 0⟩] scope cpos] [] pos) (mSc2 m t m1 t1 te vs vs1) := by
  subst hvs
  refine PEimp (pe_callB (cr_sortG hc) hgl hm bt_sorted (pa_cons (pe_sc2 (own := own') (vs1 := vs1) (g := gG (ga X) (prB (own'.map Prod.snd)) t) (g1 := gG (ga X) (prB vs1) t1) (wi := iG (ga X) W m) (wi1 := iG (ga X) W0 m1) (te := tG (ga X) W0 (rlV (ga X)) te) hc hN hi ok hv (fun s H C cl fp => hg s H C cl fp) (fun s H C cl fp => hi1 s H C cl fp) (fun s H C cl fp => hg1 s H C cl fp) (fun s H C cl fp => he s H C cl fp) hs hs1) pa_nil (by rw [hst]; rfl)) (by decide) (by decide) hst rfl) fun σ H Q q => ?_
  exact sc2_core' σ H Q q
end
end VS
set_option Elab.async false
set_option linter.all false
set_option maxRecDepth 100000
/-! VS31: len of a dict. -/
namespace VS
open PySem L2
def sLenD : OpN := fun us => match us with
  | [.dct kvs] => some (false, .int kvs.length)
  | _ => none
def rLenD (Γ : Ga) : List V → Hp → VK → Prop := fun xs H Q => ∃ B kvs a, Same B H ∧ xs = [.ref a] ∧ DN Γ B H a kvs ∧ Q (.int (kvs.length : Nat)) H
section
variable {X : Cx}
theorem repx_head {Γ : Ga} {B : Hp} : ∀ {kvs : List (U × U)} {xs : List Xe}, repx Γ B kvs xs → ∀ p ∈ kvs, isKx p.1 = true
  | [], _, _, p, hp => nomatch hp
  | (k, u) :: r, _, h, p, hp => by
    simp only [repx] at h
    obtain ⟨a, v, t, _, z, _, _, r3⟩ := h
    rcases List.mem_cons.mp hp with e | hp
    · subst e; exact z.1
    · exact repx_head r3 p hp
theorem repd_head {Γ : Ga} {B : Hp} : ∀ {kvs : List (U × U)} {xs : List (Key × V)}, repd Γ B kvs xs → ∀ p ∈ kvs, isK1 p.1 = true
  | [], _, _, p, hp => nomatch hp
  | (k, u) :: r, _, h, p, hp => by
    simp only [repd] at h
    obtain ⟨a, v, t, _, z, _, r3⟩ := h
    rcases List.mem_cons.mp hp with e | hp
    · subst e; exact (rep_key z).1
    · exact repd_head r3 p hp
theorem cr_lenD : CallR X (.builtin "len") (rLenD (ga X)) := by
  intro pins s σ H xs us Q I r h
  obtain ⟨B, kvs, a, sb, rfl, d, q⟩ := h
  obtain ⟨u, rfl, ru⟩ := vals1 r
  cases ru
  have fin : ∀ t s', Inv X pins σ H s' → EP X pins σ Q (.int (kvs.length : Nat) t) s' := fun t s' I' => ⟨.int (kvs.length : Nat), H, I', ⟨t, rfl⟩, q⟩
  have d0 := d
  rcases d with ⟨es, e, rd⟩ | ⟨xs, e, rx⟩
  · obtain ⟨vs, dd, p, hd, z⟩ := flatview I d0 (repd_head rd)
    have hl : kvs.length = vs.length := kr_len p
    have hz : vs.length ≤ 16777216 := by rw [← hl]; rw [PySem.sizeLine_eq] at z; exact z
    refine PySem.call_len_dict hd dd (by omega) ?_
    rw [← hl]
    exact fin _ _ (I.tok _)
  · cases kvs with
    | nil =>
      simp only [repx] at rx
      subst rx
      obtain ⟨x, _, _⟩ := (show ObjOk X.prog X.w H s.heap a (DX a []) from I.hok a _ e)
      exact (dxs_empty x).elim
    | cons p0 kvs =>
      obtain ⟨ys, dd, p, pw, hd, z⟩ := tupview I sb d0 (repx_head rx)
      have hl := xr_len p
      have hz : ys.length ≤ 16777216 := by rw [← hl]; rw [PySem.sizeLine_eq] at z; exact z
      refine PySem.call_len_dictH hd dd (by omega) ?_
      rw [← hl]
      exact fin _ _ (I.tok _)
theorem ok_lenD : CallOK X (.builtin "len") sLenD := by
  refine ⟨_, cr_lenD, fun {W B H e σ us xs z Q} sr q vx t => ?_⟩
  unfold sLenD at q
  split at q
  · rename_i kvs
    cases q
    obtain ⟨v, rfl, v1⟩ := vws1 vx
    obtain ⟨a, rfl, d⟩ := v1.dn sr.bh
    exact ⟨B, kvs, a, sr.bh, rfl, d, fin_val sr t (rep_int _)⟩
  · cases q
def sLenU : OpN := orN sLen sLenD
theorem ok_lenU : CallOK X (.builtin "len") sLenU := ok_len0.or ok_lenD
end
end VS
set_option Elab.async false
set_option linter.all false
set_option maxRecDepth 100000
/-! VS32: operators, len, properties of own classes. -/
namespace VS
open PySem L2
/-- a call that lets nothing out -/
def callO0 (n : Nat) (φ : Fs) (ods : List Od) : M (Bool × U) := fun e => match callO n φ ods e with
  | .ok r e' => .ok r e'
  | _ => .bad
section
variable {X : Cx} {W : WXX} {k n : Nat} {φ : Fs}
theorem tAt_callO0 {B H : Hp} {e : En} {σ : St} {ods : List Od} {Q : VK} (q : tAt (ga X) W (rlO (ga X)) (callO0 n φ ods) B H e σ Q) : tAt (ga X) (fun _ _ _ _ => False) (rlO (ga X)) (callO n φ ods) B H e σ Q := by
  unfold tAt callO0 at *
  cases h : callO n φ ods e with
  | ok r e' => rw [h] at q; exact q
  | exc c u e' => rw [h] at q; exact q.elim
  | bad => rw [h] at q; exact q.elim
theorem call_core0 {B H : Hp} {e : En} {σ : St} {S : Addr → Prop} {ods : List Od} {vs : List V} {Q : VK} (s : SR (ga X) B H e σ) (p : Paired (fun od v => (rlR (ga X)).r od v S B H e σ) ods vs) (q : tAt (ga X) W (rlO (ga X)) (callO0 n φ ods) B H e σ Q) :
    spV (ga X) n φ vs H Q (fun _ _ _ => False) := call_core s p (tAt_callO0 q)
theorem passF {P : Program} {w : World} {X : Cx} (hP : X.prog = P) (hw : X.w = w) : Passes (L2.CX P w) X (fun _ _ _ => False) := fun _ _ _ _ _ _ _ h => by
  obtain ⟨_, _, _, _, _, _, _, _, _, _, _, _, z⟩ := h
  exact z.elim
end
/-! ### a op b -/
def mOwn2 (c : Str) (φ : Fs) (ma mb : M Od) : M (Bool × U) := ma.bd fun x => mb.bd fun y => fun e => match rdO e x with
  | some (.ins c' _) => match rdO e y with
    | some (.ins c2 _) => if c' = c ∧ c2 = c then callO0 2 φ [x, y] e else .bad
    | _ => .bad
  | _ => .bad
section
variable {X : Cx} {W : WXX} {a b : Expr} {c d : Str} {k j : Nat} {φ : Fs} {C : Addr} {pos : Pos} {op : Operator} {ma mb : M Od}
theorem own2_core (cv : ClsV X.K X.mg c C) (σ : St) (H : Hp) (Q : VK) (h : tG (ga X) W (rlO (ga X)) (mOwn2 c φ ma mb) σ H Q) :
    tG (ga X) W (rlR (ga X)) ma σ H fun x H1 => tG (ga X) W (rlR (ga X)) mb σ H1 fun y H2 => ∃ p q dx dy fs gs, x = .ref p ∧ y = .ref q ∧ H2 p = some (.ins C dx fs) ∧ H2 q = some (.ins C dy gs) ∧ spV (ga X) 2 φ [x, y] H2 Q (fun _ _ _ => False) := by
  obtain ⟨B, e, sr, q⟩ := h
  refine ⟨B, e, sr, (tAt.bd q).mono fun x H1 ⟨B1, e1, od1, g1, r1, q1⟩ => ?_⟩
  refine ⟨B1, e1, g1.sr, (tAt.bd q1).mono fun y H2 ⟨B2, e2, od2, g2, r2, q2⟩ => ?_⟩
  have k1 := rlR.keep (S' := may H1 e1 σ) r1 g2
  unfold tAt at q2
  dsimp only at q2
  cases z1 : rdO e2 od1 with
  | none => rw [z1] at q2; exact q2.elim
  | some u =>
    rw [z1] at q2
    cases u with
    | ins c' fs =>
      dsimp only at q2
      cases z2 : rdO e2 od2 with
      | none => rw [z2] at q2; exact q2.elim
      | some u2 =>
        rw [z2] at q2
        cases u2 with
        | ins c2 gs =>
          dsimp only at q2
          by_cases ec : c' = c ∧ c2 = c
          · rw [if_pos ec] at q2
            obtain ⟨ec, ec2⟩ := ec
            subst ec
            subst ec2
            obtain ⟨p, C', dx, fs', rfl, hm1, hH1, _⟩ := (rlR.vw g2.sr k1 z1).ins g2.sr.bh
            obtain ⟨q, C2, dy, gs', rfl, hm2, hH2, _⟩ := (rlR.vw g2.sr r2 z2).ins g2.sr.bh
            have e1 : C' = C := by have := hm1.symm.trans cv.at_; simpa using this
            have e2' : C2 = C := by have := hm2.symm.trans cv.at_; simpa using this
            subst e1
            subst e2'
            exact ⟨p, q, dx, dy, fs', gs', rfl, rfl, hH1, hH2, call_core0 (W := W) g2.sr (.cons k1 (.cons r2 .nil)) q2⟩
          · rw [if_neg ec] at q2; exact q2.elim
        | _ => exact False.elim q2
    | _ => exact False.elim q2
theorem po_own2 (ct : Ct X W k) (cv : ClsV X.K X.mg c C) (sf : PySem.W.selfFirst X.K C = true) (hd : PySem.dunder op.info.2 = d) (F : MtV X.prog X.w X.K X.mg X.base j C d 2 φ) (hj : j ≤ k) (ha : PR X W a ma) (hb : PR X W b mb) : PO X W (.BinOp a op b pos) (mOwn2 c φ ma mb) := by
  obtain ⟨f, fd, ps, hm, ok, hbd⟩ := F.ex
  refine ⟨fun pins s σ H Q I h => ?_⟩
  refine wpAny_BinOp (binT ha hb I (own2_core (C := C) cv σ H Q h) fun v u s2 x y H2 I2 rx ry q => ?_)
  obtain ⟨p, r, dx, dy, fs, gs, rfl, rfl, h1, h2, sp⟩ := q
  cases (show v = Value.ref p from rx)
  cases (show u = Value.ref r from ry)
  obtain ⟨mA, J, _⟩ := ins_get I2.hok h1
  obtain ⟨mB, J', _⟩ := ins_get I2.hok h2
  obtain ⟨od, J, _⟩ := J.look
  obtain ⟨od', J', _⟩ := J'.look
  obtain ⟨m, hF⟩ := I2.fr
  refine PySem.W.binop_K hF I2.ok.mod.kin J J'.type sf (by rw [hd]; exact hm.at_) hm.fn ?_
  refine wpAny_mono (run_fn (us := [.ref p, .ref r]) (vs := [.ref p, .ref r]) (dvs := []) (ok.mono hj) ct.hr hbd .nil (passF rfl rfl) I2 (.cons rfl (.cons rfl .nil)) sp) (fun w s' z => ?_) fun _ _ x => x
  obtain ⟨z', H', I', rz, qz⟩ := z
  exact SlX.cmpback rz ⟨z', H', I', rz, qz⟩
end
/-! ### o.f, a property -/
def mProp (c : Str) (φ : Fs) (mo : M Od) : M (Bool × U) := mo.bd fun od e => match rdO e od with
  | some (.ins c' _) => if c' = c then callO0 1 φ [od] e else .bad
  | _ => .bad
/-- what a property's getter promises -/
structure PrV (P : Program) (w : World) (K : PySem.W.Frag) (mg : Str → Option Value) (base : Heap) (k : Nat) (C : Addr) (x : Str) (φ : Fs) : Prop where
  ex : ∃ p f fd ps, PropOf K C x p f ∧ FnOk P w K mg base (L2.CX P w) k f fd ps (spV ⟨P, w, K, mg⟩ 1 φ) ∧ Binds K fd ps []
section
variable {X : Cx} {W : WXX} {o : Expr} {c x : Str} {k j : Nat} {φ : Fs} {C : Addr} {pos : Pos} {mo : M Od}
theorem ins1_core (cv : ClsV X.K X.mg c C) (σ : St) (H : Hp) (Q : VK) (h : tG (ga X) W (rlO (ga X)) (mProp c φ mo) σ H Q) :
    tG (ga X) W (rlR (ga X)) mo σ H fun x H1 => ∃ p dx fs, x = .ref p ∧ H1 p = some (.ins C dx fs) ∧ spV (ga X) 1 φ [.ref p] H1 Q (fun _ _ _ => False) := by
  obtain ⟨B, e, sr, q⟩ := h
  refine ⟨B, e, sr, (tAt.bd q).mono fun x H1 ⟨B1, e1, od1, g1, r1, q1⟩ => ?_⟩
  unfold tAt at q1
  dsimp only at q1
  cases z1 : rdO e1 od1 with
  | none => rw [z1] at q1; exact q1.elim
  | some u =>
    rw [z1] at q1
    cases u with
    | ins c' fs =>
      dsimp only at q1
      by_cases ec : c' = c
      · rw [if_pos ec] at q1
        subst ec
        obtain ⟨p, C', dx, fs', rfl, hm1, hH1, _⟩ := (rlR.vw g1.sr r1 z1).ins g1.sr.bh
        have e1 : C' = C := by have := hm1.symm.trans cv.at_; simpa using this
        subst e1
        exact ⟨p, dx, fs', rfl, hH1, call_core0 (W := W) g1.sr (.cons r1 .nil) q1⟩
      · rw [if_neg ec] at q1; exact q1.elim
    | _ => exact False.elim q1
theorem po_prop (ct : Ct X W k) (cv : ClsV X.K X.mg c C) (F : PrV X.prog X.w X.K X.mg X.base j C x φ) (hj : j + 1 ≤ k) (ho : PR X W o mo) (hab : attributeBase o x X.env (eval o X.env) = eval o X.env := by rfl) : PO X W (.Attribute o x pos) (mProp c φ mo) := by
  obtain ⟨p, f, fd, ps, hp, ok, hbd⟩ := F.ex
  have hx : Passes (L2.CX X.prog X.w) X.nox (fun _ _ _ => False) := fun _ _ _ _ _ _ _ h => by
    obtain ⟨_, _, _, _, _, _, _, _, _, _, _, _, z⟩ := h
    exact z.elim
  refine PEimp (pe_prop (dvs := []) ho cv.cl hp ok (ct.hr.mono hj) hbd .nil hx hab) fun σ H Q h => ?_
  have := ins1_core (C := C) cv σ H Q h
  obtain ⟨B, e, sr, q⟩ := this
  exact ⟨B, e, sr, q.mono fun x H1 ⟨p, dx, fs, e1, e2, e3⟩ => ⟨p, dx, fs, e1, e2, e3⟩⟩
end
/-! ### len(o) -/
/-- a result that may be a length -/
noncomputable def lenR : R (Bool × U) → R (Bool × U)
  | .ok (false, .int i) e => if lim62 i && cdec (0 ≤ i) then .ok (false, .int i) e else .bad
  | _ => .bad
noncomputable def mLenX (c : Str) (φ : Fs) (m : M Od) : M (Bool × U) := m.bd fun od e => match rdO e od with
  | some (.ins c' _) => if c' = c then lenR (callO0 1 φ [od] e) else .bad
  | some u => match sLenU [u] with
    | some z => .ok z e
    | none => .bad
  | none => .bad
section
variable {X : Cx} {W : WXX} {ex : Expr} {c : Str} {k j : Nat} {φ : Fs} {C : Addr} {p pos : Pos} {m : M Od}
theorem po_lenX (ct : Ct X W k) (cv : ClsV X.K X.mg c C) (F : MtV X.prog X.w X.K X.mg X.base j C "__len__" 1 φ) (hj : j + 1 ≤ k) (hg : Gl X "len") (hml : X.mg "len" = none) (ha : PR X W ex m)
    (na : starEach [ex] X.env = (false, eval ex X.env) :: starEach [] X.env := by rfl) : PO X W (.Call (.Name "len" p) [ex] [] pos) (mLenX c φ m) := by
  obtain ⟨f, fd, ps, hm, ok, hbd⟩ := F.ex
  obtain ⟨rl, hl1, hl2⟩ := (ok_lenU (X := X)).ex
  refine ⟨fun pins s σ H Q I ⟨B, e, sr, q⟩ => ?_⟩
  refine PyProof.Rows.Call_ (ld_blt I hg hml PySem.boot_len ?_)
  refine PyProof.Rows.callWith_builtin1 (PyProof.Rows.args_cons (thn (ha.run pins s σ H _ I ⟨B, e, sr, tAt.bd (rl := rlR (ga X)) q⟩) fun v s1 ⟨x, H1, I1, rx, B1, e1, od, g1, r1, q1⟩ => PyProof.Rows.args_nil ?_) na) na rfl
  unfold tAt at q1
  dsimp only at q1
  cases z1 : rdO e1 od with
  | none => rw [z1] at q1; exact q1.elim
  | some u =>
    rw [z1] at q1
    have other : (match sLenU [u] with
      | some z => R.ok z e1
      | none => R.bad) = (match rdO e1 od with
      | some (.ins c' _) => if c' = c then lenR (callO0 1 φ [od] e1) else .bad
      | some u => match sLenU [u] with
        | some z => .ok z e1
        | none => .bad
      | none => .bad) → wpAny (model X.prog X.w) X.A (call (.builtin "len") [v]) (EP X pins σ Q) X.xe s1 := fun eq => by
      have q2 : tAt (ga X) W (rlO (ga X)) (fun e => match sLenU [u] with
        | some z => R.ok z e
        | none => R.bad) B1 H1 e1 σ Q := by
        unfold tAt
        dsimp only
        rw [eq, z1]
        exact q1
      unfold tAt at q2
      dsimp only at q2
      cases z3 : sLenU [u] with
      | none => rw [z3] at q2; exact q2.elim
      | some z =>
        rw [z3] at q2
        exact hl1 pins s1 σ H1 [x] [v] Q I1 (.cons rx .nil) (hl2 (W := W) g1.sr z3 (.cons (rlR.vw g1.sr r1 z1) .nil) q2)
    cases u with
    | ins c' fs =>
      dsimp only at q1
      by_cases ec : c' = c
      · rw [if_pos ec] at q1
        subst ec
        obtain ⟨a, C', dx, fs', rfl, hm1, hH1, _⟩ := (rlR.vw g1.sr r1 z1).ins g1.sr.bh
        have e2 : C' = C := by have := hm1.symm.trans cv.at_; simpa using this
        subst e2
        cases (show v = Value.ref a from rx)
        have q2 : tAt (ga X) W (rlO (ga X)) (callO0 1 φ [od]) B1 H1 e1 σ fun w H2 => ∃ i : Int, w = .int i ∧ (0 ≤ i ∧ i < 2 ^ 63) ∧ Q (.int i) H2 := by
          unfold tAt
          cases z4 : callO0 1 φ [od] e1 with
          | bad => rw [z4] at q1; exact q1.elim
          | exc _ _ _ => rw [z4] at q1; exact q1.elim
          | ok r e' =>
            rw [z4] at q1
            obtain ⟨o, w⟩ := r
            cases o with
            | true => exact q1.elim
            | false =>
              cases w with
              | int i =>
                unfold lenR at q1
                dsimp only at q1
                by_cases hi : (lim62 i && cdec (0 ≤ i)) = true
                · rw [if_pos hi] at q1
                  intro bv B' H' g r
                  have r' : rep (ga X) B' (.int i) bv := r
                  simp only [rep] at r'
                  unfold lim62 at hi
                  rw [Bool.and_eq_true, Bool.and_eq_true, cdec_iff, cdec_iff, cdec_iff] at hi
                  refine ⟨i, r', ⟨hi.2, by omega⟩, ?_⟩
                  rw [← r']
                  exact q1 bv B' H' g r
                · rw [if_neg hi] at q1; exact q1.elim
              | _ => exact False.elim q1
        have sp := call_core0 (W := W) g1.sr (.cons r1 .nil) q2
        obtain ⟨mA, J, _⟩ := ins_get I1.hok hH1
        obtain ⟨odd, J, _⟩ := J.look
        obtain ⟨mm, hF⟩ := I1.fr
        refine PySem.W.len_K hF I1.ok.mod.kin J hm.at_ hm.fn ?_
        have hr1 : Room j X.A.in1 := (ct.hr.mono hj).in1
        have hlen : ([Value.ref a] ++ ([] : List Value)).length = ps.length := by
          rw [← ok.len _ _ _ _ sp]; rfl
        refine wpAny_call (codeAny_mono (ok.run X.A.in1 X.stack s1 H1 ⟨[.ref a], []⟩ [.ref a] [.ref a] _ _ hr1 I1.env0.in1 (hbd _ [.ref a] I1.kIn hlen) (.cons rfl .nil) sp) fun r s' hq => ?_)
        cases r with
        | error er =>
          obtain ⟨_, _, _, _, _, _, _, _, _, _, _, _, z⟩ := hq
          exact z.elim
        | ok fl =>
          cases fl with
          | ret u =>
            obtain ⟨w, H', I3, rv, i, rfl, hb, q3⟩ := I1.after hq
            obtain ⟨t, rfl⟩ := (show ∃ t, u = Value.int i t from rv)
            refine ⟨hb, .int i, H', I3.tok _, ⟨_, rfl⟩, q3⟩
          | next => exact False.elim hq
          | brk => exact False.elim hq
          | cont => exact False.elim hq
      · rw [if_neg ec] at q1; exact q1.elim
    | non => exact other (by rw [z1])
    | bl b => exact other (by rw [z1])
    | int b => exact other (by rw [z1])
    | str b => exact other (by rw [z1])
    | tup b => exact other (by rw [z1])
    | lst b => exact other (by rw [z1])
    | dct b => exact other (by rw [z1])
    | set b => exact other (by rw [z1])
    | scr b => exact other (by rw [z1])
end
/-! ### a == b by an own == -/
def boolR : R (Bool × U) → R (Bool × U)
  | .ok (false, .bl b) e => .ok (false, .bl b) e
  | _ => .bad
/-- what instances of which class do -/
def mEqX (c : Str) (φ : Fs) (ma mb : M Od) : M (Bool × U) := ma.bd fun x => mb.bd fun y => fun e => match rdO e x with
  | some (.ins c' _) => match rdO e y with
    | some (.ins c2 _) => if c' = c ∧ c2 = c then boolR (callO0 2 φ [x, y] e) else .bad
    | _ => .bad
  | _ => op2 (sEq false) x y e
section
variable {X : Cx} {W : WXX} {a b : Expr} {c : Str} {k j : Nat} {φ : Fs} {C : Addr} {pos : Pos} {ma mb : M Od}
theorem pc_eqX (ct : Ct X W k) (cv : ClsV X.K X.mg c C) (sf : PySem.W.notFirst X.K C (.ref C) = true) (F : MtV X.prog X.w X.K X.mg X.base j C "__eq__" 2 φ) (hj : j ≤ k) (ha : PR X W a ma) (hb : PR X W b mb) : PC X .Eq a b (tG (ga X) W (rlO (ga X)) (mEqX c φ ma mb)) := by
  obtain ⟨f, fd, ps, hm, ok, hbd⟩ := F.ex
  obtain ⟨r0, hr1, hr2⟩ := (ok_eq (X := X) ct.hr.units).ex
  refine ⟨fun pins s σ H Q I h => ?_⟩
  have key : tG (ga X) W (rlR (ga X)) ma σ H fun x H1 => tG (ga X) W (rlR (ga X)) mb σ H1 fun y H2 =>
      (∃ p q dx dy fs gs, x = .ref p ∧ y = .ref q ∧ H2 p = some (.ins C dx fs) ∧ H2 q = some (.ins C dy gs) ∧ spV (ga X) 2 φ [x, y] H2 Q (fun _ _ _ => False)) ∨ r0 x y H2 Q := by
    obtain ⟨B, e, sr, q⟩ := h
    refine ⟨B, e, sr, (tAt.bd q).mono fun x H1 ⟨B1, e1, od1, g1, r1, q1⟩ => ?_⟩
    refine ⟨B1, e1, g1.sr, (tAt.bd q1).mono fun y H2 ⟨B2, e2, od2, g2, r2, q2⟩ => ?_⟩
    have k1 := rlR.keep (S' := may H1 e1 σ) r1 g2
    unfold tAt at q2
    dsimp only at q2
    have other : ((fun e => op2 (sEq false) od1 od2 e) e2 = (match rdO e2 od1 with
      | some (.ins c' _) => match rdO e2 od2 with
        | some (.ins c2 _) => if c' = c ∧ c2 = c then boolR (callO0 2 φ [od1, od2] e2) else .bad
        | _ => .bad
      | _ => op2 (sEq false) od1 od2 e2)) → r0 x y H2 Q := fun eq => by
      have q3 : tAt (ga X) W (rlO (ga X)) (op2 (sEq false) od1 od2) B2 H2 e2 σ Q := by
        unfold tAt
        dsimp only at eq
        rw [eq]
        exact q2
      obtain ⟨u, w, z, h1, h2, h3, h4⟩ := op2_ok q3
      exact hr2 (W := W) g2.sr h3 (rlR.vw g2.sr k1 h1) (rlR.vw g2.sr r2 h2) h4
    cases z1 : rdO e2 od1 with
    | none => exact .inr (other (by rw [z1]))
    | some u =>
      cases u with
      | ins c' fs =>
        rw [z1] at q2
        dsimp only at q2
        cases z2 : rdO e2 od2 with
        | none => rw [z2] at q2; exact q2.elim
        | some u2 =>
          rw [z2] at q2
          cases u2 with
          | ins c2 gs =>
            dsimp only at q2
            by_cases ec : c' = c ∧ c2 = c
            · rw [if_pos ec] at q2
              obtain ⟨ec, ec2⟩ := ec
              subst ec
              subst ec2
              obtain ⟨p, C', dx, fs', rfl, hm1, hH1, _⟩ := (rlR.vw g2.sr k1 z1).ins g2.sr.bh
              obtain ⟨q, C2, dy, gs', rfl, hm2, hH2, _⟩ := (rlR.vw g2.sr r2 z2).ins g2.sr.bh
              have e1 : C' = C := by have := hm1.symm.trans cv.at_; simpa using this
              have e2' : C2 = C := by have := hm2.symm.trans cv.at_; simpa using this
              subst e1
              subst e2'
              have q3 : tAt (ga X) W (rlO (ga X)) (callO0 2 φ [od1, od2]) B2 H2 e2 σ Q := by
                unfold tAt
                cases z4 : callO0 2 φ [od1, od2] e2 with
                | bad => rw [z4] at q2; exact q2.elim
                | exc _ _ _ => rw [z4] at q2; exact q2.elim
                | ok r e' =>
                  rw [z4] at q2
                  obtain ⟨o, w⟩ := r
                  cases o with
                  | true => exact q2.elim
                  | false =>
                    cases w with
                    | bl i => exact q2
                    | _ => exact False.elim q2
              exact .inl ⟨p, q, dx, dy, fs', gs', rfl, rfl, hH1, hH2, call_core0 (W := W) g2.sr (.cons k1 (.cons r2 .nil)) q3⟩
            · rw [if_neg ec] at q2; exact q2.elim
          | _ => exact False.elim q2
      | non => exact .inr (other (by rw [z1]))
      | bl b => exact .inr (other (by rw [z1]))
      | int b => exact .inr (other (by rw [z1]))
      | str b => exact .inr (other (by rw [z1]))
      | tup b => exact .inr (other (by rw [z1]))
      | lst b => exact .inr (other (by rw [z1]))
      | dct b => exact .inr (other (by rw [z1]))
      | set b => exact .inr (other (by rw [z1]))
      | scr b => exact .inr (other (by rw [z1]))
  refine binT ha hb I key fun v u s2 x y H2 I2 rx ry q => ?_
  rcases q with q | q
  · obtain ⟨p, r, dx, dy, fs, gs, rfl, rfl, h1, h2, sp⟩ := q
    cases (show v = Value.ref p from rx)
    cases (show u = Value.ref r from ry)
    obtain ⟨mA, J, _⟩ := ins_get I2.hok h1
    obtain ⟨mB, J', _⟩ := ins_get I2.hok h2
    obtain ⟨od, J, _⟩ := J.look
    obtain ⟨od', J', _⟩ := J'.look
    obtain ⟨m, hF⟩ := I2.fr
    show wpAny _ _ (richCompare .Eq (.ref p) (.ref r)) _ _ _
    refine PySem.W.cmp_K (op := .Eq) (tb := .ref C) ct.hr.units0 hF I2.ok.mod.kin J J'.type sf hm.at_ hm.fn ?_
    refine wpAny_mono (run_fn (us := [.ref p, .ref r]) (vs := [.ref p, .ref r]) (dvs := []) (ok.mono hj) ct.hr hbd .nil (passF rfl rfl) I2 (.cons rfl (.cons rfl .nil)) sp) (fun w s' z => ?_) fun _ _ x => x
    obtain ⟨z', H', I', rz, qz⟩ := z
    exact SlX.cmpback rz ⟨z', H', I', rz, qz⟩
  · exact hr1 pins s2 σ H2 x y v u Q I2 rx ry q
theorem po_eqX (ct : Ct X W k) (cv : ClsV X.K X.mg c C) (sf : PySem.W.notFirst X.K C (.ref C) = true) (F : MtV X.prog X.w X.K X.mg X.base j C "__eq__" 2 φ) (hj : j ≤ k) (ha : PR X W a ma) (hb : PR X W b mb) (hm : behindInMarks .Eq b = false) :
    PO X W (.Compare a [.Eq] [b] pos) (mEqX c φ ma mb) := pe_cmp (pc_eqX ct cv sf F hj ha hb) hm
theorem pt_eqX (ct : Ct X W k) (cv : ClsV X.K X.mg c C) (sf : PySem.W.notFirst X.K C (.ref C) = true) (F : MtV X.prog X.w X.K X.mg X.base j C "__eq__" 2 φ) (hj : j ≤ k) (ha : PR X W a ma) (hb : PR X W b mb) (hm : behindInMarks .Eq b = false) :
    PTB X W (.Compare a [.Eq] [b] pos) (mTst (mEqX c φ ma mb)) := PTimp (pt_cmp (pc_eqX ct cv sf F hj ha hb) hm) fun σ H Q q => tst_core (fun _ _ _ q => q) σ H Q q
end
/-! ### isinstance(x, C) of an own class -/
/-- what isinstance asks of an instance's class -/
structure IsiV (K : PySem.W.Frag) (C : Addr) : Prop where
  ha : PySem.W.findIn K (.ref C) "__class__" = some (some (.builtin "object.__class__"))
  hn : PySem.W.specialIn K (.builtin "object.__class__") "__get__" = some (some (.builtin "getset_descriptor.__get__"))
  htk : PySem.W.takesIn K (.builtin "object.__class__") = some true
  hm : PySem.W.mroIn K C (.type "object") = some true
def mIsC (c : Str) (m : M Od) : M (Bool × U) := m.bd fun od e => match rdO e od with
  | some (.ins c' _) => if c' = c then .ok (false, .bl true) e else .bad
  | _ => .bad
section
variable {X : Cx} {W : WXX} {ex : Expr} {c : Str} {C : Addr} {p pn pos : Pos} {m : M Od}
theorem po_isC (cv : ClsV X.K X.mg c C) (iv : IsiV X.K C) (hg : Gl X "isinstance") (hm : X.mg "isinstance" = none) (hg2 : Gl X c) (h : PR X W ex m) (hdb2 : (c == ("__debug__" : Str)) = false := by decide)
    (he : starEach [ex, .Name c pn] X.env = (false, eval ex X.env) :: starEach [.Name c pn] X.env := by rfl) (he2 : starEach [.Name c pn] X.env = [(false, eval (.Name c pn) X.env)] := by rfl) (hpl : (backTo pos (starEach [.Name c pn] X.env)).any (·.1) = false := by rfl) :
    PO X W (.Call (.Name "isinstance" p) [ex, .Name c pn] [] pos) (mIsC c m) := by
  have hb : bootBuiltins "isinstance" = some (.builtin "isinstance") := by decide +kernel
  refine PEimp (pe_callB call_isi hg hm hb (pa_cons h (pa_cons (pe_glob (v := .ref C) hg2 cv.at_ rfl hdb2) pa_nil he2) he) (by decide) (by decide) he hpl) fun σ H Q ⟨B, e, sr, q⟩ => ⟨B, e, sr, (tAt.bd q).mono fun v H1 ⟨B1, e1, od, g1, r1, q1⟩ => ?_⟩
  unfold tAt at q1
  dsimp only at q1
  cases z1 : rdO e1 od with
  | none => rw [z1] at q1; exact q1.elim
  | some u =>
    rw [z1] at q1
    cases u with
    | ins c' fs =>
      dsimp only at q1
      by_cases ec : c' = c
      · rw [if_pos ec] at q1
        subst ec
        obtain ⟨a, C', dx, fs', rfl, hm1, hH1, _⟩ := (rlR.vw g1.sr r1 z1).ins g1.sr.bh
        have e1 : C' = C := by have := hm1.symm.trans cv.at_; simpa using this
        subst e1
        have kk : PySem.W.kitOne X.K (.ref C') (.ref C') = some true := by unfold PySem.W.kitOne; simp
        exact ⟨.ref a, .ref C', .ref C', .ref C', true, rfl, .own C', .base (.ins hH1 cv.cl iv.ha iv.hn iv.htk iv.hm), kk, fin_val (W := W) g1.sr q1 (rep_bl _)⟩
      · rw [if_neg ec] at q1; exact q1.elim
    | _ => exact False.elim q1
end
end VS
set_option Elab.async false
set_option linter.all false
set_option maxRecDepth 100000
set_option maxHeartbeats 2000000
/-! VS33: sorted(list(d.items())), the keys texts, the values ints. -/
namespace VS
open PySem L2
/-- what is new may stay -/
theorem Go.grow {Γ : Ga} {B H H' : Hp} {e : En} {σ : St} (s : SR Γ B H e σ) (k : ∀ b o, H b = some o → H' b = some o) : Go Γ B H e σ (fun a => match H a with | some _ => B a | none => H' a) H' e σ := by
  have old : ∀ a o, H a = some o → (match H a with | some _ => B a | none => H' a) = B a := fun a o h => by rw [h]
  have sB : Same B (fun a => match H a with | some _ => B a | none => H' a) := fun a o h => (old a o (s.bh a o h)).trans h
  refine ⟨⟨sB, fun a o h _ => k a o h, fun a o h _ b => (old a o h).trans b⟩, ⟨fun a o h => ?_, s.ln, fun i u h => ?_, fun i u h => ?_, s.ds⟩, fun a z => .inl z⟩
  · cases q : H a with
    | none => rw [q] at h; exact h
    | some x =>
      rw [q] at h
      exact k a o (s.bh a o h)
  · obtain ⟨v, h1, h2⟩ := s.vl i u h
    exact ⟨v, h1, h2.mono sB⟩
  · obtain ⟨a, ho, h1, h2, h3, h4⟩ := s.ow i u h
    exact ⟨a, ho, h1, k _ _ h2, h3.mono sB, (old a _ h2).trans h4⟩

/-! ### the order -/
def lexK (p q : Str × Int) : Bool := if p.1 = q.1 then decide (p.2 < q.2) else decide (p.1.cps.toList < q.1.cps.toList)
def leK (p q : Str × Int) : Bool := !(lexK q p)
theorem leK_iff {p q : Str × Int} : leK p q = true ↔ (p.1 = q.1 ∧ p.2 ≤ q.2) ∨ (p.1 ≠ q.1 ∧ leS p.1 q.1 = true) := by
  unfold leK lexK leS
  by_cases e : q.1 = p.1
  · rw [if_pos e]
    simp [e]
  · have e' : ¬ p.1 = q.1 := fun z => e z.symm
    rw [if_neg e]
    simp [e']
theorem leK_trans (a b c : Str × Int) (h1 : leK a b = true) (h2 : leK b c = true) : leK a c = true := by
  rw [leK_iff] at *
  rcases h1 with ⟨e1, h1⟩ | ⟨n1, h1⟩
  · rcases h2 with ⟨e2, h2⟩ | ⟨n2, h2⟩
    · exact .inl ⟨e1.trans e2, Int.le_trans h1 h2⟩
    · exact .inr ⟨by rw [e1]; exact n2, by rw [e1]; exact h2⟩
  · rcases h2 with ⟨e2, h2⟩ | ⟨n2, h2⟩
    · exact .inr ⟨by rw [← e2]; exact n1, by rw [← e2]; exact h1⟩
    · refine .inr ⟨fun e => n1 ?_, leS_trans _ _ _ h1 h2⟩
      rw [e] at h1
      exact e.trans (leS_anti _ _ h1 h2)
theorem leK_total (a b : Str × Int) : (leK a b || leK b a) = true := by
  rw [Bool.or_eq_true, leK_iff, leK_iff]
  by_cases e : a.1 = b.1
  · rcases Int.le_total a.2 b.2 with h | h
    · exact .inl (.inl ⟨e, h⟩)
    · exact .inr (.inl ⟨e.symm, h⟩)
  · have t := leS_total a.1 b.1
    rw [Bool.or_eq_true] at t
    rcases t with h | h
    · exact .inl (.inr ⟨e, h⟩)
    · exact .inr (.inr ⟨fun z => e z.symm, h⟩)
theorem leK_anti (a b : Str × Int) (h1 : leK a b = true) (h2 : leK b a = true) : a = b := by
  rw [leK_iff] at *
  rcases h1 with ⟨e1, h1⟩ | ⟨n1, h1⟩
  · rcases h2 with ⟨e2, h2⟩ | ⟨n2, h2⟩
    · exact Prod.ext e1 (Int.le_antisymm h1 h2)
    · exact absurd e1.symm n2
  · rcases h2 with ⟨e2, h2⟩ | ⟨n2, h2⟩
    · exact absurd e2.symm n1
    · exact absurd (leS_anti _ _ h1 h2) n1
theorem lexK_no {p q : Str × Int} : lexK p q = false ↔ leK q p = true := by
  unfold leK
  cases lexK p q <;> simp
theorem swo_lexK {α : Type} (k : α → Str × Int) : SrtO.Swo fun v u => lexK (k v) (k u) := by
  refine ⟨fun x y h => ?_, fun x y z h1 h2 => ?_⟩
  · rw [lexK_no]
    have t := leK_total (k x) (k y)
    have n : leK (k y) (k x) = false := by unfold leK; rw [h]; rfl
    rw [n, Bool.or_false] at t
    exact t
  · rw [lexK_no] at *
    exact leK_trans _ _ _ h1 h2
def sortK (xs : List (Str × Int)) : List (Str × Int) := xs.mergeSort leK
theorem sortK_unique {xs ys : List (Str × Int)} (p : ys.Perm xs) (h : ys.Pairwise (fun a b => leK a b = true)) : ys = sortK xs :=
  List.Perm.eq_of_pairwise (le := fun a b => leK a b = true) (fun a b _ _ => leK_anti a b) h (List.pairwise_mergeSort leK_trans leK_total xs) (p.trans (List.mergeSort_perm xs leK).symm)

/-! ### comparing -/
section
open PyProof.Rows SrtO
variable {prog : Program} {w : World} {A : Around} {E : Value → Shared → Prop} {s : Shared}
def IsKI (h : Heap) (v : Value) (x : Str) (i : Int) : Prop := ∃ a o t u n, v = .ref a ∧ h.get? a = some o ∧ o.cls = .type "tuple" ∧ o.data = .seq #[.str x t, .int i u] n
theorem IsKI.keeps {h h' : Heap} {v : Value} {x : Str} {y : Int} (p : IsKI h v x y) (k : ∀ b o, h.get? b = some o → o.cls = .type "tuple" → h'.get? b = some o) : IsKI h' v x y := by
  obtain ⟨a, o, t, u, n, e, ho, hc, hd⟩ := p
  exact ⟨a, o, t, u, n, e, k _ _ ho hc, hc, hd⟩
theorem ki_cmp {vs : List Value} {k : Value → Str × Int} (hp : ∀ v ∈ vs, IsKI s.heap v (k v).1 (k v).2) : SrtO.Cmp prog w A s (tuples' true) (fun p => p.1 ∈ vs) (lt2 fun v u => lexK (k v) (k u)) := by
  intro p q hm hm'
  have h1 := hp _ hm
  have h2 := hp _ hm'
  show wpAny (model prog w) A (keyLt' (tuples' true) p.1 q.1) (fun r s' => s' = s ∧ r = lexK (k p.1) (k q.1)) (fun _ _ => False) s
  unfold lexK
  generalize (k p.1).1 = x at h1 ⊢
  generalize (k p.1).2 = y at h1 ⊢
  generalize (k q.1).1 = x' at h2 ⊢
  generalize (k q.1).2 = y' at h2 ⊢
  obtain ⟨a, o, t, u, n, e, ho, hc, hd⟩ := h1
  obtain ⟨a', o', t', u', n', e', ho', hc', hd'⟩ := h2
  rw [e, e']
  refine PySem.W.kat_lt ho hd ho' hd' ?_
  show PySem.W.KatLex prog w A true (decide (2 < 2)) _ [(.str x t, .str x' t'), (.int y u, .int y' u')] 0 s
  refine PySem.W.kat_cons (SeqAt.EqAt.str_str x t x' t' prog w _ _ ?_)
  refine PySem.W.kat_go (fun e1 => ?_) (fun e1 => ?_)
  · have ex : x = x' := by simpa using e1
    refine PySem.W.kat_yes (PySem.W.kat_cons (SeqAt.EqAt.int_int y u y' u' prog w _ _ ?_))
    refine PySem.W.kat_go (fun e2 => ?_) (fun e2 => ?_)
    · have ey : y = y' := by simpa using e2
      have e3 : (if x = x' then decide (y < y') else decide (x.cps.toList < x'.cps.toList)) = false := by
        rw [if_pos ex, ey]
        exact decide_eq_false (Int.lt_irrefl _)
      exact PySem.W.kat_yes (PySem.W.kat_nil ⟨rfl, e3.symm⟩)
    · have e3 : (if x = x' then decide (y < y') else decide (x.cps.toList < x'.cps.toList)) = decide (y < y') := if_pos ex
      refine PySem.W.kat_no (PySem.W.kat_one _ _ (PyProof.Rows.lt_int ?_))
      exact (show s = s ∧ decide (y < y') = (if x = x' then decide (y < y') else decide (x.cps.toList < x'.cps.toList)) from ⟨rfl, e3.symm⟩)
  · have ex : ¬ x = x' := by simpa using e1
    have e3 : (if x = x' then decide (y < y') else decide (x.cps.toList < x'.cps.toList)) = decide (x.cps.toList < x'.cps.toList) := if_neg ex
    exact PySem.W.kat_no (oneLt_str ⟨rfl, e3.symm⟩)
theorem ki_firsts {h : Heap} : ∀ {vs : List Value}, (∀ v ∈ vs, ∃ x y, IsKI h v x y) → ∃ fs : List Value, PySem.W.KatTups h vs fs ∧ fs.length = vs.length ∧ ∀ f ∈ fs, ∃ x t, f = Value.str x t
  | [], _ => ⟨[], PySem.W.KatTups.nil, rfl, fun _ hm => by simp at hm⟩
  | v :: vs, hp => by
    obtain ⟨fs, h1, h2, h3⟩ := ki_firsts (vs := vs) fun v' hm => hp v' (List.mem_cons_of_mem _ hm)
    obtain ⟨x, y, a, o, t, u, n, e, ho, hc, hd⟩ := hp v (List.mem_cons_self ..)
    subst e
    refine ⟨.str x t :: fs, PySem.W.KatTups.cons ho hc hd rfl h1, by rw [List.length_cons, List.length_cons, h2], fun f hm => ?_⟩
    rcases List.mem_cons.mp hm with rfl | hm
    · exact ⟨x, t, rfl⟩
    · exact h3 f hm
theorem ki_sortable {a : Addr} {vs : List Value} {k : Value → Str × Int} (h0 : 0 < vs.length) (hp : ∀ v ∈ vs, IsKI s.heap v (k v).1 (k v).2) (ha : ∀ o, s.heap.get? a = some o → o.cls ≠ .type "tuple") : SortableO prog w A s a vs fun v u => lexK (k v) (k u) := by
  intro h' keep
  have hp' : ∀ v ∈ vs, IsKI h' v (k v).1 (k v).2 := fun v hm => (hp v hm).keeps fun b o e c => keep b o (fun z => by subst z; exact ha o e c) e
  obtain ⟨fs, h1, h2, h3⟩ := ki_firsts fun v hm => ⟨_, _, hp' v hm⟩
  refine ⟨tuples' true, fun Q E hq => ?_, ki_cmp hp'⟩
  refine PySem.W.kat_kind (T := .type "str") h1 (by omega) (fun f hm => ?_) (by rfl) ?_
  · obtain ⟨x, t, rfl⟩ := h3 f hm
    exact PySem.W.Looks.now
  · have e : (Value.type "str" != Value.type "tuple") = true := by first | decide +kernel | rfl | decide
    rw [e]
    exact hq
theorem sorted_ki {l : Addr} {vs : List Value} {k : Value → Str × Int} {Q : Value → Shared → Prop} (hl : s.heap.IsList l vs.toArray) (hz : vs.length ≤ sizeLine) (hp : ∀ v ∈ vs, IsKI s.heap v (k v).1 (k v).2)
    (h : ∀ (h' : Heap) (d : Addr) (out : List Value), Srtd (fun v u => lexK (k v) (k u)) out → Stb (fun v u => lexK (k v) (k u)) out vs → (∀ b o, s.heap.get? b = some o → h'.get? b = some o) → s.heap.objs.size ≤ d → (∃ n, h'.get? d = some (seqObj "list" out.toArray n)) → Q (.ref d) { s with heap := h' }) :
    wpAny (model prog w) A (call (.builtin "sorted") [.ref l]) Q E s := by
  refine sorted_ord (swo_lexK k) hl hz (fun h2 h₁ a ha kk => ?_) fun out hs hb => ?_
  · refine ki_sortable (s := { s with heap := h₁ }) (by omega) (fun v hm => (hp v hm).keeps fun b o e _ => (kk b o e).2) fun o e => ?_
    have e' : some o = some (seqObj "list" vs.toArray 0) := e.symm.trans ha
    cases e'
    intro c
    exact absurd (Value.type.inj c) (by decide)
  · exact h _ _ out hs hb (fun b o e => sortedAll_old e) (Nat.le_succ _) (sortedAll_at s.heap vs out.toArray)
end
end VS
set_option Elab.async false
set_option linter.all false
set_option maxRecDepth 100000
set_option maxHeartbeats 2000000
/-! VS34: list(d.items()); sorted of a list of pairs (text, int). -/
namespace VS
open PySem L2
section
open PyProof.Rows LiI
variable {X : Cx} {W : WXX} {e : Expr} {te : TE} {p apos cpos pos : Pos}
def rItemsR : V → Hp → VK → Prop := fun x H Q => ∃ (d : Addr) (kvs : List (Key × V)), x = .ref d ∧ (H d = some (DX d []) ∨ Rd H d (.dK kvs) ∧
  ∀ (H' : Hp) (p : Addr) (ts : List Addr), (∀ b o, H b = some o → H' b = some o) → H' p = none → (∀ t ∈ ts, H t = none) → Paired (fun (t : Addr) (q : Key × V) => H' t = some (.tup [kV q.1, q.2])) ts kvs → Q (.ref p) (upd H' p (.lst (ts.map V.ref))))
def tItemsR (te : TE) : TE := fun σ H Q => te σ H fun x H1 => rItemsR x H1 Q
theorem pe_itemsR (hc : X.calm = true) (he : PE X e te) (hg : Gl X "list") (hm : X.mg "list" = none) (hv : bootBuiltins "list" = some (.type "list")) (hbase : attributeBase e "items" X.env (eval e X.env) = eval e X.env := by rfl) (hline : (apos.endLine == cpos.line) = true := by rfl)
    (hs : starEach [.Call (.Attribute e "items" apos) [] [] cpos] X.env = (false, eval (.Call (.Attribute e "items" apos) [] [] cpos) X.env) :: starEach [] X.env := by rfl) :
    PE X (.Call (.Name "list" p) [.Call (.Attribute e "items" apos) [] [] cpos] [] pos) (tItemsR te) := by
  refine ⟨fun pins s σ H Q I hq => ?_⟩
  refine wpAny_Call_Name_kw (ld_blt I hg hm hv ?_)
  refine PyProof.Rows.callWith_type1 ?_ hs rfl
  rw [hs]
  show wpAny _ _ (spliced ((false, eval (.Call (.Attribute e "items" apos) [] [] cpos) X.env) :: backTo pos (starEach [] X.env))) _ _ s
  refine Calls.spliced_cons ?_
  refine wpAny_Call_method (T := "dict") (id := "dict.items") hbase rfl hline F.plainAttrs_dict F.slot_dict_items F.type_dict_items (thn (he.run pins s σ H _ I hq) fun u s1 ⟨x, H1, I1, rx, d, kvs, ex, hd⟩ => ?_)
  subst ex
  obtain rfl : u = Value.ref d := rx
  rcases hd with hd | ⟨hd, q⟩
  · obtain ⟨z, _, _⟩ := (show ObjOk X.prog X.w H1 s1.heap d (DX d []) from I1.hok d _ hd)
    exact (dxs_empty z).elim
  obtain ⟨hz, hs0, vs, kv, hdo⟩ := dk_rd I1.hok hd
  obtain ⟨ep, hat⟩ := hdo.dictAt
  have lk : kvs.length = vs.length := Paired.length kv
  have I2 : Inv X pins σ H1 { s1 with heap := s1.heap.push { cls := .type "dict_items", data := .fields #[.ref d] } } := I1.kept (t' := s1.toks) fun b ob q => Heap.get?_push_of_some _ q
  refine ⟨hdo.typeIs, hdo.mapOf.noDict, ?_⟩
  show wpAny _ _ (callWith cpos (.builtin "dict.items") [.ref d] [] []) _ X.xe s1
  refine method_meetsIn F.slot_dict_items F.entry_dict_items rfl (PySem.evalArgs_none ⟨rfl, hdo.typeIs, F.args_dict_items_1 _, _, meets_dict_items (mixKind X.prog X.w) d hs0, ⟨vs, hdo⟩, ?_⟩)
  refine Calls.spliced_nil ?_
  refine PySem.W.kdx_call (knd := mixKind X.prog X.w) (kvs := vs) (ep := ep) (I1.ok.hd hc) ⟨_, Heap.get?_push_size _ rfl, rfl, rfl⟩ (hat.push _) (by omega) fun h' tk acc c as hk hS hl hG hacc => ?_
  obtain ⟨H', k1, k2, k3, k4, k5, k6, J⟩ := items_laid (tk := tk) I2 hz kv hk hS hl hG hacc
  generalize hp : (s1.heap.push { cls := .type "dict_items", data := .fields #[.ref d] }).objs.size = pp at *
  -- without the list
  let H2 : Hp := fun a => if a = pp then none else H' a
  have hH : H' = upd H2 pp (.lst (as.map V.ref)) := by
    funext a
    by_cases ha : a = pp
    · subst ha
      rw [k5, upd_same]
    · rw [upd_ne ha]
      show _ = (if a = pp then none else H' a)
      rw [if_neg ha]
  have h2n : H2 pp = none := if_pos rfl
  have kp : ∀ b o, H1 b = some o → H2 b = some o := fun b o hb => by
    have : b ≠ pp := fun z => by rw [z, k2] at hb; cases hb
    show (if b = pp then none else H' b) = some o
    rw [if_neg this]
    exact k1 b o hb
  have pr : Paired (fun (t : Addr) (q : Key × V) => H2 t = some (.tup [kV q.1, q.2])) as kvs := by
    have : ∀ {ts : List Addr} {ks : List (Key × V)}, (∀ t ∈ ts, t ≠ pp) → Paired (fun (t : Addr) (q : Key × V) => H' t = some (.tup [kV q.1, q.2])) ts ks → Paired (fun (t : Addr) (q : Key × V) => H2 t = some (.tup [kV q.1, q.2])) ts ks := by
      intro ts ks n h
      induction h with
      | nil => exact .nil
      | cons r t ih =>
        refine .cons ?_ (ih fun t ht => n t (List.mem_cons_of_mem _ ht))
        show (if _ = pp then none else H' _) = _
        rw [if_neg (n _ List.mem_cons_self)]
        exact r
    exact this (fun t ht z => k4 (z ▸ ht)) k6
  have fin := q H2 pp as kp h2n k3 pr
  rw [← hH] at fin
  exact ⟨.ref pp, H', J, rfl, fin⟩
def mLIt (m : M Od) : M (Bool × U) := m.bd fun od e => match rdO e od with
  | some (.dct kvs) => if kvs.all (fun p => isK1 p.1) then .ok (true, .lst (kvs.map fun p => .tup [p.1, p.2])) e else .bad
  | _ => .bad
theorem items_reps {Γ : Ga} {B B' : Hp} (s : Same B B') : ∀ {kvs : List (U × U)} {es : List (Key × V)} {ts : List Addr}, repd Γ B kvs es → Paired (fun (t : Addr) (q : Key × V) => B' t = some (.tup [kV q.1, q.2])) ts es → reps Γ B' (kvs.map fun p => .tup [p.1, p.2]) (ts.map V.ref)
  | [], _, _, r, h => by
    simp only [repd] at r
    subst r
    cases h
    simp only [List.map_nil, reps]
  | (k, u) :: kvs, _, _, r, h => by
    simp only [repd] at r
    obtain ⟨l, v, t, rfl, r1, r2, r3⟩ := r
    cases h with
    | cons h1 h2 =>
      rw [List.map_cons, List.map_cons]
      simp only [reps]
      refine ⟨_, _, rfl, ?_, items_reps s r3 h2⟩
      simp only [rep]
      refine ⟨_, _, rfl, SqT.of h1, ?_⟩
      simp only [reps]
      exact ⟨_, _, rfl, r1.mono s, _, _, rfl, r2.mono s, rfl⟩
theorem po_lit {m : M Od} (hc : X.calm = true) (he : PR X W e m) (hm : X.mg "list" = none) (hg : Gl X "list") (hbase : attributeBase e "items" X.env (eval e X.env) = eval e X.env := by rfl) (hline : (apos.endLine == cpos.line) = true := by rfl)
    (hs : starEach [.Call (.Attribute e "items" apos) [] [] cpos] X.env = (false, eval (.Call (.Attribute e "items" apos) [] [] cpos) X.env) :: starEach [] X.env := by rfl) :
    PO X W (.Call (.Name "list" p) [.Call (.Attribute e "items" apos) [] [] cpos] [] pos) (mLIt m) := by
  refine ⟨fun pins s σ H Q I h => ?_⟩
  have bt : bootBuiltins "list" = some (.type "list") := by rfl
  obtain ⟨B, e0, sr, q⟩ := h
  -- DX cannot be
  have key : PE X (.Call (.Name "list" p) [.Call (.Attribute e "items" apos) [] [] cpos] [] pos) (tItemsR (tG (ga X) W (rlR (ga X)) m)) := pe_itemsR hc he hg hm bt hbase hline hs
  refine key.run pins s σ H Q I ⟨B, e0, sr, (tAt.bd q).mono fun x H1 ⟨B1, e1, od, g1, r1, q1⟩ => ?_⟩
  unfold tAt at q1
  dsimp only at q1
  cases z1 : rdO e1 od with
  | none => rw [z1] at q1; exact q1.elim
  | some u =>
    rw [z1] at q1
    cases u with
    | dct kvs =>
      dsimp only at q1
      by_cases c : kvs.all (fun p => isK1 p.1) = true
      · rw [if_pos c] at q1
        obtain ⟨a, rfl, d⟩ := (rlR.vw g1.sr r1 z1).dn g1.sr.bh
        rcases d with ⟨es, e2, rd⟩ | ⟨xs, e2, rx⟩
        · refine ⟨a, es, rfl, .inr ⟨e2, fun H' p ts k hp new pr => ?_⟩⟩
          have g2 := Go.grow g1.sr k
          have q2 : tAt (ga X) W (rlO (ga X)) (M.ret (true, U.lst (kvs.map fun p => .tup [p.1, p.2]))) (fun a => match H1 a with | some _ => B1 a | none => H' a) H' e1 σ Q := fun b B' H'' g r => q1 b B' H'' (g2.trans g) ((rlO (ga X)).mono g2.may r)
          refine fin_new (ho := fun _ => .lst (ts.map V.ref)) g2.sr q2 (fun p => ⟨_, rfl, ?_⟩) p hp
          refine items_reps g2.st.bb rd ?_
          have : ∀ {ts : List Addr} {ks : List (Key × V)}, (∀ t ∈ ts, H1 t = none) → Paired (fun (t : Addr) (q : Key × V) => H' t = some (.tup [kV q.1, q.2])) ts ks → Paired (fun (t : Addr) (q : Key × V) => (match H1 t with | some _ => B1 t | none => H' t) = some (.tup [kV q.1, q.2])) ts ks := by
            intro ts ks n h
            induction h with
            | nil => exact .nil
            | cons r t ih =>
              refine .cons ?_ (ih fun t ht => n t (List.mem_cons_of_mem _ ht))
              rw [n _ List.mem_cons_self]
              exact r
          exact this new pr
        · cases kvs with
          | cons p kvs =>
            obtain ⟨a1, _, _⟩ := rx.all
            have h1 := a1 p List.mem_cons_self
            rw [List.all_cons, Bool.and_eq_true] at c
            obtain ⟨k, u⟩ := p
            cases k <;> simp [isKx, isK1] at h1 c
          | nil =>
            simp only [repx] at rx
            subst rx
            exact ⟨a, [], rfl, .inl e2⟩
      · rw [if_neg c] at q1
        exact q1.elim
    | _ => exact False.elim q1

/-! ### sorted -/
def asKI : List U → Option (List (Str × Int))
  | [] => some []
  | .tup [.str x, .int i] :: r => (asKI r).map ((x, i) :: ·)
  | _ => none
theorem asKI_map (ps : List (Str × Int)) : asKI (ps.map fun p => .tup [.str p.1, .int p.2]) = some ps := by
  induction ps with
  | nil => rfl
  | cons n ns ih => rw [List.map_cons, asKI, ih]; rfl
theorem asKI_eq : ∀ {us : List U} {ps : List (Str × Int)}, asKI us = some ps → us = ps.map fun p => .tup [.str p.1, .int p.2]
  | [], ps, h => by injection h with h; subst h; rfl
  | u :: us, ps, h => by
    unfold asKI at h
    split at h
    · rename_i e
      cases e
    · rename_i x i r e
      cases e
      obtain ⟨q, h1, rfl⟩ := Option.map_eq_some_iff.mp h
      rw [asKI_eq h1]
      rfl
    · cases h
theorem Paired.mem_l {α β : Type} {F : α → β → Prop} {xs : List α} {ys : List β} (h : Paired F xs ys) {x : α} (m : x ∈ xs) : ∃ y, F x y := by
  obtain ⟨_, y, _, _, h⟩ := paired_ix h m
  exact ⟨y, h⟩
theorem paired_map {α β : Type} {F : α → β → Prop} {k : α → β} (u : ∀ x y, F x y → k x = y) {xs : List α} {ys : List β} (h : Paired F xs ys) : xs.map k = ys := by
  induction h with
  | nil => rfl
  | cons r t ih => rw [List.map_cons, ih, u _ _ r]
theorem map_paired {α β : Type} {F : α → β → Prop} {k : α → β} : ∀ {xs : List α}, (∀ x ∈ xs, F x (k x)) → Paired F xs (xs.map k)
  | [], _ => .nil
  | x :: xs, h => .cons (h x List.mem_cons_self) (map_paired fun y hy => h y (List.mem_cons_of_mem _ hy))
def rSortKI (K : PySem.W.Frag) : List V → Hp → VK → Prop := fun vs H Q => ∃ (a : Addr) (xs : List V) (ps : List (Str × Int)) (P : V → Str × Int → Prop), vs = [V.ref a] ∧ SqL K H a xs ∧ Paired P xs ps ∧
  (∀ x q, P x q → ∃ t, x = V.ref t ∧ SqT K H t [.str q.1, .int q.2]) ∧ ∀ ys p, Paired P ys (sortK ps) → H p = none → Q (.ref p) (upd H p (.lst ys))
open Classical in
theorem cr_sortKI : CallR X (.builtin "sorted") (rSortKI X.K) := by
  intro pins s σ H vs us Q I r h
  obtain ⟨a, xs, ps, P, rfl, hs, hp, hP, q⟩ := h
  obtain ⟨its, rv, hl, hz⟩ := I.list hs
  obtain ⟨u, rfl, ru⟩ := vals1 r
  obtain rfl : u = Value.ref a := ru
  obtain ⟨e1, e2⟩ := refs_back rv fun x m => by
    obtain ⟨y, hy⟩ := Paired.mem_l hp m
    obtain ⟨t, e, _⟩ := hP _ _ hy
    exact ⟨t, e⟩
  let k : V → Str × Int := fun x => if h : ∃ q, P x q then Classical.choose h else ("", 0)
  have ku : ∀ x q, P x q → k x = q := fun x q h => by
    have hx : ∃ q, P x q := ⟨q, h⟩
    have e : k x = Classical.choose hx := dif_pos hx
    obtain ⟨t, rfl, h1⟩ := hP _ _ h
    obtain ⟨t', e', h2⟩ := hP _ _ (Classical.choose_spec hx)
    cases e'
    have z := I.tuple_inj h2 h1
    rw [e]
    injection z with z1 z2
    injection z2 with z2 _
    injection z1 with z1
    injection z2 with z2
    exact Prod.ext z1 z2
  have km : ∀ x ∈ xs, P x (k x) := fun x m => by
    obtain ⟨y, hy⟩ := Paired.mem_l hp m
    rw [ku x y hy]
    exact hy
  refine sorted_ki (k := fun u => k (backV u)) hl.isList (by rw [← rv.length]; exact hz) (fun v hv => ?_) fun h' d out h1 h2 kp hd hn => ?_
  · obtain ⟨t, rfl⟩ := e2 v hv
    have hm : V.ref t ∈ xs := by rw [e1]; exact List.mem_map.mpr ⟨_, hv, rfl⟩
    obtain ⟨t', e, ht⟩ := hP _ _ (km _ hm)
    cases e
    obtain ⟨its2, r2, ⟨o, ho, hc, n, hd⟩, _⟩ := I.tuple ht
    obtain ⟨u1, u2, rfl, ri, rj⟩ := vals2 r2
    obtain ⟨t1, rfl⟩ := ri
    obtain ⟨t2, rfl⟩ := rj
    exact ⟨t, o, t1, t2, n, rfl, ho, hc, hd⟩
  · have h3 : ∀ u ∈ out, ∃ a, u = Value.ref a := fun u hu => e2 u (h2.perm.mem_iff.mp hu)
    obtain ⟨n, hn⟩ := hn
    have pm : (out.map backV).Perm xs := by
      rw [e1]
      exact h2.perm.map backV
    have e4 : (out.map backV).map k = sortK ps := by
      refine sortK_unique ?_ ?_
      · rw [← paired_map ku hp]
        exact pm.map k
      · rw [List.map_map]
        refine List.pairwise_map.mpr (h1.imp fun {x y} z => ?_)
        exact lexK_no.mp z
    have pr : Paired P (out.map backV) (sortK ps) := by
      rw [← e4]
      exact map_paired fun x hx => km x (pm.mem_iff.mp hx)
    refine ⟨.ref d, upd H d (.lst (out.map backV)), I.laid (t' := s.toks) kp hd ⟨?_, out, n, vals_back h3, hn⟩, rfl, q _ d pr (I.hok.fresh hd)⟩
    rw [pm.length_eq]
    exact hz
def sSortKI : OpN := fun us => match us with
  | [.lst ws] => match asKI ws with
    | some ps => some (true, .lst ((sortK ps).map fun p => .tup [.str p.1, .int p.2]))
    | none => none
  | _ => none
theorem reps_ki {Γ : Ga} {B : Hp} : ∀ {ps : List (Str × Int)} {xs : List V}, reps Γ B (ps.map fun p => .tup [.str p.1, .int p.2]) xs ↔ Paired (fun x (q : Str × Int) => rep Γ B (.tup [.str q.1, .int q.2]) x) xs ps
  | [], xs => by
    simp only [List.map_nil, reps]
    constructor
    · rintro rfl
      exact .nil
    · intro h
      cases h
      rfl
  | p :: ps, xs => by
    simp only [List.map_cons, reps]
    constructor
    · rintro ⟨v, r, rfl, h1, h2⟩
      exact .cons h1 (reps_ki.mp h2)
    · intro h
      cases h with
      | cons h1 h2 => exact ⟨_, _, rfl, h1, reps_ki.mpr h2⟩
theorem ok_sortKI : CallOK X (.builtin "sorted") sSortKI := by
  refine ⟨_, cr_sortKI, fun {W B H e σ us xs z Q} sr q vx t => ?_⟩
  unfold sSortKI at q
  split at q
  · rename_i ws
    split at q
    · rename_i ps hk
      cases q
      obtain ⟨v, rfl, v1⟩ := vws1 vx
      rw [asKI_eq hk] at v1
      obtain ⟨a, vs, rfl, h1, h2⟩ := v1.lst sr.bh
      refine ⟨a, vs, ps, fun x q => rep (ga X) B (.tup [.str q.1, .int q.2]) x, rfl, SqL.of h1, reps_ki.mp h2, fun x q h => ?_, fun ys p h hp => ?_⟩
      · simp only [rep, reps] at h
        obtain ⟨a, vs, rfl, h1, v, r, rfl, rfl, v2, r2, rfl, rfl, rfl⟩ := h
        exact ⟨a, rfl, sqT_same sr.bh h1⟩
      · exact fin_new (ho := fun _ => .lst ys) sr t (fun p => ⟨_, rfl, reps_ki.mpr h⟩) p hp
    · cases q
  · cases q
end
end VS
set_option Elab.async false
set_option linter.all false
set_option maxRecDepth 100000
set_option maxHeartbeats 2000000
/-! VS35: x in l, l.index(x) for data at any depth; tuples one behind another; {t: v} with a tuple for a key. -/
namespace VS
open PySem L2 PyProof.Rows
section
variable {X : Cx}
/-! ### in -/
noncomputable def sInA (neg : Bool) : Op2 := fun u w => match w with
  | .lst ws => if shp u && shp (.lst ws) then some (false, .bl (if neg then !((toDs ws).any fun z => PyData.eqv z (toD u)) else (toDs ws).any fun z => PyData.eqv z (toD u))) else none
  | _ => none
theorem ok_inA (hu : X.A.units + 65 < cLine) : BinOK X (compareOp .In) (sInA false) := by
  refine ⟨_, L2.op_inD hu, fun {W B H e σ u w x y z Q} sr q vx vy t => ?_⟩
  unfold sInA at q
  split at q
  · rename_i ws
    split at q
    · rename_i h
      injection q with q
      subst q
      rw [Bool.and_eq_true] at h
      exact ⟨toD u, toDs ws, vx.dp sr.bh (shp_lay h.1), by have := vy.dp sr.bh (shp_lay h.2); simp only [toD] at this; exact this, h.1, by have := h.2; unfold shp at this; simpa only [toD] using this, fin_val sr t (rep_bl _)⟩
    · cases q
  · cases q
theorem ok_notInA (hu : X.A.units + 65 < cLine) : BinOK X (compareOp .NotIn) (sInA true) := by
  refine ⟨_, L2.op_notInD hu, fun {W B H e σ u w x y z Q} sr q vx vy t => ?_⟩
  unfold sInA at q
  split at q
  · rename_i ws
    split at q
    · rename_i h
      injection q with q
      subst q
      rw [Bool.and_eq_true] at h
      exact ⟨toD u, toDs ws, vx.dp sr.bh (shp_lay h.1), by have := vy.dp sr.bh (shp_lay h.2); simp only [toD] at this; exact this, h.1, by have := h.2; unfold shp at this; simpa only [toD] using this, fin_val sr t (rep_bl _)⟩
    · cases q
  · cases q
noncomputable def sIn2 : Op2 := orS sIn (sInA false)
noncomputable def sNotIn2 : Op2 := orS sNotIn (sInA true)
theorem ok_in2 (hu : X.A.units + 65 < cLine) : BinOK X (compareOp .In) sIn2 := (ok_in (by omega)).or (ok_inA hu)
theorem ok_notIn2 (hu : X.A.units + 65 < cLine) : BinOK X (compareOp .NotIn) sNotIn2 := (ok_notIn (by omega)).or (ok_notInA hu)
/-! ### index -/
def ixD (ds : List PyData) (d : PyData) : Option Nat := ds.findIdx? fun z => PyData.eqv z d
def sIndex : U → List U → Option (Bool × U) := fun u us => match u, us with
  | .lst ws, [w] => if shp (.lst ws) && shp w then (match ixD (toDs ws) (toD w) with
    | some j => some (false, .int (j : Nat))
    | none => none) else none
  | _, _ => none
theorem ok_index (hu : X.A.units + 65 < cLine) : MrOK X "list" "list.index" isL sIndex := by
  refine ⟨_, _, ty_tyV, mt_indexD hu, isL_ty, fun {W B H e σ u us x xs z Q} sr q vx rs t => ?_⟩
  unfold sIndex at q
  split at q
  · rename_i ws w
    split at q
    · rename_i h
      rw [Bool.and_eq_true] at h
      split at q
      · rename_i j hj
        cases q
        simp only [reps] at rs
        obtain ⟨y, r, rfl, ry, rfl⟩ := rs
        have d1 := vx.dp sr.bh (shp_lay h.1)
        obtain ⟨a, vs, rfl, _⟩ := vx.lst sr.bh
        unfold ixD at hj
        rw [List.findIdx?_eq_some_iff_getElem] at hj
        obtain ⟨hl, h1, h2⟩ := hj
        refine ⟨a, y, toD w, toDs ws, j, (toDs ws)[j], rfl, rfl, by simp only [toD] at d1; exact d1, (Vw.dp (H := H) sr.bh (.inl ry) (shp_lay h.2)), by have := h.1; unfold shp at this; simpa only [toD] using this, h.2, List.getElem?_eq_getElem hl, h1, fun m z' hm hz => ?_, fin_val sr t (by simp only [rep])⟩
        have := h2 m hm
        rw [List.getElem?_eq_getElem (by omega)] at hz
        cases hz
        simpa using this
      · cases q
    · cases q
  · cases q
/-! ### tuple + tuple -/
def sAddA : Op2 := fun u w => match u, w with
  | .tup xs, .tup ys => if xs.length + ys.length ≤ sizeLine then some (false, .tup (xs ++ ys)) else none
  | _, _ => none
theorem Vw.tup_rep {Γ : Ga} {B H : Hp} {us : List U} {v : V} (h : Vw Γ B H (.tup us) v) : rep Γ B (.tup us) v := by
  rcases h with h | ⟨a, ho, e, h, n⟩
  · exact h
  · exact n.elim
theorem ok_addA : BinOK X (binaryOp .Add) sAddA := by
  refine ⟨_, op_catA, fun {W B H e σ u w x y z Q} sr q vx vy t => ?_⟩
  unfold sAddA at q
  split at q
  · rename_i xs ys
    split at q
    · rename_i hz
      injection q with q
      subst q
      have rx := vx.tup_rep
      have ry := vy.tup_rep
      have rx' := rx
      have ry' := ry
      simp only [rep] at rx ry
      obtain ⟨a, vs, rfl, h1, r1⟩ := rx
      obtain ⟨b, ws, rfl, h2, r2⟩ := ry
      refine ⟨a, b, vs, ws, rfl, rfl, sqT_same sr.bh h1, sqT_same sr.bh h2, by rw [← r1.length, ← r2.length]; exact hz, fun e => ?_, fun _ e => ?_, fun _ _ => fin_tup sr t (r1.append r2)⟩
      · have : xs = [] := List.eq_nil_of_length_eq_zero (by rw [r1.length, e]; rfl)
        subst this
        exact fin_val sr t ry'
      · have : ys = [] := List.eq_nil_of_length_eq_zero (by rw [r2.length, e]; rfl)
        subst this
        rw [List.append_nil] at t
        exact fin_val sr t rx'
    · cases q
  · cases q
noncomputable def sAdd2 : Op2 := orS sAdd sAddA
theorem ok_add2 : BinOK X (binaryOp .Add) sAdd2 := ok_add.or ok_addA
end
/-! ### {t: v} -/
section
variable {X : Cx} {W : WXX} {a b : Expr} {pos : Pos}
def tDispX (Γ : Ga) (tk tv : TE) : TE := fun σ H Q => ∃ k, isKx k = true ∧ ∀ p, H p = none → tk σ (upd H p (.dK [])) fun x H1 => tv σ H1 fun y H2 => ∃ B w, H2 p = some (.dK []) ∧ Same B H2 ∧ rep Γ B k x ∧ rep Γ B w y ∧
  ∀ ho, nod Γ B p (.dct [(k, w)]) ho → Q (.ref p) (upd H2 p ho)
theorem pe_dispX {tk tv : TE} (hu : X.A.units + 64 < cLine) (hk : PE X a tk) (hv : PE X b tv) : PE X (.Dict [some a] [b] pos) (tDispX (ga X) tk tv) := by
  refine ⟨fun pins s σ H Q I ⟨k, kx, q⟩ => ?_⟩
  have hn := I.hok.fresh (Nat.le_refl s.heap.objs.size)
  have I1 := I.laid (a := s.heap.objs.size) (o := .dK []) (h' := s.heap.push { cls := .type "dict", data := .dict #[] }) (t' := s.toks) (fun _ _ q => Heap.get?_push_of_some _ q) (Nat.le_refl _) (dk_empty s.heap I.big)
  have room : (nestedKind X.prog X.w).room X.A := by show X.A.units + 8 < cLine; omega
  rw [arm_eval_Dict, zip_pairTrees [some a] [b] X.env pos rfl rfl, dictDisplay_pairs _ (by simp [pairTrees]) (by simp [pairTrees])]
  refine wpAny_bind (wpAny_standAt (wpAny_bind (wpAny_subDictH (knd := nestedKind X.prog X.w) (Q := fun d s' => wpAny (model X.prog X.w) X.A (pure (Value.ref d)) _ X.xe s') room (by simp [pairTrees]) ?_)))
  have run := (pps_cons (pos := pos) hk hv pps_nil).run pins _ σ _ (fun ps H2 => match ps with
    | [(x, y)] => ∃ B w, H2 s.heap.objs.size = some (.dK []) ∧ Same B H2 ∧ rep (ga X) B k x ∧ rep (ga X) B w y ∧ ∀ ho, nod (ga X) B s.heap.objs.size (.dct [(k, w)]) ho → Q (.ref s.heap.objs.size) (upd H2 s.heap.objs.size ho)
    | _ => False) I1 (q _ hn)
  refine thn run fun ws s2 ⟨ps, H2, I2, rel, q1⟩ => ?_
  match ps, rel, q1 with
  | [], _, h => exact h.elim
  | _ :: _ :: _, _, h => exact h.elim
  | [(x, y)], .cons (b := (u, r)) ⟨ru, rr⟩ .nil, ⟨B, w, e, sb, rk, rw', q2⟩ =>
    obtain ⟨z, hd, vs, rel, dd⟩ := dk_of I2.hok e
    cases rel
    obtain ⟨b, eb, xk⟩ := key2 I2 sb (.inl rk) kx
    subst eb
    have eu : u = Value.ref b := ru
    subst eu
    have dd0 : s2.heap.DictOfH (nestedKind X.prog X.w) s.heap.objs.size [] := by
      obtain ⟨o, es, ep, h1, h2, h3, h4, h5, h6⟩ := dd
      cases he : es.toList with
      | nil => exact ⟨o, es, ep, h1, h2, h3, by rw [he]; rfl, fun x hx => (by cases hx), by simp⟩
      | cons c r => rw [he] at h5; cases h5
    refine ⟨[(nk k, b, r)], ⟨rfl, rfl, xk, trivial⟩, dd0, fun h' tk' dd' hs => wpAny_pure ?_⟩
    have pp : Paired (XR (ga X) B) (dset [] k w) (storedH [] (nk k) b r) := XR.put kx (fun p hp => (by cases hp)) rk rw' rr .nil
    have ed : dset [] k w = [(k, w)] := by simp [dset, dfind_nil]
    obtain ⟨o, es, ep, hq, h2, h3, h4, h6, h5⟩ := dd'
    obtain ⟨xs, q1, q2'⟩ := mkX (P := X.prog) pp h5 (PW.put (fun p hp => (by cases hp)) (fun p hp => (by cases hp)))
    have ll : xs.length = (dset [] k w).length := by
      have := paired_len q2'
      rw [this, List.length_map, ← xr_len pp]
    rw [ed] at ll q1
    have nx : xs ≠ [] := fun e => by rw [e] at ll; cases ll
    have J := d_write (t' := tk') I2 (by rw [e]; exact True.intro) hs ⟨o, hq⟩ (ob := DX s.heap.objs.size xs) ⟨⟨⟨nx, by rw [ll, sizeLine_eq]; simp⟩, hd, o, es, ep, hq, h2, h3, by rw [h4]; exact q2'⟩, ⟨o, hq⟩, fun h1 h2' x k => by
      obtain ⟨x1, x2, o', es', ep', x3, x4⟩ := x
      exact ⟨x1, x2, o', es', ep', k _ x3, x4⟩⟩
    exact ⟨.ref s.heap.objs.size, _, J, rfl, q2 (DX s.heap.objs.size xs) (.inr ⟨xs, rfl, q1⟩)⟩

def mDispX (mk mv : M U) : M (Bool × U) := mk.bd fun k => if isKx k then mv.bd fun w => .ret (true, .dct [(k, w)]) else fun _ => .bad
theorem po_dispX {mk mv : M U} (hu : X.A.units + 64 < cLine) (hk : PV X W a mk) (hv : PV X W b mv) : PO X W (.Dict [some a] [b] pos) (mDispX mk mv) := by
  refine PEimp (pe_dispX hu hk hv) fun σ H Q ⟨B, e, sr, q⟩ => ?_
  unfold tAt mDispX M.bd at q
  -- the key
  have main : ∀ k, isKx k = true → (∀ k1 e1, mk e = .ok k1 e1 → k1 = k) → tDispX (ga X) (tG (ga X) W (rlV (ga X)) mk) (tG (ga X) W (rlV (ga X)) mv) σ H Q := by
    intro k kx kk
    refine ⟨k, kx, fun p hp => ?_⟩
    have g0 : Go (ga X) B H e σ B (upd H p (.dK [])) e σ := Go.alloc sr hp
    have bp := sr.none_of hp
    have np := sr.not_own hp
    refine ⟨B, e, g0.sr, ?_⟩
    unfold tAt
    cases z : mk e with
    | bad => rw [z] at q; exact q
    | exc c u e' => rw [z] at q; exact fun cls d B' H' g x => q cls d B' H' (g0.trans g) x
    | ok k1 e1 =>
      have := kk k1 e1 z
      subst this
      rw [z] at q
      dsimp only at q ⊢
      rw [if_pos kx] at q
      dsimp only [M.ret] at q
      intro x B1 H1 g1 r1
      refine ⟨B1, e1, g1.sr, ?_⟩
      unfold tAt
      cases z2 : mv e1 with
      | bad => rw [z2] at q; exact q
      | exc c u e' => rw [z2] at q; exact fun cls d B' H' g x => q cls d B' H' ((g0.trans g1).trans g) x
      | ok w e2 =>
        rw [z2] at q
        dsimp only at q ⊢
        intro y B2 H2 g2 r2
        have G : Go (ga X) B (upd H p (.dK [])) e σ B2 H2 e2 σ := g1.trans g2
        have hp2 : H2 p = some (.dK []) := G.st.fr p _ upd_same np
        have bp2 : B2 p = none := G.st.nb p _ upd_same np bp
        have np2 : ¬ own e2 σ p := fun z => by
          rcases G.sub p z with q | q
          · exact np q
          · rw [upd_same] at q; cases q
        have r1' : rep (ga X) B2 k1 x := rep.mono g2.st.bb r1
        refine ⟨B2, w, hp2, g2.sr.bh, r1', r2, fun ho hn => ?_⟩
        have G2 := g0.trans G
        refine q _ B2 _ (Go.setD G2 hp bp2 np2) ?_
        exact ⟨p, ho, rfl, upd_same, hn, bp2, np2, .inr hp⟩
  cases z : mk e with
  | bad => rw [z] at q; exact q.elim
  | exc c u e' => exact main (.tup []) rfl fun k1 e1 h => by rw [z] at h; cases h
  | ok k1 e1 =>
    by_cases c : isKx k1 = true
    · exact main k1 c fun k2 e2 h => by rw [z] at h; cases h; rfl
    · rw [z] at q
      dsimp only at q
      rw [if_neg c] at q
      exact q.elim
end
end VS
set_option Elab.async false
set_option linter.all false
set_option maxRecDepth 100000
set_option maxHeartbeats 2000000
/-! VS36: == of lists of equal data, dicts among them; the promise of a property. -/
namespace VS
open PySem L2
def nice : Nat → U → Bool
  | 0 => flU
  | n + 1 => fun u => match u with
    | .tup us => us.all (nice n)
    | .lst us => us.all (nice n)
    | .dct kvs => kvs.all fun p => isK1 p.1 && nice n p.2
    | u => flU u
section
variable {X : Cx} {pins : List (Addr × Obj)} {σ : St} {H B : Hp} {s : Shared}
open PySem.W in
theorem flat_tree {n : Nat} {u : U} {x y : V} {v w : Value} (f : flU u = true) (hx : rep (ga X) B u x) (hy : rep (ga X) B u y) (rx : RelV x v) (ry : RelV y w) : EqTree X.prog X.w s n v w true := by
  have ex := Vw.fl (H := B) (.inl hx) f
  have ey := Vw.fl (H := B) (.inl hy) f
  subst ex ey
  exact .leaf fun A _ => eqAt_same rx ry (by cases u <;> first | rfl | cases f)
open PySem.W in
theorem all_trees {n : Nat} (ih : ∀ {u : U} {x y : V} {v w : Value}, nice n u = true → rep (ga X) B u x → rep (ga X) B u y → RelV x v → RelV y w → EqTree X.prog X.w s n v w true) : ∀ {us : List U} {vs ws : List V} {as bs : List Value}, us.all (nice n) = true → reps (ga X) B us vs → reps (ga X) B us ws → Vals vs as → Vals ws bs →
    ∀ j (h1 : j < as.length) (h2 : j < bs.length), EqTree X.prog X.w s n as[j] bs[j] true
  | [], _, _, _, _, _, r1, r2, q1, q2 => by
    simp only [reps] at r1 r2
    subst r1 r2
    cases q1
    intro j h1
    exact absurd h1 (Nat.not_lt_zero j)
  | u :: us, _, _, _, _, hn, r1, r2, q1, q2 => by
    simp only [reps] at r1 r2
    obtain ⟨x, vs, rfl, a1, a2⟩ := r1
    obtain ⟨y, ws, rfl, b1, b2⟩ := r2
    simp only [List.all_cons, Bool.and_eq_true] at hn
    cases q1 with
    | cons c1 c2 =>
      cases q2 with
      | cons d1 d2 =>
        intro j h1 h2
        cases j with
        | zero => exact ih hn.1 a1 b1 c1 d1
        | succ j => exact all_trees ih hn.2 a2 b2 c2 d2 j (Nat.lt_of_succ_lt_succ h1) (Nat.lt_of_succ_lt_succ h2)
theorem KR.keys {kvs : List (U × U)} {vs : List (Key × Value)} (h : Paired (KR (ga X) B) kvs vs) : kvs.map (fun p => kOf p.1) = vs.map (·.1) := by
  induction h with
  | nil => rfl
  | cons r t ih => rw [List.map_cons, List.map_cons, ih, r.2.1]
theorem dfind_mem {kvs : List (U × U)} (nd : (kvs.map (·.1)).Nodup) {p : U × U} (h : p ∈ kvs) : dfind kvs p.1 = some p.2 := by
  induction kvs with
  | nil => cases h
  | cons q r ih =>
    rw [dfind_cons]
    simp only [List.map_cons, List.nodup_cons] at nd
    rcases List.mem_cons.mp h with rfl | h
    · rw [if_pos rfl]
    · rw [if_neg (fun e : q.1 = p.1 => nd.1 (by rw [e]; exact List.mem_map.mpr ⟨p, h, rfl⟩))]
      exact ih nd.2 h
theorem valueAt_mem {K : Type} [DecidableEq K] {vs : List (K × Value)} (nd : (vs.map (·.1)).Nodup) {k : K} {v : Value} (h : (k, v) ∈ vs) : valueAt vs k = some v := by
  induction vs with
  | nil => cases h
  | cons q r ih =>
    simp only [List.map_cons, List.nodup_cons] at nd
    unfold valueAt
    rcases List.mem_cons.mp h with rfl | h
    · simp [List.find?_cons]
    · have : ¬ q.1 = k := fun e => nd.1 (e ▸ List.mem_map.mpr ⟨_, h, rfl⟩)
      have := ih nd.2 h
      unfold valueAt at this
      simp [List.find?_cons, *]
theorem paired_mem_r {α β : Type} {F : α → β → Prop} {xs : List α} {ys : List β} (h : Paired F xs ys) {y : β} (m : y ∈ ys) : ∃ x ∈ xs, F x y := by
  induction h with
  | nil => cases m
  | cons r t ih =>
    rcases List.mem_cons.mp m with rfl | m
    · exact ⟨_, List.mem_cons_self, r⟩
    · obtain ⟨x, h1, h2⟩ := ih m
      exact ⟨x, List.mem_cons_of_mem _ h1, h2⟩
theorem rep.dn {kvs : List (U × U)} {x : V} (sb : Same B H) (h : rep (ga X) B (.dct kvs) x) : ∃ a, x = .ref a ∧ DN (ga X) B H a kvs := Vw.dn sb (.inl h)
theorem nodup_kvs {kvs : List (U × U)} {vs : List (Key × Value)} (h : Paired (KR (ga X) B) kvs vs) (nd : (vs.map (·.1)).Nodup) : (kvs.map (·.1)).Nodup := by
  rw [← KR.keys h] at nd
  have : kvs.map (fun p => kOf p.1) = (kvs.map (·.1)).map kOf := by rw [List.map_map]; rfl
  rw [this] at nd
  exact (List.pairwise_map.mp nd).imp fun h e => h (congrArg kOf e)
open PySem.W in
theorem nice_tree (I : Inv X pins σ H s) (sb : Same B H) : ∀ (n : Nat) {u : U} {x y : V} {v w : Value}, nice n u = true → rep (ga X) B u x → rep (ga X) B u y → RelV x v → RelV y w → EqTree X.prog X.w s n v w true
  | 0, u, x, y, v, w, hn, hx, hy, rx, ry => flat_tree hn hx hy rx ry
  | n + 1, u, x, y, v, w, hn, hx, hy, rx, ry => by
    have ih := @nice_tree I sb n
    cases u with
    | tup us =>
      have hn : us.all (nice n) = true := hn
      simp only [rep] at hx hy
      obtain ⟨a, vs, rfl, h1, r1⟩ := hx
      obtain ⟨b, ws, rfl, h2, r2⟩ := hy
      cases (show v = Value.ref a from rx)
      cases (show w = Value.ref b from ry)
      by_cases e : a = b
      · subst e
        exact .same
      · obtain ⟨as, q1, t1, _⟩ := I.tuple (sqT_same sb h1)
        obtain ⟨bs, q2, t2, _⟩ := I.tuple (sqT_same sb h2)
        have el : as.length = bs.length := by rw [← q1.length, ← q2.length, ← r1.length, ← r2.length]
        have T := EqTree.tuples (prog := X.prog) (w := X.w) (s := s) (n := n) (e := fun _ => true) e t1 t2 fun j g1 g2 => by
          have := all_trees ih hn r1 r2 q1 q2 j (by simpa using g1) (by simpa using g2)
          simpa using this
        have eb : ((List.range (min as.toArray.size bs.toArray.size)).all (fun _ => true) && as.toArray.size == bs.toArray.size) = true := by simp [el]
        rw [eb] at T
        exact T
    | lst us =>
      have hn : us.all (nice n) = true := hn
      simp only [rep] at hx hy
      obtain ⟨a, vs, rfl, h1, r1⟩ := hx
      obtain ⟨b, ws, rfl, h2, r2⟩ := hy
      cases (show v = Value.ref a from rx)
      cases (show w = Value.ref b from ry)
      by_cases e : a = b
      · subst e
        exact .same
      · obtain ⟨as, q1, t1, _⟩ := I.list (SqL.of (sb _ _ h1))
        obtain ⟨bs, q2, t2, _⟩ := I.list (SqL.of (sb _ _ h2))
        have el : as.length = bs.length := by rw [← q1.length, ← q2.length, ← r1.length, ← r2.length]
        have T := EqTree.lists (prog := X.prog) (w := X.w) (s := s) (n := n) (e := fun _ => true) e t1.isList t2.isList (by simpa using el) fun j g1 g2 => by
          have := all_trees ih hn r1 r2 q1 q2 j (by simpa using g1) (by simpa using g2)
          simpa using this
        have eb : (List.range as.toArray.size).all (fun _ => true) = true := by simp
        rw [eb] at T
        exact T
    | dct kvs =>
      have hn : (kvs.all fun p => isK1 p.1 && nice n p.2) = true := hn
      rw [List.all_eq_true] at hn
      have hn' : ∀ p ∈ kvs, isK1 p.1 = true ∧ nice n p.2 = true := fun p hp => by simpa using hn p hp
      obtain ⟨a, rfl, d1⟩ := rep.dn sb hx
      obtain ⟨b, rfl, d2⟩ := rep.dn sb hy
      cases (show v = Value.ref a from rx)
      cases (show w = Value.ref b from ry)
      by_cases e : a = b
      · subst e
        exact .same
      · obtain ⟨ka, da, p1, s1, _⟩ := flatview I d1 fun p hp => (hn' p hp).1
        obtain ⟨kb, db, p2, s2, _⟩ := flatview I d2 fun p hp => (hn' p hp).1
        have nda : (ka.map (·.1)).Nodup := by
          obtain ⟨_, _, _, _, _, _, _, _, nd⟩ := da
          exact nd
        have ndb : (kb.map (·.1)).Nodup := by
          obtain ⟨_, _, _, _, _, _, _, _, nd⟩ := db
          exact nd
        have ndu := nodup_kvs p1 nda
        have el : ka.length = kb.length := by rw [← kr_len p1, ← kr_len p2]
        have both : ∀ k v, (k, v) ∈ ka → ∃ p z, p ∈ kvs ∧ kOf p.1 = k ∧ (∃ x, rep (ga X) B p.2 x ∧ RelV x v) ∧ valueAt kb k = some z ∧ ∃ y, rep (ga X) B p.2 y ∧ RelV y z := fun k v hm => by
          obtain ⟨p, hp, k1, k2, x, k3, k4⟩ := paired_mem_r p1 hm
          obtain ⟨f1, _⟩ := KR.find (hn' p hp).1 p2
          obtain ⟨y, z, f2, f3, f4⟩ := f1 _ (dfind_mem ndu hp)
          rw [k2] at f2
          exact ⟨p, z, hp, k2, ⟨x, k3, k4⟩, f2, y, f3, f4⟩
        have T := EqTree.dicts (prog := X.prog) (w := X.w) (s := s) (n := n) (e := fun _ => true) e s1 s2 da db fun k v y hm hv => by
          obtain ⟨p, z, hp, _, ⟨x', k3, k4⟩, f2, y', f3, f4⟩ := both k v hm
          rw [hv] at f2
          cases f2
          exact ih (hn' p hp).2 k3 f3 k4 f4
        have eb : (ka.length == kb.length && ka.all fun p => (valueAt kb p.1).isSome && true) = true := by
          rw [el]
          simp only [beq_self_eq_true, Bool.and_true, Bool.true_and, List.all_eq_true]
          intro p hp
          obtain ⟨_, z, _, _, _, f2, _⟩ := both p.1 p.2 hp
          rw [f2]
          rfl
        rw [eb] at T
        exact T
    | non => exact flat_tree (u := .non) rfl hx hy rx ry
    | bl b => exact flat_tree (u := .bl b) rfl hx hy rx ry
    | int b => exact flat_tree (u := .int b) rfl hx hy rx ry
    | str b => exact flat_tree (u := .str b) rfl hx hy rx ry
    | _ => cases hn
def rEqN (Γ : Ga) : R2 := fun x y H Q => ∃ B us, Same B H ∧ us.all (nice 50) = true ∧ Vw Γ B H (.lst us) x ∧ Vw Γ B H (.lst us) y ∧ Q (.bl true) H
theorem op_eqN (hu : X.A.units + 64 < cLine) : OpR X (compareOp .Eq) (rEqN (ga X)) := by
  intro pins s σ H x y v u Q I rx ry ⟨B, us, sb, hn, hx, hy, q⟩
  obtain ⟨a, vs, rfl, h1, r1⟩ := hx.lst sb
  obtain ⟨b, ws, rfl, h2, r2⟩ := hy.lst sb
  cases (show v = Value.ref a from rx)
  cases (show u = Value.ref b from ry)
  obtain ⟨as, q1, t1, _⟩ := I.list (SqL.of h1)
  obtain ⟨bs, q2, t2, _⟩ := I.list (SqL.of h2)
  have el : as.length = bs.length := by rw [← q1.length, ← q2.length, ← r1.length, ← r2.length]
  refine PySem.W.eq_listsT (n := 50) (e := fun _ => true) t1.isList t2.isList (by simpa using el) (fun j g1 g2 => ?_) (by omega) ⟨.bl true, H, I, ?_, q⟩
  · have := all_trees (fun {_ _ _ _ _} => nice_tree I sb 50) hn r1 r2 q1 q2 j (by simpa using g1) (by simpa using g2)
    simpa using this
  · show Value.bool _ = Value.bool true
    simp
noncomputable def sEqN : Op2 := fun u w => match u with
  | .lst us => if cdec (w = .lst us) && us.all (nice 50) then some (false, .bl true) else none
  | _ => none
theorem ok_eqN (hu : X.A.units + 64 < cLine) : BinOK X (compareOp .Eq) sEqN := by
  refine ⟨_, op_eqN hu, fun {W B H e σ u w x y z Q} sr q vx vy t => ?_⟩
  unfold sEqN at q
  split at q
  · rename_i us
    split at q
    · rename_i h
      rw [Bool.and_eq_true, cdec_iff] at h
      obtain ⟨rfl, h⟩ := h
      cases q
      exact ⟨B, us, sr.bh, h, vx, vy, fin_val sr t (rep_bl _)⟩
    · cases q
  · cases q
noncomputable def sEq2 : Op2 := orS (sEq false) sEqN
theorem ok_eq2 (hu : X.A.units + 64 < cLine) : BinOK X (compareOp .Eq) sEq2 := (ok_eq hu).or (ok_eqN hu)
end
section
variable {P : Program} {w : World} {K : PySem.W.Frag} {mg : Str → Option Value} {base : Heap} {x qual : Str} {params : Arguments} {body : List Stmt} {scope : Scope} {f : Addr} {fd : FuncData} {N ps : List Str} {k : Nat} {pr : Nat → Bool} {b : MS}
theorem pp_rule {C pa : Addr} {m : Str} (M : PropOf K C m pa f) (F : FunD K x qual params body scope [] [] f fd) (S : FnScope N ps scope)
    (hb : ∀ (kV doc pm : Value) (an : Option Addr) (cdv ct : Value) (us : List Value), us.length = ps.length → bindArgs (PySem.W.fnOf x qual params body scope .none kV doc pm an cdv ct) ⟨us, []⟩ = pure (ps.zip us))
    (hbody : ∀ (cdv : Value) (A : Around) (outer : List Env) (s : Shared) (H : Hp) (E : XK), Ct (cxOf (L2.CX P w) P w K mg base N qual scope f cdv A outer s H E) (WEx E) k → PSsV (cxOf (L2.CX P w) P w K mg base N qual scope f cdv A outer s H E) (WEx E) pr body b) (h1 : ps.length = 1 := by rfl) :
    PrV P w K mg base (k + 1) C m (fnS N.length 1 pr b) := ⟨pa, f, fd, ps, M, by have := fnok_rule (base := base) F S hbody; rw [h1] at this; exact this, F.bindsN hb⟩
end
end VS
set_option Elab.async false
set_option linter.all false
set_option maxRecDepth 100000
set_option maxHeartbeats 2000000
/-! VS37: a hook of own for the head: facts as tests, defs at addresses of any kind (follows He.hookD). -/
namespace VH
open PySem PySem.Spec PyProof.Rows L2 He
/-- a property's getter -/
def pg (K : PySem.W.Frag) (C : Addr) (m : Str) : Addr := match PySem.W.recIn K (ma K C m) "property" with
  | some (.ref g :: _) => g
  | _ => 0
structure DefH where
  ad : PySem.W.Frag → Addr
  name : Str
  qual : Str
  params : Arguments
  body : List Stmt
  scope : Scope
  dfl : List Dv := []
  kwd : List (Str × Dv) := []
def fnH (K : PySem.W.Frag) (a : Addr) : FnW := match K.lookup a with
  | some ⟨_, _, .func fd, _⟩ => some (fd.name, fd.qualname, fd.params, fd.body, fd.scope, fd.globals, fd.closure, fd.builtins)
  | _ => none
def DefH.val (d : DefH) : FnW := some (d.name, d.qual, d.params, .stmts d.body, d.scope, mainGlobals, [], builtinsNs)
def DefH.dvs (K : PySem.W.Frag) (d : DefH) : List V := d.dfl.map (Dv.v K)
def DefH.kws (K : PySem.W.Frag) (d : DefH) : List (Str × V) := d.kwd.map fun q => (q.1, q.2.v K)
def DefH.ok (K : PySem.W.Frag) (d : DefH) : Bool := PySem.W.keepIn K (.ref (d.ad K)) && (match K.lookup (d.ad K) with
  | some ⟨_, _, .func fd, _⟩ => PySem.W.codeIn K fd.code d.qual && (dflB K fd.defaults (d.dvs K) && kwdB K fd.kwdefaults (d.kws K))
  | _ => false)
theorem DefH.funD {K : PySem.W.Frag} {d : DefH} (e : fnH K (d.ad K) = d.val) (c : d.ok K = true) : ∃ fd, FunD K d.name d.qual d.params d.body d.scope (d.dvs K) (d.kws K) (d.ad K) fd := by
  obtain ⟨kp, c2⟩ := ba c
  unfold fnH at e
  cases q : K.lookup (d.ad K) with
  | none =>
    rw [q] at c2
    cases c2
  | some o =>
    obtain ⟨oc, od, dt, osl⟩ := o
    rw [q] at c2 e
    cases dt with
    | func fd =>
      obtain ⟨n1, n2, n3, n4, n5, n6, n7, n8, n9, n10, n11, n12, n13, n14, n15⟩ := fd
      have e2 : (some (n1, n2, n3, n4, n5, n6, n7, n15) : FnW) = some (d.name, d.qual, d.params, .stmts d.body, d.scope, mainGlobals, [], builtinsNs) := e
      simp only [Option.some.injEq, Prod.mk.injEq] at e2
      obtain ⟨h1, h2, h3, h4, h5, h6, h7, h8⟩ := e2
      subst h1 h2 h3 h4 h5 h6 h7 h8
      have c3 : (PySem.W.codeIn K n13 d.qual && (dflB K n8 (d.dvs K) && kwdB K n9 (d.kws K))) = true := c2
      obtain ⟨k1, k2⟩ := ba c3
      obtain ⟨k3, k4⟩ := ba k2
      exact ⟨_, ⟨oc, od, n8, n9, n10, n11, n12, n13, n14, osl, rfl, q, k1, dflB_ok k3, kwdB_ok k4⟩, kp⟩
    | _ => cases c2
abbrev FaH : Type := PySem.W.Frag → Bool
def obsH (fa : List FaH) (fn : List DefH) (K : PySem.W.Frag) : AlD := ((fa.all fun f => f K) && fn.all fun d => d.ok K, fn.map fun d => fnH K (d.ad K))
def valH (fn : List DefH) : AlD := (true, fn.map DefH.val)
def SaysH (fa : List FaH) (fn : List DefH) (K : PySem.W.Frag) : Prop := obsH fa fn K = valH fn
def obsHG (n : Nat) (fa : List FaH) (fn : List DefH) (g : Addr → Option Obj) : AlD := obsH fa fn (frG g (asD g n))
def hookH (n : Nat) (fa : List FaH) (fn : List DefH) : PySem.W.Hook where
  α := AlD
  obs := fun s => obsHG n fa fn s.heap.get?
  val := fun _ => valH fn
  says := fun _ h => ∃ K : PySem.W.Frag, K.In h ∧ SaysH fa fn K
  of := fun _ _ e => ⟨_, frG_in, e⟩
  keeps := fun _ _ _ ⟨K, hK, c⟩ k => ⟨K, PySem.W.Frag.In.keeps hK k, c⟩
theorem obsHG_eq {n : Nat} {fa : List FaH} {fn : List DefH} {g : Addr → Option Obj} {s : Shared} (h : ∀ a, g a = s.heap.get? a) : obsHG n fa fn g = (hookH n fa fn).obs s := by
  have e : g = s.heap.get? := funext h
  rw [e] <;> rfl
section
variable {fa : List FaH} {fn : List DefH} {K : PySem.W.Frag}
theorem SaysH.fact (c : SaysH fa fn K) (i : Nat) {f : FaH} (h : fa[i]? = some f := by rfl) : f K = true := by
  have c1 := (ba (show ((fa.all fun f => f K) && fn.all fun d => d.ok K) = true from congrArg (fun z : AlD => z.1) c)).1
  exact List.all_eq_true.mp c1 f (List.mem_of_getElem? h)
theorem SaysH.def_ (c : SaysH fa fn K) (i : Nat) {d : DefH} (h : fn[i]? = some d := by rfl) : ∃ fd, FunD K d.name d.qual d.params d.body d.scope (d.dvs K) (d.kws K) (d.ad K) fd := by
  have c2 := (ba (show ((fa.all fun f => f K) && fn.all fun d => d.ok K) = true from congrArg (fun z : AlD => z.1) c)).2
  have e : fn.map (fun d => fnH K (d.ad K)) = fn.map DefH.val := congrArg (fun z : AlD => z.2) c
  have e2 : (fn.map fun d => fnH K (d.ad K))[i]? = (fn.map DefH.val)[i]? := by rw [e]
  rw [List.getElem?_map, List.getElem?_map, h] at e2
  exact DefH.funD (Option.some.inj e2) (List.all_eq_true.mp c2 d (List.mem_of_getElem? h))
end
/-! ### tests -/
def faF (f : Fa) : FaH := fun K => f.ok K
def selfF (x : Str) : FaH := fun K => PySem.W.selfFirst K (ga K x)
def notF (x : Str) : FaH := fun K => PySem.W.notFirst K (ga K x) (.ref (ga K x))
def isiF (x : Str) : FaH := fun K => eqO (PySem.W.findIn K (.ref (ga K x)) "__class__") (some (some (.builtin "object.__class__"))) && (eqO (PySem.W.specialIn K (.builtin "object.__class__") "__get__") (some (some (.builtin "getset_descriptor.__get__"))) &&
  (decide (PySem.W.takesIn K (.builtin "object.__class__") = some true) && decide (PySem.W.mroIn K (ga K x) (.type "object") = some true)))
theorem isi_ok {K : PySem.W.Frag} {x : Str} (c : isiF x K = true) : VS.IsiV K (ga K x) := by
  obtain ⟨c1, c⟩ := ba c
  obtain ⟨c2, c⟩ := ba c
  obtain ⟨c3, c4⟩ := ba c
  exact ⟨eqO_ok c1, eqO_ok c2, of_decide_eq_true c3, of_decide_eq_true c4⟩
def propF (x m : Str) : FaH := fun K => eqO (PySem.W.findIn K (.ref (ga K x)) m) (some (some (.ref (ma K (ga K x) m)))) && (eqO (PySem.W.specialIn K (.ref (ma K (ga K x) m)) "__get__") (some (some (.builtin "property.__get__"))) &&
  (decide (PySem.W.takesIn K (.ref (ma K (ga K x) m)) = some true) && (match PySem.W.recIn K (ma K (ga K x) m) "property" with
    | some (.ref g :: _) => decide (g = pg K (ga K x) m)
    | _ => false)))
theorem prop_ok {K : PySem.W.Frag} {x m : Str} (c : propF x m K = true) : PropOf K (ga K x) m (ma K (ga K x) m) (pg K (ga K x) m) := by
  obtain ⟨c1, c⟩ := ba c
  obtain ⟨c2, c⟩ := ba c
  obtain ⟨c3, c4⟩ := ba c
  refine ⟨eqO_ok c1, eqO_ok c2, of_decide_eq_true c3, ?_⟩
  cases q : PySem.W.recIn K (ma K (ga K x) m) "property" with
  | none => rw [q] at c4; cases c4
  | some l =>
    rw [q] at c4
    match l, c4 with
    | .ref g :: r, c4 =>
      have e : g = pg K (ga K x) m := of_decide_eq_true c4
      exact ⟨r, by rw [e]⟩
end VH
set_option Elab.async false
set_option linter.all false
set_option maxRecDepth 100000
set_option maxHeartbeats 2000000
/-! VS38: list(d); unions. -/
namespace VS
open PySem L2
theorem u65 {k : Nat} {A : Around} (r : Room k A) : A.units + 65 < cLine := by have := r.un; omega
section
variable {X : Cx}
theorem repd_keyreps {Γ : Ga} {B : Hp} : ∀ {kvs : List (U × U)} {es : List (Key × V)}, repd Γ B kvs es → reps Γ B (kvs.map (·.1)) (es.map fun kv => kV kv.1)
  | [], _, h => by
    simp only [repd] at h
    subst h
    simp only [List.map_nil, reps]
  | (k, u) :: kvs, _, h => by
    simp only [repd] at h
    obtain ⟨l, v, r, rfl, r1, _, r3⟩ := h
    rw [List.map_cons, List.map_cons]
    simp only [reps]
    exact ⟨_, _, rfl, r1, repd_keyreps r3⟩
def sListD : OpN := fun us => match us with
  | [.dct kvs] => if kvs.all (fun p => isK1 p.1) then some (true, .lst (kvs.map (·.1))) else none
  | _ => none
def rListD (Γ : Ga) : List V → Hp → VK → Prop := fun xs H Q => (∃ a, xs = [.ref a] ∧ H a = some (DX a [])) ∨ ∃ (a : Addr) (kvs : List (Key × V)), xs = [.ref a] ∧ Rd H a (.dK kvs) ∧ ∀ p, H p = none → Q (.ref p) (upd H p (.lst (kvs.map fun kv => kV kv.1)))
theorem cr_listD (hc : X.calm = true) : CallR X (.type "list") (rListD (ga X)) := by
  intro pins s σ H xs us Q I r h
  rcases h with ⟨a, _, e⟩ | h
  · obtain ⟨z, _, _⟩ := (show ObjOk X.prog X.w H s.heap a (DX a []) from I.hok a _ e)
    exact (dxs_empty z).elim
  · exact call_listD hc pins s σ H xs us Q I r h
theorem ok_listD (hc : X.calm = true) : CallOK X (.type "list") sListD := by
  refine ⟨_, cr_listD hc, fun {W B H e σ us xs z Q} sr q vx t => ?_⟩
  unfold sListD at q
  split at q
  · rename_i kvs
    split at q
    · rename_i c
      cases q
      obtain ⟨v, rfl, v1⟩ := vws1 vx
      obtain ⟨a, rfl, d⟩ := v1.dn sr.bh
      rcases d with ⟨es, e2, rd⟩ | ⟨xs, e2, rx⟩
      · exact .inr ⟨a, es, rfl, e2, fin_new (ho := fun _ => .lst (es.map fun kv => kV kv.1)) sr t fun p => ⟨_, rfl, repd_keyreps rd⟩⟩
      · cases kvs with
        | cons p kvs =>
          obtain ⟨a1, _, _⟩ := rx.all
          have h1 := a1 p List.mem_cons_self
          rw [List.all_cons, Bool.and_eq_true] at c
          obtain ⟨k, u⟩ := p
          cases k <;> simp [isKx, isK1] at h1 c
        | nil =>
          simp only [repx] at rx
          subst rx
          exact .inl ⟨a, rfl, e2⟩
    · cases q
  · cases q
def sList2 : OpN := orN sList sListD
theorem ok_list2 (hc : X.calm = true) : CallOK X (.type "list") sList2 := ok_list.or (ok_listD hc)
def sSorted2 : OpN := orN sSorted sSortKI
theorem ok_sorted2 (hc : X.calm = true) : CallOK X (.builtin "sorted") sSorted2 := (ok_sorted hc).or ok_sortKI
end
end VS
set_option Elab.async false
set_option linter.all false
set_option maxRecDepth 100000
set_option maxHeartbeats 2000000
/-! VS39: dict comprehensions with flat keys. -/
namespace VS
open PySem L2
section
variable {Γ : Ga} {B : Hp} {k w : U} {v : V}
theorem repd_any (hk : isK1 k = true) : ∀ {kvs : List (U × U)} {es : List (Key × V)}, repd Γ B kvs es → es.any (fun kv => decide (kv.1 = kOf k)) = (dfind kvs k).isSome
  | [], _, r => by simp only [repd] at r; subst r; rfl
  | (a, u) :: kvs, _, r => by
    simp only [repd] at r
    obtain ⟨l, x, t, rfl, r1, r2, r3⟩ := r
    obtain ⟨h1, h2⟩ := rep_key r1
    rw [List.any_cons, dfind_cons, repd_any hk r3]
    by_cases z : a = k
    · subst z; simp [h2]
    · have : ¬ l = kOf k := fun e => z (kOf_inj h1 hk (h2.trans e))
      simp [this, z]
theorem repd_repl (hk : isK1 k = true) (rv : rep Γ B w v) : ∀ {kvs : List (U × U)} {es : List (Key × V)}, repd Γ B kvs es → repd Γ B (kvs.map fun p => if p.1 = k then (p.1, w) else p) (es.map fun kv => if kv.1 = kOf k then (kv.1, v) else kv)
  | [], _, r => by simp only [repd] at r; subst r; simp only [List.map_nil, repd]
  | (a, u) :: kvs, _, r => by
    simp only [repd] at r
    obtain ⟨l, x, t, rfl, r1, r2, r3⟩ := r
    obtain ⟨h1, h2⟩ := rep_key r1
    have ih := repd_repl hk rv r3
    rw [List.map_cons, List.map_cons]
    by_cases z : a = k
    · have e : l = kOf k := by rw [← h2, z]
      simp only [z, e, if_true, repd]
      refine ⟨_, _, _, rfl, ?_, rv, ih⟩
      rw [← e, ← z]
      exact r1
    · have e : ¬ l = kOf k := fun e => z (kOf_inj h1 hk (h2.trans e))
      simp only [z, e, if_false, repd]
      exact ⟨_, _, _, rfl, r1, r2, ih⟩
theorem repd_snoc (hk : isK1 k = true) (rv : rep Γ B w v) : ∀ {kvs : List (U × U)} {es : List (Key × V)}, repd Γ B kvs es → repd Γ B (kvs ++ [(k, w)]) (es ++ [(kOf k, v)])
  | [], _, r => by
    simp only [repd] at r
    subst r
    simp only [List.nil_append, repd]
    exact ⟨_, _, _, rfl, key_rep hk, rv, rfl⟩
  | (a, u) :: kvs, _, r => by
    simp only [repd] at r
    obtain ⟨l, x, t, rfl, r1, r2, r3⟩ := r
    simp only [List.cons_append, repd]
    exact ⟨_, _, _, rfl, r1, r2, repd_snoc hk rv r3⟩
theorem repd.put (hk : isK1 k = true) (rv : rep Γ B w v) {kvs : List (U × U)} {es : List (Key × V)} (r : repd Γ B kvs es) : repd Γ B (dset kvs k w) (putK es (kOf k) v) := by
  unfold dset putK
  rw [repd_any hk r]
  by_cases z : (dfind kvs k).isSome = true
  · rw [if_pos z, if_pos z]
    exact repd_repl hk rv r
  · rw [if_neg z, if_neg z]
    exact repd_snoc hk rv r
end
open Classical in
noncomputable def dcL (t : MT) (tt : M Bool) (tk tv : M U) (vs : List Nat) (g : Option Nat) (src : List U) : List U → List (U × U) → En → Option (List (U × U) × En)
  | [], acc, e => some (acc, e)
  | u :: us, acc, e => match t u e with
    | some e1 => match tt e1 with
      | .ok true e2 => match tk e2 with
        | .ok k e3 => match tv e3 with
          | .ok y e4 => if isK1 k = true ∧ acc.length < sizeLine ∧ gOK g src (wipeE e4 vs) then dcL t tt tk tv vs g src us (dset acc k y) (wipeE e4 vs) else none
          | _ => none
        | _ => none
      | .ok false e2 => if gOK g src (wipeE e2 vs) then dcL t tt tk tv vs g src us acc (wipeE e2 vs) else none
      | _ => none
    | none => none
open Classical in
noncomputable def mDc (m : M Src) (t : MT) (tt : M Bool) (tk tv : M U) (vs : List Nat) : M (Bool × U) := m.bd fun s e =>
  if gOK s.g s.src (wipeE e vs) then match dcL t tt tk tv vs s.g s.src s.items [] (wipeE e vs) with
    | some (acc, e') => .ok (true, .dct acc) (resE e e' vs)
    | none => .bad
  else .bad
section
variable {X : Cx} {W : WXX} {tg iter kx vx : Expr} {ifs : List Expr} {scope : Scope} {own' : List (Str × Nat)} {pos : Pos}
theorem dc_core' {m : M Src} {t : MT} {tt : M Bool} {tk tv : M U} {vs : List Nat} (σ : St) (H : Hp) (Q : VK) (q : tG (ga X) W (rlO (ga X)) (mDc m t tt tk tv vs) σ H Q) :
    tDc (iG (ga X) W m) (gG (ga X) (prB vs) t) (tG (ga X) W0 rlB tt) (tG (ga X) W0 (rlV (ga X)) tk) (tG (ga X) W0 (rlV (ga X)) tv) vs σ H Q := by
  obtain ⟨B, e, sr, q⟩ := q
  refine ⟨B, e, sr, ?_⟩
  unfold tAt mDc M.bd at q
  cases z : m e with
  | bad => rw [z] at q; exact q
  | exc c u e' => rw [z] at q; exact q
  | ok s e1 =>
    rw [z] at q
    dsimp only at q ⊢
    intro J B1 H1 g1 io _ D hD
    split at q
    · rename_i a' e'' hq
      split at hq
      · rename_i hgo0
        split at hq
        · rename_i acc0 e0 hl
          injection hq with ha he
          subst ha he
          have bD : B1 D = none := g1.sr.none_of hD
          have nD : ¬ own e1 σ D := g1.sr.not_own hD
          refine ⟨fun k m H' => m = s.items.length - k ∧ k ≤ s.items.length ∧ ∃ B' e' acc vacc, Go (ga X) B1 H1 e1 σ B' H' e' σ ∧ Emp e' vs ∧ gOK s.g s.src e' ∧ H' D = some (.dK vacc) ∧ repd (ga X) B' acc vacc ∧ B' D = none ∧ ¬ own e' σ D ∧
            dcL t tt tk tv vs s.g s.src (s.items.drop k) acc e' = some (acc0, e0), ⟨_, rfl, Nat.zero_le _, B1, wipeE e1 vs, [], [], ?_, emp_wipe _ _, hgo0, upd_same, (by simp only [repd]), bD, fun w => nD (own_wipeE w), by simpa using hl⟩, ?_⟩
          · exact Go.setD (Go.wipeE g1.sr) hD bD fun w => nD (own_wipeE w)
          · rintro k m H' ⟨rfl, hk, B', e', acc, vacc, g', em, go, hHD, ra, bD', nD', hl'⟩
            have gp : gP (ga X) s.g s.src σ B' H' := go.p g'.sr fun i hi => rfl
            have sb := g'.st.bb
            by_cases hlt : k < s.items.length
            · refine .inr ?_
              have hu : s.items[k]? = some s.items[k] := by simp [hlt]
              obtain ⟨j1, j2⟩ := io.go B' H' k _ sb g'.sr.bh gp hu
              rw [List.drop_eq_getElem_cons hlt] at hl'
              unfold dcL at hl'
              refine ⟨j1, fun H2 => ∃ B2 e2 acc vacc, Go (ga X) B1 H1 e1 σ B2 H2 e2 σ ∧ Emp e2 vs ∧ gOK s.g s.src e2 ∧ H2 D = some (.dK vacc) ∧ repd (ga X) B2 acc vacc ∧ B2 D = none ∧ ¬ own e2 σ D ∧
                dcL t tt tk tv vs s.g s.src (s.items.drop (k + 1)) acc e2 = some (acc0, e0), fun H2 ⟨B2, e2, ac, va, h1, h2, h3, h4, h5, h6, h7, h8⟩ => ⟨s.items.length - (k + 1), by omega, rfl, hlt, B2, e2, ac, va, h1, h2, h3, h4, h5, h6, h7, h8⟩, fun x H'' y => ?_⟩
              obtain ⟨B'', lt, rx⟩ := j2 x H'' y
              have gl := lt.go g'.sr
              have gw := lt.go (g'.sr.ag em (ag_wipe σ vs))
              refine ⟨B'', e', _, gw.sr, rx, ?_⟩
              cases h1 : t s.items[k] e' with
              | none => rw [h1] at hl'; cases hl'
              | some e2 =>
                rw [h1] at hl'
                dsimp only at hl' ⊢
                intro B2 H2 σ2 g2 k2
                have ag2 : Ag vs (wipe σ vs) σ2 := kp_ag k2
                · refine ⟨(wipe_ag ag2).symm.trans (wipe_ag (ag_wipe σ vs)).symm, B2, e2, g2.sr, ?_⟩
                  unfold tAt
                  cases h2 : tt e2 with
                  | bad => rw [h2] at hl'; cases hl'
                  | exc c u e3 => rw [h2] at hl'; cases hl'
                  | ok b e3 =>
                    rw [h2] at hl'
                    dsimp only
                    intro b' B3 H3 g3 eb
                    have eb : b = b' := eb
                    subst eb
                    have G3 : ∀ {B4 H4 : Hp} {e4 : En}, Go (ga X) B3 H3 e3 σ2 B4 H4 e4 σ2 → Go (ga X) B1 H1 e1 σ B4 H4 (wipeE e4 vs) σ := fun {B4 H4 e4} g4 =>
                      g'.trans (Go.blk em (ag_wipe σ vs) (((gw.trans g2).trans g3).trans g4) ag2)
                    have own4 : ∀ {B4 H4 : Hp} {e4 : En}, Go (ga X) B3 H3 e3 σ2 B4 H4 e4 σ2 → H4 D = some (.dK vacc) ∧ B4 D = none ∧ ¬ own (wipeE e4 vs) σ D := fun {B4 H4 e4} g4 => by
                      have gg := Go.blk em (ag_wipe σ vs) (((gw.trans g2).trans g3).trans g4) ag2
                      refine ⟨gg.st.fr D _ hHD nD', gg.st.nb D _ hHD nD' bD', fun w => ?_⟩
                      rcases gg.sub D w with q | q
                      · exact nD' q
                      · rw [hHD] at q; cases q
                    cases b with
                    | false =>
                      rw [if_neg Bool.false_ne_true]
                      dsimp only at hl'
                      split at hl'
                      · rename_i hgo
                        obtain ⟨o1, o2, o3⟩ := own4 (Go.refl g3.sr)
                        exact ⟨B3, wipeE e3 vs, acc, vacc, G3 (Go.refl g3.sr), emp_wipe _ _, hgo, o1, ra.mono (((gw.trans g2).trans g3).st.bb), o2, o3, hl'⟩
                      · cases hl'
                    | true =>
                      rw [if_pos rfl]
                      dsimp only at hl'
                      refine ⟨B3, e3, g3.sr, ?_⟩
                      unfold tAt
                      cases h3 : tk e3 with
                      | bad => rw [h3] at hl'; cases hl'
                      | exc c u e4 => rw [h3] at hl'; cases hl'
                      | ok ky e4 =>
                        rw [h3] at hl'
                        dsimp only at hl' ⊢
                        intro vk B4 H4 g4 rk
                        refine ⟨B4, e4, g4.sr, ?_⟩
                        unfold tAt
                        cases h4 : tv e4 with
                        | bad => rw [h4] at hl'; cases hl'
                        | exc c u e5 => rw [h4] at hl'; cases hl'
                        | ok y e5 =>
                          rw [h4] at hl'
                          dsimp only at hl' ⊢
                          intro v B5 H5 g5 rv
                          split at hl'
                          · rename_i hgo
                            have g45 := g4.trans g5
                            obtain ⟨o1, o2, o3⟩ := own4 g45
                            have ra5 := ra.mono ((((gw.trans g2).trans g3).trans g45).st.bb)
                            have rk5 : rep (ga X) B5 ky vk := rep.mono g5.st.bb rk
                            refine ⟨vacc, kOf ky, rep_flat rk5 hgo.1, o1, by rw [← repd_len ra]; exact hgo.2.1, B5, wipeE e5 vs, dset acc ky y, putK vacc (kOf ky) v, Go.setD (G3 g45) hD o2 o3, emp_wipe _ _, hgo.2.2, upd_same, ra5.put hgo.1 rv, o2, o3, hl'⟩
                          · cases hl'
            · have ek : k = s.items.length := by omega
              subst ek
              refine .inl ⟨io.stop B' H' sb g'.sr.bh gp, ?_⟩
              rw [List.drop_length] at hl'
              unfold dcL at hl'
              injection hl' with hl'
              injection hl' with ha he
              subst ha he
              refine q (.ref D) B' H' (g1.trans (Go.res g1.sr g')) ?_
              refine ⟨D, _, rfl, hHD, .inl ⟨vacc, rfl, ra⟩, bD', fun w => ?_, ?_⟩
              · obtain ⟨i, u, w1, w2⟩ := w
                rcases resE_get e1 e' vs w1 with w1 | ⟨_, w1⟩
                · exact nD' ⟨i, u, w1, w2⟩
                · cases w1
              · exact g1.may D (.inr hD)
        · cases hq
      · cases hq
    · rename_i hq
      split at hq
      · split at hq <;> cases hq
      · cases hq
    · exact q.elim
theorem po_dc {m : M Src} {t : MT} {tt : M Bool} {tk tv : M U} {vs : List Nat} (hc : X.calm = true) (hN : X.N.Nodup) (hi : PIV X W tg iter m) (ok : BlkOk X.N X.env.scope scope own') (hvs : own'.map (·.2) = vs)
    (hg : BlkAll X scope fun Y => PGV Y (prB vs) tg t) (ht : BlkAll X scope fun Y => PTs Y ifs (tG (ga X) W0 rlB tt)) (hk : BlkAll X scope fun Y => PE Y kx (tG (ga X) W0 (rlV (ga X)) tk)) (he : BlkAll X scope fun Y => PE Y vx (tG (ga X) W0 (rlV (ga X)) tv))
    (hs : ∀ x, foldedSetIterable iter X.env x = pure x := by intro _; rfl) : PO X W (.DictComp kx vx [⟨tg, iter, ifs, 0⟩] scope pos) (mDc m t tt tk tv vs) := by
  subst hvs
  exact PEimp (pe_dc hc hN hi ok (fun s H C cl fp => hg s H C cl fp) (fun s H C cl fp => ht s H C cl fp) (fun s H C cl fp => hk s H C cl fp) (fun s H C cl fp => he s H C cl fp) hs) fun σ H Q q => dc_core' σ H Q q
end
end VS
set_option Elab.async false
set_option linter.all false
set_option maxRecDepth 100000
set_option maxHeartbeats 2000000
/-! VS40: sorted(d.items()), the keys texts, the values ints. -/
namespace VS
open PySem L2
section
variable {P : Program} {w : World}
theorem pairs_get {K : Type} [DecidableEq K] {knd : KeyKind P w K} {es : List DictEntry} {vs : List (K × Value)} (h : Pairs knd es vs) : ∀ {j : Nat} {e : DictEntry}, es[j]? = some e → ∃ k, vs[j]? = some (k, e.val) ∧ knd.is k e.key = true := by
  induction h with
  | nil => intro j e h; simp at h
  | cons h1 hv h2 ih =>
    intro j e h
    cases j with
    | zero => cases h; exact ⟨_, by rw [hv]; rfl, h1⟩
    | succ j => exact ih h
theorem pairs_len {K : Type} [DecidableEq K] {knd : KeyKind P w K} {es : List DictEntry} {vs : List (K × Value)} (h : Pairs knd es vs) : es.length = vs.length := by
  induction h with
  | nil => rfl
  | cons h1 hv h2 ih => rw [List.length_cons, List.length_cons, ih]
end
theorem map2_paired {α β γ : Type} {F : β → γ → Prop} {f : α → β} {g : α → γ} : ∀ {l : List α}, (∀ x ∈ l, F (f x) (g x)) → Paired F (l.map f) (l.map g)
  | [], _ => .nil
  | x :: l, h => .cons (h x List.mem_cons_self) (map2_paired fun y hy => h y (List.mem_cons_of_mem _ hy))
section
open PyProof.Rows LiI
variable {X : Cx} {W : WXX} {e : Expr} {te : TE} {p apos cpos pos : Pos}
def rSortV : V → Hp → VK → Prop := fun x H Q => ∃ (d : Addr) (ps : List (Str × Int)), x = .ref d ∧ (H d = some (DX d []) ∨ Rd H d (.dK (ps.map fun p => (Sum.inr p.1, V.int p.2))) ∧
  ∀ (H' : Hp) (p : Addr) (ys : List V), (∀ b o, H b = some o → H' b = some o) → H' p = none → Paired (fun (y : V) (q : Str × Int) => ∃ t, y = .ref t ∧ H t = none ∧ H' t = some (.tup [.str q.1, .int q.2])) ys (sortK ps) → Q (.ref p) (upd H' p (.lst ys)))
def tSortV (te : TE) : TE := fun σ H Q => te σ H fun x H1 => rSortV x H1 Q
theorem pe_sortV (hc : X.calm = true) (he : PE X e te) (hg : Gl X "sorted") (hm : X.mg "sorted" = none) (hbase : attributeBase e "items" X.env (eval e X.env) = eval e X.env := by rfl) (hline : (apos.endLine == cpos.line) = true := by rfl)
    (hs : starEach [.Call (.Attribute e "items" apos) [] [] cpos] X.env = (false, eval (.Call (.Attribute e "items" apos) [] [] cpos) X.env) :: starEach [] X.env := by rfl) :
    PE X (.Call (.Name "sorted" p) [.Call (.Attribute e "items" apos) [] [] cpos] [] pos) (tSortV te) := by
  refine ⟨fun pins s σ H Q I hq => ?_⟩
  refine Call_ (ld_blt I hg hm boot_sorted ?_)
  refine PyProof.Rows.callWith_builtin1 (PyProof.Rows.args_cons ?_ hs) hs rfl
  refine wpAny_Call_method (T := "dict") (id := "dict.items") hbase rfl hline F.plainAttrs_dict F.slot_dict_items F.type_dict_items (thn (he.run pins s σ H _ I hq) fun u s1 ⟨x, H1, I1, rx, d, ps, ex, hd⟩ => ?_)
  subst ex
  obtain rfl : u = Value.ref d := rx
  rcases hd with hd | ⟨hd, q⟩
  · obtain ⟨z, _, _⟩ := (show ObjOk X.prog X.w H1 s1.heap d (DX d []) from I1.hok d _ hd)
    exact (dxs_empty z).elim
  obtain ⟨hz, hs0, vs, kv, hdo⟩ := dk_rd I1.hok hd
  have lk := Paired.length kv
  have I2 : Inv X pins σ H1 { s1 with heap := s1.heap.push { cls := .type "dict_items", data := .fields #[.ref d] } } := I1.kept (t' := s1.toks) fun b ob q => Heap.get?_push_of_some _ q
  refine ⟨hdo.typeIs, hdo.mapOf.noDict, ?_⟩
  show wpAny _ _ (callWith cpos (.builtin "dict.items") [.ref d] [] []) _ X.xe s1
  refine method_meetsIn F.slot_dict_items F.entry_dict_items rfl (PySem.evalArgs_none ⟨rfl, hdo.typeIs, F.args_dict_items_1 _, _, meets_dict_items (mixKind X.prog X.w) d hs0, ⟨vs, hdo⟩, ?_⟩)
  refine PyProof.Rows.args_nil ?_
  obtain ⟨o, es, ep, h1, h2, h3, h4, h5, h6⟩ := hdo
  have hdo' : es.size = vs.length ∧ True := ⟨by have := pairs_len h5; simpa using this, trivial⟩
  refine DT.sortedI (es := es) (ep := ep) (I1.ok.hd hc) ⟨_, Heap.get?_push_size _ rfl, rfl, rfl⟩ ⟨o, Heap.get?_push_of_some _ h1, h2, h3⟩ ?_ fun h' tk as hk hlt hl hG => ?_
  · rw [hdo'.1, ← lk]
    exact hz
  · have hA : ∀ (j : Nat) (a : Addr), as[j]? = some a → ∃ (q : Str × Int) (t u : Tok), ps[j]? = some q ∧ h'.get? a = some { cls := .type "tuple", data := .seq #[.str q.1 t, .int q.2 u] } := by
      intro j a hj
      obtain ⟨en, he, hg2⟩ := hG.pairs j a hj
      obtain ⟨ky, e1, e2⟩ := pairs_get h5 (by rw [Array.getElem?_toList]; exact he)
      obtain ⟨pk, e3, e4⟩ := L2.DX.pget kv e1
      rw [List.getElem?_map] at e3
      cases e5 : ps[j]? with
      | none => rw [e5] at e3; cases e3
      | some q =>
        rw [e5] at e3
        cases e3
        obtain ⟨e6, e7⟩ := e4
        have e6 : Sum.inr q.1 = ky := e6
        subst e6
        have rk : RelV (kV (Sum.inr q.1)) en.key := relV_key (show keyIs (Sum.inr q.1) en.key = true from e2)
        obtain ⟨t, ht⟩ := (show ∃ t, en.key = Value.str q.1 t from rk)
        obtain ⟨u, hu⟩ := (show ∃ u, en.val = Value.int q.2 u from e7)
        exact ⟨q, t, u, rfl, by rw [hg2, ht, hu]⟩
    have lak : as.length = ps.length := by rw [hl, hdo'.1, ← lk, List.length_map]
    have nd : as.Nodup := List.Pairwise.imp (fun h => Nat.ne_of_lt h) hG.rise
    have hob : (h'.push { cls := .type "list", data := .seq (as.map Value.ref).toArray }).get? h'.objs.size = some (seqObj "list" (as.map Value.ref).toArray 0) := Heap.get?_push_size _ rfl
    have ne0 : ∀ b o, h'.get? b = some o → b ≠ h'.objs.size := fun b o e => Nat.ne_of_lt (Heap.lt_size e)
    generalize hh2 : h'.push { cls := .type "list", data := .seq (as.map Value.ref).toArray } = g2 at hob ⊢
    have ka : ∀ b o, h'.get? b = some o → g2.get? b = some o := fun b o e => by rw [← hh2]; exact Heap.get?_push_of_some _ e
    let k : Value → Str × Int := fun v => match v with
      | .ref a => (match g2.get? a with
        | some ⟨_, _, .seq its _, _⟩ => (match its.toList with
          | [.str x _, .int i _] => (x, i)
          | _ => ("", 0))
        | _ => ("", 0))
      | _ => ("", 0)
    have hk2 : ∀ (j : Nat) (a : Addr) (q : Str × Int), as[j]? = some a → ps[j]? = some q → k (.ref a) = q ∧ IsKI g2 (.ref a) q.1 q.2 := by
      intro j a q hj hq
      obtain ⟨q', t, u, e1, e2⟩ := hA j a hj
      rw [hq] at e1
      cases e1
      have e3 := ka _ _ e2
      refine ⟨?_, a, _, t, u, 0, rfl, e3, rfl, rfl⟩
      show (match g2.get? a with
        | some ⟨_, _, .seq its _, _⟩ => (match its.toList with
          | [.str x _, .int i _] => (x, i)
          | _ => ("", 0))
        | _ => ("", 0)) = q
      rw [e3]
    have ix : ∀ v ∈ as.map Value.ref, ∃ (j : Nat) (a : Addr) (q : Str × Int), v = .ref a ∧ as[j]? = some a ∧ ps[j]? = some q := by
      intro v hv
      obtain ⟨a, ha, rfl⟩ := List.mem_map.mp hv
      obtain ⟨j, hj⟩ := List.mem_iff_getElem?.mp ha
      obtain ⟨q, _, _, e1, _⟩ := hA j a hj
      exact ⟨j, a, q, rfl, hj, e1⟩
    have hp : ∀ v ∈ as.map Value.ref, IsKI g2 v (k v).1 (k v).2 := fun v hv => by
      obtain ⟨j, a, q, rfl, hj, hq⟩ := ix v hv
      obtain ⟨e1, e2⟩ := hk2 j a q hj hq
      rw [e1]
      exact e2
    have mk : (as.map Value.ref).map k = ps := by
      apply List.ext_getElem?
      intro j
      rw [List.map_map, List.getElem?_map]
      cases hj : as[j]? with
      | none =>
        have : ps[j]? = none := by rw [List.getElem?_eq_none_iff] at hj ⊢; omega
        rw [this]
        rfl
      | some a =>
        obtain ⟨q, _, _, e1, _⟩ := hA j a hj
        rw [e1]
        exact congrArg some (hk2 j a q hj e1).1
    have hzl : (as.map Value.ref).length ≤ sizeLine := by rw [List.length_map, lak]; rw [List.length_map] at hz; exact hz
    refine wpAny_call_entry PyProof.Rows.slot_list_sort ⟨_, hob, rfl⟩ PyProof.Rows.entry_list_sort
      (SrtO.list_sort_ord (swo_lexK k) hob hzl (fun h2 => ki_sortable (by omega) hp fun o e => ?_) fun out o1 o2 => ⟨.none, rfl, ?_⟩) (PyProof.Rows.args_list_sort _)
    · have e' : some o = some (seqObj "list" (as.map Value.ref).toArray 0) := e.symm.trans hob
      cases e'
      intro c
      exact absurd (Value.type.inj c) (by decide)
    · have kF : ∀ b o, b ≠ h'.objs.size → g2.get? b = some o → (sortedHeap g2 h'.objs.size (as.map Value.ref) out.toArray).get? b = some o := fun b o hb e => (PyProof.Rows.sortedHeap_old hb (Heap.lt_size e)).trans e
      have kS := fun b o e => kF b o (ne0 _ _ (hk b o e)) (ka b o (hk b o e))
      obtain ⟨eF, heF⟩ := PyProof.Rows.sortedHeap_at (vs := as.map Value.ref) (out := out.toArray) hob
      have I3 : Inv X pins σ H1 { s1 with heap := sortedHeap g2 h'.objs.size (as.map Value.ref) out.toArray, toks := tk } := I2.kept (t' := tk) kS
      have hn0 : H1 h'.objs.size = none := I2.hok.fresh (Nat.le_of_lt hlt)
      have refs : ∀ u ∈ out, ∃ a, u = Value.ref a ∧ a ∈ as := fun u hu => by
        obtain ⟨a, ha, e⟩ := List.mem_map.mp (o2.perm.mem_iff.mp hu)
        exact ⟨a, e.symm, ha⟩
      have hlen : (out.map backV).length ≤ sizeLine := by rw [List.length_map, o2.perm.length_eq]; exact hzl
      have I4 : Inv X pins σ (upd H1 h'.objs.size (.lst (out.map backV))) { s1 with heap := sortedHeap g2 h'.objs.size (as.map Value.ref) out.toArray, toks := tk } :=
        I3.take (h' := sortedHeap g2 h'.objs.size (as.map Value.ref) out.toArray) (t' := tk) (fun b ob _ e => e) (I2.fpOk (Nat.le_of_lt hlt) hn0) ⟨hlen, out, eF, vals_back (fun u hu => let ⟨a, e, _⟩ := refs u hu; ⟨a, e⟩), heF⟩
      obtain ⟨H2, I5, g, qt⟩ := L2.DX.takeT (P := fun b vs => vs = [.str (k (.ref b)).1, .int (k (.ref b)).2]) I2 as _ I4 nd fun b hb => by
        obtain ⟨j, hj⟩ := List.mem_iff_getElem?.mp hb
        obtain ⟨q', t, u, e1, e2⟩ := hA j b hj
        obtain ⟨e3, _⟩ := hk2 j b q' hj e1
        have hbl := Nat.le_of_lt (hG.above b hb)
        refine ⟨hbl, ?_, _, rfl, fun H3 => ?_⟩
        · rw [upd_ne (ne0 _ _ e2)]
          exact I2.hok.fresh hbl
        · rw [e3]
          exact ⟨(by rw [sizeLine_eq]; show 2 ≤ 16777216; omega), [Value.str q'.1 t, Value.int q'.2 u], .cons ⟨t, rfl⟩ (.cons ⟨u, rfl⟩ .nil), ⟨_, kF _ _ (ne0 _ _ e2) (ka _ _ e2), rfl, 0, rfl⟩⟩
      have eL : H2 h'.objs.size = some (.lst (out.map backV)) := g _ _ upd_same
      let H3 : Hp := fun a => if a = h'.objs.size then none else H2 a
      have hH : H2 = upd H3 h'.objs.size (.lst (out.map backV)) := by
        funext a
        by_cases ha : a = h'.objs.size
        · subst ha
          rw [eL, upd_same]
        · rw [upd_ne ha]
          show _ = (if a = h'.objs.size then none else H2 a)
          rw [if_neg ha]
      have gr : ∀ b o, H1 b = some o → H3 b = some o := fun b o e => by
        have nb : b ≠ h'.objs.size := fun z => by rw [z, hn0] at e; cases e
        show (if b = h'.objs.size then none else H2 b) = some o
        rw [if_neg nb]
        exact g b o (by rw [upd_ne nb]; exact e)
      have ek : out.map k = sortK ps := by
        refine sortK_unique ?_ ?_
        · rw [← mk]
          exact o2.perm.map k
        · exact List.pairwise_map.mpr (o1.imp fun {x y} z => lexK_no.mp z)
      have fin := q H3 h'.objs.size (out.map backV) gr (if_pos rfl) (by
        rw [← ek]
        refine map2_paired fun u hu => ?_
        obtain ⟨a, rfl, ha⟩ := refs u hu
        obtain ⟨vs2, hv2, hH2⟩ := qt a ha
        obtain ⟨j, hj⟩ := List.mem_iff_getElem?.mp ha
        obtain ⟨_, _, _, _, e2⟩ := hA j a hj
        refine ⟨a, rfl, I2.hok.fresh (Nat.le_of_lt (hG.above a ha)), ?_⟩
        show (if a = h'.objs.size then none else H2 a) = _
        rw [if_neg (ne0 _ _ e2), hH2, hv2])
      rw [← hH] at fin
      exact ⟨.ref h'.objs.size, H2, I5, rfl, fin⟩
def asKV : List (U × U) → Option (List (Str × Int))
  | [] => some []
  | (.str x, .int i) :: r => (asKV r).map ((x, i) :: ·)
  | _ => none
theorem asKV_eq : ∀ {us : List (U × U)} {ps : List (Str × Int)}, asKV us = some ps → us = ps.map fun p => (.str p.1, .int p.2)
  | [], ps, h => by injection h with h; subst h; rfl
  | u :: us, ps, h => by
    unfold asKV at h
    split at h
    · rename_i e
      cases e
    · rename_i x i r e
      cases e
      obtain ⟨q, h1, rfl⟩ := Option.map_eq_some_iff.mp h
      rw [asKV_eq h1]
      rfl
    · cases h
theorem repd_kv {Γ : Ga} {B : Hp} : ∀ {ps : List (Str × Int)} {es : List (Key × V)}, repd Γ B (ps.map fun p => (U.str p.1, U.int p.2)) es → es = ps.map fun p => (Sum.inr p.1, V.int p.2)
  | [], _, r => by simpa only [List.map_nil, repd] using r
  | p :: ps, _, r => by
    rw [List.map_cons] at r
    simp only [repd] at r
    obtain ⟨l, v, t, rfl, r1, r2, r3⟩ := r
    have e1 : (Sum.inr p.1 : Key) = l := (rep_key r1).2
    simp only [rep] at r2
    rw [repd_kv r3, r2, ← e1]
    rfl
def mSortV (m : M Od) : M (Bool × U) := m.bd fun od e => match rdO e od with
  | some (.dct kvs) => match asKV kvs with
    | some ps => .ok (true, .lst ((sortK ps).map fun p => .tup [.str p.1, .int p.2])) e
    | none => .bad
  | _ => .bad
theorem po_sortV {m : M Od} (hc : X.calm = true) (he : PR X W e m) (hm : X.mg "sorted" = none) (hg : Gl X "sorted") (hbase : attributeBase e "items" X.env (eval e X.env) = eval e X.env := by rfl) (hline : (apos.endLine == cpos.line) = true := by rfl)
    (hs : starEach [.Call (.Attribute e "items" apos) [] [] cpos] X.env = (false, eval (.Call (.Attribute e "items" apos) [] [] cpos) X.env) :: starEach [] X.env := by rfl) :
    PO X W (.Call (.Name "sorted" p) [.Call (.Attribute e "items" apos) [] [] cpos] [] pos) (mSortV m) := by
  refine PEimp (pe_sortV hc he hg hm hbase hline hs) fun σ H Q ⟨B, e0, sr, q⟩ => ⟨B, e0, sr, (tAt.bd q).mono fun x H1 ⟨B1, e1, od, g1, r1, q1⟩ => ?_⟩
  unfold tAt at q1
  dsimp only at q1
  cases z1 : rdO e1 od with
  | none => rw [z1] at q1; exact q1.elim
  | some u =>
    rw [z1] at q1
    cases u with
    | dct kvs =>
      dsimp only at q1
      cases z2 : asKV kvs with
      | none => rw [z2] at q1; exact q1.elim
      | some ps =>
        rw [z2] at q1
        have ek := asKV_eq z2
        subst ek
        obtain ⟨a, rfl, d⟩ := (rlR.vw g1.sr r1 z1).dn g1.sr.bh
        rcases d with ⟨es, e2, rd⟩ | ⟨xs, e2, rx⟩
        · rw [repd_kv rd] at e2
          refine ⟨a, ps, rfl, .inr ⟨e2, fun H' p ys k hp pr => ?_⟩⟩
          have g2 := Go.grow g1.sr k
          have q2 : tAt (ga X) W (rlO (ga X)) (M.ret (true, U.lst ((sortK ps).map fun p => .tup [.str p.1, .int p.2]))) (fun a => match H1 a with | some _ => B1 a | none => H' a) H' e1 σ Q := fun b B' H'' g r => q1 b B' H'' (g2.trans g) ((rlO (ga X)).mono g2.may r)
          refine fin_new (ho := fun _ => .lst ys) g2.sr q2 (fun p => ⟨_, rfl, reps_ki.mpr ?_⟩) p hp
          have : ∀ {ys : List V} {qs : List (Str × Int)}, Paired (fun (y : V) (q : Str × Int) => ∃ t, y = .ref t ∧ H1 t = none ∧ H' t = some (.tup [.str q.1, .int q.2])) ys qs → Paired (fun x (q : Str × Int) => rep (ga X) (fun a => match H1 a with | some _ => B1 a | none => H' a) (.tup [.str q.1, .int q.2]) x) ys qs := by
            intro ys qs h
            induction h with
            | nil => exact .nil
            | cons r t ih =>
              refine .cons ?_ ih
              obtain ⟨t, rfl, h1, h2⟩ := r
              simp only [rep]
              refine ⟨t, _, rfl, SqT.of (show (match H1 t with | some _ => B1 t | none => H' t) = _ by rw [h1]; exact h2), ?_⟩
              simp only [reps, rep]
              exact ⟨_, _, rfl, rfl, _, _, rfl, rfl, rfl⟩
          exact this pr
        · cases ps with
          | cons p ps =>
            obtain ⟨a1, _, _⟩ := rx.all
            have h1 := a1 _ List.mem_cons_self
            simp [isKx] at h1
          | nil =>
            simp only [List.map_nil, repx] at rx
            subst rx
            exact ⟨a, [], rfl, .inl e2⟩
    | _ => exact False.elim q1
end
end VS
set_option Elab.async false
set_option linter.all false
set_option maxRecDepth 100000
set_option maxHeartbeats 2000000
/-! VS41: list comprehensions with two clauses (under way). -/
namespace VS
open PySem L2
noncomputable def lcI (t1 : MT) (te : M U) (vs1 : List Nat) : List U → List U → En → Option (List U × En)
  | [], acc, e => some (acc, e)
  | u :: us, acc, e => match t1 u e with
    | some e1 => match te e1 with
      | .ok c e2 => if acc.length < sizeLine then lcI t1 te vs1 us (acc ++ [c]) (wipeE e2 vs1) else none
      | _ => none
    | none => none
noncomputable def lcO (t : MT) (m1 : M Src) (t1 : MT) (te : M U) (vs vs1 : List Nat) : List U → List U → En → Option (List U × En)
  | [], acc, e => some (acc, e)
  | u :: us, acc, e => match t u e with
    | some e1 => match m1 e1 with
      | .ok s e2 => match s.g with
        | none => match lcI t1 te vs1 s.items acc (wipeE e2 vs1) with
          | some (acc', e3) => lcO t m1 t1 te vs vs1 us acc' (wipeE e3 vs)
          | none => none
        | some _ => none
      | _ => none
    | none => none
noncomputable def mLc2 (m : M Src) (t : MT) (m1 : M Src) (t1 : MT) (te : M U) (vs vs1 : List Nat) : M (Bool × U) := m.bd fun s e => match s.g with
  | none => match lcO t m1 t1 te vs vs1 s.items [] (wipeE e vs) with
    | some (acc, e') => .ok (true, .lst acc) (resE e e' vs)
    | none => .bad
  | some _ => .bad
section
variable {X : Cx} {W : WXX}
theorem lc2_core' {m : M Src} {t : MT} {m1 : M Src} {t1 : MT} {te : M U} {vs vs1 : List Nat} (σ : St) (H : Hp) (Q : VK) (q : tG (ga X) W (rlO (ga X)) (mLc2 m t m1 t1 te vs vs1) σ H Q) :
    tLc2 (iG (ga X) W m) (gG (ga X) (prB vs) t) (tG (ga X) W0 rlB (M.ret true)) (iG (ga X) W0 m1) (gG (ga X) (prB vs1) t1) (tG (ga X) W0 rlB (M.ret true)) (tG (ga X) W0 (rlV (ga X)) te) vs vs1 σ H Q := by
  obtain ⟨B, e, sr, q⟩ := q
  refine ⟨B, e, sr, ?_⟩
  unfold tAt mLc2 M.bd at q
  cases z : m e with
  | bad => rw [z] at q; exact q
  | exc c u e' => rw [z] at q; exact q
  | ok s e1 =>
    rw [z] at q
    dsimp only at q ⊢
    intro J B1 H1 g1 io _ D hD
    cases hg : s.g with
    | some i => rw [hg] at q; exact q.elim
    | none =>
      rw [hg] at q io
      dsimp only at q
      cases hl : lcO t m1 t1 te vs vs1 s.items [] (wipeE e1 vs) with
      | none => rw [hl] at q; exact q.elim
      | some r0 =>
        obtain ⟨acc0, e0⟩ := r0
        rw [hl] at q
        dsimp only at q
        · skip
          have bD : B1 D = none := g1.sr.none_of hD
          have nD : ¬ own e1 σ D := g1.sr.not_own hD
          refine ⟨fun k n H' => n = s.items.length - k ∧ k ≤ s.items.length ∧ ∃ B' e' acc ks, Go (ga X) B1 H1 e1 σ B' H' e' σ ∧ Emp e' vs ∧ H' D = some (HO.lst ks) ∧ reps (ga X) B' acc ks ∧ B' D = none ∧ ¬ own e' σ D ∧
            lcO t m1 t1 te vs vs1 (s.items.drop k) acc e' = some (acc0, e0), ⟨_, rfl, Nat.zero_le _, B1, wipeE e1 vs, [], [], ?_, emp_wipe _ _, upd_same, reps.nil', bD, fun w => nD (own_wipeE w), by simpa using hl⟩, ?_⟩
          · exact Go.setD (Go.wipeE g1.sr) hD bD fun w => nD (own_wipeE w)
          · rintro k n H' ⟨rfl, hk, B', e', acc, ks, g', em, hHD, hm, bD', nD', hl'⟩
            have sb := g'.st.bb
            by_cases hlt : k < s.items.length
            · refine .inr ?_
              have hu : s.items[k]? = some s.items[k] := by simp [hlt]
              obtain ⟨j1, j2⟩ := io.go B' H' k _ sb g'.sr.bh trivial hu
              rw [List.drop_eq_getElem_cons hlt] at hl'
              unfold lcO at hl'
              refine ⟨j1, fun H2 => ∃ B2 e2 acc ks, Go (ga X) B1 H1 e1 σ B2 H2 e2 σ ∧ Emp e2 vs ∧ H2 D = some (HO.lst ks) ∧ reps (ga X) B2 acc ks ∧ B2 D = none ∧ ¬ own e2 σ D ∧
                lcO t m1 t1 te vs vs1 (s.items.drop (k + 1)) acc e2 = some (acc0, e0), fun H2 ⟨B2, e2, ac, kk, h1, h2, h3, h4, h5, h6, h7⟩ => ⟨s.items.length - (k + 1), by omega, rfl, hlt, B2, e2, ac, kk, h1, h2, h3, h4, h5, h6, h7⟩, fun x H'' y => ?_⟩
              obtain ⟨B'', lt, rx⟩ := j2 x H'' y
              have gw := lt.go (g'.sr.ag em (ag_wipe σ vs))
              refine ⟨B'', e', _, gw.sr, rx, ?_⟩
              cases h1 : t s.items[k] e' with
              | none => rw [h1] at hl'; cases hl'
              | some e2 =>
                rw [h1] at hl'
                dsimp only at hl' ⊢
                intro B2 H2 σ2 g2 k2
                have ag2 : Ag vs (wipe σ vs) σ2 := kp_ag k2
                refine ⟨(wipe_ag ag2).symm.trans (wipe_ag (ag_wipe σ vs)).symm, B2, e2, g2.sr, ?_⟩
                intro b0 B20 H20 g20 eb0
                have eb0 : true = b0 := eb0
                subst eb0
                rw [if_pos rfl]
                refine ⟨B20, e2, g20.sr, ?_⟩
                cases h2 : m1 e2 with
                | bad => rw [h2] at hl'; cases hl'
                | exc c u e3 => rw [h2] at hl'; cases hl'
                | ok s1 e3 =>
                  rw [h2] at hl'
                  dsimp only at hl' ⊢
                  intro J1 B3 H3 g3 io1 _
                  cases hg1 : s1.g with
                  | some i => rw [hg1] at hl'; cases hl'
                  | none =>
                    rw [hg1] at hl' io1
                    dsimp only at hl'
                    cases hl1 : lcI t1 te vs1 s1.items acc (wipeE e3 vs1) with
                    | none => rw [hl1] at hl'; cases hl'
                    | some r1 =>
                      obtain ⟨acc1, e4⟩ := r1
                      rw [hl1] at hl'
                      dsimp only at hl'
                      -- from the turn's start to here
                      have G3 := ((gw.trans g2).trans g20).trans g3
                      have nd : ¬ own e' (wipe σ vs) D := fun w => nD' (own_ag em (ag_wipe σ vs).symm w)
                      have keep3 : H3 D = some (HO.lst ks) := G3.st.fr D _ hHD nd
                      have b3 : B3 D = none := G3.st.nb D _ hHD nd bD'
                      have n3 : ¬ own e3 σ2 D := fun w => by
                        rcases G3.sub _ w with z | z
                        · exact nd z
                        · rw [hHD] at z; cases z
                      have G3m := G3.minus b3 n3
                      refine ⟨fun j n H' => n = s1.items.length - j ∧ j ≤ s1.items.length ∧ ∃ B4 e5 ac kk, Go (ga X) B3 (rm H3 D) e3 σ2 B4 (rm H' D) e5 σ2 ∧ Emp e5 vs1 ∧ H' D = some (HO.lst kk) ∧ reps (ga X) B4 ac kk ∧
                        lcI t1 te vs1 (s1.items.drop j) ac e5 = some (acc1, e4), ⟨_, rfl, Nat.zero_le _, B3, wipeE e3 vs1, acc, ks, Go.wipeE (g3.sr.rm b3 n3), emp_wipe _ _, keep3, hm.mono G3.st.bb, by simpa using hl1⟩, ?_⟩
                      rintro j n H4 ⟨rfl, hj, B4, e5, ac, kk, g4, em1, hH4, hm4, hl4⟩
                      obtain ⟨sr4, b4, n4⟩ := g4.sr.unrm
                      by_cases hlt1 : j < s1.items.length
                      · refine .inr ?_
                        have hu1 : s1.items[j]? = some s1.items[j] := by simp [hlt1]
                        obtain ⟨i1, i2⟩ := io1.go B4 H4 j _ g4.st.bb sr4.bh trivial hu1
                        rw [List.drop_eq_getElem_cons hlt1] at hl4
                        unfold lcI at hl4
                        refine ⟨i1, fun H5 => ∃ B5 e6 ac kk, Go (ga X) B3 (rm H3 D) e3 σ2 B5 (rm H5 D) e6 σ2 ∧ Emp e6 vs1 ∧ H5 D = some (HO.lst kk) ∧ reps (ga X) B5 ac kk ∧
                          lcI t1 te vs1 (s1.items.drop (j + 1)) ac e6 = some (acc1, e4), fun H5 ⟨B5, e6, ac, kk, h1, h2, h3, h4, h5⟩ => ⟨s1.items.length - (j + 1), by omega, rfl, hlt1, B5, e6, ac, kk, h1, h2, h3, h4, h5⟩, fun x1 H5 y1 => ?_⟩
                        obtain ⟨B5, lt1, rx1⟩ := i2 x1 H5 y1
                        have gw1 := lt1.go (sr4.ag em1 (ag_wipe σ2 vs1))
                        refine ⟨B5, e5, _, gw1.sr, rx1, ?_⟩
                        cases h5 : t1 s1.items[j] e5 with
                        | none => rw [h5] at hl4; cases hl4
                        | some e6 =>
                          rw [h5] at hl4
                          dsimp only at hl4 ⊢
                          intro B6 H6 σ3 g6 k6
                          have ag6 : Ag vs1 (wipe σ2 vs1) σ3 := kp_ag k6
                          refine ⟨(wipe_ag ag6).symm.trans (wipe_ag (ag_wipe σ2 vs1)).symm, B6, e6, g6.sr, ?_⟩
                          intro b1 B61 H61 g61 eb1
                          have eb1 : true = b1 := eb1
                          subst eb1
                          rw [if_pos rfl]
                          refine ⟨B61, e6, g61.sr, ?_⟩
                          unfold tAt
                          cases h6 : te e6 with
                          | bad => rw [h6] at hl4; cases hl4
                          | exc c u e7 => rw [h6] at hl4; cases hl4
                          | ok y e7 =>
                            rw [h6] at hl4
                            dsimp only at hl4 ⊢
                            intro v B7 H7 g7 rv
                            by_cases hsz : ac.length < sizeLine
                            · rw [if_pos hsz] at hl4
                              have gin := Go.blk em1 (ag_wipe σ2 vs1) (((gw1.trans g6).trans g61).trans g7) ag6
                              have hH7 : H7 D = some (HO.lst kk) := gin.st.fr D _ hH4 n4
                              have b7 : B7 D = none := gin.st.nb D _ hH4 n4 b4
                              have n7 : ¬ own (wipeE e7 vs1) σ2 D := fun w => by
                                rcases gin.sub _ w with z | z
                                · exact n4 z
                                · rw [hH4] at z; cases z
                              refine ⟨kk, hH7, by rw [← hm4.length]; exact hsz, ?_⟩
                              refine ⟨B7, wipeE e7 vs1, ac ++ [y], kk ++ [v], ?_, emp_wipe _ _, upd_same, (hm4.mono gin.st.bb).snoc rv, hl4⟩
                              rw [rm_upd]
                              exact g4.trans (gin.minus b7 n7)
                            · rw [if_neg hsz] at hl4; cases hl4
                      · have ej : j = s1.items.length := by omega
                        subst ej
                        rw [List.drop_length] at hl4
                        unfold lcI at hl4
                        injection hl4 with hl4
                        injection hl4 with ha he
                        subst ha he
                        refine .inl ⟨io1.stop B4 H4 g4.st.bb sr4.bh trivial, ?_⟩
                        have gm := g'.rmR hD bD' nD'
                        have gb := gm.trans (Go.blk em (ag_wipe σ vs) (G3m.trans g4) ag2)
                        have nb : ¬ own (wipeE e5 vs) σ D := gb.sr.unrm.2.2
                        have gf := Go.setD (o := HO.lst kk) gb hD b4 nb
                        rw [upd_rm hH4] at gf
                        exact ⟨B4, wipeE e5 vs, ac, kk, gf, emp_wipe _ _, hH4, hm4, b4, nb, hl'⟩
            · have ek : k = s.items.length := by omega
              subst ek
              rw [List.drop_length] at hl'
              unfold lcO at hl'
              injection hl' with hl'
              injection hl' with ha he
              subst ha he
              refine .inl ⟨io.stop B' H' sb g'.sr.bh trivial, ?_⟩
              refine q (.ref D) B' H' (g1.trans (Go.res g1.sr g')) ?_
              refine ⟨D, _, rfl, hHD, ⟨ks, rfl, hm⟩, bD', fun w => ?_, ?_⟩
              · obtain ⟨i, u, w1, w2⟩ := w
                rcases resE_get e1 e' vs w1 with w1 | ⟨_, w1⟩
                · exact nD' ⟨i, u, w1, w2⟩
                · cases w1
              · exact g1.may D (.inr hD)
theorem po_lc2 {elt tg iter tg1 iter1 : Expr} {scope : Scope} {own' : List (PySem.Str × Nat)} {pos : Pos} {m m1 : M Src} {t t1 : MT} {te : M U} {vs vs1 : List Nat} (hc : X.calm = true) (hN : X.N.Nodup) (hi : PIV X W tg iter m) (ok : BlkOk X.N X.env.scope scope own') (hvs : own'.map (·.2) = vs)
    (hv : ∀ i ∈ vs1, i ∈ own'.map (·.2)) (hg : BlkAll X scope fun Y => PGV Y (prB vs) tg t) (hi1 : BlkAll X scope fun Y => PIV Y W0 tg1 iter1 m1) (hg1 : BlkAll X scope fun Y => PGV Y (prB vs1) tg1 t1) (he : BlkAll X scope fun Y => PE Y elt (tG (ga X) W0 (rlV (ga X)) te))
    (hs : ∀ x, foldedSetIterable iter X.env x = pure x := by intro _; rfl) (hs1 : ∀ env x, foldedSetIterable iter1 env x = pure x := by intro _ _; rfl) :
    PO X W (.ListComp elt [⟨tg, iter, [], 0⟩, ⟨tg1, iter1, [], 0⟩] scope pos) (mLc2 m t m1 t1 te vs vs1) := by
  subst hvs
  exact PEimp (pe_lc2 (own := own') (vs1 := vs1) hc hN hi ok hv (fun s H C cl fp => hg s H C cl fp) (fun s H C cl fp => cv_nil) (fun s H C cl fp => hi1 s H C cl fp) (fun s H C cl fp => hg1 s H C cl fp) (fun s H C cl fp => cv_nil) (fun s H C cl fp => he s H C cl fp) hs hs1) fun σ H Q q => lc2_core' σ H Q q
end
end VS
set_option Elab.async false
set_option linter.all false
set_option maxRecDepth 100000
/-! VS42: a, b = x, y with parts of our own. -/
namespace VS
open PySem L2
def FrL (Γ : Ga) (S : Addr → Prop) (B H : Hp) (e : En) (σ : St) : List (Bool × U) → List V → Prop
  | [], vs => vs = []
  | r :: rs, vs => ∃ v ws, vs = v :: ws ∧ (rlO Γ).r r v S B H e σ ∧ FrL Γ S B H e σ rs ws ∧ (r.1 = true → ∀ (j : Nat) u w, rs[j]? = some (true, u) → ws[j]? = some w → w ≠ v)
theorem FrL.mono {Γ : Ga} {S S' : Addr → Prop} {B H : Hp} {e : En} {σ : St} (hs : ∀ x, S x → S' x) : ∀ {rs : List (Bool × U)} {vs : List V}, FrL Γ S B H e σ rs vs → FrL Γ S' B H e σ rs vs
  | [], _, h => h
  | r :: rs, _, ⟨v, ws, e1, h1, h2, h3⟩ => ⟨v, ws, e1, (rlO Γ).mono hs h1, FrL.mono hs h2, h3⟩
def rlOs (Γ : Ga) : Rl (List (Bool × U)) (List V) := ⟨fun rs vs S B H e σ => FrL Γ S B H e σ rs vs, fun hs h => FrL.mono hs h⟩
theorem FrL.len {Γ : Ga} {S : Addr → Prop} {B H : Hp} {e : En} {σ : St} : ∀ {rs : List (Bool × U)} {vs : List V}, FrL Γ S B H e σ rs vs → vs.length = rs.length
  | [], _, h => by rw [show _ = [] from h]; rfl
  | r :: rs, _, ⟨v, ws, e1, h1, h2, h3⟩ => by rw [e1, List.length_cons, List.length_cons, FrL.len h2]
theorem FrL.go {Γ : Ga} {S : Addr → Prop} {B H B' H' : Hp} {e e' : En} {σ : St} (s : SR Γ B H e σ) (g : Go Γ B H e σ B' H' e' σ) : ∀ {rs : List (Bool × U)} {vs : List V}, FrL Γ S B H e σ rs vs → FrL Γ S B' H' e' σ rs vs
  | [], _, h => h
  | r :: rs, _, ⟨v, ws, e1, h1, h2, h3⟩ => ⟨v, ws, e1, rlO.keep h1 s g, FrL.go s g h2, h3⟩
/-- who is new behind a state is not who was new before -/
theorem FrL.other {Γ : Ga} {S : Addr → Prop} {B H : Hp} {e : En} {σ : St} {a : Addr} (hS : ¬ S a) : ∀ {rs : List (Bool × U)} {vs : List V}, FrL Γ S B H e σ rs vs → ∀ (j : Nat) u w, rs[j]? = some (true, u) → vs[j]? = some w → w ≠ .ref a
  | [], _, h, j, u, w, q, _ => by simp at q
  | r :: rs, _, ⟨v, ws, e1, h1, h2, h3⟩, j, u, w, q, k => by
    subst e1
    cases j with
    | zero =>
      simp only [List.getElem?_cons_zero, Option.some.injEq] at q k
      subst q k
      obtain ⟨b, ho, x1, x2, x3, x4, x5, x6⟩ := h1
      intro z
      rw [z] at x1
      cases x1
      exact hS x6
    | succ j => exact FrL.other hS h2 j u w (by simpa using q) (by simpa using k)
def mOn : M (List (Bool × U)) := .ret []
def mOc (ma : M (Bool × U)) (mr : M (List (Bool × U))) : M (List (Bool × U)) := ma.bd fun r => mr.bd fun rs => .ret (r :: rs)
abbrev POs (X : Cx) (W : WXX) (exs : List Expr) (m : M (List (Bool × U))) : Prop := PA X exs (tG (ga X) W (rlOs (ga X)) m)
section
variable {X : Cx} {W : WXX} {ex : Expr} {es : List Expr} {pos : Pos} {pr : Nat → Bool}
theorem pos_nil : POs X W [] mOn := ⟨fun pos pins s σ H Q I ⟨B, e, sr, q⟩ => (pa_nil (X := X)).run pos pins s σ H Q I (q [] B H (Go.refl sr) rfl)⟩
theorem pos_cons {ma : M (Bool × U)} {mr : M (List (Bool × U))} (ha : PO X W ex ma) (hr : POs X W es mr) (hs : starEach (ex :: es) X.env = (false, eval ex X.env) :: starEach es X.env := by rfl) : POs X W (ex :: es) (mOc ma mr) := by
  refine PAimp (pa_cons ha hr hs) fun σ H Q ⟨B, e, sr, q⟩ => ⟨B, e, sr, ?_⟩
  unfold mOc tAt M.bd at q
  unfold tAt
  cases z : ma e with
  | bad => rw [z] at q; exact q
  | exc c u e' => rw [z] at q; exact q
  | ok r e1 =>
    rw [z] at q
    dsimp only at q ⊢
    intro x B1 H1 g1 r1
    refine ⟨B1, e1, g1.sr, ?_⟩
    unfold tAt
    cases z2 : mr e1 with
    | bad => rw [z2] at q; exact q
    | exc c u e' => rw [z2] at q; exact fun cls d B' H' g x => q cls d B' H' (g1.trans g) x
    | ok rs e2 =>
      rw [z2] at q
      dsimp only [M.ret] at q ⊢
      intro xs B2 H2 g2 r2
      refine q _ B2 H2 (g1.trans g2) ⟨x, xs, rfl, rlO.keep r1 g1.sr g2, FrL.mono g1.may r2, fun ho j u w hj hw => ?_⟩
      obtain ⟨o, u0⟩ := r
      dsimp only at ho
      subst ho
      obtain ⟨a, o, x1, x2, x3, x4, x5, x6⟩ := r1
      subst x1
      exact FrL.other (a := a) (fun z => by
        rcases z with z | z
        · exact x5 z
        · rw [x2] at z; cases z) r2 j u w hj hw
/-- the slots are stored, one after the other -/
def setsE : List Nat → List (Bool × U) → En → En
  | i :: is, r :: rs, e => setsE is rs (e.set i (some r))
  | _, _, e => e
def setsS : List Nat → List V → St → St
  | i :: is, v :: vs, σ => setsS is vs (σ.set i (some v))
  | _, _, σ => σ
def gIs (is : List Nat) : TGs := fun vs σ H Q => vs.length = is.length ∧ Q (setsS is vs σ) H
theorem pgi_nil : PGs X [] (gIs []) := PGsimp pgs_nil fun vs σ H Q ⟨h, q⟩ => by
  have : vs = [] := List.eq_nil_of_length_eq_zero h
  subst this
  exact ⟨rfl, q⟩
theorem pgi_cons {i : Nat} {is : List Nat} {x : Str} {p : Pos} (hN : X.N.Nodup) (hi : X.N[i]? = some x) (hx : Loc X.env.scope x) (h2 : PGs X es (gIs is)) (hs : (assignEach (.Name x p :: es) X.env).map (·.2) = assign (.Name x p) X.env :: (assignEach es X.env).map (·.2) := by rfl)
    (hf : X.fn x = true ∨ X.env.scope.names.lookup x = some .local := by first | exact .inl rfl | exact .inr rfl | assumption) : PGs X (.Name x p :: es) (gIs (i :: is)) := PGsimp (pgs_cons (pg_name hN hi hx hf) h2 hs) fun vs σ H Q ⟨h, q⟩ => by
  cases vs with
  | nil => cases h
  | cons v vs => exact ⟨v, vs, rfl, by simpa using h, q⟩
def mPar (is : List Nat) (m : M (List (Bool × U))) : MS := m.bs fun rs e => if rs.length = is.length ∧ is.length ≤ sizeLine then .nx (setsE is rs e) else .bad
theorem FrL.stored {Γ : Ga} {S : Addr → Prop} {B H : Hp} {e : En} {σ : St} {i : Nat} {r : Bool × U} {v : V} (s : SR Γ B H e σ) : ∀ {rs : List (Bool × U)} {vs : List V}, FrL Γ S B H e σ rs vs → (r.1 = true → ∀ (j : Nat) u w, rs[j]? = some (true, u) → vs[j]? = some w → w ≠ v) → FrL Γ S B H (e.set i (some r)) (σ.set i (some v)) rs vs
  | [], _, h, _ => h
  | (o, u) :: rs, _, ⟨v', ws, e1, h1, h2, h3⟩, d => by
    subst e1
    refine ⟨v', ws, rfl, ?_, FrL.stored s h2 fun ho j u w hj hw => d ho (j + 1) u w (by simpa using hj) (by simpa using hw), h3⟩
    cases o with
    | false => exact h1
    | true =>
      obtain ⟨a, ho, x1, x2, x3, x4, x5, x6⟩ := h1
      refine ⟨a, ho, x1, x2, x3, x4, fun z => ?_, x6⟩
      obtain ⟨j, w, z1, z2⟩ := z
      by_cases ij : i = j
      · subst ij
        rw [List.getElem?_set] at z1 z2
        simp only [if_true] at z1 z2
        split at z1
        · split at z2
          · injection z1 with z1
            injection z1 with z1
            injection z2 with z2
            injection z2 with z2
            have := d (by rw [z1]) 0 u v' rfl rfl
            rw [x1, z2] at this
            exact this rfl
          · cases z2
        · cases z1
      · rw [List.getElem?_set_ne ij] at z1 z2
        exact x5 ⟨j, w, z1, z2⟩
theorem sets_go {Γ : Ga} {B0 H0 : Hp} {e0 : En} {σ0 : St} {pr : Nat → Bool} : ∀ {is : List Nat} {rs : List (Bool × U)} {vs : List V} {B H : Hp} {e : En} {σ : St}, Go Γ B0 H0 e0 σ0 B H e σ → Kp pr σ0 σ → FrL Γ (may H0 e0 σ0) B H e σ rs vs → (∀ i ∈ is, pr i = false) →
    Go Γ B0 H0 e0 σ0 B H (setsE is rs e) (setsS is vs σ) ∧ Kp pr σ0 (setsS is vs σ)
  | [], rs, vs, B, H, e, σ, g, k, f, hp => by unfold setsE setsS; exact ⟨g, k⟩
  | i :: is, [], vs, B, H, e, σ, g, k, f, hp => by
    have : vs = [] := f
    subst this
    exact ⟨g, k⟩
  | i :: is, r :: rs, _, B, H, e, σ, g, k, ⟨v, ws, e1, h1, h2, h3⟩, hp => by
    subst e1
    unfold setsE setsS
    exact sets_go (Go.store g.sr h1 g fun _ h => h) (k.trans (Kp.set (hp i List.mem_cons_self))) (FrL.stored g.sr h2 h3) fun j hj => hp j (List.mem_cons_of_mem _ hj)
theorem sv_par {is : List Nat} {tgs : List Expr} {m : M (List (Bool × U))} {k k2 : Nat} {p1 p2 : Pos} (hc : X.calm = true) (h : POs X W es m) (hg : PGs X tgs (gIs is)) (hp : ∀ i ∈ is, pr i = false) (hn : (assignEach tgs X.env).length = is.length := by rfl) (hst : (assignEach tgs X.env).findIdx? (·.1) = none := by rfl)
    (hs : swapsWithSole [.Tuple tgs k2 p2] (.Tuple es k p1) pos.line X.env = pure false := by rfl) (hw : swappedStores [.Tuple tgs k2 p2] (.Tuple es k p1) X.env = pure none := by rfl)
    (h1 : (assignEach [.Tuple tgs k2 p2] X.env).map (·.2) = [assign (.Tuple tgs k2 p2) X.env] := by rfl) : PSV X W pr (.Assign [.Tuple tgs k2 p2] (.Tuple es k p1) pos) (mPar is m) := by
  refine PSimp (ps_asg (pe_tup h) (pg_tup hc hg hn hst) hs hw h1) fun D σ H ⟨B, e, sr, q⟩ => ⟨B, e, sr, ?_⟩
  unfold sAt mPar M.bs at q
  unfold tAt
  cases z : m e with
  | bad => rw [z] at q; exact q
  | exc c u e' => rw [z] at q; exact fun cls d B' H' g x => q cls d B' H' σ g Kp.refl x
  | ok rs e1 =>
    rw [z] at q
    dsimp only at q ⊢
    intro vs B1 H1 g1 r1
    split at q
    · rename_i hl
      have lv := FrL.len r1
      refine ⟨by rw [lv]; omega, fun p np => ⟨p, vs, rfl, SqT.of upd_same, by rw [lv]; exact hl.1, by rw [lv]; exact hl.1, ?_⟩⟩
      have ga := Go.alloc (o := .tup vs) g1.sr np
      obtain ⟨G, K⟩ := sets_go (pr := pr) (is := is) (g1.trans ga) Kp.refl (FrL.go g1.sr ga r1) hp
      exact q _ _ _ G K
    · exact q.elim
theorem par_core {is : List Nat} {m : M (List (Bool × U))} {B H : Hp} {e : En} {σ : St} {D : Ends} (q : sAt (ga X) W pr (mPar is m) B H e σ D) (hp : ∀ i ∈ is, pr i = false) :
    tAt (ga X) W (rlOs (ga X)) m B H e σ fun vs H1 => vs.length = is.length ∧ D.nx (setsS is vs σ) H1 := by
  unfold sAt mPar M.bs at q
  unfold tAt
  cases z : m e with
  | bad => rw [z] at q; exact q
  | exc c u e' => rw [z] at q; exact fun cls d B' H' g x => q cls d B' H' σ g Kp.refl x
  | ok rs e1 =>
    rw [z] at q
    dsimp only at q ⊢
    intro vs B1 H1 g1 r1
    split at q
    · rename_i hl
      refine ⟨by rw [FrL.len r1]; exact hl.1, ?_⟩
      obtain ⟨G, K⟩ := sets_go (pr := pr) (is := is) g1 Kp.refl r1 hp
      exact q _ _ _ G K
    · exact q.elim
theorem sv_par2 {i j : Nat} {x y : Str} {a b : Expr} {m : M (List (Bool × U))} {px py pt : Pos} {kt k2 pt2} (hc : X.calm = true) (h : POs X W [a, b] m) (hN : X.N.Nodup) (hp : ∀ k ∈ [i, j], pr k = false) (hi : X.N[i]? = some x) (hj : X.N[j]? = some y) (hij : i ≠ j)
    (hx : X.env.scope.names.lookup x = some .local) (hy : X.env.scope.names.lookup y = some .local)
    (hw : swappedStores [.Tuple [.Name x px, .Name y py] kt pt] (.Tuple [a, b] k2 pt2) X.env = pure (some [x, y]) := by rfl)
    (hs : swapsWithSole [.Tuple [.Name x px, .Name y py] kt pt] (.Tuple [a, b] k2 pt2) pos.line X.env = pure false := by rfl) : PSV X W pr (.Assign [.Tuple [.Name x px, .Name y py] kt pt] (.Tuple [a, b] k2 pt2) pos) (mPar [i, j] m) := by
  refine PSimp (ps_par hc hN hi hj hij hx hy h hw hs) fun D σ H ⟨B, e, sr, q⟩ => ⟨B, e, sr, (par_core q hp).mono fun vs H1 ⟨hl, q1⟩ => ?_⟩
  match vs, hl with
  | [v, w], _ => exact ⟨v, w, rfl, q1⟩
theorem sv_par3 {i j l : Nat} {x y z : Str} {a b c : Expr} {m : M (List (Bool × U))} {px py pz pt : Pos} {kt k2 pt2} (hc : X.calm = true) (h : POs X W [a, b, c] m) (hN : X.N.Nodup) (hp : ∀ k ∈ [i, j, l], pr k = false) (hi : X.N[i]? = some x) (hj : X.N[j]? = some y) (hl : X.N[l]? = some z) (hij : i ≠ j) (hil : i ≠ l) (hjl : j ≠ l)
    (hx : X.env.scope.names.lookup x = some .local) (hy : X.env.scope.names.lookup y = some .local) (hz : X.env.scope.names.lookup z = some .local)
    (hw : swappedStores [.Tuple [.Name x px, .Name y py, .Name z pz] kt pt] (.Tuple [a, b, c] k2 pt2) X.env = pure (some [x, y, z]) := by rfl)
    (hs : swapsWithSole [.Tuple [.Name x px, .Name y py, .Name z pz] kt pt] (.Tuple [a, b, c] k2 pt2) pos.line X.env = pure false := by rfl) : PSV X W pr (.Assign [.Tuple [.Name x px, .Name y py, .Name z pz] kt pt] (.Tuple [a, b, c] k2 pt2) pos) (mPar [i, j, l] m) := by
  refine PSimp (ps_par3 hc hN hi hj hl hij hil hjl hx hy hz h hw hs) fun D σ H ⟨B, e, sr, q⟩ => ⟨B, e, sr, (par_core q hp).mono fun vs H1 ⟨hl, q1⟩ => ?_⟩
  match vs, hl with
  | [v, w, u], _ => exact ⟨v, w, u, rfl, q1⟩
end
/-! ### evaluation -/
@[simp] theorem e_On {e : En} : mOn e = .ok [] e := rfl
@[simp] theorem e_Oc {e : En} {ma : M (Bool × U)} {mr : M (List (Bool × U))} : mOc ma mr e = (ma.bd fun r => mr.bd fun rs => M.ret (r :: rs)) e := rfl
@[simp] theorem setsE_0 {rs : List (Bool × U)} {e : En} : setsE [] rs e = e := by unfold setsE; rfl
@[simp] theorem setsE_s {i : Nat} {is : List Nat} {r : Bool × U} {rs : List (Bool × U)} {e : En} : setsE (i :: is) (r :: rs) e = setsE is rs (e.set i (some r)) := rfl
@[simp] theorem s_par {is : List Nat} {m : M (List (Bool × U))} {e : En} : mPar is m e = (m.bs fun rs e => if rs.length = is.length ∧ is.length ≤ sizeLine then .nx (setsE is rs e) else .bad) e := rfl
end VS
set_option Elab.async false
set_option linter.all false
set_option maxRecDepth 100000
/-! VS43: >= of texts, list(range(..)), sorted(set(..)) of ints or more texts, dict(list of pairs). -/
namespace VS
open PySem L2
section
variable {X : Cx}
def sGeS : Op2 := fun u w => match u, w with
  | .str x, .str y => some (false, .bl (!decide (x.cps.toList < y.cps.toList)))
  | _, _ => none
theorem ok_geS : BinOK X (compareOp .GtE) sGeS := by
  refine ⟨_, op_ge_str, fun {W B H e σ u w x y z Q} sr q vx vy t => ?_⟩
  unfold sGeS at q
  split at q
  · cases q
    exact ⟨_, _, vx.str, vy.str, fin_val sr t (rep_bl _)⟩
  · cases q
def sGe2 : Op2 := orS sGeI sGeS
theorem ok_ge2 : BinOK X (compareOp .GtE) sGe2 := ok_geI.or ok_geS
end
/-! ### list(range(..)) -/
def rgU (a b : Int) : List U := (List.range (b - a).toNat).map fun i => .int (a + (i : Nat))
theorem reps_rg {Γ : Ga} {B : Hp} (a b : Int) : reps Γ B (rgU a b) (rgV a b) := by
  unfold rgU rgV
  have : ∀ l : List Nat, reps Γ B (l.map fun i : Nat => U.int (a + (i : Nat))) (l.map fun i : Nat => V.int (a + (i : Nat))) := by
    intro l
    induction l with
    | nil => simp [reps]
    | cons x l ih =>
      simp only [List.map_cons, reps, rep]
      exact ⟨_, _, rfl, rfl, ih⟩
  exact this _
noncomputable def rgOk (a b : Int) : Bool := cdec (0 ≤ a) && cdec (a ≤ 16777216) && cdec (0 ≤ b) && cdec (b ≤ 16777216)
theorem rgOk_iff {a b : Int} : rgOk a b = true ↔ 0 ≤ a ∧ a ≤ 16777216 ∧ 0 ≤ b ∧ b ≤ 16777216 := by
  unfold rgOk
  simp only [Bool.and_eq_true, cdec_iff]
  exact ⟨fun ⟨⟨⟨h1, h2⟩, h3⟩, h4⟩ => ⟨h1, h2, h3, h4⟩, fun ⟨h1, h2, h3, h4⟩ => ⟨⟨⟨h1, h2⟩, h3⟩, h4⟩⟩
noncomputable def mLR1 (m : M U) : M (Bool × U) := m.bd fun u => match u with
  | .int j => if rgOk 0 j then .ret (true, .lst (rgU 0 j)) else fun _ => .bad
  | _ => fun _ => .bad
noncomputable def mLR2 (m k : M U) : M (Bool × U) := m.bd fun u => k.bd fun w => match u, w with
  | .int i, .int j => if rgOk i j then .ret (true, .lst (rgU i j)) else fun _ => .bad
  | _, _ => fun _ => .bad
section
variable {X : Cx} {W : WXX} {a b : Expr} {p p2 pos pos2 : Pos}
theorem po_lr1 {m : M U} (hc : X.calm = true) (hg : Gl X "list") (hm : X.mg "list" = none) (hg2 : Gl X "range") (hm2 : X.mg "range" = none) (ha : PV X W a m) (na : starEach [a] X.env = (false, eval a X.env) :: starEach [] X.env := by rfl)
    (nb : starEach [.Call (.Name "range" p2) [a] [] pos2] X.env = (false, eval (.Call (.Name "range" p2) [a] [] pos2) X.env) :: starEach [] X.env := by rfl) : PO X W (.Call (.Name "list" p) [.Call (.Name "range" p2) [a] [] pos2] [] pos) (mLR1 m) := by
  refine PEimp (pe_listRg hc hg hm (prg_1 hg2 hm2 ha na) nb) fun σ H Q ⟨B, e, sr, q⟩ => ⟨B, e, sr, (tAt.bd q).mono fun x H1 ⟨B1, e1, u, g1, r1, q1⟩ => ?_⟩
  cases u with
  | int j =>
    dsimp only at q1
    split at q1
    · rename_i h
      obtain ⟨h1, h2, h3, h4⟩ := rgOk_iff.mp h
      have r1' : rep (ga X) B1 (.int j) x := r1
      simp only [rep] at r1'
      exact ⟨j, r1', RgOk.of_le h1 h4 h2 h3, fun p hp => fin_new (ho := fun _ => .lst _) g1.sr q1 (fun p => ⟨_, rfl, reps_rg _ _⟩) p hp⟩
    · exact q1.elim
  | _ => exact False.elim q1
theorem po_lr2 {m k : M U} (hc : X.calm = true) (hg : Gl X "list") (hm : X.mg "list" = none) (hg2 : Gl X "range") (hm2 : X.mg "range" = none) (ha : PV X W a m) (hb : PV X W b k) (na : starEach [a, b] X.env = (false, eval a X.env) :: starEach [b] X.env := by rfl)
    (nb : starEach [b] X.env = (false, eval b X.env) :: starEach [] X.env := by rfl) (hp : (backTo pos2 (starEach [b] X.env)).any (·.1) = false := by rfl)
    (nc : starEach [.Call (.Name "range" p2) [a, b] [] pos2] X.env = (false, eval (.Call (.Name "range" p2) [a, b] [] pos2) X.env) :: starEach [] X.env := by rfl) : PO X W (.Call (.Name "list" p) [.Call (.Name "range" p2) [a, b] [] pos2] [] pos) (mLR2 m k) := by
  refine PEimp (pe_listRg hc hg hm (prg_2 hg2 hm2 ha hb na nb hp) nc) fun σ H Q ⟨B, e, sr, q⟩ => ⟨B, e, sr, (tAt.bd q).mono fun x H1 ⟨B1, e1, u, g1, r1, q1⟩ => ?_⟩
  refine ⟨B1, e1, g1.sr, (tAt.bd q1).mono fun y H2 ⟨B2, e2, w, g2, r2, q2⟩ => ?_⟩
  cases u with
  | int i =>
    cases w with
    | int j =>
      dsimp only at q2
      split at q2
      · rename_i h
        obtain ⟨h1, h2, h3, h4⟩ := rgOk_iff.mp h
        have r1' : rep (ga X) B1 (.int i) x := r1
        have r2' : rep (ga X) B2 (.int j) y := r2
        simp only [rep] at r1' r2'
        exact ⟨i, j, r1', r2', RgOk.of_le h1 h4 h2 h3, fun p hp => fin_new (ho := fun _ => .lst _) g2.sr q2 (fun p => ⟨_, rfl, reps_rg _ _⟩) p hp⟩
      · exact q2.elim
    | _ => exact False.elim q2
  | _ => cases w <;> exact False.elim q2
end
@[simp] theorem e_lr1 {m : M U} {e : En} : mLR1 m e = (m.bd fun u => match u with
  | .int j => if rgOk 0 j then .ret (true, .lst (rgU 0 j)) else fun _ => .bad
  | _ => fun _ => .bad) e := rfl
@[simp] theorem e_lr2 {m k : M U} {e : En} : mLR2 m k e = (m.bd fun u => k.bd fun w => match u, w with
  | .int i, .int j => if rgOk i j then .ret (true, .lst (rgU i j)) else fun _ => .bad
  | _, _ => fun _ => .bad) e := rfl
/-! ### dict(list of pairs) -/
noncomputable def asPr : List U → Option (List (U × U))
  | [] => some []
  | .tup [k, v] :: r => if isK1 k then (asPr r).map fun kvs => (k, v) :: kvs else none
  | _ => none
noncomputable def sDictP : OpN := fun us => match us with
  | [.lst ws] => match asPr ws with
    | some kvs => if cdec ((kvs.map (·.1)).Nodup) then some (true, .dct kvs) else none
    | none => none
  | _ => none
theorem merge_nodup : ∀ (more : List (Key × V)) (kvs : List (Key × V)), (kvs.map (·.1) ++ more.map (·.1)).Nodup → mergeK kvs more = kvs ++ more
  | [], kvs, _ => by simp [mergeK]
  | p :: r, kvs, nd => by
    have h : valV kvs p.1 = none := by
      unfold valV
      rw [Option.map_eq_none_iff, List.find?_eq_none]
      intro q hq
      rw [decide_eq_true_eq]
      intro e
      rw [List.nodup_append] at nd
      exact nd.2.2 q.1 (List.mem_map.mpr ⟨q, hq, rfl⟩) p.1 (by simp) e
    show mergeK (putK kvs p.1 p.2) r = _
    rw [putK_new _ h, merge_nodup r _ (by simpa using nd)]
    simp
section
variable {X : Cx}
theorem pairs_rep {Γ : Ga} {B H : Hp} (sb : Same B H) : ∀ {ws : List U} {kvs : List (U × U)} {vs : List V}, asPr ws = some kvs → reps Γ B ws vs →
    ∃ (ps : List Addr) (es : List (Key × V)), vs = ps.map V.ref ∧ Paired (fun p kv => SqT Γ.K H p [kV kv.1, kv.2]) ps es ∧ repd Γ B kvs es ∧ es.map (·.1) = kvs.map fun p => kOf p.1
  | [], kvs, vs, h, r => by
    simp only [asPr, Option.some.injEq] at h
    subst h
    simp only [reps] at r
    subst r
    exact ⟨[], [], rfl, .nil, by simp [repd], rfl⟩
  | u :: ws, kvs, vs, h, r => by
    unfold asPr at h
    split at h
    · rename_i h0; cases h0
    · rename_i k v r' h0
      injection h0 with h1 h2
      subst h1 h2
      split at h
      · rename_i hk
        obtain ⟨kv', z, e⟩ := Option.map_eq_some_iff.mp h
        subst e
        simp only [reps, rep] at r
        obtain ⟨v0, vs', rfl, ⟨a, xs, rfl, st, v1, r1, rfl, x1, v2, r2, rfl, x2, rfl⟩, r3⟩ := r
        obtain ⟨ps, es, rfl, i1, i2, i3⟩ := pairs_rep sb z r3
        have kr : v1 = kV (kOf k) := by
          cases k <;> simp only [isK1, Bool.false_eq_true] at hk <;> simp only [rep] at x1 <;> exact x1
        subst kr
        refine ⟨a :: ps, (kOf k, v2) :: es, rfl, .cons (sqT_same sb st) i1, ?_, by simp [i3]⟩
        simp only [repd]
        exact ⟨_, _, _, rfl, x1, x2, i2⟩
      · cases h
    · cases h
theorem asPr_k : ∀ {ws : List U} {kvs : List (U × U)}, asPr ws = some kvs → ∀ p ∈ kvs, isK1 p.1 = true
  | [], kvs, h, p, hp => by simp only [asPr, Option.some.injEq] at h; subst h; cases hp
  | u :: ws, kvs, h, p, hp => by
    unfold asPr at h
    split at h
    · rename_i h0; cases h0
    · rename_i k v r' h0
      injection h0 with h1 h2
      subst h1 h2
      split at h
      · rename_i hk
        obtain ⟨kv', z, e⟩ := Option.map_eq_some_iff.mp h
        subst e
        rcases List.mem_cons.mp hp with e | hp
        · subst e; exact hk
        · exact asPr_k z p hp
      · cases h
    · cases h
theorem ok_dictP (hc : X.calm = true) : CallOK X (.type "dict") sDictP := by
  refine ⟨_, call_dictP hc, fun {W B H e σ us xs z Q} sr q vx t => ?_⟩
  unfold sDictP at q
  split at q
  · rename_i ws
    split at q
    · rename_i kvs hk
      split at q
      · rename_i hn
        cases q
        obtain ⟨v, rfl, v1⟩ := vws1 vx
        obtain ⟨a, vs, rfl, h1, r1⟩ := v1.lst sr.bh
        obtain ⟨ps, es, rfl, i1, i2, i3⟩ := pairs_rep sr.bh hk r1
        rw [cdec_iff] at hn
        have nd : (es.map (·.1)).Nodup := by
          rw [i3]
          have k1 := asPr_k hk
          clear hk i1 i2 i3 h1 r1 t vx v1
          induction kvs with
          | nil => simp
          | cons p kvs ih =>
            simp only [List.map_cons, List.nodup_cons] at hn ⊢
            refine ⟨fun hm => hn.1 ?_, ih hn.2 fun q hq => k1 q (List.mem_cons_of_mem _ hq)⟩
            obtain ⟨q, hq, e⟩ := List.mem_map.mp hm
            have := kOf_inj (k1 q (List.mem_cons_of_mem _ hq)) (k1 p List.mem_cons_self) e
            rw [← this]
            exact List.mem_map.mpr ⟨q, hq, rfl⟩
        refine ⟨a, ps, es, rfl, SqL.of h1, i1, fun p hp => ?_⟩
        rw [merge_nodup es [] (by simpa using nd), List.nil_append]
        exact fin_new (ho := fun _ => .dK es) sr t (fun p => .inl ⟨es, rfl, i2⟩) p hp
      · cases q
    · cases q
  · cases q
noncomputable def sDict2 : OpN := orN sDictC sDictP
theorem ok_dict2 (hc : X.calm = true) : CallOK X (.type "dict") sDict2 := ok_dictC.or (ok_dictP hc)
end
end VS
set_option Elab.async false
set_option linter.all false
set_option maxRecDepth 100000
set_option maxHeartbeats 3200000
/-! VS44: sorted(set(a list)): ints, and more texts. -/
namespace VSet
open PySem PyProof.Rows L2
section
variable {P : Program} {w : World} {A : Around} {E : Value → Shared → Prop} {s : Shared} {a : Addr}
theorem ints_of : ∀ {vs : List Value} {ss : List Int}, Paired (fun v k => (PySem.intKind P w).is k v = true) vs ss → IntsAre vs ss
  | _, _, .nil => .nil
  | v :: _, y :: _, .cons h t => by
    obtain ⟨k, e⟩ := Value.isInt_shape h
    subst e
    exact .cons y k (ints_of t)
theorem sorted_sgI {ks : List Int} {Q : Value → Shared → Prop} (R : SG (PySem.intKind P w) s.heap a ks) (hh : A.handled = none)
    (hQ : ∀ s' p (out : List Value) (c : Nat) (ns : List Int), (∀ b o, s.heap.get? b = some o → s'.heap.get? b = some o) → s'.gens = s.gens → s'.os = s.os → s.heap.objs.size ≤ p →
      s'.heap.get? p = some (seqObj "list" out.toArray c) → IntsAre out ns → ns.Pairwise (· ≤ ·) → ns.Perm ks → Q (.ref p) s') :
    wpAny (model P w) A (call (.builtin "sorted") [.ref a]) Q E s := by
  obtain ⟨o, es, ep, t, ho, hex, hd, pp, nd, hb, hf, hr, hl⟩ := R
  have hn : es.size = ks.length := by rw [← Array.length_toList]; exact plen pp
  refine Calls.call_function_entry kind_sorted plain_sorted entry_sorted (args_sorted1 _) ?_
  unfold Builtin.«sorted»
  refine wpAny_bind (m := checkCount "sorted" 1 1 _) (wpAny_pure ?_)
  refine wpAny_bind (L2.collect_set (A := A.in1) hh ⟨o, ho, hex.1, hd⟩ hf hb hr hl fun s1 vs k1 hz g1 o1 pm => ?_)
  have hvl : vs.length = ks.length := by rw [pm.length_eq, List.length_map, Array.length_toList]; exact hn
  obtain ⟨ss, q1, q2⟩ := Paired.perm pm (map_vals pp)
  have hS : IntsAre vs ss := ints_of q2
  have hz' : vs.length ≤ sizeLine := by rw [hvl, ← hn]; have : es.size < scanBound := hb; unfold scanBound at this; rw [sizeLine_eq]; omega
  refine wpAny_bind (wpAny_newList ?_ hz')
  have hoL : (s1.heap.push (seqObj "list" vs.toArray 0)).get? s1.heap.objs.size = some (seqObj "list" vs.toArray 0) := Heap.get?_push_size _ rfl
  refine wpAny_bind (wpAny_holding (wpAny_call_entry slot_list_sort ⟨_, hoL, rfl⟩ entry_list_sort
    (SrtO.list_sort_ord SrtO.swo_int hoL hz' (fun h2 => SrtO.ints_sortable hS h2) fun out h1 h2 => ⟨_, rfl, ?_⟩) (args_list_sort _)))
  obtain ⟨k2, k3, k4⟩ := SrtO.ints_out hS h1 h2
  obtain ⟨c, hc⟩ := sortedHeap_at (vs := vs) (out := out.toArray) hoL
  refine wpAny_pure ⟨_, rfl, hQ _ s1.heap.objs.size out c _ (fun b u e => ?_) g1 o1 hz hc k2 k4 (k3.trans q1)⟩
  have q := k1 b u e
  have hlt := Heap.lt_size q
  show (sortedHeap (s1.heap.push (seqObj "list" vs.toArray 0)) s1.heap.objs.size vs _).get? b = some u
  rw [sortedHeap_old (Nat.ne_of_lt hlt) (by rw [size_push']; exact Nat.lt_succ_of_lt hlt)]
  exact Heap.get?_push_of_some _ q
end
end VSet
namespace VS
open PySem L2
def dedI : List Int → List Int
  | [] => []
  | x :: r => if x ∈ r then dedI r else x :: dedI r
theorem mem_dedI {y : Int} : ∀ {xs : List Int}, y ∈ dedI xs ↔ y ∈ xs
  | [] => by simp [dedI]
  | x :: r => by
    unfold dedI
    split
    · rename_i h
      rw [mem_dedI, List.mem_cons]
      exact ⟨.inr, fun z => z.elim (fun e => e ▸ h) id⟩
    · rw [List.mem_cons, List.mem_cons, mem_dedI]
theorem nodup_dedI : ∀ (xs : List Int), (dedI xs).Nodup
  | [] => by simp [dedI]
  | x :: r => by
    unfold dedI
    split
    · exact nodup_dedI r
    · rename_i h
      exact List.nodup_cons.mpr ⟨fun z => h (mem_dedI.mp z), nodup_dedI r⟩
theorem perm_of_memI : ∀ {a b : List Int}, a.Nodup → b.Nodup → (∀ y, y ∈ a ↔ y ∈ b) → a.Perm b
  | [], b, _, _, h => by
    cases b with
    | nil => exact .refl _
    | cons x r => have := (h x).mpr List.mem_cons_self; cases this
  | x :: a, b, ha, hb, h => by
    have hx : x ∈ b := (h x).mp List.mem_cons_self
    obtain ⟨na, ha⟩ := List.nodup_cons.mp ha
    have p := List.perm_cons_erase hx
    refine (List.Perm.cons x (perm_of_memI ha (hb.erase x) fun y => ?_)).trans p.symm
    rw [hb.mem_erase_iff]
    constructor
    · intro hy
      exact ⟨fun e => na (e ▸ hy), (h y).mp (List.mem_cons_of_mem _ hy)⟩
    · rintro ⟨n, hy⟩
      rcases List.mem_cons.mp ((h y).mpr hy) with e | z
      · exact absurd e n
      · exact z
@[simp] theorem asInts_m (ns : List Int) : asInts (ns.map U.int) = some ns := by
  induction ns with
  | nil => rfl
  | cons n ns ih => rw [List.map_cons, asInts, ih]; rfl
def tSortSet2 (K : PySem.W.Frag) (ta : TE) : TE := fun σ H Q => ta σ H fun x H1 => ∃ l, x = .ref l ∧ ((∃ xs : List Str, SqL K H1 l (xs.map V.str) ∧ xs.length < 4095 ∧ (dedS xs).length < 64 ∧ ∀ p, H1 p = none → Q (.ref p) (upd H1 p (.lst ((sortS (dedS xs)).map V.str)))) ∨
  (∃ xs : List Int, SqL K H1 l (xs.map V.int) ∧ xs.length < 4095 ∧ ∀ p, H1 p = none → Q (.ref p) (upd H1 p (.lst ((sortI (dedI xs)).map V.int)))))
theorem keyVs_ints {P : Program} {w : World} : ∀ {ys : List Int} {us : List Value}, Vals (ys.map V.int) us → VSet.KeyVs (PySem.intKind P w) us ys
  | [], _, .nil => .nil
  | y :: ys, _, .cons r t => by
    obtain ⟨k, rfl⟩ := r
    exact .cons ⟨by simp [PySem.intKind, Value.isInt], rfl⟩ (keyVs_ints t)
section
open PyProof.Rows
variable {X : Cx} {W : WXX} {a : Expr} {p p2 q pos : Pos}
theorem pe_sortSet2 {ta : TE} (hc : X.calm = true) (hg : Gl X "sorted") (hm : X.mg "sorted" = none) (hg2 : Gl X "set") (hm2 : X.mg "set" = none) (ha : PE X a ta)
    (na : starEach [a] X.env = (false, eval a X.env) :: starEach [] X.env := by rfl) : PE X (.Call (.Name "sorted" p) [.Call (.Name "set" p2) [a] [] q] [] pos) (tSortSet2 X.K ta) := by
  refine ⟨fun pins s σ H Q I h => ?_⟩
  refine Call_ (ld_blt I hg hm boot_sorted ?_)
  refine PyProof.Rows.callWith_builtin1 (PyProof.Rows.args_cons ?_ rfl) rfl rfl
  refine Call_ (ld_blt I hg2 hm2 boot_set ?_)
  refine PyProof.Rows.callWith_type1 (PyProof.Rows.args_cons (thn (ha.run pins s σ H _ I h) fun v s1 ⟨x, H1, I1, r1, q1⟩ => PyProof.Rows.args_nil ?_) na) na rfl
  obtain ⟨l, rfl, q1⟩ := q1
  cases r1
  rcases q1 with ⟨xs, hq, h1, h64, q1⟩ | ⟨xs, hq, h1, q1⟩
  · obtain ⟨its, r, pl, hz⟩ := I1.list hq
    refine VSet.set_list (knd := PySem.strKind X.prog X.w) xs (I1.ok.hd hc) pl.isList (by simpa using keyVs_strs r) (by unfold scanBound; omega) fun h' tk ks sg ad hk => ?_
    refine PyProof.Rows.args_nil ?_
    have I2 : Inv X pins σ H1 { s1 with heap := h', toks := tk } := I1.kept fun b o e => hk b o e
    have nd : ks.Nodup := by obtain ⟨_, _, _, _, _, _, _, _, nd, _⟩ := sg; exact nd
    have mem : ∀ y, y ∈ ks ↔ y ∈ xs := fun y => by rw [ad.mem]; simp
    have kl : ks.length = (dedS xs).length := (perm_of_mem nd (nodup_dedS xs) fun y => by rw [mem y, mem_dedS]).length_eq
    refine VSet.sorted_sg sg (I2.ok.hd hc) (by omega) fun s' p out c ns k g o hp hgt hi st pm => ?_
    have hn : H1 p = none := I2.hok.fresh hp
    have e1 := sortSet_unique st pm nd mem
    have hlen : (ns.map V.str).length ≤ sizeLine := by rw [List.length_map, pm.length_eq, sizeLine_eq]; omega
    have J : Inv X pins σ (upd H1 p (.lst (ns.map V.str))) { ({ s1 with heap := h', toks := tk } : Shared) with heap := s'.heap, gens := s'.gens, drawn := s'.drawn, toks := s'.toks } :=
      I2.call (ch := []) (Un.laid k hp hn) (I2.hok.laid k hp ⟨hlen, out.toList, c, vals_of_strs hi, hgt⟩) (by rw [g]; exact I2.bare) (fun _ z => nomatch z)
    have e : s' = { ({ s1 with heap := h', toks := tk } : Shared) with heap := s'.heap, gens := s'.gens, drawn := s'.drawn, toks := s'.toks } := by
      cases s'
      cases s1
      cases o
      rfl
    rw [e]
    rw [e1] at J
    exact ⟨.ref p, _, J, rfl, q1 p hn⟩
  · obtain ⟨its, r, pl, hz⟩ := I1.list hq
    refine VSet.set_list (knd := PySem.intKind X.prog X.w) xs (I1.ok.hd hc) pl.isList (by simpa using keyVs_ints r) (by unfold scanBound; omega) fun h' tk ks sg ad hk => ?_
    refine PyProof.Rows.args_nil ?_
    have I2 : Inv X pins σ H1 { s1 with heap := h', toks := tk } := I1.kept fun b o e => hk b o e
    have nd : ks.Nodup := by obtain ⟨_, _, _, _, _, _, _, _, nd, _⟩ := sg; exact nd
    have mem : ∀ y, y ∈ ks ↔ y ∈ xs := fun y => by rw [ad.mem]; simp
    have pd : ks.Perm (dedI xs) := perm_of_memI nd (nodup_dedI xs) fun y => by rw [mem y, mem_dedI]
    have kl : ks.length ≤ xs.length := by
      rw [pd.length_eq]
      have : ∀ l : List Int, (dedI l).length ≤ l.length := by
        intro l
        induction l with
        | nil => simp [dedI]
        | cons x l ih => unfold dedI; split <;> simp only [List.length_cons] <;> omega
      exact this xs
    refine VSet.sorted_sgI sg (I2.ok.hd hc) fun s' p out c ns k g o hp hgt hi st pm => ?_
    have hn : H1 p = none := I2.hok.fresh hp
    have e1 : ns = sortI (dedI xs) := sortI_unique (pm.trans pd) st
    have hlen : (ns.map V.int).length ≤ sizeLine := by rw [List.length_map, pm.length_eq, sizeLine_eq]; omega
    have J : Inv X pins σ (upd H1 p (.lst (ns.map V.int))) { ({ s1 with heap := h', toks := tk } : Shared) with heap := s'.heap, gens := s'.gens, drawn := s'.drawn, toks := s'.toks } :=
      I2.call (ch := []) (Un.laid k hp hn) (I2.hok.laid k hp ⟨hlen, out, c, vals_of_ints hi, hgt⟩) (by rw [g]; exact I2.bare) (fun _ z => nomatch z)
    have e : s' = { ({ s1 with heap := h', toks := tk } : Shared) with heap := s'.heap, gens := s'.gens, drawn := s'.drawn, toks := s'.toks } := by
      cases s'
      cases s1
      cases o
      rfl
    rw [e]
    rw [e1] at J
    exact ⟨.ref p, _, J, rfl, q1 p hn⟩
def sSS (ws : List U) : Option (List U) := match asStrs ws with
  | some xs => if xs.length < 4095 ∧ (dedS xs).length < 64 then some ((sortS (dedS xs)).map .str) else none
  | none => match asInts ws with
    | some xs => if xs.length < 4095 then some ((sortI (dedI xs)).map .int) else none
    | none => none
def mSS2 (m : M Od) : M (Bool × U) := m.bd fun od e => match rdO e od with
  | some (.lst ws) => match sSS ws with
    | some r => .ok (true, .lst r) e
    | none => .bad
  | _ => .bad
theorem po_sortSet2 {m : M Od} (hc : X.calm = true) (hg : Gl X "sorted") (hm : X.mg "sorted" = none) (hg2 : Gl X "set") (hm2 : X.mg "set" = none) (ha : PR X W a m)
    (na : starEach [a] X.env = (false, eval a X.env) :: starEach [] X.env := by rfl) : PO X W (.Call (.Name "sorted" p) [.Call (.Name "set" p2) [a] [] q] [] pos) (mSS2 m) := by
  refine PEimp (pe_sortSet2 hc hg hm hg2 hm2 ha na) fun σ H Q ⟨B, e, sr, q⟩ => ⟨B, e, sr, (tAt.bd q).mono fun x H1 ⟨B1, e1, od, g1, r1, q1⟩ => ?_⟩
  unfold tAt at q1
  dsimp only at q1
  cases h1 : rdO e1 od with
  | none => rw [h1] at q1; exact q1.elim
  | some u =>
    rw [h1] at q1
    cases u with
    | lst ws =>
      dsimp only at q1
      have v := rlR.vw g1.sr r1 h1
      obtain ⟨l, vs, rfl, k1, k2⟩ := v.lst g1.sr.bh
      unfold sSS at q1
      cases h2 : asStrs ws with
      | none =>
        rw [h2] at q1
        dsimp only at q1
        cases h3 : asInts ws with
        | none => rw [h3] at q1; exact q1.elim
        | some xs =>
          rw [h3] at q1
          dsimp only at q1
          by_cases c : xs.length < 4095
          · rw [if_pos c] at q1
            rw [asInts_eq h3, reps.nat] at k2
            subst k2
            exact ⟨l, rfl, .inr ⟨xs, SqL.of k1, c, fun p hp => fin_new (W := W) (u := .lst ((sortI (dedI xs)).map .int)) (ho := fun _ => .lst _) g1.sr q1 (fun p => ⟨_, rfl, (reps.nat _).mpr rfl⟩) p hp⟩⟩
          · rw [if_neg c] at q1
            exact q1.elim
      | some xs =>
        rw [h2] at q1
        dsimp only at q1
        by_cases c : xs.length < 4095 ∧ (dedS xs).length < 64
        · rw [if_pos c] at q1
          rw [asStrs_eq h2, reps.strs] at k2
          subst k2
          exact ⟨l, rfl, .inl ⟨xs, SqL.of k1, c.1, c.2, fun p hp => fin_new (W := W) (u := .lst ((sortS (dedS xs)).map .str)) (ho := fun _ => .lst _) g1.sr q1 (fun p => ⟨_, rfl, (reps.strs _).mpr rfl⟩) p hp⟩⟩
        · rw [if_neg c] at q1
          exact q1.elim
    | _ => exact False.elim q1
end
@[simp] theorem e_ss2 {m : M Od} {e : En} : mSS2 m e = (m.bd fun od e => match rdO e od with
  | some (.lst ws) => match sSS ws with
    | some r => .ok (true, .lst r) e
    | none => .bad
  | _ => .bad) e := rfl
theorem sSS_str {xs : List Str} (h : xs.length < 4095) (h2 : (dedS xs).length < 64) : sSS (xs.map U.str) = some ((sortS (dedS xs)).map .str) := by
  unfold sSS; rw [asStrs_map]; dsimp only; rw [if_pos ⟨h, h2⟩]
theorem sSS_int {xs : List Int} (h : xs.length < 4095) : sSS (xs.map U.int) = some ((sortI (dedI xs)).map .int) := by
  cases xs with
  | nil => simp [sSS, asStrs, dedI, sortI, dedS, sortS]
  | cons x r =>
    unfold sSS
    have : asStrs ((x :: r).map U.int) = none := rfl
    rw [this, asInts_m]; dsimp only; rw [if_pos h]
end VS
set_option Elab.async false
set_option linter.all false
set_option maxRecDepth 100000
set_option maxHeartbeats 2000000
/-! VS45: enumerate of a tuple. -/
namespace VEn
open PySem PySem.Spec L2 PyProof.Rows
open Sem (wp)
open AutoSeq1 (wpAny_loadPart')
theorem meets_new {v : Value} {o : Obj} {H : Heap → Prop} (B : Begins v o H) :
    Meets (Builtin.«enumerate.__new__» ⟨[.type "enumerate", v], []⟩) (fun _ R s => H s.heap ∧
      R (.ok (.ret (.ref (s.heap.push o).objs.size)))
        { s with heap := (s.heap.push o).push { cls := .type "enumerate", data := .fields #[.none, .bool false, .ref s.heap.objs.size, rawInt 0, .none, .none] } }) :=
  .of_wp fun prog w A R s h => by
    obtain ⟨hp, g, d, tk, os⟩ := s; obtain ⟨hl, h⟩ := h
    have hsub := sub_enumerate
    wp_walk
    refine wpAny_stack_any fun st => wpAny_pure ?_
    split
    · rename_i c _ _ _ _ _
      cases (c == Value.type "enumerate")
      · wp_walk using B.iter _ _ _ _ _ _ hl
        exact ⟨_, rfl, h⟩
      · wp_walk using B.iter _ _ _ _ _ _ hl
        exact ⟨_, rfl, h⟩
    · wp_walk using B.iter _ _ _ _ _ _ hl
      exact ⟨_, rfl, h⟩
section
variable {prog : Program} {w : World} {A : Around} {E : Value → Shared → Prop} {s : Shared}
theorem call_enum {v : Value} {o : Obj} {H : Heap → Prop} {Q : Value → Shared → Prop} (B : Begins v o H) (h1 : H s.heap)
    (h : ∀ h', IsEnum h' (s.heap.objs.size + 1) s.heap.objs.size 0 .none → h'.get? s.heap.objs.size = some o → h'.objs.size = s.heap.objs.size + 2 →
      (∀ b o, s.heap.get? b = some o → h'.get? b = some o) → Q (.ref (s.heap.objs.size + 1)) { s with heap := h' }) :
    wpAny (model prog w) A (call (.type "enumerate") [v]) Q E s := by
  refine callType_new F.called_enumerate (by decide) (F.typeCall_enumerate_1 _) (F.newCall_enumerate_1 _) (fun obj => F.args_object_init_2 obj _) F.entry_enumerate_new
    (meets_new B) ⟨h1, ?_⟩
  have hz : (s.heap.push o).objs.size = s.heap.objs.size + 1 := Heap.size_push ..
  show _ ∧ _
  rw [hz]
  have he : IsEnum ((s.heap.push o).push { cls := .type "enumerate", data := .fields #[.none, .bool false, .ref s.heap.objs.size, rawInt 0, .none, .none] }) (s.heap.objs.size + 1) s.heap.objs.size 0 .none := by
    have := Heap.get?_push_size (s.heap.push o) (o := { cls := .type "enumerate", data := .fields #[.none, .bool false, .ref s.heap.objs.size, rawInt 0, .none, .none] }) rfl
    rw [hz] at this; exact this
  refine ⟨⟨_, he, rfl⟩, h _ he (Heap.get?_push_of_some _ (Heap.get?_push_size _ B.free)) (by rw [Heap.size_push, hz]) fun b o x => Heap.get?_push_of_some _ (Heap.get?_push_of_some _ x)⟩
end
/-- the tuple at a, each item in a new pair -/
def IteT (K : PySem.W.Frag) (a : Addr) : It :=
  ⟨fun i H => ∃ (xs : List V) (x : V), SqT K H a xs ∧ xs[i]? = some x, fun i H v H' => ∃ T x, v = .ref T ∧ H T = none ∧ H' = upd H T (.tup [.int (i : Nat), x]) ∧ ∀ xs, SqT K H a xs → xs[i]? = some x, fun i H => ∃ xs : List V, SqT K H a xs ∧ xs.length ≤ i⟩
theorem turn_enumT {P : Program} {w : World} {K : PySem.W.Frag} {elts : List Expr} {kk : Nat} {tpos : Pos} (a e it : Addr) :
    Turn P w K (.Tuple elts kk tpos) (IteT K a) [e, it] e (fun i h => (∃ old, IsEnum h e it ((i : Nat) : Int) old) ∧ h.IsTupleIter it a i ∧ e ≠ it ∧ a ≠ it ∧ a ≠ e) where
  mem := by simp
  obj := fun i h st b hb => by
    obtain ⟨⟨old, he⟩, ⟨o, ho, hc, hd⟩, _⟩ := st
    have e' : b = e ∨ b = it := by simpa using hb
    rcases e' with z | z
    · rw [z]; exact ⟨_, he, fun v q => nomatch q⟩
    · rw [z]; exact ⟨o, ho, fun v q => by rw [hd] at q; cases q⟩
  keep := fun i h h' st k => let ⟨⟨old, he⟩, hi, hne⟩ := st; ⟨⟨old, k e (by simp) _ he⟩, hi.at fun o q => k it (by simp) o q, hne⟩
  item := by
    intro X hP hw hK hc i pins s σ H E I hf st hg
    subst hP hw hK
    obtain ⟨⟨old, he⟩, hit, hne, ha1, ha2⟩ := st
    obtain ⟨xs, x, hq, hx⟩ := hg
    obtain ⟨its, rv, p, hz⟩ := I.tuple hq
    obtain ⟨u, hu, ru⟩ := rv.get hx
    have hel : e < s.heap.objs.size := Heap.lt_size he
    have hil : it < s.heap.objs.size := by obtain ⟨_, q, _⟩ := hit; exact Heap.lt_size q
    have hul : i < its.toArray.size := by have := (List.getElem?_eq_some_iff.mp hu).1; simpa using this
    have D := Draws.tuple (prog := X.prog) (w := X.w) (A := X.A.in1) (I.ok.hd hc) it a ha1 its.toArray
    refine wpAny_pyNext_enum_itemD D he ⟨hit, p⟩ hul hne (by simp; exact ⟨hne, Ne.symm ha2⟩) fun v h' tk hP ho hst hT hsz hk => ?_
    have hv : v = u := by
      have hP' : its.toArray[i]? = some v := hP
      rw [List.getElem?_toArray, hu] at hP'
      injection hP' with z
      exact z.symm
    subst hv
    refine ⟨_, rfl, wpAny_letOwnedTupleGo_enum (s := { s with heap := h', toks := tk + 1 }) ho fun h'' he' sb => ?_⟩
    have hT2 : h''.get? s.heap.objs.size = some { cls := .type "tuple", data := .seq #[.int i tk, v] } := (sb.2 _ (Nat.ne_of_gt hel)).trans hT
    have new : ObjOk X.prog X.w (upd H s.heap.objs.size (.tup [.int (i : Nat), x])) h'' s.heap.objs.size (.tup [.int (i : Nat), x]) :=
      ⟨by show 2 ≤ sizeLine; decide, [.int i tk, v], .cons ⟨_, rfl⟩ (.cons ru .nil), ⟨_, hT2, rfl, _, rfl⟩⟩
    have I1 : Inv X pins σ (upd H s.heap.objs.size (.tup [.int (i : Nat), x])) { s with heap := h'', toks := tk + 1 } :=
      I.turnedNew (ch := [e, it]) (fun b ob hb q => (sb.2 b (fun z => hb (by simp [z]))).trans (hk b ob (fun z => hb (by simp [z])) (fun z => hb (by simp [z])) q)) hf (Nat.le_refl _) new
    refine ⟨.ref s.heap.objs.size, _, I1, rfl, ⟨_, x, rfl, I.hok.fresh (Nat.le_refl _), rfl, fun ys hy => by rw [I.tuple_inj hy hq]; exact hx⟩, ⟨⟨v, ?_⟩, hst.1.at fun o q => (sb.2 it (Ne.symm hne)).trans q, hne, ha1, ha2⟩, fun b hb => ?_⟩
    · have e1 : ((i + 1 : Nat) : Int) = (i : Int) + 1 := by omega
      rw [e1]; exact he'
    · have hb' : b < s.heap.objs.size := by
        have e' : b = e ∨ b = it := by simpa using hb
        rcases e' with z | z
        · rw [z]; exact hel
        · rw [z]; exact hil
      rw [upd_ne (Nat.ne_of_lt hb')]
      exact (hf b hb).1
  done := by
    intro X hP hw hK hc i pins s σ H E I hf st hg
    subst hP hw hK
    obtain ⟨⟨old, he⟩, hit, hne, ha1, ha2⟩ := st
    obtain ⟨xs, hq, hx⟩ := hg
    obtain ⟨its, rv, p, hz⟩ := I.tuple hq
    obtain ⟨f0, f1, f2, f3, f4, f5⟩ := hf it (by simp)
    have hl := rv.length
    have hT : s.TypeIs (.ref e) "enumerate" := ⟨_, he, rfl⟩
    unfold pyNext
    refine wpAny_bind (wpAny_attempt (wpAny_callSpecial?_slot (name := Str.ofString "__next__") hT F.slot_enumerate_next
      (wpAny_call_entry F.slot_enumerate_next hT F.entry_enumerate_next ?_ (F.args_enumerate_next_1 _))))
    show wpAny _ _ (field (.ref e) 2 >>= _) _ _ _
    refine wpAny_bind (wpAny_field he rfl (x := .ref it) rfl ?_)
    refine wpAny_bind (PySem.wpAny_nextOf_tuple_end (I.ok.hd hc) hit p (by simp; omega) fun h' x eb hx' => ?_)
    obtain ⟨o, ho, hc'⟩ := hx'
    refine wpAny_bind (wpAny_isInstance (T := "StopIteration") (b := true) ⟨o, ho, hc'⟩ isSubtype_stop ?_)
    exact wpAny_pure ⟨rfl, I.turned (t' := s.toks) (fun b o hb q => eb b o hb q) f0 f1 f3 f4 f5⟩
  self := fun A i s Q E st h => let ⟨⟨_, he⟩, _⟩ := st; wpAny_pyIter_enum he h
def iEnum2 (K : PySem.W.Frag) (ta : TA) : TI := fun σ H R => ta σ H fun vs H1 => ∃ a xs, vs = [.ref a] ∧ ((SqL K H1 a xs ∧ R (Ite K a) H1) ∨ (SqT K H1 a xs ∧ R (IteT K a) H1))
theorem pi_enum2 {X : Cx} {e : Expr} {ta : TA} {p pos tpos : Pos} {elts : List Expr} {kk : Nat} (hg : Gl X "enumerate") (hm : X.mg "enumerate" = none) (ha : PA X [e] ta) (hs : starEach [e] X.env = [(false, eval e X.env)] := by rfl) :
    PI X (.Tuple elts kk tpos) (.Call (.Name "enumerate" p) [e] [] pos) (iEnum2 X.K ta) := by
  refine ⟨fun pins s σ H R I h => ?_⟩
  refine Call_ (ld_blt I hg hm boot_enumerate (PyProof.Rows.callWith_type1 (thn (ha.run pos pins s σ H _ I h) fun us s1 ⟨vs, H1, I1, r1, q1⟩ => ?_) hs rfl))
  obtain ⟨a, xs, ex, q⟩ := q1
  subst ex
  cases r1 with
  | cons r rr =>
    cases rr
    cases r
    rcases q with ⟨hq, q⟩ | ⟨hq, q⟩
    · obtain ⟨its, rv, p', hz⟩ := I1.list hq
      refine call_enumerate_list p'.isList fun h' he hit hsz hk => wpAny_pyIter_enum he ?_
      have I2 : Inv X pins σ H1 { s1 with heap := h' } := I1.kept (t' := s1.toks) hk
      refine ⟨s1.heap.objs.size + 1, [s1.heap.objs.size + 1, s1.heap.objs.size], _, _, H1, rfl, I2, turn_enum a (s1.heap.objs.size + 1) s1.heap.objs.size, ⟨⟨.none, he⟩, hit, Nat.succ_ne_self _⟩, fun b hb => ?_, q⟩
      have e' : b = s1.heap.objs.size + 1 ∨ b = s1.heap.objs.size := by simpa using hb
      have hle : s1.heap.objs.size ≤ b := by
        rcases e' with z | z
        · rw [z]; exact Nat.le_add_right _ _
        · rw [z]; exact Nat.le_refl _
      exact I1.fpOk hle (I1.hok.fresh hle)
    · obtain ⟨its, rv, p', hz⟩ := I1.tuple hq
      have hal : a < s1.heap.objs.size := by obtain ⟨_, q, _⟩ := p'; exact Heap.lt_size q
      refine call_enum (begins_tuple a its.toArray) p' fun h' he hit hsz hk => wpAny_pyIter_enum he ?_
      have I2 : Inv X pins σ H1 { s1 with heap := h' } := I1.kept (t' := s1.toks) hk
      refine ⟨s1.heap.objs.size + 1, [s1.heap.objs.size + 1, s1.heap.objs.size], _, _, H1, rfl, I2, turn_enumT a (s1.heap.objs.size + 1) s1.heap.objs.size, ⟨⟨.none, he⟩, ⟨_, hit, rfl, rfl⟩, Nat.succ_ne_self _, Nat.ne_of_lt hal, Nat.ne_of_lt (Nat.lt_succ_of_lt hal)⟩, fun b hb => ?_, q⟩
      have e' : b = s1.heap.objs.size + 1 ∨ b = s1.heap.objs.size := by simpa using hb
      have hle : s1.heap.objs.size ≤ b := by
        rcases e' with z | z
        · rw [z]; exact Nat.le_add_right _ _
        · rw [z]; exact Nat.le_refl _
      exact I1.fpOk hle (I1.hok.fresh hle)
end VEn
namespace VS
open PySem L2
def srcE2 (u : U) : M Src := match u with
  | .lst us => .ret ⟨enumL us, [], none⟩
  | .tup us => .ret ⟨enumL us, [], none⟩
  | _ => fun _ => .bad
def mItE2 (m : M U) : M Src := m.bd srcE2
theorem iv_enum2 {X : Cx} {W : WXX} {ex : Expr} {pos : Pos} {m : M U} {p tpos : Pos} {elts : List Expr} {kk : Nat} (hg : Gl X "enumerate") (hm : X.mg "enumerate" = none) (h : PV X W ex m) (hs : starEach [ex] X.env = [(false, eval ex X.env)] := by rfl) :
    PIV X W (.Tuple elts kk tpos) (.Call (.Name "enumerate" p) [ex] [] pos) (mItE2 m) := by
  refine PIimp (VEn.pi_enum2 hg hm (pa_cons h pa_nil (by rw [hs]; rfl)) hs) fun σ H R q => ?_
  obtain ⟨B, e, sr, q⟩ := iG.of (rl := rlV (ga X)) q
  refine ⟨B, e, sr, q.mono fun x H1 ⟨B1, e1, u, s1, r1, q1⟩ => ?_⟩
  cases u with
  | lst us =>
    have r1' : rep (ga X) B1 (.lst us) x := r1
    simp only [rep] at r1'
    obtain ⟨a, vs, rfl, h1, rr⟩ := r1'
    refine ⟨a, vs, rfl, .inl ⟨SqL.of (s1.bh _ _ h1), q1 _ B1 H1 (Go.refl s1) ?_ trivial⟩⟩
    refine ⟨fun B H k u s1 s2 _ hk => ?_, fun B H s1 s2 _ => ⟨vs, SqL.of (s2 _ _ (s1 _ _ h1)), by rw [← rr.length]; simp [enumL]⟩⟩
    unfold enumL at hk
    rw [List.getElem?_map, List.getElem?_zipIdx] at hk
    cases z : us[k]? with
    | none => rw [z] at hk; cases hk
    | some w =>
      rw [z] at hk
      cases hk
      obtain ⟨v, hv, rv⟩ := rr.get z
      have hs := SqL.of (K := (ga X).K) (s2 _ _ (s1 _ _ h1))
      refine ⟨⟨vs, v, hs, hv⟩, fun x H' ⟨T, y, e1, e2, e3, e4⟩ => ?_⟩
      have := e4 vs hs
      rw [hv] at this
      cases this
      subst e1
      refine ⟨upd B T _, .inr ⟨T, _, e2, rfl, e3⟩, ?_⟩
      have bt : B T = none := s2.free e2
      simp only [rep]
      exact ⟨T, _, rfl, SqT.of upd_same, reps.cons' (by simp [rep]) (reps.cons' ((rv.mono s1).mono (same_upd bt)) reps.nil')⟩
  | tup us =>
    have r1' : rep (ga X) B1 (.tup us) x := r1
    simp only [rep] at r1'
    obtain ⟨a, vs, rfl, h1, rr⟩ := r1'
    refine ⟨a, vs, rfl, .inr ⟨sqT_same s1.bh h1, q1 _ B1 H1 (Go.refl s1) ?_ trivial⟩⟩
    refine ⟨fun B H k u s1 s2 _ hk => ?_, fun B H s1 s2 _ => ⟨vs, sqT_same s2 (sqT_same s1 h1), by rw [← rr.length]; simp [enumL]⟩⟩
    unfold enumL at hk
    rw [List.getElem?_map, List.getElem?_zipIdx] at hk
    cases z : us[k]? with
    | none => rw [z] at hk; cases hk
    | some w =>
      rw [z] at hk
      cases hk
      obtain ⟨v, hv, rv⟩ := rr.get z
      have hs := sqT_same s2 (sqT_same s1 h1)
      refine ⟨⟨vs, v, hs, hv⟩, fun x H' ⟨T, y, e1, e2, e3, e4⟩ => ?_⟩
      have := e4 vs hs
      rw [hv] at this
      cases this
      subst e1
      refine ⟨upd B T _, .inr ⟨T, _, e2, rfl, e3⟩, ?_⟩
      have bt : B T = none := s2.free e2
      simp only [rep]
      exact ⟨T, _, rfl, SqT.of upd_same, reps.cons' (by simp [rep]) (reps.cons' ((rv.mono s1).mono (same_upd bt)) reps.nil')⟩
  | _ => exact False.elim q1
theorem nog_enum2 {m : M U} : NoG (mItE2 m) := NoG.bd fun u => by cases u <;> first | exact NoG.ret | exact NoG.bad
@[simp] theorem i_E2 {m : M U} {e : En} : mItE2 m e = (m.bd srcE2) e := rfl
@[simp] theorem srcE2_l {us : List U} {e : En} : srcE2 (.lst us) e = .ok ⟨enumL us, [], none⟩ e := rfl
@[simp] theorem srcE2_t {us : List U} {e : En} : srcE2 (.tup us) e = .ok ⟨enumL us, [], none⟩ e := rfl
end VS
set_option Elab.async false
set_option linter.all false
set_option maxRecDepth 100000
set_option maxHeartbeats 2000000
/-! VS46: xs[::1], xs[::-1], of lists and texts. -/
namespace VS
open PySem PySem.W L2 PyProof.Rows
def stp {α : Type} (i : Int) (xs : List α) : List α := if i = 1 then xs else xs.reverse
def stpS (i : Int) (x : Str) : Str := if i = 1 then x else ⟨x.cps.toList.reverse.toArray⟩
theorem range_up (n : Nat) : PySem.sliceRange 0 (n : Int) 1 = List.range n := by
  unfold PySem.sliceRange
  by_cases h : 0 < n
  · have e : ((n : Int) - 0 + 1 - 1) / 1 = (n : Int) := by rw [Int.ediv_one]; omega
    have h2 : (0 : Int) < n := by omega
    simp only [show (1 : Int) > 0 by decide, if_true, h2, e, Int.toNat_natCast]
    rw [show (List.range n).map (fun k : Nat => ((0 : Int) + 1 * (k : Int)).toNat) = (List.range n).map id from List.map_congr_left fun k _ => by simp]
    simp
  · have e : n = 0 := by omega
    subst e
    simp
theorem pick_up (items : Array Value) : slicePick items none none (some 1) = items := by
  unfold slicePick
  have hb : sliceBounds none none (some 1) items.size = (0, (items.size : Int), 1) := by
    first
    | rfl
    | simp [sliceBounds]
  rw [hb]
  show ((PySem.sliceRange 0 (items.size : Int) 1).filterMap (items[·]?)).toArray = _
  rw [range_up, krv_all, Array.toArray_toList]
theorem stp_length {α : Type} (i : Int) (xs : List α) : (stp i xs).length = xs.length := by unfold stp; split <;> simp
theorem stpS_length (i : Int) (x : Str) : (stpS i x).length = x.length := by unfold stpS; split <;> simp [Str.length]
def tStp (K : PySem.W.Frag) (te ts : TE) : TE := fun σ H Q => te σ H fun x H1 => tPart ts σ H1 fun o H2 => ∃ i, o = some i ∧ (i = 1 ∨ i = -1) ∧
  ((∃ a xs, x = .ref a ∧ SqL K H2 a xs ∧ ∀ p, H2 p = none → Q (.ref p) (upd H2 p (.lst (stp i xs)))) ∨ (∃ z, x = .str z ∧ z.length ≤ sizeLine ∧ Q (.str (stpS i z)) H2))
section
variable {X : Cx} {W : WXX}
theorem pe_stp {e se : Expr} {te ts : TE} {p3 pos : Pos} (he : PE X e te) (hs : PE X se ts) : PE X (.Subscript e (.Slice none none (some se) p3) pos) (tStp X.K te ts) := by
  refine ⟨fun pins s σ H Q I h => ?_⟩
  refine Subscript_ (thn (he.run pins s σ H _ I h) fun v s1 ⟨x, H1, I1, r1, q1⟩ => ?_)
  refine wpAny_Slice (thn (po_none.run pins s1 σ H1 (fun o H2 => o = none ∧ H2 = H1) I1 ⟨rfl, rfl⟩) fun vl s2 ⟨l, H2, I2, pl, el, e2⟩ => ?_)
  subst el e2
  refine thn (po_none.run pins s2 σ H2 (fun o H3 => o = none ∧ H3 = H2) I2 ⟨rfl, rfl⟩) fun vu s3 ⟨u, H3, I3, pu, eu, e3⟩ => ?_
  subst eu e3
  refine thn ((po_some hs).run pins s3 σ H3 _ I3 q1) fun vs s4 ⟨o, H4, I4, ps, i, eo, hi, q⟩ => ?_
  subst eo
  have I5 : Inv X pins σ H4 { s4 with heap := s4.heap.push { cls := .type "slice", data := .fields #[vl, vu, vs] } } := I4.kept (t' := s4.toks) fun b ob q => Heap.get?_push_of_some _ q
  rcases q with ⟨a, xs, ex, hx, q⟩ | ⟨z, ex, hz, q⟩
  · subst ex
    cases r1
    obtain ⟨its, r, ht, hz⟩ := I5.list hx
    have hlen := r.length
    show wpAny (model X.prog X.w) X.A (subscriptTail e (.Slice none none (some se) p3) (.ref a) (.ref s4.heap.objs.size)) (EP X pins σ Q) X.xe { s4 with heap := s4.heap.push { cls := .type "slice", data := .fields #[vl, vu, vs] } }
    refine tail_any (ops := [.ref a, .ref s4.heap.objs.size]) ht.isList.typeIs (PySem.slot_list_getitem.lookup) ?_ (by with_unfolding_all rfl)
    refine wpAny_getItem_list_slice ht.isList (Heap.IsSliceOf.new _ vl vu vs) pl pu ps (by rcases hi with rfl | rfl <;> decide) ?_ (by rw [List.size_toArray]; omega)
    refine ⟨.ref _, _, I5.laid (t' := s4.toks) (o := .lst (stp i xs)) (fun b ob q => Heap.get?_push_of_some _ q) (Nat.le_refl _) ?_, rfl, q _ (I5.hok.fresh (Nat.le_refl _))⟩
    rcases hi with rfl | rfl
    · rw [pick_up]
      exact ⟨hz, its, 0, r, Heap.get?_push_size _ rfl⟩
    · rw [PySem.W.krv_pick]
      exact ⟨by rw [stp_length]; exact hz, _, 0, r.reverse, Heap.get?_push_size _ rfl⟩
  · subst ex
    obtain ⟨t, rfl⟩ := r1
    show wpAny (model X.prog X.w) X.A (subscriptTail e (.Slice none none (some se) p3) (.str z t) (.ref s4.heap.objs.size)) (EP X pins σ Q) X.xe { s4 with heap := s4.heap.push { cls := .type "slice", data := .fields #[vl, vu, vs] } }
    refine tail_any (ops := [.ref s4.heap.objs.size, .str z t]) (typeIs_str _ _ _) (F.slot_str_getitem.lookup) ?_ (by with_unfolding_all rfl)
    obtain ⟨l, rfl, el⟩ := IsPart.raw pl
    obtain ⟨u, rfl, eu⟩ := IsPart.raw pu
    obtain ⟨st, rfl, est⟩ := IsPart.raw ps
    have hl : l = none := by cases l with
      | none => rfl
      | some l => cases el
    have hu : u = none := by cases u with
      | none => rfl
      | some u => cases eu
    subst hl hu
    refine wpAny_getItem_str_slice (l := none) (u := none) (st := st) ⟨_, Heap.get?_push_size _ rfl, rfl, rfl⟩ (by rw [est]; rcases hi with rfl | rfl <;> decide) ?_
    unfold sliceMade slicePicked
    rw [est]
    rcases hi with rfl | rfl
    · have e1 : Builtin.Str.strSliceIndices (none : Option Int) none 1 z.length = List.range z.length := range_up _
      show (if ((1 : Int) == 1 && (Builtin.Str.strSliceIndices none none 1 z.length).length == z.length) = true then Made.val (.str z t) else _).post _ _
      rw [e1, if_pos (by simp)]
      exact ⟨.str z, H4, I5, ⟨t, rfl⟩, q⟩
    · have e1 : Builtin.Str.strSliceIndices (none : Option Int) none (-1) z.length = (List.range z.length).map fun k => z.length - 1 - k := krv_sliceRange _
      show (if ((-1 : Int) == 1 && _) = true then Made.val (.str z t) else Made.str ⟨((Builtin.Str.strSliceIndices none none (-1) z.length).filterMap (z.cps[·]?)).toArray⟩).post _ _
      have e2 : ((List.range z.cps.size).reverse.filterMap (z.cps[·]?)).toArray = z.cps.toList.reverse.toArray := by
        rw [List.filterMap_reverse, krv_all]
      rw [if_neg (by simp), e1, krv_range, show z.length = z.cps.size from rfl, e2]
      exact ⟨by rw [show (⟨z.cps.toList.reverse.toArray⟩ : Str) = stpS (-1) z from rfl, stpS_length]; exact hz, .str _, H4, I5.tok _, ⟨_, rfl⟩, q⟩
noncomputable def sStp (i : Int) (u : U) : Option (Bool × U) := if i = 1 ∨ i = -1 then (match u with
  | .lst us => some (true, .lst (stp i us))
  | .str x => if x.length ≤ sizeLine then some (false, .str (stpS i x)) else none
  | _ => none) else none
noncomputable def mStp (ra : M Od) (ms : M U) : M (Bool × U) := ra.bd fun x => ms.bd fun w => fun e => match w with
  | .int i => match rdO e x with
    | some u => match sStp i u with
      | some z => .ok z e
      | none => .bad
    | none => .bad
  | _ => .bad
theorem reps_stp {Γ : Ga} {B : Hp} {us : List U} {vs : List V} (i : Int) (r : reps Γ B us vs) : reps Γ B (stp i us) (stp i vs) := by
  unfold stp; split
  · exact r
  · exact r.reverse
theorem po_stp {e se : Expr} {ra : M Od} {ms : M U} {p3 pos : Pos} (ha : PR X W e ra) (hs : PV X W se ms) : PO X W (.Subscript e (.Slice none none (some se) p3) pos) (mStp ra ms) := by
  refine PEimp (pe_stp ha hs) fun σ H Q ⟨B, e, sr, q⟩ => ⟨B, e, sr, (tAt.bd q).mono fun x H1 ⟨B1, e1, od, g1, r1, q1⟩ => ?_⟩
  refine ⟨B1, e1, g1.sr, (tAt.bd q1).mono fun y H2 ⟨B2, e2, w, g2, r2, q2⟩ => ?_⟩
  cases w with
  | int i =>
    have r2' : rep (ga X) B2 (.int i) y := r2
    simp only [rep] at r2'
    refine ⟨i, r2', i, rfl, ?_⟩
    unfold tAt at q2
    dsimp only at q2
    cases h1 : rdO e2 od with
    | none => rw [h1] at q2; exact q2.elim
    | some u =>
      rw [h1] at q2
      dsimp only at q2
      cases h3 : sStp i u with
      | none => rw [h3] at q2; exact q2.elim
      | some z =>
        rw [h3] at q2
        unfold sStp at h3
        split at h3
        · rename_i hi
          refine ⟨hi, ?_⟩
          have vw := rlR.vw g2.sr (rlR.keep (S' := may H e σ) r1 g2) h1
          cases u with
          | lst us =>
            dsimp only at h3
            cases h3
            obtain ⟨a, vs, e3, k1, k2⟩ := vw.lst g2.sr.bh
            exact .inl ⟨a, vs, e3, SqL.of k1, fun p hp => fin_new (W := W) (u := .lst (stp i us)) (ho := fun _ => .lst _) g2.sr q2 (fun p => ⟨_, rfl, reps_stp i k2⟩) p hp⟩
          | str x =>
            dsimp only at h3
            split at h3
            · rename_i hz
              cases h3
              exact .inr ⟨x, vw.str, hz, fin_val (W := W) (u := .str (stpS i x)) g2.sr q2 (rep_str _)⟩
            · cases h3
          | _ => cases h3
        · cases h3
  | _ => exact False.elim q2
end
@[simp] theorem e_stp {ra : M Od} {ms : M U} {e : En} : mStp ra ms e = (ra.bd fun x => ms.bd fun w => fun e => match w with
  | .int i => match rdO e x with
    | some u => match sStp i u with
      | some z => .ok z e
      | none => .bad
    | none => .bad
  | _ => .bad) e := rfl
@[simp] theorem sStp_l {us : List U} : sStp (-1) (.lst us) = some (true, .lst us.reverse) := rfl
theorem sStp_s {x : Str} (h : x.length ≤ sizeLine) : sStp (-1) (.str x) = some (false, .str (stpS (-1) x)) := by
  unfold sStp
  rw [if_pos (.inr rfl)]
  dsimp only
  rw [if_pos h]
@[simp] theorem e_neg1 {e : En} : mNeg (mC (.int 1)) e = .ok (.int (-1)) e := rfl
end VS
set_option linter.all false
/-! VP1: evaluation of semantic functions by simp. -/
namespace VS
open PySem L2
section
variable {α β : Type} {e : En} {i : Nat} {m : M α} {k : α → M β}
@[simp] theorem e_bd : (m.bd k) e = (match m e with
  | .ok a e' => k a e'
  | .exc c u e' => .exc c u e'
  | .bad => .bad) := rfl
@[simp] theorem e_ret {a : α} : M.ret a e = .ok a e := rfl
@[simp] theorem e_bs {k : α → MS} : (m.bs k) e = (match m e with
  | .ok a e' => k a e'
  | .exc c u e' => .exc c u e'
  | .bad => .bad) := rfl
def gs : En → Nat → Sl
  | [], _ => none
  | s :: _, 0 => s
  | _ :: r, n + 1 => gs r n
@[simp] theorem gs_0 {s : Sl} {r : En} : gs (s :: r) 0 = s := rfl
@[simp] theorem gs_s {s : Sl} {r : En} {n : Nat} : gs (s :: r) (n + 1) = gs r n := rfl
theorem gs_eq : ∀ (e : En) (i : Nat), (e[i]?).getD none = gs e i
  | [], _ => rfl
  | s :: r, 0 => rfl
  | s :: r, i + 1 => by simp only [List.getElem?_cons_succ, gs]; exact gs_eq r i
theorem gs_some {e : En} {i : Nat} {x : Bool × U} : gs e i = some x ↔ e[i]? = some (some x) := by
  rw [← gs_eq]
  cases h : e[i]? with
  | none => simp
  | some s => simp
@[simp] theorem e_sl {i : Nat} : mSl i e = (match gs e i with | some _ => .ok (.sl i) e | none => .bad) := by
  unfold mSl
  rw [← gs_eq]
  cases h : e[i]? with
  | none => rfl
  | some s => cases s <;> rfl
@[simp] theorem rdO_sl {i : Nat} : rdO e (.sl i) = (match gs e i with | some r => some r.2 | none => none) := by
  unfold rdO
  rw [← gs_eq]
  dsimp only
  cases h : e[i]? with
  | none => rfl
  | some s =>
    cases s with
    | none => rfl
    | some r => obtain ⟨o, u⟩ := r; rfl
@[simp] theorem rdO_vl {u : U} : rdO e (.vl u) = some u := rfl
@[simp] theorem e_frz_vl {u : U} : frz (.vl u) e = .ok u e := rfl
@[simp] theorem e_frz_sl {i : Nat} : frz (.sl i) e = (match gs e i with | some (false, u) => .ok u e | some (true, u) => .ok u (e.set i (some (false, u))) | none => .bad) := by
  unfold frz
  rw [← gs_eq]
  dsimp only
  cases h : e[i]? with
  | none => rfl
  | some s =>
    cases s with
    | none => rfl
    | some r => obtain ⟨o, u⟩ := r; cases o <;> rfl
@[simp] theorem e_n {i : Nat} : mN i e = (match gs e i with | some (false, u) => .ok u e | some (true, u) => .ok u (e.set i (some (false, u))) | none => .bad) := by
  unfold mN
  rw [e_bd, e_sl]
  cases h : gs e i with
  | none => rfl
  | some r =>
    dsimp only
    rw [e_frz_sl, h]
@[simp] theorem e_ite {c : Prop} [Decidable c] {m k : M α} : (if c then m else k) e = if c then m e else k e := by split <;> rfl
@[simp] theorem e_R {m : M U} : mR m e = (m.bd fun u => M.ret (.vl u)) e := rfl
@[simp] theorem e_F {m : M (Bool × U)} : mF m e = (m.bd fun r => M.ret r.2) e := rfl
@[simp] theorem e_O {m : M U} : mO m e = (m.bd fun u => M.ret (false, u)) e := rfl
@[simp] theorem e_C {u : U} : mC u e = .ok u e := rfl
@[simp] theorem e_op2 {s : Op2} {x y : Od} : op2 s x y e = (match rdO e x, rdO e y with
  | some u, some w => match s u w with
    | some r => .ok r e
    | none => .bad
  | _, _ => .bad) := rfl
@[simp] theorem e_bin {s : Op2} {ra rb : M Od} : mBin s ra rb e = (ra.bd fun x => rb.bd fun y => op2 s x y) e := rfl
@[simp] theorem e_tst {m : M (Bool × U)} : mTst m e = (m.bd fun r => match r.2 with
  | .bl b => .ret b
  | _ => fun _ => .bad) e := rfl
@[simp] theorem e_tn {m : M Bool} : mTn m e = (m.bd fun b => M.ret (!b)) e := rfl
@[simp] theorem e_ta {m k : M Bool} : mTa m k e = (m.bd fun b => if b then k else .ret false) e := rfl
@[simp] theorem e_to {m k : M Bool} : mTo m k e = (m.bd fun b => if b then .ret true else k) e := rfl
@[simp] theorem e_tru {m : M Od} : mTru m e = (m.bd fun od e => match rdO e od with
  | some u => match truU u with
    | some b => .ok b e
    | none => .bad
  | none => .bad) e := rfl
@[simp] theorem e_and {m k : M (Bool × U)} : mAnd m k e = (m.bd fun r => match r with
  | (false, .bl b) => if b then k else .ret (false, .bl false)
  | _ => fun _ => .bad) e := rfl
@[simp] theorem e_or {m k : M (Bool × U)} : mOr m k e = (m.bd fun r => match r with
  | (false, .bl b) => if b then .ret (false, .bl true) else k
  | _ => fun _ => .bad) e := rfl
@[simp] theorem e_not {m : M (Bool × U)} : mNot m e = (m.bd fun r => match r with
  | (false, .bl b) => .ret (false, .bl (!b))
  | _ => fun _ => .bad) e := rfl
@[simp] theorem e_ife {c : M Bool} {m k : M (Bool × U)} : mIfE c m k e = (c.bd fun b => if b then m else k) e := rfl
@[simp] theorem e_chn {s t : Op2} {ra rb rc : M Od} : mChn s t ra rb rc e = (ra.bd fun x => rb.bd fun y => (op2 s x y).bd fun r => match r with
  | (false, .bl k) => if k then rc.bd fun z => op2 t y z else .ret (false, .bl false)
  | _ => fun _ => .bad) e := rfl
@[simp] theorem e_vn : mVn e = .ok [] e := rfl
@[simp] theorem e_vc {ma : M U} {mr : M (List U)} : mVc ma mr e = (ma.bd fun u => mr.bd fun us => M.ret (u :: us)) e := rfl
@[simp] theorem e_rn : mRn e = .ok [] e := rfl
@[simp] theorem e_rc {ma : M Od} {mr : M (List Od)} : mRc ma mr e = (ma.bd fun u => mr.bd fun us => M.ret (u :: us)) e := rfl
@[simp] theorem rdOs_nil : rdOs e [] = some [] := rfl
@[simp] theorem rdOs_cons {x : Od} {r : List Od} : rdOs e (x :: r) = (match rdO e x, rdOs e r with
  | some u, some us => some (u :: us)
  | _, _ => none) := rfl
@[simp] theorem e_cb {s : OpN} {m : M (List Od)} : mCB s m e = (m.bd fun ods => fun e => match rdOs e ods with
  | some us => match s us with
    | some z => .ok z e
    | none => .bad
  | none => .bad) e := rfl
@[simp] theorem e_lst {m : M (List U)} : mLst m e = (m.bd fun us => if us.length ≤ sizeLine then M.ret (true, .lst us) else fun _ => .bad) e := rfl
@[simp] theorem e_tup {m : M (List U)} : mTup m e = (m.bd fun us => if us.length ≤ sizeLine then M.ret (false, .tup us) else fun _ => .bad) e := rfl
@[simp] theorem e_dn : mDn e = .ok (true, .dct []) e := rfl
@[simp] theorem e_disp1 {mk mv : M U} : mDisp1 mk mv e = (mk.bd fun k => mv.bd fun w => if isK1 k then M.ret (true, .dct [(k, w)]) else fun _ => .bad) e := rfl
@[simp] theorem e_neg {m : M U} : mNeg m e = (m.bd fun u => match u with
  | .int i => M.ret (.int (-i))
  | _ => fun _ => .bad) e := rfl
@[simp] theorem e_isi {T : String} {m : M Od} : mIsi T m e = (m.bd fun od e => match rdO e od with
  | some u => match tyU u with
    | some t => .ok (false, .bl (subT t T)) e
    | none => .bad
  | none => .bad) e := rfl
@[simp] theorem e_p0 : mP0 e = .ok none e := rfl
@[simp] theorem e_p1 {m : M U} : mP1 m e = (m.bd fun u => match u with
  | .int i => M.ret (some i)
  | _ => fun _ => .bad) e := rfl
@[simp] theorem e_slc {s : Sl3} {ra : M Od} {ml mh : M (Option Int)} : mSlc s ra ml mh e = (ra.bd fun x => ml.bd fun l => mh.bd fun h => fun e => match rdO e x with
  | some u => match s u l h with
    | some z => .ok z e
    | none => .bad
  | none => .bad) e := rfl
@[simp] theorem e_fld {c f : Str} {m : M Od} : mFld c f m e = (m.bd fun od e => match rdO e od with
  | some (.ins c' fs) => if c' = c then match lkU f fs with
    | some u => .ok u e
    | none => .bad
    else .bad
  | _ => .bad) e := rfl
@[simp] theorem e_sset {m : M Od} : mSSet m e = (m.bd fun od e => match rdO e od with
  | some (.lst ws) => match asStrs ws with
    | some xs => if xs.length < 64 then .ok (true, .lst ((sortS (dedS xs)).map .str)) e else .bad
    | none => .bad
  | _ => .bad) e := rfl
@[simp] theorem e_mr {isT : U → Bool} {s : U → List U → Option (Bool × U)} {mo : M Od} {ma : M (List U)} : mMr isT s mo ma e = (mo.bd fun od e => match rdO e od with
  | some u => if isT u then (ma.bd fun us e => match rdO e od with
      | some u => match s u us with
        | some r => .ok r e
        | none => .bad
      | none => .bad) e else .bad
  | none => .bad) e := rfl
@[simp] theorem e_call {n : Nat} {φ : Fs} {m : M (List Od)} : mCall n φ m e = (m.bd (callO n φ)) e := rfl
@[simp] theorem e_mk {c : Str} {n : Nat} {φ : Fs} {m : M (List Od)} : mMk c n φ m e = (m.bd (callMk c n φ)) e := rfl
theorem gs_no (h : e[i]? = none) : gs e i = none := by rw [← gs_eq, h]; rfl
theorem gs_of {s : Sl} (h : e[i]? = some s) : gs e i = s := by rw [← gs_eq, h]; rfl
@[simp] theorem e_mu {isT : U → Bool} {s : U → List U → Option (U × U)} {i : Nat} {ma : M (List U)} : mMu isT s i ma e = (match gs e i with
  | some (true, u) => if isT u then (ma.bd fun us e => match gs e i with
      | some (true, u) => match s u us with
        | some (u', r) => .ok (false, r) (e.set i (some (true, u')))
        | none => .bad
      | _ => .bad) e else .bad
  | _ => .bad) := by
  unfold mMu
  cases h : e[i]? with
  | none => rw [gs_no h]
  | some s1 =>
    rw [gs_of h]
    cases s1 with
    | none => rfl
    | some r =>
      obtain ⟨o, u⟩ := r
      cases o with
      | false => rfl
      | true =>
        dsimp only
        split
        · rw [e_bd, e_bd]
          cases ma e with
          | ok us e2 =>
            dsimp only
            cases h2 : e2[i]? with
            | none => rw [gs_no h2]
            | some s2 =>
              rw [gs_of h2]
              cases s2 with
              | none => rfl
              | some r => obtain ⟨o, u⟩ := r; cases o <;> rfl
          | _ => rfl
        · rfl
end
/-! ### statements -/
section
variable {e : En} {m k : MS}
@[simp] theorem s_nop : MS.nop e = .nx e := rfl
@[simp] theorem s_bad : mBad e = .bad := rfl
@[simp] theorem s_brk : mBrk e = .bk e := rfl
@[simp] theorem s_cnt : mCnt e = .ct e := rfl
@[simp] theorem s_seq : (m.seq k) e = (match m e with | .nx e' => k e' | .rt o u e' => .rt o u e' | .bk e' => .bk e' | .ct e' => .ct e' | .exc c u e' => .exc c u e' | .bad => .bad) := by
  unfold MS.seq
  cases m e <;> rfl
@[simp] theorem s_ite {c : Prop} [Decidable c] {m k : MS} : (if c then m else k) e = if c then m e else k e := by split <;> rfl
@[simp] theorem s_drp {m : M U} : mDrp m e = (m.bs fun _ => MS.nop) e := rfl
@[simp] theorem s_ret {m : M (Bool × U)} : mRet m e = (m.bs fun r e => .rt r.1 r.2 e) e := rfl
@[simp] theorem s_retN : mRetN e = .rt false .non e := rfl
@[simp] theorem s_retV {i : Nat} : mRetV i e = (match gs e i with | some (false, u) => .rt false u e | some (true, u) => .rt true u (e.set i none) | none => .bad) := by
  unfold mRetV
  rw [← gs_eq]
  cases h : e[i]? with
  | none => rfl
  | some s =>
    cases s with
    | none => rfl
    | some r => obtain ⟨o, u⟩ := r; cases o <;> rfl
@[simp] theorem s_set {i : Nat} {r : Bool × U} : sSet i r e = .nx (e.set i (some r)) := rfl
@[simp] theorem s_asg {i : Nat} {m : M (Bool × U)} : mAsg i m e = (m.bs fun r => sSet i r) e := rfl
@[simp] theorem s_if {c : M Bool} : mIf c m k e = (c.bs fun b => if b then m else k) e := rfl
@[simp] theorem s_for {m : M Src} {t : MT} {b : MS} : mFor m t b e = (m.bs fun s => forL t b s.g s.src s.items) e := rfl
@[simp] theorem s_unp {t : MT} {m : M U} : mUnp t m e = (m.bs fun u e => match t u e with
  | some e' => .nx e'
  | none => .bad) e := rfl
@[simp] theorem s_aug {i : Nat} {m : M U} : mAug i m e = (match gs e i with
  | some (false, .int a) => (m.bs fun u e => match u with
      | .int b => .nx (e.set i (some (false, .int (a + b))))
      | _ => .bad) e
  | _ => .bad) := by
  unfold mAug
  rw [← gs_eq]
  cases h : e[i]? with
  | none => rfl
  | some s =>
    cases s with
    | none => rfl
    | some r =>
      obtain ⟨o, u⟩ := r
      cases o <;> cases u <;> rfl
@[simp] theorem s_sto {i : Nat} {mk mv : M U} : mSto i mk mv e = (mv.bs fun w e => match gs e i with
  | some (true, _) => (mk.bs fun k e => match gs e i with
      | some (true, u) => match sSto u k w with
        | some u' => .nx (e.set i (some (true, u')))
        | none => .bad
      | _ => .bad) e
  | _ => .bad) e := by
  unfold mSto
  rw [e_bs, e_bs]
  cases mv e with
  | ok w e1 =>
    dsimp only
    cases h : e1[i]? with
    | none => rw [gs_no h]
    | some s1 =>
      rw [gs_of h]
      cases s1 with
      | none => rfl
      | some r =>
        obtain ⟨o, u⟩ := r
        cases o with
        | false => rfl
        | true =>
          dsimp only
          rw [e_bs, e_bs]
          cases mk e1 with
          | ok k e2 =>
            dsimp only
            cases h2 : e2[i]? with
            | none => rw [gs_no h2]
            | some s2 =>
              rw [gs_of h2]
              cases s2 with
              | none => rfl
              | some r => obtain ⟨o, u⟩ := r; cases o <;> rfl
          | _ => rfl
  | _ => rfl
@[simp] theorem s_fst {c f : Str} {i : Nat} {mv : M U} : mFst c f i mv e = (mv.bs fun w e => match gs e i with
  | some (true, .ins c' fs) => if c' = c ∧ fs.length < 1000 then .nx (e.set i (some (true, .ins c' (putU f w fs)))) else .bad
  | _ => .bad) e := by
  unfold mFst
  rw [e_bs, e_bs]
  cases mv e with
  | ok w e1 =>
    dsimp only
    rw [← gs_eq]
    cases h : e1[i]? with
    | none => rfl
    | some s =>
      cases s with
      | none => rfl
      | some r => obtain ⟨o, u⟩ := r; cases o <;> cases u <;> rfl
  | _ => rfl
end
/-! ### targets, sources -/
section
variable {e : En}
@[simp] theorem t_n {i : Nat} {u : U} : tgN i u e = some (e.set i (some (false, u))) := rfl
@[simp] theorem t_s0 : tgs0 [] e = some e := rfl
@[simp] theorem t_sC {t : MT} {r : MTs} {u : U} {us : List U} : tgsC t r (u :: us) e = (match t u e with | some e' => r us e' | none => none) := rfl
@[simp] theorem t_T {n : Nat} {r : MTs} {us : List U} : tgT n r (.tup us) e = if us.length = n then r us e else none := rfl
@[simp] theorem i_A {m : M U} : mItA m e = (m.bd srcA) e := rfl
@[simp] theorem i_E {m : M U} : mItE m e = (m.bd srcE) e := rfl
@[simp] theorem srcA_l {us : List U} : srcA (.lst us) e = .ok ⟨us, [], none⟩ e := rfl
@[simp] theorem srcA_t {us : List U} : srcA (.tup us) e = .ok ⟨us, [], none⟩ e := rfl
@[simp] theorem srcA_s {x : Str} : srcA (.str x) e = .ok ⟨strL x, [], none⟩ e := rfl
@[simp] theorem srcA_c {ns : List Int} : srcA (.scr ns) e = .ok ⟨ns.map .int, [], none⟩ e := rfl
@[simp] theorem srcE_l {us : List U} : srcE (.lst us) e = .ok ⟨enumL us, [], none⟩ e := rfl
@[simp] theorem i_rg1 {m : M U} : mRg1 m e = (m.bd fun u => match u with
  | .int j => if lim62 j then M.ret ⟨irange 0 j.toNat, [], none⟩ else fun _ => .bad
  | _ => fun _ => .bad) e := rfl
@[simp] theorem gOK_none {src : List U} : gOK none src e = True := rfl
end
@[simp] theorem sLen_l {us : List U} : sLen [.lst us] = some (false, .int us.length) := rfl
@[simp] theorem sLen_t {us : List U} : sLen [.tup us] = some (false, .int us.length) := rfl
@[simp] theorem sLen_c {us : List Int} : sLen [.scr us] = some (false, .int us.length) := rfl
@[simp] theorem sLen_s {x : Str} : sLen [.str x] = if x.length ≤ sizeLine then some (false, .int x.length) else none := rfl
@[simp] theorem ii_ii {g : Int → Int → U} {i j : Int} : iiS g (.int i) (.int j) = some (false, g i j) := rfl
@[simp] theorem sLt_ii {i j : Int} : sLtI (.int i) (.int j) = some (false, .bl (decide (i < j))) := rfl
@[simp] theorem sLe_ii {i j : Int} : sLeI (.int i) (.int j) = some (false, .bl (decide (i ≤ j))) := rfl
@[simp] theorem sGt_ii {i j : Int} : sGtI (.int i) (.int j) = some (false, .bl (decide (j < i))) := rfl
@[simp] theorem sGe_ii {i j : Int} : sGeI (.int i) (.int j) = some (false, .bl (decide (j ≤ i))) := rfl
@[simp] theorem sSub_ii {i j : Int} : sSub (.int i) (.int j) = some (false, .int (i - j)) := rfl
@[simp] theorem sAdd_ii {i j : Int} : sAdd (.int i) (.int j) = some (false, .int (i + j)) := rfl
/-! ### defs -/
theorem fnS_rt {N n : Nat} {pr : Nat → Bool} {b : MS} {as : List Ar} {o : Bool} {u : U} {e : En} (h1 : as.length = n) (h2 : n ≤ N) (h : b (enA as ++ List.replicate (N - n) none) = .rt o u e) : fnS N n pr b as = .ok (o, u) (outS pr n e) := by
  unfold fnS
  rw [if_pos ⟨h1, h2⟩, h]
theorem fnS_nx {N n : Nat} {pr : Nat → Bool} {b : MS} {as : List Ar} {e : En} (h1 : as.length = n) (h2 : n ≤ N) (h : b (enA as ++ List.replicate (N - n) none) = .nx e) : fnS N n pr b as = .ok (false, .non) (outS pr n e) := by
  unfold fnS
  rw [if_pos ⟨h1, h2⟩, h]
end VS
set_option linter.all false
/-! VP2: rules for loops, comprehensions, calls; operators on typed data. -/
namespace VS
open PySem L2
/-! ### loops -/
theorem forL_inv {t : MT} {b : MS} {src items : List U} {e : En} {X : RS} {α : Type} (hX : forL t b none src items e = X) (xs : List α) (g : α → U) (hi : items = xs.map g) (I : List α → En → Prop) (h0 : I [] e)
    (hs : ∀ done x rest e, xs = done ++ x :: rest → I done e → ∃ e1, t (g x) e = some e1 ∧ ∃ e2, (b e1 = .nx e2 ∨ b e1 = .ct e2) ∧ I (done ++ [x]) e2) : ∃ e', X = .nx e' ∧ I xs e' := by
  subst hX hi
  suffices h : ∀ (rest done : List α) (e : En), xs = done ++ rest → I done e → ∃ e', forL t b none src (rest.map g) e = .nx e' ∧ I xs e' from h xs [] e rfl h0
  intro rest
  induction rest with
  | nil =>
    intro done e h hI
    refine ⟨e, rfl, ?_⟩
    rw [h, List.append_nil]
    exact hI
  | cons x rest ih =>
    intro done e h hI
    obtain ⟨e1, h1, e2, h2, h3⟩ := hs done x rest e h hI
    obtain ⟨e', q, r⟩ := ih (done ++ [x]) e2 (by rw [h]; simp) h3
    refine ⟨e', ?_, r⟩
    rw [List.map_cons]
    unfold forL
    rcases h2 with h2 | h2 <;> (simp only [h1, h2]; rw [if_pos (show gOK none src e2 from trivial)]; exact q)
/-- a loop that may return -/
theorem forL_ret {t : MT} {b : MS} {src items : List U} {e : En} {X : RS} {α : Type} (hX : forL t b none src items e = X) (xs : List α) (g : α → U) (hi : items = xs.map g) (I : List α → En → Prop) (R' : Bool → U → En → Prop) (h0 : I [] e)
    (hs : ∀ done x rest e, xs = done ++ x :: rest → I done e → ∃ e1, t (g x) e = some e1 ∧ ((∃ e2, (b e1 = .nx e2 ∨ b e1 = .ct e2) ∧ I (done ++ [x]) e2) ∨ ∃ o u e2, b e1 = .rt o u e2 ∧ R' o u e2)) :
    (∃ e', X = .nx e' ∧ I xs e') ∨ ∃ o u e', X = .rt o u e' ∧ R' o u e' := by
  subst hX hi
  suffices h : ∀ (rest done : List α) (e : En), xs = done ++ rest → I done e → (∃ e', forL t b none src (rest.map g) e = .nx e' ∧ I xs e') ∨ ∃ o u e', forL t b none src (rest.map g) e = .rt o u e' ∧ R' o u e' from h xs [] e rfl h0
  intro rest
  induction rest with
  | nil =>
    intro done e h hI
    refine .inl ⟨e, rfl, ?_⟩
    rw [h, List.append_nil]
    exact hI
  | cons x rest ih =>
    intro done e h hI
    obtain ⟨e1, h1, h2⟩ := hs done x rest e h hI
    rcases h2 with ⟨e2, h2, h3⟩ | ⟨o, u, e2, h2, h3⟩
    · have q := ih (done ++ [x]) e2 (by rw [h]; simp) h3
      rw [List.map_cons]
      unfold forL
      rcases h2 with h2 | h2 <;> (simp only [h1, h2]; rw [if_pos (show gOK none src e2 from trivial)]; exact q)
    · refine .inr ⟨o, u, e2, ?_, h3⟩
      rw [List.map_cons]
      unfold forL
      simp only [h1, h2]
theorem whl_inv {c : M Bool} {b : MS} {e : En} {X : RS} (hX : mWhl c b e = X) (I : Nat → En → Prop) (Q : En → Prop) (n : Nat) (h0 : I n e)
    (hs : ∀ n e, I n e → (∃ e1, c e = .ok false e1 ∧ Q e1) ∨ ∃ e1, c e = .ok true e1 ∧ ∃ e2, (b e1 = .nx e2 ∨ b e1 = .ct e2) ∧ ∃ m, m < n ∧ I m e2) : ∃ e', X = .nx e' ∧ Q e' := by
  subst hX
  suffices h : ∀ (n : Nat) (e : En), I n e → ∃ k e', whlN c b k e = some (.nx e') ∧ Q e' by
    obtain ⟨k, e', h1, h2⟩ := h n e h0
    exact ⟨e', mWhl_eq h1, h2⟩
  intro n
  induction n using Nat.strongRecOn with
  | ind n ih =>
    intro e hI
    rcases hs n e hI with ⟨e1, h1, h2⟩ | ⟨e1, h1, e2, h2, m, hm, h3⟩
    · refine ⟨1, e1, ?_, h2⟩
      unfold whlN
      rw [h1]
    · obtain ⟨k, e', q, r⟩ := ih m hm e2 h3
      refine ⟨k + 1, e', ?_, r⟩
      unfold whlN
      rcases h2 with h2 | h2 <;> (simp only [h1, h2]; exact q)
/-! ### comprehensions -/
open Classical in
noncomputable def lcR (t : MT) (tt : M Bool) (te : M U) (vs : List Nat) (s : Src) (e : En) : R (Bool × U) :=
  if gOK s.g s.src (wipeE e vs) then match lcL t tt te vs s.g s.src s.items [] (wipeE e vs) with
    | some (acc, e') => .ok (true, .lst acc) (resE e e' vs)
    | none => .bad
  else .bad
@[simp] theorem e_lc {m : M Src} {t : MT} {tt : M Bool} {te : M U} {vs : List Nat} {e : En} : mLc m t tt te vs e = (m.bd fun s e => lcR t tt te vs s e) e := rfl
theorem resE_self (e e' : En) (vs : List Nat) (h : ∀ i, i ∈ vs → ∀ o u, e[i]? = some (some (o, u)) → o = false) (k : wipeE e vs = e') : resE e e' vs = e := by
  subst k
  have key : ∀ (ws : List Nat), (∀ i, i ∈ ws → i ∈ vs) → ∀ j, (resE e (wipeE e vs) ws)[j]? = if j ∈ ws ∨ j ∉ vs then e[j]? else (wipeE e vs)[j]? := by
    have hw : ∀ (ws : List Nat) (j : Nat), (wipeE e ws).length = e.length := by
      intro ws j
      induction ws with
      | nil => rfl
      | cons w ws ih => unfold wipeE; rw [List.length_set]; exact ih
    have hn : ∀ (ws : List Nat) (j : Nat), j ∉ ws → (wipeE e ws)[j]? = e[j]? := by
      intro ws j hj
      induction ws with
      | nil => rfl
      | cons w ws ih =>
        unfold wipeE
        rw [List.getElem?_set_ne (by intro q; subst q; exact hj List.mem_cons_self)]
        exact ih fun q => hj (List.mem_cons_of_mem _ q)
    intro ws
    induction ws with
    | nil =>
      intro _ j
      unfold resE
      by_cases hj : j ∈ vs
      · simp [hj]
      · simp [hj, hn vs j hj]
    | cons w ws ih =>
      intro hsub j
      unfold resE
      have ih' := ih fun i hi => hsub i (List.mem_cons_of_mem _ hi)
      have hl : (resE e (wipeE e vs) ws).length = e.length := by
        have : ∀ zs, (resE e (wipeE e vs) zs).length = (wipeE e vs).length := by
          intro zs
          induction zs with
          | nil => rfl
          | cons z zs ih => unfold resE; rw [List.length_set]; exact ih
        rw [this, hw vs 0]
      by_cases q : w = j
      · subst q
        by_cases hl2 : w < e.length
        · rw [List.getElem?_set_self (by rw [hl]; exact hl2)]
          simp only [List.mem_cons, true_or, if_true]
          cases z : e[w]? with
          | none => rw [List.getElem?_eq_none_iff] at z; omega
          | some s =>
            cases s with
            | none => rfl
            | some r =>
              obtain ⟨o, u⟩ := r
              have := h w (hsub w List.mem_cons_self) o u z
              subst this
              rfl
        · rw [List.getElem?_eq_none (by rw [List.length_set, hl]; omega)]
          simp only [List.mem_cons, true_or, if_true]
          rw [List.getElem?_eq_none (by omega)]
      · rw [List.getElem?_set_ne q, ih' j]
        by_cases hj : j ∈ ws
        · simp [hj]
        · simp [hj, Ne.symm q]
  apply List.ext_getElem?
  intro j
  rw [key vs (fun i hi => hi) j]
  by_cases hj : j ∈ vs <;> simp [hj]
/-- the comprehension's slots hold nothing that is ours -/
def clr (e : En) (vs : List Nat) : Prop := ∀ i, i ∈ vs → ∀ o u, e[i]? = some (some (o, u)) → o = false
theorem clr_iff {e : En} {vs : List Nat} : clr e vs ↔ ∀ i, i ∈ vs → (match gs e i with | some (true, _) => False | _ => True) := by
  unfold clr
  constructor
  · intro h i hi
    cases z : gs e i with
    | none => trivial
    | some r =>
      obtain ⟨o, u⟩ := r
      have := h i hi o u (gs_some.mp z)
      subst this
      trivial
  · intro h i hi o u z
    have := h i hi
    rw [gs_some.mpr z] at this
    cases o with
    | false => rfl
    | true => exact this.elim
/-- a comprehension of typed items, with a test -/
theorem lc_filter {t : MT} {tt : M Bool} {te : M U} {vs : List Nat} {s : Src} {e : En} {X : R (Bool × U)} {α β : Type} (hX : lcR t tt te vs s e = X) (hg : s.g = none) (xs : List α) (g : α → U) (hi : s.items = xs.map g) (p : α → Bool) (en : β → U) (Q : α → β → Prop) (hl : xs.length ≤ sizeLine) (hc : clr e vs)
    (hs : ∀ x, x ∈ xs → ∃ e1, t (g x) (wipeE e vs) = some e1 ∧ ∃ e2, tt e1 = .ok (p x) e2 ∧ ((p x = false ∧ wipeE e2 vs = wipeE e vs) ∨ p x = true ∧ ∃ y e3, te e2 = .ok (en y) e3 ∧ Q x y ∧ wipeE e3 vs = wipeE e vs)) :
    ∃ ys : List β, X = .ok (true, .lst (ys.map en)) e ∧ Paired Q (xs.filter p) ys := by
  subst hX
  unfold lcR
  rw [hg, hi]
  rw [if_pos (show gOK none s.src _ from trivial)]
  have key : ∀ (rest : List α) (acc : List U), (∀ x, x ∈ rest → x ∈ xs) → acc.length + rest.length ≤ sizeLine → ∃ ys : List β, lcL t tt te vs none s.src (rest.map g) acc (wipeE e vs) = some (acc ++ ys.map en, wipeE e vs) ∧ Paired Q (rest.filter p) ys := by
    intro rest
    induction rest with
    | nil =>
      intro acc _ _
      refine ⟨[], ?_, .nil⟩
      simp [lcL]
    | cons x rest ih =>
      intro acc hm hz
      obtain ⟨e1, h1, e2, h2, h3⟩ := hs x (hm x List.mem_cons_self)
      have hm' := fun x hx => hm x (List.mem_cons_of_mem _ hx)
      rw [List.length_cons] at hz
      rcases h3 with ⟨h3, h4⟩ | ⟨h3, y, e3, h4, h5, h6⟩
      · obtain ⟨ys, q1, q2⟩ := ih acc hm' (by omega)
        refine ⟨ys, ?_, ?_⟩
        · rw [List.map_cons]
          unfold lcL
          simp only [h1, h2, h3]
          rw [if_pos (show gOK none s.src _ from trivial), h4]
          exact q1
        · rw [List.filter_cons_of_neg (by simp [h3])]
          exact q2
      · obtain ⟨ys, q1, q2⟩ := ih (acc ++ [en y]) hm' (by rw [List.length_append, List.length_singleton]; omega)
        refine ⟨y :: ys, ?_, ?_⟩
        · rw [List.map_cons]
          unfold lcL
          simp only [h1, h2, h3, h4]
          rw [if_pos ⟨by omega, trivial⟩, h6, q1]
          simp
        · rw [List.filter_cons_of_pos (by simp [h3])]
          exact .cons h5 q2
  obtain ⟨ys, q1, q2⟩ := key xs [] (fun _ h => h) (by simpa using hl)
  refine ⟨ys, ?_, q2⟩
  rw [q1]
  dsimp only
  rw [resE_self e _ vs hc rfl, List.nil_append]
theorem lc_map {t : MT} {te : M U} {vs : List Nat} {s : Src} {e : En} {X : R (Bool × U)} {α β : Type} (hX : lcR t (M.ret true) te vs s e = X) (hg : s.g = none) (xs : List α) (g : α → U) (hi : s.items = xs.map g) (en : β → U) (Q : α → β → Prop) (hl : xs.length ≤ sizeLine) (hc : clr e vs)
    (hs : ∀ x, x ∈ xs → ∃ e1, t (g x) (wipeE e vs) = some e1 ∧ ∃ y e3, te e1 = .ok (en y) e3 ∧ Q x y ∧ wipeE e3 vs = wipeE e vs) :
    ∃ ys : List β, X = .ok (true, .lst (ys.map en)) e ∧ Paired Q xs ys := by
  obtain ⟨ys, h1, h2⟩ := lc_filter hX hg xs g hi (fun _ => true) en Q hl hc fun x hx => by
    obtain ⟨e1, h1, y, e3, h2, h3, h4⟩ := hs x hx
    exact ⟨e1, h1, e1, rfl, .inr ⟨rfl, y, e3, h2, h3, h4⟩⟩
  refine ⟨ys, h1, ?_⟩
  rwa [List.filter_eq_self.mpr (fun _ _ => rfl)] at h2
end VS
set_option linter.all false
/-! KM: plain facts: numbering, refinement of partitions. -/
namespace KM
theorem nodup_len {α : Type} : ∀ {xs ys : List α}, xs.Nodup → (∀ x ∈ xs, x ∈ ys) → xs.length ≤ ys.length
  | [], _, _, _ => Nat.zero_le _
  | x :: xs, ys, hn, hs => by
    obtain ⟨l1, l2, rfl⟩ := List.append_of_mem (hs x List.mem_cons_self)
    obtain ⟨nx, hn⟩ := List.nodup_cons.mp hn
    have := nodup_len (xs := xs) (ys := l1 ++ l2) hn fun y hy => by
      have h := hs y (List.mem_cons_of_mem _ hy)
      rw [List.mem_append, List.mem_cons] at h
      rw [List.mem_append]
      rcases h with h | h | h
      · exact .inl h
      · exact absurd (h ▸ hy) nx
      · exact .inr h
    rw [List.length_append] at this
    simp only [List.length_cons, List.length_append]
    omega
theorem nodup_lt {xs : List Nat} {m : Nat} (hn : xs.Nodup) (h : ∀ x ∈ xs, x < m) : xs.length ≤ m := by
  have := nodup_len hn (ys := List.range m) fun x hx => List.mem_range.mpr (h x hx)
  rwa [List.length_range] at this
/-- the partition c refines p and has no more classes: it is the same -/
theorem same_part {n mc mp : Nat} {c p : Nat → Nat} (hc : ∀ i, i < n → c i < mc) (hp : ∀ v, v < mp → ∃ i, i < n ∧ p i = v) (hq : ∀ i, i < n → p i < mp) (hr : ∀ i j, i < n → j < n → c i = c j → p i = p j) (hm : mc ≤ mp) :
    ∀ i j, i < n → j < n → p i = p j → c i = c j := by
  intro i j hi hj h
  apply Classical.byContradiction
  intro ne
  let r : Nat → Nat := fun v => if h : v < mp then (hp v h).choose else 0
  have r1 : ∀ v, v < mp → r v < n ∧ p (r v) = v := fun v hv => by
    simp only [r, dif_pos hv]
    exact (hp v hv).choose_spec
  have key : ∃ k, k < n ∧ ∀ v, v < mp → c (r v) ≠ c k := by
    have hv0 : p i < mp := hq i hi
    obtain ⟨a1, a2⟩ := r1 _ hv0
    by_cases z : c (r (p i)) = c i
    · refine ⟨j, hj, fun v hv q => ?_⟩
      obtain ⟨b1, b2⟩ := r1 v hv
      have e := hr _ _ b1 hj q
      rw [b2, ← h] at e
      subst e
      exact ne (z ▸ q)
    · refine ⟨i, hi, fun v hv q => ?_⟩
      obtain ⟨b1, b2⟩ := r1 v hv
      have e := hr _ _ b1 hi q
      rw [b2] at e
      subst e
      exact z q
  obtain ⟨k, hk, nk⟩ := key
  have nd : (c k :: (List.range mp).map fun v => c (r v)).Nodup := by
    rw [List.nodup_cons]
    refine ⟨fun z => ?_, ?_⟩
    · obtain ⟨v, hv, e⟩ := List.mem_map.mp z
      exact nk v (List.mem_range.mp hv) e
    · have inj : ∀ v w, v < mp → w < mp → c (r v) = c (r w) → v = w := fun v w hv hw q => by
        have := hr _ _ (r1 v hv).1 (r1 w hw).1 q
        rwa [(r1 v hv).2, (r1 w hw).2] at this
      unfold List.Nodup
      rw [List.pairwise_map]
      refine List.Pairwise.imp_of_mem ?_ (List.nodup_range (n := mp))
      intro v w hv hw nvw q
      exact nvw (inj v w (List.mem_range.mp hv) (List.mem_range.mp hw) q)
  have := nodup_lt (m := mc) nd fun x hx => by
    rcases List.mem_cons.mp hx with e | hx
    · rw [e]; exact hc k hk
    · obtain ⟨v, hv, e⟩ := List.mem_map.mp hx
      rw [← e]
      exact hc _ (r1 v (List.mem_range.mp hv)).1
  simp only [List.length_cons, List.length_map, List.length_range] at this
  omega
/-! ### numbering -/
section
variable {α : Type} [DecidableEq α]
def nub (xs : List α) : List α := xs.foldl (fun acc x => if x ∈ acc then acc else acc ++ [x]) []
theorem nub_snoc {xs : List α} {x : α} : nub (xs ++ [x]) = if x ∈ nub xs then nub xs else nub xs ++ [x] := by
  unfold nub; rw [List.foldl_append]; rfl
theorem list_snoc_ind {P : List α → Prop} (h0 : P []) (hs : ∀ xs x, P xs → P (xs ++ [x])) : ∀ xs, P xs := by
  intro xs
  rw [← List.reverse_reverse xs]
  induction xs.reverse with
  | nil => exact h0
  | cons x r ih => rw [List.reverse_cons]; exact hs _ _ ih
theorem mem_nub {xs : List α} {y : α} : y ∈ nub xs ↔ y ∈ xs := by
  induction xs using list_snoc_ind with
  | h0 => rfl
  | hs xs x ih =>
    rw [nub_snoc]
    split
    · rename_i h
      rw [ih, List.mem_append, List.mem_singleton]
      exact ⟨.inl, fun z => z.elim id fun e => by subst e; exact ih.mp h⟩
    · rw [List.mem_append, List.mem_append, ih]
theorem nodup_nub {xs : List α} : (nub xs).Nodup := by
  induction xs using list_snoc_ind with
  | h0 => exact List.nodup_nil
  | hs xs x ih =>
    rw [nub_snoc]
    split
    · exact ih
    · rename_i h
      rw [List.nodup_append]
      exact ⟨ih, by simp, fun a ha b hb e => h (by rw [List.mem_singleton] at hb; rw [← hb, ← e]; exact ha)⟩
theorem nub_len {xs : List α} : (nub xs).length ≤ xs.length := nodup_len nodup_nub fun x h => mem_nub.mp h
def numb (xs : List α) : List Nat := xs.map fun x => (nub xs).idxOf x
theorem numb_len {xs : List α} : (numb xs).length = xs.length := List.length_map _
theorem numb_get {xs : List α} {i : Nat} (h : i < xs.length) : (numb xs)[i]'(by rw [numb_len]; exact h) = (nub xs).idxOf xs[i] := by
  simp only [numb, List.getElem_map]
theorem idx_inj {xs : List α} {x y : α} (hx : x ∈ xs) (h : xs.idxOf x = xs.idxOf y) : x = y := by
  have h1 := List.idxOf_lt_length_of_mem hx
  have e1 := List.getElem_idxOf h1
  have h2 : xs.idxOf y < xs.length := h ▸ h1
  have e2 := List.getElem_idxOf h2
  rw [← e1, ← e2]
  congr 1
/-- a function of the place -/
def nf (xs : List α) (i : Nat) : Nat := (numb xs).getD i 0
theorem nf_eq {xs : List α} {i : Nat} (h : i < xs.length) : nf xs i = (nub xs).idxOf xs[i] := by
  unfold nf
  rw [List.getD_eq_getElem?_getD, List.getElem?_eq_getElem (by rw [numb_len]; exact h), Option.getD_some, numb_get h]
theorem nf_lt {xs : List α} {i : Nat} (h : i < xs.length) : nf xs i < (nub xs).length := by
  rw [nf_eq h]
  exact List.idxOf_lt_length_of_mem (mem_nub.mpr (List.getElem_mem h))
theorem nf_iff {xs : List α} {i j : Nat} (hi : i < xs.length) (hj : j < xs.length) : nf xs i = nf xs j ↔ xs[i] = xs[j] := by
  rw [nf_eq hi, nf_eq hj]
  exact ⟨idx_inj (mem_nub.mpr (List.getElem_mem hi)), fun h => by rw [h]⟩
theorem nf_sur {xs : List α} {v : Nat} (h : v < (nub xs).length) : ∃ i, i < xs.length ∧ nf xs i = v := by
  have : (nub xs)[v] ∈ xs := mem_nub.mp (List.getElem_mem h)
  obtain ⟨i, hi, e⟩ := List.mem_iff_getElem.mp this
  refine ⟨i, hi, ?_⟩
  rw [nf_eq hi, e]
  exact nodup_nub.idxOf_getElem v h
theorem nub_cons {x : α} {xs : List α} : 0 < (nub (x :: xs)).length ∧ (nub (x :: xs))[0]? = some x := by
  have : ∀ (xs : List α) (acc : List α), acc[0]? = some x → (xs.foldl (fun acc x => if x ∈ acc then acc else acc ++ [x]) acc)[0]? = some x := by
    intro xs
    induction xs with
    | nil => intro acc h; exact h
    | cons y r ih =>
      intro acc h
      rw [List.foldl_cons]
      apply ih
      split
      · exact h
      · rw [List.getElem?_append]
        rw [if_pos (List.getElem?_eq_some_iff.mp h).1]
        exact h
  have h := this xs [x] rfl
  have h2 : (nub (x :: xs))[0]? = some x := h
  exact ⟨(List.getElem?_eq_some_iff.mp h2).1, h2⟩
end
end KM
set_option linter.all false
/-! KM2: rooms: stable classes, the least rooms, walks. -/
namespace KM
section
variable {β ε : Type} [DecidableEq β] [DecidableEq ε]
abbrev Rows (β ε : Type) := List (β × List (ε × Nat))
def lk (s : List (ε × Nat)) (e : ε) : Option Nat := (s.find? fun p => decide (p.1 = e)).map (·.2)
def stp (rows : Rows β ε) (r : Nat) : List (ε × Nat) := (rows[r]?.map (·.2)).getD []
def blk (rows : Rows β ε) (r : Nat) : Option β := rows[r]?.map (·.1)
def goal (rows : Rows β ε) (r : Nat) (e : ε) : Nat := (lk (stp rows r) e).getD r
def Fit (rows : Rows β ε) : Prop := ∀ r p, p ∈ stp rows r → p.2 < rows.length
theorem lk_mem {s : List (ε × Nat)} {e : ε} {k : Nat} (h : lk s e = some k) : (e, k) ∈ s := by
  unfold lk at h
  obtain ⟨p, h1, h2⟩ := Option.map_eq_some_iff.mp h
  have m := List.mem_of_find?_eq_some h1
  have q := List.find?_some h1
  simp only [decide_eq_true_eq] at q
  obtain ⟨a, b⟩ := p
  dsimp only at q h2
  subst q h2
  exact m
theorem goal_lt {rows : Rows β ε} (hf : Fit rows) {r : Nat} {e : ε} (hr : r < rows.length) : goal rows r e < rows.length := by
  unfold goal
  cases h : lk (stp rows r) e with
  | none => exact hr
  | some k => exact hf r _ (lk_mem h)
/-- places as a list's function -/
def cf (c : List Nat) (i : Nat) : Nat := c.getD i 0
/-- classes: a numbering of n rooms by 0 .. m - 1 -/
structure Cl (n m : Nat) (c : Nat → Nat) : Prop where
  lt : ∀ i, i < n → c i < m
  sur : ∀ v, v < m → ∃ i, i < n ∧ c i = v
/-- a relation that the rooms' blocks and goals respect -/
structure Bis (rows : Rows β ε) (ev : List ε) (E : Nat → Nat → Prop) : Prop where
  b : ∀ i j, E i j → blk rows i = blk rows j
  g : ∀ i j e, e ∈ ev → E i j → E (goal rows i e) (goal rows j e)
  l : ∀ i j, E i j → i < rows.length ∧ j < rows.length
structure Good (rows : Rows β ε) (ev : List ε) (m : Nat) (c : Nat → Nat) : Prop where
  cl : Cl rows.length m c
  b : ∀ i j, i < rows.length → j < rows.length → c i = c j → blk rows i = blk rows j
  co : ∀ E, Bis rows ev E → ∀ i j, E i j → c i = c j
theorem cl_nf {α : Type} [DecidableEq α] (xs : List α) : Cl xs.length (nub xs).length (nf xs) := ⟨fun i h => nf_lt h, fun v h => nf_sur h⟩
theorem Cl.le {n m : Nat} {c : Nat → Nat} (h : Cl n m c) : m ≤ n := by
  let r : Nat → Nat := fun v => if q : v < m then (h.sur v q).choose else 0
  have r1 : ∀ v, v < m → r v < n ∧ c (r v) = v := fun v hv => by
    simp only [r, dif_pos hv]; exact (h.sur v hv).choose_spec
  have nd : ((List.range m).map r).Nodup := by
    unfold List.Nodup
    rw [List.pairwise_map]
    refine List.Pairwise.imp_of_mem ?_ (List.nodup_range (n := m))
    intro v w hv hw ne q
    apply ne
    have a := (r1 v (List.mem_range.mp hv)).2
    have b := (r1 w (List.mem_range.mp hw)).2
    rw [← a, ← b, q]
  have := nodup_lt (m := n) nd fun x hx => by
    obtain ⟨v, hv, e⟩ := List.mem_map.mp hx
    rw [← e]; exact (r1 v (List.mem_range.mp hv)).1
  simpa using this
def blks (rows : Rows β ε) : List β := rows.map (·.1)
theorem good0 (rows : Rows β ε) (ev : List ε) : Good rows ev (nub (blks rows)).length (nf (blks rows)) := by
  have hl : (blks rows).length = rows.length := List.length_map _
  have hb : ∀ i, i < rows.length → blk rows i = (blks rows)[i]? := fun i hi => by unfold blk blks; rw [List.getElem?_map]
  refine ⟨hl ▸ cl_nf _, fun i j hi hj h => ?_, fun E hE i j h => ?_⟩
  · rw [nf_iff (by omega) (by omega)] at h
    rw [hb i hi, hb j hj, List.getElem?_eq_getElem (by omega), List.getElem?_eq_getElem (by omega), h]
  · obtain ⟨hi, hj⟩ := hE.l i j h
    have := hE.b i j h
    rw [hb i hi, hb j hj, List.getElem?_eq_getElem (by omega), List.getElem?_eq_getElem (by omega)] at this
    rw [nf_iff (by omega) (by omega)]
    exact Option.some.inj this
def mark (rows : Rows β ε) (ev : List ε) (c : Nat → Nat) (r : Nat) : Nat × List Nat := (c r, ev.map fun e => c (goal rows r e))
def marks (rows : Rows β ε) (ev : List ε) (c : Nat → Nat) : List (Nat × List Nat) := (List.range rows.length).map (mark rows ev c)
theorem marks_len {rows : Rows β ε} {ev : List ε} {c : Nat → Nat} : (marks rows ev c).length = rows.length := by simp [marks]
theorem marks_get {rows : Rows β ε} {ev : List ε} {c : Nat → Nat} {i : Nat} (h : i < (marks rows ev c).length) : (marks rows ev c)[i] = mark rows ev c i := by simp [marks]
theorem nf_marks {rows : Rows β ε} {ev : List ε} {c : Nat → Nat} {i j : Nat} (hi : i < rows.length) (hj : j < rows.length) : nf (marks rows ev c) i = nf (marks rows ev c) j ↔ mark rows ev c i = mark rows ev c j := by
  have l := marks_len (rows := rows) (ev := ev) (c := c)
  rw [nf_iff (by omega) (by omega), marks_get, marks_get]
theorem mark_iff {rows : Rows β ε} {ev : List ε} {c : Nat → Nat} {i j : Nat} : mark rows ev c i = mark rows ev c j ↔ c i = c j ∧ ∀ e ∈ ev, c (goal rows i e) = c (goal rows j e) := by
  unfold mark
  rw [Prod.mk.injEq, List.map_inj_left]
theorem good_step {rows : Rows β ε} {ev : List ε} {m : Nat} {c : Nat → Nat} (h : Good rows ev m c) : Good rows ev (nub (marks rows ev c)).length (nf (marks rows ev c)) := by
  refine ⟨marks_len (rows := rows) (ev := ev) (c := c) ▸ cl_nf _, fun i j hi hj q => ?_, fun E hE i j q => ?_⟩
  · rw [nf_marks hi hj, mark_iff] at q
    exact h.b i j hi hj q.1
  · obtain ⟨hi, hj⟩ := hE.l i j q
    rw [nf_marks hi hj, mark_iff]
    exact ⟨h.co E hE i j q, fun e he => h.co E hE _ _ (hE.g i j e he q)⟩
/-- nothing changes any more -/
structure Stable (rows : Rows β ε) (ev : List ε) (c : Nat → Nat) : Prop where
  b : ∀ i j, i < rows.length → j < rows.length → c i = c j → blk rows i = blk rows j
  g : ∀ i j e, i < rows.length → j < rows.length → e ∈ ev → c i = c j → c (goal rows i e) = c (goal rows j e)
  co : ∀ E, Bis rows ev E → ∀ i j, E i j → c i = c j
theorem stable_of {rows : Rows β ε} {ev : List ε} {m : Nat} {p : Nat → Nat} (hf : Fit rows) (h : Good rows ev m p) (hm : (nub (marks rows ev p)).length ≤ m) : Stable rows ev (nf (marks rows ev p)) := by
  have G := good_step h
  have key := same_part (n := rows.length) G.cl.lt h.cl.sur h.cl.lt (fun i j hi hj q => by
    rw [nf_marks hi hj, mark_iff] at q; exact q.1) hm
  refine ⟨G.b, fun i j e hi hj he q => ?_, G.co⟩
  rw [nf_marks hi hj, mark_iff] at q
  exact key _ _ (goal_lt hf hi) (goal_lt hf hj) (q.2 e he)
/-- two stable partitions are the same -/
theorem Stable.same {rows : Rows β ε} {ev : List ε} {c d : Nat → Nat} (hf : Fit rows) (h : Stable rows ev c) (k : Stable rows ev d) {i j : Nat} (hi : i < rows.length) (hj : j < rows.length) (q : c i = c j) : d i = d j := by
  refine k.co (fun i j => i < rows.length ∧ j < rows.length ∧ c i = c j) ⟨fun i j z => h.b i j z.1 z.2.1 z.2.2, fun i j e he z => ⟨goal_lt hf z.1, goal_lt hf z.2.1, h.g i j e z.1 z.2.1 he z.2.2⟩, fun i j z => ⟨z.1, z.2.1⟩⟩ i j ⟨hi, hj, q⟩

/-! ### the order in which rooms are found -/
/-- the place of g's class -/
def ixc (c : Nat → Nat) (order : List Nat) (g : Nat) : Nat := (order.map c).idxOf (c g)
def ord1 (rows : Rows β ε) (c : Nat → Nat) (r : Nat) (order : List Nat) (e : ε) : List Nat :=
  if c (goal rows r e) ≠ c r ∧ c (goal rows r e) ∉ order.map c then order ++ [goal rows r e] else order
def ords (rows : Rows β ε) (c : Nat → Nat) (r : Nat) (ev : List ε) (order : List Nat) : List Nat := ev.foldl (ord1 rows c r) order
theorem ords_snoc {rows : Rows β ε} {c : Nat → Nat} {r : Nat} {ev : List ε} {e : ε} {order : List Nat} : ords rows c r (ev ++ [e]) order = ord1 rows c r (ords rows c r ev order) e := by
  unfold ords; rw [List.foldl_append]; rfl
theorem ord1_ext {rows : Rows β ε} {c : Nat → Nat} {r : Nat} {order : List Nat} {e : ε} : ∃ t, ord1 rows c r order e = order ++ t := by
  unfold ord1
  split
  · exact ⟨_, rfl⟩
  · exact ⟨[], by simp⟩
theorem ords_ext {rows : Rows β ε} {c : Nat → Nat} {r : Nat} {order : List Nat} : ∀ {ev : List ε}, ∃ t, ords rows c r ev order = order ++ t := by
  intro ev
  induction ev using list_snoc_ind with
  | h0 => exact ⟨[], by simp [ords]⟩
  | hs ev e ih =>
    obtain ⟨t, h⟩ := ih
    obtain ⟨t', h'⟩ := ord1_ext (rows := rows) (c := c) (r := r) (order := ords rows c r ev order) (e := e)
    exact ⟨t ++ t', by rw [ords_snoc, h', h, List.append_assoc]⟩
theorem ixc_ext {c : Nat → Nat} {order t : List Nat} {g : Nat} (h : c g ∈ order.map c) : ixc c (order ++ t) g = ixc c order g := by
  unfold ixc
  rw [List.map_append, List.idxOf_append, if_pos h]
/-- what is found of the room r; all its goals' classes stand in the order -/
def stepsOf (rows : Rows β ε) (c : Nat → Nat) (order : List Nat) (r : Nat) (ev : List ε) : List (ε × Nat) :=
  (ev.filter fun e => decide (c (goal rows r e) ≠ c r)).map fun e => (e, ixc c order (goal rows r e))
structure Ord (rows : Rows β ε) (c : Nat → Nat) (order : List Nat) : Prop where
  nd : (order.map c).Nodup
  lt : ∀ r ∈ order, r < rows.length
  hd : order[0]? = some 0
theorem Ord.len {rows : Rows β ε} {c : Nat → Nat} {order : List Nat} (h : Ord rows c order) : order.length ≤ rows.length := by
  have : order.Nodup := by
    have := h.nd
    unfold List.Nodup at this ⊢
    rw [List.pairwise_map] at this
    exact this.imp fun q e => q (by rw [e])
  exact nodup_lt this h.lt
theorem Ord.step {rows : Rows β ε} {c : Nat → Nat} {order : List Nat} (hf : Fit rows) (h : Ord rows c order) {r : Nat} (hr : r < rows.length) {e : ε} : Ord rows c (ord1 rows c r order e) := by
  unfold ord1
  split
  · rename_i q
    refine ⟨?_, fun x hx => ?_, ?_⟩
    · rw [List.map_append, List.nodup_append]
      refine ⟨h.nd, by simp, fun a ha b hb e' => ?_⟩
      simp only [List.map_cons, List.map_nil, List.mem_singleton] at hb
      rw [hb] at e'
      rw [e'] at ha
      exact q.2 ha
    · rcases List.mem_append.mp hx with hx | hx
      · exact h.lt x hx
      · rw [List.mem_singleton.mp hx]; exact goal_lt hf hr
    · have := h.hd
      rw [List.getElem?_append, if_pos (List.getElem?_eq_some_iff.mp this).1]
      exact this
  · exact h
theorem Ord.steps {rows : Rows β ε} {c : Nat → Nat} {order : List Nat} (hf : Fit rows) (h : Ord rows c order) {r : Nat} (hr : r < rows.length) {ev : List ε} : Ord rows c (ords rows c r ev order) := by
  induction ev using list_snoc_ind with
  | h0 => exact h
  | hs ev e ih => rw [ords_snoc]; exact ih.step hf hr
/-- all goals of r by events of ev stand in the order -/
def Has (rows : Rows β ε) (c : Nat → Nat) (order : List Nat) (r : Nat) (ev : List ε) : Prop := ∀ e ∈ ev, c (goal rows r e) ≠ c r → c (goal rows r e) ∈ order.map c
theorem Has.ext {rows : Rows β ε} {c : Nat → Nat} {order t : List Nat} {r : Nat} {ev : List ε} (h : Has rows c order r ev) : Has rows c (order ++ t) r ev := fun e he q => by
  rw [List.map_append]; exact List.mem_append.mpr (.inl (h e he q))
theorem has_ords {rows : Rows β ε} {c : Nat → Nat} {order : List Nat} {r : Nat} {ev : List ε} : Has rows c (ords rows c r ev order) r ev := by
  induction ev using list_snoc_ind with
  | h0 => intro e h; cases h
  | hs ev e ih =>
    intro x hx q
    rw [ords_snoc]
    rcases List.mem_append.mp hx with hx | hx
    · obtain ⟨t, h⟩ := ord1_ext (rows := rows) (c := c) (r := r) (order := ords rows c r ev order) (e := e)
      rw [h]
      exact (ih.ext (t := t)) x hx q
    · rw [List.mem_singleton] at hx
      subst hx
      unfold ord1
      split
      · simp
      · rename_i z
        exact Classical.byContradiction fun w => z ⟨q, w⟩
theorem stepsOf_ext {rows : Rows β ε} {c : Nat → Nat} {order t : List Nat} {r : Nat} {ev : List ε} (h : Has rows c order r ev) : stepsOf rows c (order ++ t) r ev = stepsOf rows c order r ev := by
  unfold stepsOf
  rw [List.map_inj_left]
  intro e he
  obtain ⟨h1, h2⟩ := List.mem_filter.mp he
  rw [ixc_ext (h e h1 (by simpa using h2))]
theorem stepsOf_snoc {rows : Rows β ε} {c : Nat → Nat} {order : List Nat} {r : Nat} {ev : List ε} {e : ε} : stepsOf rows c order r (ev ++ [e]) = stepsOf rows c order r ev ++ (if c (goal rows r e) ≠ c r then [(e, ixc c order (goal rows r e))] else []) := by
  unfold stepsOf
  rw [List.filter_append, List.map_append]
  by_cases h : c (goal rows r e) = c r
  · simp [h]
  · simp [h]
/-- the whole search: at places are done -/
inductive Bfs (rows : Rows β ε) (c : Nat → Nat) (ev : List ε) : Nat → List Nat → Prop
  | zero : Bfs rows c ev 0 [0]
  | succ {k : Nat} {order : List Nat} (r : Nat) (h : Bfs rows c ev k order) (hr : order[k]? = some r) : Bfs rows c ev (k + 1) (ords rows c r ev order)
theorem Bfs.ord {rows : Rows β ε} {c : Nat → Nat} {ev : List ε} (hf : Fit rows) (hn : 0 < rows.length) {k : Nat} {order : List Nat} (h : Bfs rows c ev k order) : Ord rows c order ∧ k ≤ order.length := by
  induction h with
  | zero => exact ⟨⟨by simp, fun r hr => by rw [List.mem_singleton.mp hr]; exact hn, rfl⟩, by simp⟩
  | succ r h hr ih =>
    have l := (List.getElem?_eq_some_iff.mp hr).1
    refine ⟨ih.1.steps hf (ih.1.lt r (List.mem_of_getElem? hr)), ?_⟩
    obtain ⟨t, q⟩ := ords_ext (rows := rows) (c := c) (r := r) (ev := ev)
    rw [q, List.length_append]
    omega
theorem Bfs.has {rows : Rows β ε} {c : Nat → Nat} {ev : List ε} {k : Nat} {order : List Nat} (h : Bfs rows c ev k order) : ∀ (j r : Nat), j < k → order[j]? = some r → Has rows c order r ev := by
  induction h with
  | zero => intro j r hj; omega
  | @succ k order r h hr ih =>
    intro j x hj hx
    obtain ⟨t, q⟩ := ords_ext (rows := rows) (c := c) (r := r) (order := order) (ev := ev)
    have l := (List.getElem?_eq_some_iff.mp hr).1
    by_cases z : j = k
    · subst z
      rw [q, List.getElem?_append, if_pos l, hr] at hx
      cases hx
      exact has_ords
    · rw [q] at hx ⊢
      rw [List.getElem?_append, if_pos (by omega)] at hx
      exact (ih j x (by omega) hx).ext
/-- what is found -/
def least (rows : Rows β ε) (c : Nat → Nat) (ev : List ε) (order : List Nat) : List (Option β × List (ε × Nat)) := order.map fun r => (blk rows r, stepsOf rows c order r ev)
/-- equal partitions find the same -/
theorem ord1_congr {rows : Rows β ε} {c d : Nat → Nat} (hf : Fit rows) (hcd : ∀ i j, i < rows.length → j < rows.length → (c i = c j ↔ d i = d j)) {r : Nat} (hr : r < rows.length) {order : List Nat} (ho : ∀ x ∈ order, x < rows.length) {e : ε} : ord1 rows c r order e = ord1 rows d r order e := by
  have g := goal_lt hf hr (e := e)
  have h1 : (c (goal rows r e) ≠ c r ∧ c (goal rows r e) ∉ order.map c) ↔ (d (goal rows r e) ≠ d r ∧ d (goal rows r e) ∉ order.map d) := by
    have a := hcd _ _ g hr
    have b : c (goal rows r e) ∈ order.map c ↔ d (goal rows r e) ∈ order.map d := by
      rw [List.mem_map, List.mem_map]
      constructor
      · rintro ⟨x, hx, q⟩; exact ⟨x, hx, (hcd _ _ (ho x hx) g).mp q⟩
      · rintro ⟨x, hx, q⟩; exact ⟨x, hx, (hcd _ _ (ho x hx) g).mpr q⟩
    rw [b, Ne, Ne, a]
  unfold ord1
  by_cases q : c (goal rows r e) ≠ c r ∧ c (goal rows r e) ∉ order.map c
  · rw [if_pos q, if_pos (h1.mp q)]
  · rw [if_neg q, if_neg (fun z => q (h1.mpr z))]
theorem ixc_congr {n : Nat} {c d : Nat → Nat} (hcd : ∀ i j, i < n → j < n → (c i = c j ↔ d i = d j)) {g : Nat} (hg : g < n) : ∀ {order : List Nat}, (∀ x ∈ order, x < n) → ixc c order g = ixc d order g
  | [], _ => rfl
  | x :: r, h => by
    have ih := ixc_congr hcd hg (order := r) fun y hy => h y (List.mem_cons_of_mem _ hy)
    unfold ixc at ih ⊢
    rw [List.map_cons, List.map_cons, List.idxOf_cons, List.idxOf_cons, ih]
    have a := hcd _ _ (h x List.mem_cons_self) hg
    by_cases q : c x = c g
    · simp [q, a.mp q]
    · have q2 : ¬ d x = d g := fun z => q (a.mpr z)
      rw [show (c x == c g) = false from by simpa using q, show (d x == d g) = false from by simpa using q2]
theorem Bfs.congr {rows : Rows β ε} {c d : Nat → Nat} {ev : List ε} (hf : Fit rows) (hn : 0 < rows.length) (hcd : ∀ i j, i < rows.length → j < rows.length → (c i = c j ↔ d i = d j)) {k : Nat} {order : List Nat} (h : Bfs rows c ev k order) : Bfs rows d ev k order := by
  induction h with
  | zero => exact .zero
  | @succ k order r h hr ih =>
    have o := (h.ord hf hn).1
    have rl := o.lt r (List.mem_of_getElem? hr)
    have : ords rows c r ev order = ords rows d r ev order := by
      have gen : ∀ es : List ε, ords rows c r es order = ords rows d r es order := by
        intro es
        induction es using list_snoc_ind with
        | h0 => rfl
        | hs es e ih2 =>
          rw [ords_snoc, ords_snoc, ← ih2]
          exact ord1_congr hf hcd rl (o.steps hf rl).lt
      exact gen ev
    rw [this]
    exact .succ r ih hr
theorem Bfs.pre {rows : Rows β ε} {c : Nat → Nat} {ev : List ε} {k : Nat} {order : List Nat} (h : Bfs rows c ev k order) : ∀ j, j ≤ k → ∃ o, Bfs rows c ev j o ∧ (j < k → j < o.length) ∧ (j = k → o = order) := by
  induction h with
  | zero => intro j hj; exact ⟨[0], by have : j = 0 := by omega
                                       subst this; exact .zero, fun z => by omega, fun _ => rfl⟩
  | @succ k order r h hr ih =>
    intro j hj
    by_cases z : j = k + 1
    · subst z; exact ⟨_, .succ r h hr, fun w => by omega, fun _ => rfl⟩
    · obtain ⟨o, h1, h2, h3⟩ := ih j (by omega)
      refine ⟨o, h1, fun _ => ?_, fun w => absurd w z⟩
      by_cases w : j = k
      · subst w; rw [h3 rfl]; exact (List.getElem?_eq_some_iff.mp hr).1
      · exact h2 (by omega)
theorem Bfs.det {rows : Rows β ε} {c : Nat → Nat} {ev : List ε} {k : Nat} {order order' : List Nat} (h : Bfs rows c ev k order) (h' : Bfs rows c ev k order') : order = order' := by
  induction h generalizing order' with
  | zero => cases h'; rfl
  | succ r h hr ih =>
    cases h' with
    | succ r' h2 hr2 =>
      have := ih h2
      subst this
      rw [hr] at hr2
      cases hr2
      rfl
theorem Bfs.unique {rows : Rows β ε} {c : Nat → Nat} {ev : List ε} {k k' : Nat} {order order' : List Nat} (h : Bfs rows c ev k order) (e : k = order.length) (h' : Bfs rows c ev k' order') (e' : k' = order'.length) : order = order' := by
  have key : ∀ {k k' : Nat} {o o' : List Nat}, Bfs rows c ev k o → k = o.length → Bfs rows c ev k' o' → k ≤ k' → k = k' := by
    intro k k' o o' h e h' l
    apply Classical.byContradiction
    intro ne
    obtain ⟨o2, h1, h2, _⟩ := h'.pre k l
    have := h.det h1
    subst this
    have := h2 (by omega)
    omega
  have : k = k' := by
    rcases Nat.le_total k k' with l | l
    · exact key h e h' l
    · exact (key h' e' h l).symm
  subst this
  exact h.det h'
/-! ### walks -/
def walk (rows : Rows β ε) (r : Nat) (view : List ε) : Nat := view.foldl (goal rows) r
theorem walk_lt {rows : Rows β ε} (hf : Fit rows) {view : List ε} : ∀ {r : Nat}, r < rows.length → walk rows r view < rows.length := by
  induction view with
  | nil => intro r h; exact h
  | cons e v ih => intro r h; exact ih (goal_lt hf h)
theorem lk_stepsOf {rows : Rows β ε} {c : Nat → Nat} {order : List Nat} {r : Nat} {e : ε} : ∀ {ev : List ε}, lk (stepsOf rows c order r ev) e = if e ∈ ev ∧ c (goal rows r e) ≠ c r then some (ixc c order (goal rows r e)) else none
  | [] => by simp [stepsOf, lk]
  | x :: ev => by
    have ih := lk_stepsOf (rows := rows) (c := c) (order := order) (r := r) (e := e) (ev := ev)
    unfold stepsOf lk at ih ⊢
    rw [List.filter_cons]
    by_cases q : c (goal rows r x) = c r
    · simp only [q, ne_eq, not_true_eq_false, decide_false, Bool.false_eq_true, if_false] at ih ⊢
      simp only [ne_eq, decide_not] at ih
      rw [show (fun e => decide ¬c (goal rows r e) = c r) = (fun e => !decide (c (goal rows r e) = c r)) from by funext e; simp]
      rw [ih]
      by_cases z : e = x
      · subst z; simp [q]
      · simp [z]
    · simp only [ne_eq, q, not_false_eq_true, decide_true, if_true, List.map_cons]
      by_cases z : x = e
      · subst z; simp [q]
      · rw [List.find?_cons]
        simp only [z, decide_false]
        rw [ih]
        simp [Ne.symm z]
/-- the found rooms walk as the given ones -/
theorem walk_least {rows : Rows β ε} {c : Nat → Nat} {ev : List ε} {order : List Nat} (hf : Fit rows) (hn : 0 < rows.length) (hs : Stable rows ev c) (hev : ∀ r e, e ∉ ev → lk (stp rows r) e = none) (h : Bfs rows c ev order.length order) (view : List ε) :
    ∃ r, order[walk (least rows c ev order) 0 view]? = some r ∧ c r = c (walk rows 0 view) ∧ r < rows.length := by
  obtain ⟨o, _⟩ := h.ord hf hn
  have one : ∀ (k r s : Nat) (e : ε), order[k]? = some r → s < rows.length → c r = c s → ∃ r', order[goal (least rows c ev order) k e]? = some r' ∧ c r' = c (goal rows s e) := by
    intro k r s e hk hsl q
    have hl := (List.getElem?_eq_some_iff.mp hk).1
    have rl := o.lt r (List.mem_of_getElem? hk)
    have st : stp (least rows c ev order) k = stepsOf rows c order r ev := by
      unfold stp least
      rw [List.getElem?_map, hk]; rfl
    unfold goal
    rw [st, lk_stepsOf]
    split
    · rename_i z
      have hm := h.has k r hl hk e z.1 z.2
      have il : ixc c order (goal rows r e) < (order.map c).length := List.idxOf_lt_length_of_mem hm
      have ig : (order.map c)[ixc c order (goal rows r e)]'il = c (goal rows r e) := List.getElem_idxOf il
      have il0 := il
      rw [List.length_map] at il
      refine ⟨order[ixc c order (goal rows r e)], List.getElem?_eq_getElem il, ?_⟩
      have ig2 : c (order[ixc c order (goal rows r e)]'il) = c (goal rows r e) := by
        rw [← ig, List.getElem_map]
      have e2 : c (goal rows r e) = c (goal rows s e) := hs.g r s e rl hsl z.1 q
      exact ig2.trans e2
    · rename_i z
      refine ⟨r, hk, ?_⟩
      show c r = c (goal rows s e)
      by_cases he : e ∈ ev
      · have e2 : c (goal rows r e) = c (goal rows s e) := hs.g r s e rl hsl he q
        rw [← e2]
        exact Classical.byContradiction fun w => z ⟨he, fun x => w x.symm⟩
      · unfold goal
        rw [hev s e he]
        exact q
  suffices ∀ (view : List ε) (k r s : Nat), order[k]? = some r → s < rows.length → c r = c s → ∃ r', order[walk (least rows c ev order) k view]? = some r' ∧ c r' = c (walk rows s view) ∧ r' < rows.length from
    this view 0 0 0 o.hd hn rfl
  intro view
  induction view with
  | nil => intro k r s h1 h2 h3; exact ⟨r, h1, h3, o.lt r (List.mem_of_getElem? h1)⟩
  | cons e v ih =>
    intro k r s h1 h2 h3
    obtain ⟨r', h4, h5⟩ := one k r s e h1 h2 h3
    exact ih _ r' _ h4 (goal_lt hf h2) h5
end
end KM
set_option Elab.async false
set_option linter.all false
/-! KM3: rooms that behave alike have the same least rooms. -/
namespace KM
variable {β ε : Type} [DecidableEq β] [DecidableEq ε]
def beh (rows : Rows β ε) (i : Nat) (view : List ε) : Option β := blk rows (walk rows i view)
/-- c tells rooms by what they do -/
def Tells (rows : Rows β ε) (c : Nat → Nat) : Prop := ∀ i j, i < rows.length → j < rows.length → (c i = c j ↔ ∀ v, beh rows i v = beh rows j v)
theorem Stable.tells {rows : Rows β ε} {ev : List ε} {c : Nat → Nat} (hf : Fit rows) (h : Stable rows ev c) (hev : ∀ r e, e ∉ ev → lk (stp rows r) e = none) : Tells rows c := by
  intro i j hi hj
  constructor
  · intro q v
    have : ∀ (v : List ε) (i j : Nat), i < rows.length → j < rows.length → c i = c j → beh rows i v = beh rows j v := by
      intro v
      induction v with
      | nil => intro i j hi hj q; exact h.b i j hi hj q
      | cons e v ih =>
        intro i j hi hj q
        refine ih _ _ (goal_lt hf hi) (goal_lt hf hj) ?_
        by_cases he : e ∈ ev
        · exact h.g i j e hi hj he q
        · have a : goal rows i e = i := by unfold goal; rw [hev i e he]; rfl
          have b : goal rows j e = j := by unfold goal; rw [hev j e he]; rfl
          rw [a, b]
          exact q
    exact this v i j hi hj q
  · intro q
    refine h.co (fun i j => i < rows.length ∧ j < rows.length ∧ ∀ v, beh rows i v = beh rows j v) ⟨fun i j z => z.2.2 [], fun i j e he z => ⟨goal_lt hf z.1, goal_lt hf z.2.1, fun v => z.2.2 (e :: v)⟩, fun i j z => ⟨z.1, z.2.1⟩⟩ i j ⟨hi, hj, q⟩
def eff (rows : Rows β ε) (c : Nat → Nat) (r : Nat) (e : ε) : Bool := decide (c (goal rows r e) ≠ c r)
theorem ords_filter {rows : Rows β ε} {c : Nat → Nat} {r : Nat} : ∀ {ev : List ε} {order : List Nat}, ords rows c r ev order = ords rows c r (ev.filter (eff rows c r)) order
  | [], order => rfl
  | e :: ev, order => by
    by_cases q : c (goal rows r e) = c r
    · have f : eff rows c r e = false := by unfold eff; simp [q]
      rw [List.filter_cons, f, if_neg Bool.false_ne_true]
      have o : ord1 rows c r order e = order := by unfold ord1; rw [if_neg (fun z => z.1 q)]
      show ords rows c r ev (ord1 rows c r order e) = _
      rw [o]
      exact ords_filter
    · have f : eff rows c r e = true := by unfold eff; simp [q]
      rw [List.filter_cons, f, if_pos rfl]
      exact ords_filter (ev := ev) (order := ord1 rows c r order e)
inductive Pd (X : Nat → Nat → Prop) : List Nat → List Nat → Prop
  | nil : Pd X [] []
  | cons {a b : Nat} {xs ys : List Nat} : X a b → Pd X xs ys → Pd X (a :: xs) (b :: ys)
theorem Pd.len {X : Nat → Nat → Prop} {xs ys : List Nat} (h : Pd X xs ys) : xs.length = ys.length := by
  induction h with
  | nil => rfl
  | cons _ _ ih => rw [List.length_cons, List.length_cons, ih]
theorem Pd.snoc {X : Nat → Nat → Prop} {xs ys : List Nat} {a b : Nat} (h : Pd X xs ys) (q : X a b) : Pd X (xs ++ [a]) (ys ++ [b]) := by
  induction h with
  | nil => exact .cons q .nil
  | cons r _ ih => exact .cons r ih
theorem Pd.get {X : Nat → Nat → Prop} {xs ys : List Nat} (h : Pd X xs ys) : ∀ {k a : Nat}, xs[k]? = some a → ∃ b, ys[k]? = some b ∧ X a b := by
  induction h with
  | nil => intro k a h; simp at h
  | cons r _ ih =>
    intro k a h
    cases k with
    | zero => cases h; exact ⟨_, rfl, r⟩
    | succ k => exact ih h
section
variable {A B : Rows β ε} {c d : Nat → Nat} {ea eb : List ε}
def Xx (A B : Rows β ε) (a b : Nat) : Prop := a < A.length ∧ b < B.length ∧ ∀ v, beh A a v = beh B b v
theorem Xx.goal (fa : Fit A) (fb : Fit B) {a b : Nat} (h : Xx A B a b) (e : ε) : Xx A B (goal A a e) (goal B b e) := ⟨goal_lt fa h.1, goal_lt fb h.2.1, fun v => h.2.2 (e :: v)⟩
theorem Xx.same (ta : Tells A c) (tb : Tells B d) {a b a' b' : Nat} (h : Xx A B a b) (k : Xx A B a' b') : c a = c a' ↔ d b = d b' := by
  rw [ta a a' h.1 k.1, tb b b' h.2.1 k.2.1]
  constructor
  · intro q v; rw [← h.2.2 v, ← k.2.2 v]; exact q v
  · intro q v; rw [h.2.2 v, k.2.2 v]; exact q v
theorem pd_mem (ta : Tells A c) (tb : Tells B d) {oa ob : List Nat} (h : Pd (Xx A B) oa ob) {g k : Nat} (q : Xx A B g k) : c g ∈ oa.map c ↔ d k ∈ ob.map d := by
  induction h with
  | nil => simp
  | cons r _ ih =>
    rw [List.map_cons, List.map_cons, List.mem_cons, List.mem_cons, ih, Xx.same ta tb q r]
theorem pd_idx (ta : Tells A c) (tb : Tells B d) {oa ob : List Nat} (h : Pd (Xx A B) oa ob) {g k : Nat} (q : Xx A B g k) : ixc c oa g = ixc d ob k := by
  unfold ixc
  induction h with
  | nil => rfl
  | @cons a b xs ys r _ ih =>
    rw [List.map_cons, List.map_cons, List.idxOf_cons, List.idxOf_cons, ih]
    have e := Xx.same ta tb r q
    by_cases z : c a = c g
    · have z2 := e.mp z
      simp [z, z2]
    · have z2 : ¬ d b = d k := fun w => z (e.mpr w)
      have b1 : (c a == c g) = false := by simpa using z
      have b2 : (d b == d k) = false := by simpa using z2
      rw [b1, b2]
theorem pd_ord1 (fa : Fit A) (fb : Fit B) (ta : Tells A c) (tb : Tells B d) {oa ob : List Nat} (h : Pd (Xx A B) oa ob) {r s : Nat} (q : Xx A B r s) (e : ε) : Pd (Xx A B) (ord1 A c r oa e) (ord1 B d s ob e) := by
  have g := q.goal fa fb e
  have e1 := Xx.same ta tb g q
  have e2 := pd_mem ta tb h g
  unfold ord1
  by_cases z : c (KM.goal A r e) ≠ c r ∧ c (KM.goal A r e) ∉ oa.map c
  · rw [if_pos z, if_pos ⟨fun w => z.1 (e1.mpr w), fun w => z.2 (e2.mpr w)⟩]
    exact h.snoc g
  · rw [if_neg z, if_neg fun w => z ⟨fun y => w.1 (e1.mp y), fun y => w.2 (e2.mp y)⟩]
    exact h
theorem pd_ords (fa : Fit A) (fb : Fit B) (ta : Tells A c) (tb : Tells B d) {r s : Nat} (q : Xx A B r s) : ∀ {ev : List ε} {oa ob : List Nat}, Pd (Xx A B) oa ob → Pd (Xx A B) (ords A c r ev oa) (ords B d s ev ob)
  | [], _, _, h => h
  | e :: ev, oa, ob, h => (show Pd (Xx A B) (ords A c r ev (ord1 A c r oa e)) (ords B d s ev (ord1 B d s ob e)) from pd_ords fa fb ta tb q (pd_ord1 fa fb ta tb h q e))
theorem eff_same (fa : Fit A) (fb : Fit B) (ta : Tells A c) (tb : Tells B d) {r s : Nat} (q : Xx A B r s) (e : ε) : eff A c r e = eff B d s e := by
  have e1 := Xx.same ta tb (q.goal fa fb e) q
  unfold eff
  by_cases z : c (KM.goal A r e) = c r
  · simp [z, e1.mp z]
  · have z2 : ¬ d (KM.goal B s e) = d s := fun w => z (e1.mpr w)
    simp [z, z2]
theorem Bfs.lock (fa : Fit A) (fb : Fit B) (ta : Tells A c) (tb : Tells B d) (h0 : Xx A B 0 0) (hE : ∀ r s, Xx A B r s → ea.filter (eff A c r) = eb.filter (eff B d s)) {k : Nat} {oa : List Nat} (h : Bfs A c ea k oa) : ∃ ob, Bfs B d eb k ob ∧ Pd (Xx A B) oa ob := by
  induction h with
  | zero => exact ⟨[0], .zero, .cons h0 .nil⟩
  | succ r h hr ih =>
    obtain ⟨ob, h1, h2⟩ := ih
    obtain ⟨s, hs, x⟩ := h2.get hr
    refine ⟨_, .succ s h1 hs, ?_⟩
    rw [ords_filter, ords_filter (rows := B), ← hE r s x]
    exact pd_ords fa fb ta tb x h2
theorem Bfs.both (fa : Fit A) (fb : Fit B) (ta : Tells A c) (tb : Tells B d) (h0 : Xx A B 0 0) (hE : ∀ r s, Xx A B r s → ea.filter (eff A c r) = eb.filter (eff B d s)) {oa ob : List Nat} (h : Bfs A c ea oa.length oa) (k : Bfs B d eb ob.length ob) : Pd (Xx A B) oa ob := by
  obtain ⟨o, h1, h2⟩ := h.lock fa fb ta tb h0 hE
  have := Bfs.unique h1 h2.len k rfl
  rw [this] at h2
  exact h2
theorem steps_same (fa : Fit A) (fb : Fit B) (ta : Tells A c) (tb : Tells B d) (hE : ∀ r s, Xx A B r s → ea.filter (eff A c r) = eb.filter (eff B d s)) {oa ob : List Nat} (h : Pd (Xx A B) oa ob) {r s : Nat} (q : Xx A B r s) : stepsOf A c oa r ea = stepsOf B d ob s eb := by
  unfold stepsOf
  have := hE r s q
  unfold eff at this
  rw [this]
  apply List.map_congr_left
  intro e _
  rw [pd_idx ta tb h (q.goal fa fb e)]
end
end KM
set_option linter.all false
set_option maxRecDepth 100000
/-! VP3: operators on typed data. -/
namespace VS
open PySem L2
theorem map_snoc {α β : Type} (f : α → β) (xs : List α) (x : α) : xs.map f ++ [f x] = (xs ++ [x]).map f := by simp
/-! ### indices -/
theorem ixN_nat {n k : Nat} : ixN n (k : Int) = if k < n then some k else none := by
  unfold ixN
  by_cases h : k < n
  · simp [h]
  · simp [h]
theorem atI_int {α : Type} {us : List α} {i : Int} (h0 : 0 ≤ i) (h1 : i < us.length) : atI us i = some (us[i.toNat]'(by omega)) := by
  unfold atI ixN
  rw [if_pos h0, if_pos h1]
  exact List.getElem?_eq_getElem (by omega)
theorem atI_nat {α : Type} {us : List α} {k : Nat} : atI us (k : Int) = us[k]? := by
  unfold atI
  rw [ixN_nat]
  by_cases h : k < us.length
  · simp [h]
  · simp [h]
theorem atI_lit {α : Type} {us : List α} {k : Nat} : atI us (OfNat.ofNat k : Int) = us[k]? := atI_nat
@[simp] theorem atI_0 {α : Type} {us : List α} : atI us (0 : Int) = us[0]? := atI_nat (k := 0)
@[simp] theorem atI_1 {α : Type} {us : List α} : atI us (1 : Int) = us[1]? := atI_nat (k := 1)
theorem atI_map {α β : Type} {us : List α} {g : α → β} {i : Int} : atI (us.map g) i = (atI us i).map g := by
  unfold atI
  rw [List.length_map]
  cases h : ixN us.length i with
  | none => rfl
  | some j =>
    show (us.map g)[j]? = Option.map g us[j]?
    rw [List.getElem?_map]
theorem atI_at {α β : Type} {xs : List α} {f : α → β} {k : Nat} {x : α} (h : xs[k]? = some x) : atI (xs.map f) (k : Int) = some (f x) := by
  rw [atI_nat, List.getElem?_map, h]; rfl
/-- an int of a list -/
def dg (ds : List Int) (i : Int) : Int := ds.getD i.toNat 0
theorem atI_dg {ds : List Int} {i : Int} (h0 : 0 ≤ i) (h1 : i < ds.length) : atI ds i = some (dg ds i) := by
  rw [atI_int h0 h1]
  unfold dg
  rw [List.getD_eq_getElem?_getD, List.getElem?_eq_getElem (by omega)]
  rfl
/-- a text of a list -/
def sg (ds : List Str) (i : Int) : Str := ds.getD i.toNat ""
theorem atI_sg {ds : List Str} {i : Int} (h0 : 0 ≤ i) (h1 : i < ds.length) : atI ds i = some (sg ds i) := by
  rw [atI_int h0 h1]
  unfold sg
  rw [List.getD_eq_getElem?_getD, List.getElem?_eq_getElem (by omega)]
  rfl
theorem sg_mem {ds : List Str} {i : Int} (h0 : 0 ≤ i) (h1 : i < ds.length) : sg ds i ∈ ds := by
  unfold sg
  rw [List.getD_eq_getElem?_getD, List.getElem?_eq_getElem (by omega)]
  exact List.getElem_mem _
theorem dg_mem {ds : List Int} {i : Int} (h0 : 0 ≤ i) (h1 : i < ds.length) : dg ds i ∈ ds := by
  unfold dg
  rw [List.getD_eq_getElem?_getD, List.getElem?_eq_getElem (by omega)]
  exact List.getElem_mem _
@[simp] theorem sIx_l {us : List U} {i : Int} : sIx (.lst us) (.int i) = (atI us i).map fun x => (false, x) := by
  simp only [sIx, orS, sIxL, sIxT, sIxS, sIxD]
  cases atI us i <;> rfl
@[simp] theorem sIx_c {us : List Int} {i : Int} : sIx (.scr us) (.int i) = (atI us i).map fun x => (false, .int x) := by
  simp only [sIx, orS, sIxL, sIxT, sIxS, sIxD]
  cases atI us i <;> rfl
@[simp] theorem sIx_t {us : List U} {i : Int} : sIx (.tup us) (.int i) = (atI us i).map fun x => (false, x) := by
  simp only [sIx, orS, sIxL, sIxT, sIxS, sIxD]
  cases atI us i <;> rfl
theorem sIx_s {x : Str} {i : Int} : sIx (.str x) (.int i) = if x.length ≤ sizeLine then (atI x.cps.toList i).map fun c => (false, .str ⟨#[c]⟩) else none := by
  simp only [sIx, orS, sIxL, sIxT, sIxS, sIxD]
  by_cases h : x.length ≤ sizeLine
  · rw [if_pos h]; cases atI x.cps.toList i <;> rfl
  · rw [if_neg h]
@[simp] theorem sIx_d {kvs : List (U × U)} {w : U} : sIx (.dct kvs) w = if okD kvs w then (dfind kvs w).map fun x => (false, x) else none := by
  simp only [sIx, orS, sIxL, sIxT, sIxS, sIxD]
/-! ### arithmetic -/
@[simp] theorem sAdd_ss {x y : Str} : sAdd (.str x) (.str y) = if x.length + y.length ≤ sizeLine then some (false, .str (x ++ y)) else none := by
  simp only [sAdd, orS, sAddI, iiS, sAddS, sAddL]
  split <;> first | rfl | assumption | (rename_i h; rw [h])
@[simp] theorem sAdd_ll {x y : List U} : sAdd (.lst x) (.lst y) = if x.length + y.length ≤ sizeLine then some (true, .lst (x ++ y)) else none := by
  simp only [sAdd, orS, sAddI, iiS, sAddS, sAddL]
theorem sMul_ii {i j : Int} (h : mulOk i j = true) : sMul (.int i) (.int j) = some (false, .int (i * j)) := by
  simp only [sMul, orS, sMulI, iiC, h, if_true]
theorem mulOk_r {i j : Int} (h1 : -18446744073709551616 < j) (h2 : j < 18446744073709551616) : mulOk i j = true := by
  have e : lowB = 18446744073709551616 := by decide
  unfold mulOk
  simp [cdec_iff, e, h1, h2]
theorem mulOk_l {i j : Int} (h1 : -18446744073709551616 < i) (h2 : i < 18446744073709551616) : mulOk i j = true := by
  have e : lowB = 18446744073709551616 := by decide
  unfold mulOk
  simp [cdec_iff, e, h1, h2]
theorem sMul_l {i j : Int} (h1 : -18446744073709551616 < i) (h2 : i < 18446744073709551616) : sMul (.int i) (.int j) = some (false, .int (i * j)) := sMul_ii (mulOk_l h1 h2)
theorem sMul_r {i j : Int} (h1 : -18446744073709551616 < j) (h2 : j < 18446744073709551616) : sMul (.int i) (.int j) = some (false, .int (i * j)) := sMul_ii (mulOk_r h1 h2)
theorem sMod_ii {i j : Int} (h : 0 < j) : sMod (.int i) (.int j) = some (false, .int (i % j)) := by
  simp only [sMod, iiC]
  rw [if_pos (by rw [cdec_iff]; omega), Int.fmod_eq_emod_of_nonneg _ (by omega)]
theorem sDiv_ii {i j : Int} (h : 0 < j) (h2 : j < 1073741824) : sDiv (.int i) (.int j) = some (false, .int (i / j)) := by
  simp only [sDiv, iiC]
  rw [if_pos (by simp [divOk, cdec_iff]; omega), Int.fdiv_eq_ediv_of_nonneg _ (by omega)]
theorem sPow_ii {i j : Int} (h0 : 0 ≤ j) (h1 : j ≤ 1000000) (h2 : i.natAbs < 2 ^ 64) : sPow (.int i) (.int j) = some (false, .int (i ^ j.toNat)) := by
  simp only [sPow, iiC]
  rw [if_pos (by simp [powOk, cdec_iff, h0, h1]; exact h2)]
@[simp] theorem sMul_si {x : Str} {k : Int} : sMul (.str x) (.int k) = sMulS (.str x) (.int k) := by
  simp only [sMul, orS, sMulI, iiC, sMulL]
  cases sMulS (.str x) (.int k) <;> rfl
@[simp] theorem sMul_li {x : List U} {k : Int} : sMul (.lst x) (.int k) = sMulL (.lst x) (.int k) := by
  simp only [sMul, orS, sMulI, iiC, sMulS, sMulL]
/-! ### tests -/
@[simp] theorem sEq_ii {b : Bool} {i j : Int} : sEq b (.int i) (.int j) = some (false, .bl (if b then !decide (i = j) else decide (i = j))) := by
  have : (V.int i = V.int j) ↔ i = j := ⟨fun h => by injection h, fun h => by rw [h]⟩
  simp [sEq, scalU, flU, vOf, scal, this]
@[simp] theorem sEq_ss {b : Bool} {i j : Str} : sEq b (.str i) (.str j) = some (false, .bl (if b then !decide (i = j) else decide (i = j))) := by
  have : (V.str i = V.str j) ↔ i = j := ⟨fun h => by injection h, fun h => by rw [h]⟩
  simp [sEq, scalU, flU, vOf, scal, this]
theorem toDs_map {α : Type} (g : α → U) (xs : List α) : toDs (xs.map g) = xs.map fun x => toD (g x) := by
  induction xs with
  | nil => rfl
  | cons x xs ih => simp [toDs, ih]
theorem eqvAll_strs (xs ys : List Str) : PyData.eqvAll (xs.map PyData.str) (ys.map PyData.str) = decide (xs = ys) := by
  induction xs generalizing ys with
  | nil => cases ys <;> simp [PyData.eqvAll]
  | cons x xs ih =>
    cases ys with
    | nil => simp [PyData.eqvAll]
    | cons y ys =>
      simp only [List.map_cons, PyData.eqvAll, PyData.eqv, ih, List.cons.injEq]
      by_cases h : x = y <;> by_cases k : xs = ys <;> simp [h, k]
theorem shp_nil : shp (.lst []) = true := by decide
@[simp] theorem inU_ss {x : Str} {ws : List Str} : inU (.str x) (ws.map U.str) = decide (x ∈ ws) := by
  unfold inU
  rw [List.any_map]
  induction ws with
  | nil => rfl
  | cons w ws ih =>
    have e : eqV (vOf (.str w)) (vOf (.str x)) = decide (x = w) := by
      simp only [vOf, eqV]
      by_cases h : w = x
      · subst h; simp
      · simp [h, Ne.symm h]
    simp only [List.any_cons, Function.comp, e, List.mem_cons] at ih ⊢
    rw [ih]
    by_cases h : x = w <;> simp [h]
theorem flU_strs {ws : List Str} : (ws.map U.str).all flU = true := by simp [flU]
@[simp] theorem sIn_sl {x : Str} {ws : List Str} : sIn (.str x) (.lst (ws.map U.str)) = some (false, .bl (decide (x ∈ ws))) := by
  simp only [sIn, orS, sInF, flU_strs, Bool.and_true, flU, if_true, inU_ss]
  simp
@[simp] theorem sNotIn_sl {x : Str} {ws : List Str} : sNotIn (.str x) (.lst (ws.map U.str)) = some (false, .bl (!decide (x ∈ ws))) := by
  simp only [sNotIn, orS, sInF, flU_strs, Bool.and_true, flU, if_true, inU_ss]
@[simp] theorem sIn_cs {c : Nat} {z : Str} : sIn (.str ⟨#[c]⟩) (.str z) = some (false, .bl (decide (c ∈ z.cps.toList))) := by
  simp [sIn, orS, sInF, sInS]
@[simp] theorem sIn_d {k : U} {kvs : List (U × U)} : sIn k (.dct kvs) = if okD kvs k then some (false, .bl (dfind kvs k).isSome) else none := by
  have h1 : sInF false k (.dct kvs) = none := by simp [sInF]
  have h2 : sInS false k (.dct kvs) = none := by cases k <;> rfl
  simp only [sIn, orS, h1, h2, sInD]
  simp
@[simp] theorem sNotIn_d {k : U} {kvs : List (U × U)} : sNotIn k (.dct kvs) = if okD kvs k then some (false, .bl (!(dfind kvs k).isSome)) else none := by
  have h1 : sInF true k (.dct kvs) = none := by simp [sInF]
  have h2 : sInS true k (.dct kvs) = none := by cases k <;> rfl
  simp only [sNotIn, orS, h1, h2, sInD]
  simp
@[simp] theorem sGetD_2 {k d : U} {kvs : List (U × U)} : sGetD (.dct kvs) [k, d] = if okD kvs k then some (false, (dfind kvs k).getD d) else none := rfl
@[simp] theorem sGetD_1 {k : U} {kvs : List (U × U)} : sGetD (.dct kvs) [k] = if okD kvs k then some (false, (dfind kvs k).getD .non) else none := rfl
@[simp] theorem isD_d {kvs : List (U × U)} : isD (.dct kvs) = true := rfl
@[simp] theorem isL_l {kvs : List U} : isL (.lst kvs) = true := rfl
@[simp] theorem isS_s {kvs : Str} : isS (.str kvs) = true := rfl
@[simp] theorem sApp_l {l : List U} {w : U} : sApp (.lst l) [w] = if l.length < sizeLine then some (.lst (l ++ [w]), .non) else none := rfl
@[simp] theorem sSto_d {kvs : List (U × U)} {k w : U} : sSto (.dct kvs) k w = if okD kvs k ∧ kvs.length < sizeLine then some (.dct (dset kvs k w)) else none := rfl
/-! ### dicts of typed data -/
/-- a dict from texts -/
abbrev encD (s : List (Str × Nat)) : List (U × U) := s.map fun p => (.str p.1, .int (p.2 : Nat))
theorem dfind_map {α β : Type} [DecidableEq α] (f : α → U) (inj : ∀ a b, f a = f b → a = b) (g : β → U) (s : List (α × β)) (k : α) : dfind (s.map fun p => (f p.1, g p.2)) (f k) = (s.find? fun p => decide (p.1 = k)).map fun p => g p.2 := by
  induction s with
  | nil => rfl
  | cons p s ih =>
    rw [List.map_cons, dfind_cons, List.find?_cons, ih]
    by_cases h : p.1 = k
    · simp [h]
    · have h2 : ¬ f p.1 = f k := fun z => h (inj _ _ z)
      simp [h, h2]
theorem str_inj : ∀ a b : Str, U.str a = U.str b → a = b := fun a b h => by injection h
@[simp] theorem dfind_encD (s : List (Str × Nat)) (e : Str) : dfind (encD s) (.str e) = (KM.lk s e).map fun k => .int (k : Nat) := by
  unfold KM.lk
  rw [Option.map_map]
  exact dfind_map U.str str_inj (fun k : Nat => U.int k) s e
@[simp] theorem okD_encD (s : List (Str × Nat)) (e : Str) : okD (encD s) (.str e) = true := by
  simp [okD, encD, isK1]
theorem dset_new {kvs : List (U × U)} {k w : U} (h : dfind kvs k = none) : dset kvs k w = kvs ++ [(k, w)] := by
  unfold dset; rw [h]; rfl
theorem srcA_d {kvs : List (Str × Nat)} {e : En} : srcA (.dct (encD kvs)) e = .ok ⟨(kvs.map (·.1)).map .str, [], none⟩ e := by
  have h : ((encD kvs).all fun p => isK1 p.1) = true := by simp [encD, isK1]
  unfold srcA
  dsimp only
  rw [if_pos h]
  simp [encD]
/-! ### built-ins -/
@[simp] theorem orN_some {s t : OpN} {us : List U} {z : Bool × U} (h : s us = some z) : orN s t us = some z := by unfold orN; rw [h]
theorem orN_none {s t : OpN} {us : List U} (h : s us = none) : orN s t us = t us := by unfold orN; rw [h]
@[simp] theorem sSorted_strs {ns : List Str} : sSorted [.lst (ns.map U.str)] = if ns.length < 64 then some (true, .lst ((sortS ns).map .str)) else sSorted [.lst (ns.map U.str)] := by
  split
  · rename_i h
    simp [sSorted, orN, sSortS, asStrs_map, h]
  · rfl
theorem asStrs_keys (s : List (Str × Nat)) : asStrs ((encD s).map (·.1)) = some (s.map (·.1)) := by
  have : (encD s).map (·.1) = (s.map (·.1)).map U.str := by simp [encD]
  rw [this, asStrs_map]
theorem sSorted_d {s : List (Str × Nat)} (h : s.length < 64) : sSorted [.dct (encD s)] = some (true, .lst ((sortS (s.map (·.1))).map .str)) := by
  have h1 : sSortS [.dct (encD s)] = none := rfl
  have h2 : sSortI [.dct (encD s)] = none := rfl
  rw [show sSorted = orN sSortS (orN sSortI sSortD) from rfl, orN_none h1, orN_none h2]
  unfold sSortD
  dsimp only
  rw [asStrs_keys]
  simp [h]
@[simp] theorem sTuple_l {ws : List U} : sTuple [.lst ws] = some (false, .tup ws) := rfl
@[simp] theorem sTuple_t {ws : List U} : sTuple [.tup ws] = some (false, .tup ws) := rfl
@[simp] theorem sList_l {ws : List U} : sList [.lst ws] = some (true, .lst ws) := rfl
@[simp] theorem sList_t {ws : List U} : sList [.tup ws] = some (true, .lst ws) := rfl
@[simp] theorem sList_c {ws : List Int} : sList [.scr ws] = some (true, .lst (ws.map .int)) := rfl
@[simp] theorem sMin2_ii {i j : Int} : sMin2 [.int i, .int j] = some (false, .int (if j < i then j else i)) := rfl
@[simp] theorem sDictC_d {s : List (Str × Nat)} : sDictC [.dct (encD s)] = some (true, .dct (encD s)) := by
  simp [sDictC, encD, isK1]
@[simp] theorem sAll_bls {bs : List Bool} : sAll [.lst (bs.map U.bl)] = some (false, .bl (bs.all id)) := by
  simp [sAll, asBls_map]
@[simp] theorem sAll_map {α : Type} {xs : List α} {f : α → Bool} : sAll [.lst (xs.map fun c => U.bl (f c))] = some (false, .bl (xs.all f)) := by
  have : (xs.map fun c => U.bl (f c)) = (xs.map f).map U.bl := by rw [List.map_map]; rfl
  rw [this, sAll_bls]
  simp
theorem sMx_ints {ns : List Int} (h : ns ≠ []) : sMx [.lst (ns.map U.int)] = some (false, .int (maxI ns)) := by
  obtain ⟨n, r, rfl⟩ := List.exists_cons_of_ne_nil h
  simp only [sMx, orN, sMax1, asInts_map]
@[simp] theorem sLenU_l {us : List U} : sLenU [.lst us] = some (false, .int us.length) := rfl
@[simp] theorem sLenU_t {us : List U} : sLenU [.tup us] = some (false, .int us.length) := rfl
@[simp] theorem sLenU_c {us : List Int} : sLenU [.scr us] = some (false, .int us.length) := rfl
@[simp] theorem sLenU_d {us : List (U × U)} : sLenU [.dct us] = some (false, .int us.length) := rfl
@[simp] theorem sLenU_s {x : Str} : sLenU [.str x] = if x.length ≤ sizeLine then some (false, .int x.length) else none := by
  by_cases h : x.length ≤ sizeLine
  · simp [sLenU, orN, sLen, h]
  · simp [sLenU, orN, sLen, sLenD, h]
/-! ### slots that hold nothing of ours -/
def nt : Sl → Prop
  | some (true, _) => False
  | _ => True
@[simp] theorem nt_f {u : U} : nt (some (false, u)) = True := rfl
@[simp] theorem nt_n : nt none = True := rfl
theorem clr_nt {e : En} {vs : List Nat} : clr e vs ↔ ∀ i, i ∈ vs → nt (gs e i) := by
  rw [clr_iff]
  constructor <;> (intro h i hi; have := h i hi; revert this; cases gs e i with
    | none => exact id
    | some r => obtain ⟨o, u⟩ := r; cases o <;> exact id)
/-! ### calls -/
theorem findOut_nil {k : Nat} {ods : List Od} : findOut k ods [] = none := by
  cases ods with
  | nil => rfl
  | cons o r => cases o <;> rfl
@[simp] theorem findOut_0 {k : Nat} {outs : En} : findOut k [] outs = none := by cases outs <;> rfl
@[simp] theorem findOut_v {k : Nat} {u : U} {r : List Od} {outs : En} : findOut k (.vl u :: r) outs = findOut k r outs.tail := by
  cases outs with
  | nil => rw [List.tail_nil, findOut_nil, findOut_nil]
  | cons o t => rfl
@[simp] theorem findOut_s {k i : Nat} {r : List Od} {outs : En} : findOut k (.sl i :: r) outs = if i = k then outs.head? else findOut k r outs.tail := by
  cases outs with
  | nil => rw [List.tail_nil, findOut_nil, findOut_nil]; simp
  | cons o t => rfl
@[simp] theorem updE_0 {ods : List Od} {outs : En} {k : Nat} : updE ods outs k [] = [] := rfl
theorem updE_n {ods : List Od} {outs : En} {k : Nat} {r : En} : updE ods outs k (none :: r) = none :: updE ods outs (k + 1) r := rfl
theorem updE_f {ods : List Od} {outs : En} {k : Nat} {u : U} {r : En} : updE ods outs k (some (false, u) :: r) = some (false, u) :: updE ods outs (k + 1) r := rfl
theorem updE_t {ods : List Od} {outs : En} {k : Nat} {u : U} {r : En} : updE ods outs k (some (true, u) :: r) = (match findOut k ods outs with | some o => o | none => some (true, u)) :: updE ods outs (k + 1) r := rfl
/-- a slot behind a call -/
def uz : Sl → Option Sl → Sl
  | some (true, _), some x => x
  | s, _ => s
@[simp] theorem uz_no {s : Sl} : uz s none = s := by
  cases s with
  | none => rfl
  | some p => obtain ⟨o, u⟩ := p; cases o <;> rfl
@[simp] theorem uz_n {f : Option Sl} : uz none f = none := rfl
@[simp] theorem uz_f {u : U} {f : Option Sl} : uz (some (false, u)) f = some (false, u) := rfl
@[simp] theorem uz_t {u : U} {x : Sl} : uz (some (true, u)) (some x) = x := rfl
@[simp] theorem uz_nt {z : Sl} {f : Option Sl} (h : nt z) : uz z f = z := by
  cases z with
  | none => rfl
  | some p => obtain ⟨o, u⟩ := p; cases o with
    | false => rfl
    | true => exact h.elim
@[simp] theorem updE_c {ods : List Od} {outs : En} {k : Nat} {z : Sl} {r : En} : updE ods outs k (z :: r) = uz z (findOut k ods outs) :: updE ods outs (k + 1) r := by
  cases z with
  | none => rfl
  | some p => obtain ⟨o, u⟩ := p; cases o with
    | false => rfl
    | true =>
      show (match findOut k ods outs with | some o => o | none => some (true, u)) :: _ = _
      cases findOut k ods outs <;> rfl
def isVl : Od → Bool
  | .vl _ => true
  | _ => false
theorem findOut_all {k : Nat} {outs : En} : ∀ {ods : List Od}, ods.all isVl = true → findOut k ods outs = none := by
  intro ods
  induction ods generalizing outs with
  | nil => intro _; exact findOut_0
  | cons o r ih =>
    intro h
    rw [List.all_cons, Bool.and_eq_true] at h
    cases o with
    | sl i => exact absurd h.1 (by simp [isVl])
    | vl u => rw [findOut_v]; exact ih h.2
theorem updE_all {ods : List Od} {outs : En} (h : ods.all isVl = true) : ∀ (e : En) (k : Nat), updE ods outs k e = e
  | [], _ => rfl
  | none :: r, k => by rw [updE_n, updE_all h r]
  | some (false, u) :: r, k => by rw [updE_f, updE_all h r]
  | some (true, u) :: r, k => by rw [updE_t, updE_all h r, findOut_all h]
@[simp] theorem updE_v0 {outs e : En} {k : Nat} : updE [] outs k e = e := updE_all rfl e k
@[simp] theorem updE_v1 {a : U} {outs e : En} {k : Nat} : updE [.vl a] outs k e = e := updE_all rfl e k
@[simp] theorem updE_v2 {a b : U} {outs e : En} {k : Nat} : updE [.vl a, .vl b] outs k e = e := updE_all rfl e k
@[simp] theorem updE_v3 {a b c : U} {outs e : En} {k : Nat} : updE [.vl a, .vl b, .vl c] outs k e = e := updE_all rfl e k
@[simp] theorem updE_v4 {a b c d : U} {outs e : En} {k : Nat} : updE [.vl a, .vl b, .vl c, .vl d] outs k e = e := updE_all rfl e k
theorem argOf_sl {e : En} {i : Nat} : argOf e (.sl i) = gs e i := by
  unfold argOf
  rw [← gs_eq]
  dsimp only
  cases h : e[i]? with
  | none => rfl
  | some s => cases s <;> rfl
@[simp] theorem argsOf_0 {e : En} : argsOf e [] = some [] := rfl
@[simp] theorem argsOf_v {e : En} {u : U} {r : List Od} : argsOf e (.vl u :: r) = (argsOf e r).map fun as => (false, u) :: as := by
  show (match argOf e (.vl u), argsOf e r with | some a, some as => some (a :: as) | _, _ => none) = _
  cases argsOf e r <;> rfl
@[simp] theorem argsOf_s {e : En} {i : Nat} {r : List Od} : argsOf e (.sl i :: r) = (match gs e i, argsOf e r with | some a, some as => some (a :: as) | _, _ => none) := by
  show (match argOf e (.sl i), argsOf e r with | some a, some as => some (a :: as) | _, _ => none) = _
  rw [argOf_sl]
  cases gs e i <;> cases argsOf e r <;> rfl
@[simp] theorem ownIx_0 {e : En} : ownIx e [] = [] := rfl
@[simp] theorem ownIx_v {e : En} {u : U} {r : List Od} : ownIx e (.vl u :: r) = ownIx e r := rfl
@[simp] theorem ownIx_s {e : En} {i : Nat} {r : List Od} : ownIx e (.sl i :: r) = (match gs e i with | some (true, _) => i :: ownIx e r | _ => ownIx e r) := by
  show (match e[i]? with | some (some (true, _)) => i :: ownIx e r | _ => ownIx e r) = _
  rw [← gs_eq]
  cases h : e[i]? with
  | none => rfl
  | some s =>
    cases s with
    | none => rfl
    | some p => obtain ⟨o, u⟩ := p; cases o <;> rfl
@[simp] theorem e_callO {n : Nat} {φ : Fs} {ods : List Od} {e : En} : callO n φ ods e = (match argsOf e ods with
  | some as => if ods.length = n ∧ (ownIx e ods).Nodup then match φ as with
      | .ok r outs => .ok r (updE ods outs 0 e)
      | .exc c u outs => .exc c u (updE ods outs 0 e)
      | .bad => .bad
    else .bad
  | none => .bad) := rfl
/-! ### environments of comprehensions -/
@[simp] theorem wipeE_0 {e : En} : wipeE e [] = e := rfl
@[simp] theorem wipeE_s {e : En} {v : Nat} {vs : List Nat} : wipeE e (v :: vs) = (wipeE e vs).set v none := rfl
@[simp] theorem sl_eq : sizeLine = 16777216 := PySem.sizeLine_eq
/-- a def by its body -/
theorem fn_rt {N n : Nat} {pr : Nat → Bool} {b : MS} {as : List Ar} {o : Bool} {u : U} (h1 : as.length = n) (h2 : n ≤ N) (h : ∃ e, b (enA as ++ List.replicate (N - n) none) = .rt o u e) : ∃ outs, fnS N n pr b as = .ok (o, u) outs := by
  obtain ⟨e, h⟩ := h
  exact ⟨_, fnS_rt h1 h2 h⟩
end VS
set_option linter.all false
set_option maxRecDepth 100000
/-! VP4: what is wanted behind a statement. -/
namespace VS
open PySem L2
structure Ks where
  N : En → Prop
  C : En → Prop
  K : En → Prop
  T : Bool → U → En → Prop
  E : Str → U → En → Prop
def RS.post (r : RS) (κ : Ks) : Prop := match r with
  | .nx e => κ.N e
  | .ct e => κ.C e
  | .bk e => κ.K e
  | .rt o u e => κ.T o u e
  | .exc c u e => κ.E c u e
  | .bad => False
theorem RS.post_congr {r r' : RS} {κ : Ks} (h : r = r') : r.post κ = r'.post κ := by rw [h]
section
variable {κ : Ks} {e : En} {o : Bool} {u : U} {c : Str} {m k : MS}
@[simp] theorem post_nx : (RS.nx e).post κ = κ.N e := rfl
@[simp] theorem post_ct : (RS.ct e).post κ = κ.C e := rfl
@[simp] theorem post_bk : (RS.bk e).post κ = κ.K e := rfl
@[simp] theorem post_rt : (RS.rt o u e).post κ = κ.T o u e := rfl
@[simp] theorem post_exc : (RS.exc c u e).post κ = κ.E c u e := rfl
@[simp] theorem post_bad : RS.bad.post κ = False := rfl
@[simp ↓] theorem post_seq : ((m.seq k) e).post κ = (m e).post { κ with N := fun e1 => (k e1).post κ } := by
  unfold MS.seq RS.post
  cases m e <;> rfl
@[simp ↓] theorem post_if {c : M Bool} : (mIf c m k e).post κ = (match c e with
  | .ok b e1 => if b = true then (m e1).post κ else (k e1).post κ
  | .exc c u e1 => κ.E c u e1
  | .bad => False) := by
  unfold mIf M.bs
  cases c e with
  | ok b e1 => cases b <;> rfl
  | exc c u e1 => rfl
  | bad => rfl
@[simp ↓] theorem post_for {m : M Src} {t : MT} {b : MS} : (mFor m t b e).post κ = (match m e with
  | .ok s e1 => (forL t b s.g s.src s.items e1).post κ
  | .exc c u e1 => κ.E c u e1
  | .bad => False) := by
  unfold mFor M.bs
  cases m e <;> rfl
end
/-- one turn -/
def turn (t : MT) (b : MS) (u : U) (e : En) (κ : Ks) : Prop := match t u e with
  | some e1 => (b e1).post κ
  | none => False
theorem post_forL {t : MT} {b : MS} {src items : List U} {e : En} {κ : Ks} {α : Type} (xs : List α) (g : α → U) (hi : items = xs.map g) (I : List α → En → Prop) (h0 : I [] e)
    (hs : ∀ done x rest e, xs = done ++ x :: rest → I done e → turn t b (g x) e ⟨I (done ++ [x]), I (done ++ [x]), κ.N, κ.T, κ.E⟩) (hN : ∀ e', I xs e' → κ.N e') : (forL t b none src items e).post κ := by
  subst hi
  suffices h : ∀ (rest done : List α) (e : En), xs = done ++ rest → I done e → (forL t b none src (rest.map g) e).post κ from h xs [] e rfl h0
  intro rest
  induction rest with
  | nil =>
    intro done e h hI
    refine hN e ?_
    rw [h, List.append_nil]
    exact hI
  | cons x rest ih =>
    intro done e h hI
    have q := hs done x rest e h hI
    unfold turn at q
    rw [List.map_cons]
    unfold forL
    cases z : t (g x) e with
    | none => rw [z] at q; exact q.elim
    | some e1 =>
      rw [z] at q
      dsimp only at q ⊢
      cases y : b e1 with
      | nx e2 => rw [y] at q; dsimp only; rw [if_pos (show gOK none src e2 from trivial)]; exact ih (done ++ [x]) e2 (by rw [h]; simp) q
      | ct e2 => rw [y] at q; dsimp only; rw [if_pos (show gOK none src e2 from trivial)]; exact ih (done ++ [x]) e2 (by rw [h]; simp) q
      | bk e2 => rw [y] at q; exact q
      | rt o u e2 => rw [y] at q; exact q
      | exc c u e2 => rw [y] at q; exact q
      | bad => rw [y] at q; exact q.elim
def wturn (c : M Bool) (b : MS) (I : Nat → En → Prop) (n : Nat) (e : En) (κ : Ks) : Prop := match c e with
  | .ok k e1 => if k = true then (b e1).post ⟨fun e2 => ∃ m, m < n ∧ I m e2, fun e2 => ∃ m, m < n ∧ I m e2, κ.N, κ.T, κ.E⟩ else κ.N e1
  | .exc c u e1 => κ.E c u e1
  | .bad => False
theorem post_mWhl {c : M Bool} {b : MS} {e : En} {κ : Ks} (I : Nat → En → Prop) (n : Nat) (h0 : I n e)
    (hs : ∀ n e, I n e → wturn c b I n e κ) : (mWhl c b e).post κ := by
  suffices h : ∀ (n : Nat) (e : En), I n e → ∃ k r, whlN c b k e = some r ∧ r.post κ by
    obtain ⟨k, r, h1, h2⟩ := h n e h0
    rw [mWhl_eq h1]
    exact h2
  intro n
  induction n using Nat.strongRecOn with
  | ind n ih =>
    intro e hI
    have q := hs n e hI
    unfold wturn at q
    cases z : c e with
    | bad => rw [z] at q; exact q.elim
    | exc c u e1 => rw [z] at q; exact ⟨1, .exc c u e1, by unfold whlN; rw [z], q⟩
    | ok k e1 =>
      rw [z] at q
      dsimp only at q
      cases k with
      | false => exact ⟨1, .nx e1, by unfold whlN; rw [z], q⟩
      | true =>
        rw [if_pos rfl] at q
        cases y : b e1 with
        | nx e2 =>
          rw [y] at q
          obtain ⟨m, hm, h3⟩ := q
          obtain ⟨k, r, h4, h5⟩ := ih m hm e2 h3
          exact ⟨k + 1, r, by unfold whlN; simp only [z, y]; exact h4, h5⟩
        | ct e2 =>
          rw [y] at q
          obtain ⟨m, hm, h3⟩ := q
          obtain ⟨k, r, h4, h5⟩ := ih m hm e2 h3
          exact ⟨k + 1, r, by unfold whlN; simp only [z, y]; exact h4, h5⟩
        | bk e2 => rw [y] at q; exact ⟨1, .nx e2, by unfold whlN; simp only [z, y], q⟩
        | rt o u e2 => rw [y] at q; exact ⟨1, .rt o u e2, by unfold whlN; simp only [z, y], q⟩
        | exc c u e2 => rw [y] at q; exact ⟨1, .exc c u e2, by unfold whlN; simp only [z, y], q⟩
        | bad => rw [y] at q; exact q.elim
/-! ### expressions -/
def R.post {α : Type} (r : R α) (Q : α → En → Prop) : Prop := match r with
  | .ok a e => Q a e
  | _ => False
theorem R.post_ok {α : Type} {r : R α} {a : α} {e : En} (h : r.post fun b e' => b = a ∧ e' = e) : r = .ok a e := by
  unfold R.post at h
  cases r with
  | ok b e' => obtain ⟨rfl, rfl⟩ := h; rfl
  | _ => exact h.elim
@[simp] theorem rpost_ok {α : Type} {a : α} {e : En} {Q : α → En → Prop} : (R.ok a e).post Q = Q a e := rfl
@[simp] theorem rpost_bad {α : Type} {Q : α → En → Prop} : (R.bad : R α).post Q = False := rfl
/-- one item of a comprehension without a test -/
def item (t : MT) (te : M U) (vs : List Nat) (u : U) (e : En) (y : U) : Prop := match t u (wipeE e vs) with
  | some e1 => match te e1 with
    | .ok y' e3 => y' = y ∧ wipeE e3 vs = wipeE e vs
    | _ => False
  | none => False
theorem lc_eq {t : MT} {te : M U} {vs : List Nat} {s : Src} {e : En} {α : Type} (xs : List α) (g : α → U) (f : α → U) (hg : s.g = none) (hi : s.items = xs.map g) (hl : xs.length ≤ sizeLine) (hc : clr e vs) (hs : ∀ x, x ∈ xs → item t te vs (g x) e (f x)) :
    lcR t (M.ret true) te vs s e = .ok (true, .lst (xs.map f)) e := by
  obtain ⟨ys, h1, h2⟩ := lc_map (X := lcR t (M.ret true) te vs s e) rfl hg xs g hi id (fun x y => y = f x) hl hc fun x hx => by
    have q := hs x hx
    unfold item at q
    cases z : t (g x) (wipeE e vs) with
    | none => rw [z] at q; exact q.elim
    | some e1 =>
      rw [z] at q
      dsimp only at q
      refine ⟨e1, rfl, ?_⟩
      cases y : te e1 with
      | ok y' e3 => rw [y] at q; exact ⟨y', e3, rfl, q.1, q.2⟩
      | _ => rw [y] at q; exact q.elim
  rw [h1]
  have : ∀ {xs : List α} {ys : List U}, Paired (fun x y => y = f x) xs ys → ys = xs.map f := by
    intro xs ys h
    induction h with
    | nil => rfl
    | cons h _ ih => rw [h, ih]; rfl
  rw [List.map_id, this h2]
/-- with a test -/
def itemF (t : MT) (tt : M Bool) (te : M U) (vs : List Nat) (u : U) (e : En) (p : Bool) (y : U) : Prop := match t u (wipeE e vs) with
  | some e1 => match tt e1 with
    | .ok b e2 => b = p ∧ if b = true then (match te e2 with
      | .ok y' e3 => y' = y ∧ wipeE e3 vs = wipeE e vs
      | _ => False) else wipeE e2 vs = wipeE e vs
    | _ => False
  | none => False
theorem lcF_eq {t : MT} {tt : M Bool} {te : M U} {vs : List Nat} {s : Src} {e : En} {α : Type} (xs : List α) (g : α → U) (p : α → Bool) (f : α → U) (hg : s.g = none) (hi : s.items = xs.map g) (hl : xs.length ≤ sizeLine) (hc : clr e vs) (hs : ∀ x, x ∈ xs → itemF t tt te vs (g x) e (p x) (f x)) :
    lcR t tt te vs s e = .ok (true, .lst ((xs.filter p).map f)) e := by
  obtain ⟨ys, h1, h2⟩ := lc_filter (X := lcR t tt te vs s e) rfl hg xs g hi p id (fun x y => y = f x) hl hc fun x hx => by
    have q := hs x hx
    unfold itemF at q
    cases z : t (g x) (wipeE e vs) with
    | none => rw [z] at q; exact q.elim
    | some e1 =>
      rw [z] at q
      dsimp only at q
      refine ⟨e1, rfl, ?_⟩
      cases y : tt e1 with
      | ok b e2 =>
        rw [y] at q
        dsimp only at q
        obtain ⟨hb, q⟩ := q
        refine ⟨e2, by rw [hb], ?_⟩
        rw [← hb]
        cases b with
        | false => exact .inl ⟨rfl, q⟩
        | true =>
          rw [if_pos rfl] at q
          cases y2 : te e2 with
          | ok y' e3 => rw [y2] at q; exact .inr ⟨rfl, y', e3, rfl, q.1, q.2⟩
          | _ => rw [y2] at q; exact q.elim
      | _ => rw [y] at q; exact q.elim
  rw [h1]
  have : ∀ {xs : List α} {ys : List U}, Paired (fun x y => y = f x) xs ys → ys = xs.map f := by
    intro xs ys h
    induction h with
    | nil => rfl
    | cons h _ ih => rw [h, ih]; rfl
  rw [List.map_id, this h2]
/-! ### sorted({.. for .. for ..}) -/
def itemS (t : MT) (te : M U) (vs : List Nat) (u : U) (e : En) (y : Str) : Prop := match t u e with
  | some e1 => match te e1 with
    | .ok y' e3 => y' = .str y ∧ wipeE e3 vs = e
    | _ => False
  | none => False
theorem scI_eq {t1 : MT} {te : M U} {vs1 : List Nat} {e : En} {α : Type} (h : α → U) (f : α → Str) : ∀ (ys : List α) (acc : List Str), acc.length + ys.length < 4096 → (∀ y ∈ ys, itemS t1 te vs1 (h y) e (f y)) → scI t1 te vs1 (ys.map h) acc e = some (acc ++ ys.map f, e)
  | [], acc, _, _ => by simp [scI]
  | y :: ys, acc, hl, hs => by
    rw [List.length_cons] at hl
    have q := hs y List.mem_cons_self
    unfold itemS at q
    rw [List.map_cons]
    unfold scI
    cases z : t1 (h y) e with
    | none => rw [z] at q; exact q.elim
    | some e1 =>
      rw [z] at q
      dsimp only at q ⊢
      cases z2 : te e1 with
      | ok y' e3 =>
        rw [z2] at q
        obtain ⟨rfl, q⟩ := q
        dsimp only
        rw [if_pos (by unfold PySem.scanBound; omega), q, scI_eq h f ys _ (by rw [List.length_append, List.length_singleton]; omega) fun y hy => hs y (List.mem_cons_of_mem _ hy)]
        simp
      | _ => rw [z2] at q; exact q.elim
def itemO (t : MT) (m1 : M Src) (t1 : MT) (te : M U) (vs vs1 : List Nat) (u : U) (e : En) (us : List U) (fs : List Str) : Prop := match t u e with
  | some e1 => match m1 e1 with
    | .ok s e2 => s.g = none ∧ s.items = us ∧ us.length = fs.length ∧ (∀ i : Nat, ∀ (a : U) (b : Str), us[i]? = some a → fs[i]? = some b → itemS t1 te vs1 a (wipeE e2 vs1) b) ∧ wipeE (wipeE e2 vs1) vs = e
    | _ => False
  | none => False
theorem scI_eq2 {t1 : MT} {te : M U} {vs1 : List Nat} {e : En} {us : List U} {fs acc : List Str} (hl : acc.length + fs.length < 4096) (hn : us.length = fs.length) (hs : ∀ i : Nat, ∀ (a : U) (b : Str), us[i]? = some a → fs[i]? = some b → itemS t1 te vs1 a e b) : scI t1 te vs1 us acc e = some (acc ++ fs, e) := by
  have h1 : us = (us.zip fs).map (·.1) := by rw [List.map_fst_zip (by omega)]
  have h2 : fs = (us.zip fs).map (·.2) := by rw [List.map_snd_zip (by omega)]
  have := scI_eq (t1 := t1) (te := te) (vs1 := vs1) (e := e) (fun p : U × Str => p.1) (fun p => p.2) (us.zip fs) acc (by rw [List.length_zip, hn]; omega) (fun y hy => by
    obtain ⟨i, hi⟩ := List.mem_iff_getElem?.mp hy
    rw [List.getElem?_zip_eq_some] at hi
    exact hs i _ _ hi.1 hi.2)
  rw [← h1, ← h2] at this
  exact this
theorem scO_eq {t : MT} {m1 : M Src} {t1 : MT} {te : M U} {vs vs1 : List Nat} {e : En} {α : Type} (g : α → U) (us : α → List U) (fs : α → List Str) : ∀ (xs : List α) (acc : List Str), acc.length + (xs.flatMap fs).length < 4096 → (∀ x ∈ xs, itemO t m1 t1 te vs vs1 (g x) e (us x) (fs x)) →
    scO t m1 t1 te vs vs1 (xs.map g) acc e = some (acc ++ xs.flatMap fs, e)
  | [], acc, _, _ => by simp [scO]
  | x :: xs, acc, hl, hs => by
    rw [List.flatMap_cons, List.length_append] at hl
    have q := hs x List.mem_cons_self
    unfold itemO at q
    rw [List.map_cons]
    unfold scO
    cases z : t (g x) e with
    | none => rw [z] at q; exact q.elim
    | some e1 =>
      rw [z] at q
      dsimp only at q ⊢
      cases z2 : m1 e1 with
      | ok s e2 =>
        rw [z2] at q
        obtain ⟨q1, q2, q3, q4, q5⟩ := q
        dsimp only
        rw [q1, q2, scI_eq2 (by omega) q3 q4]
        dsimp only
        rw [q5, scO_eq g us fs xs _ (by rw [List.length_append]; omega) fun x hx => hs x (List.mem_cons_of_mem _ hx)]
        simp
      | _ => rw [z2] at q; exact q.elim
theorem sc2_eq' {m : M Src} {t : MT} {m1 : M Src} {t1 : MT} {te : M U} {vs vs1 : List Nat} {s : Src} {e e' : En} {α : Type} (xs : List α) (g : α → U) (us : α → List U) (fs : α → List Str) (hm : m e' = .ok s e) (hg : s.g = none) (hi : s.items = xs.map g) (hl0 : (xs.flatMap fs).length < 4096) (hl : (dedS (xs.flatMap fs)).length < 64) (hc : clr e vs)
    (hs : ∀ x ∈ xs, itemO t m1 t1 te vs vs1 (g x) (wipeE e vs) (us x) (fs x)) : mSc2 m t m1 t1 te vs vs1 e' = .ok (true, .lst ((sortS (dedS (xs.flatMap fs))).map .str)) e := by
  unfold mSc2
  rw [e_bd, hm]
  dsimp only
  rw [hg, hi]
  dsimp only
  rw [scO_eq g us fs xs [] (by simp; simp at hl0; omega) hs]
  dsimp only
  rw [List.nil_append, if_pos hl, resE_self e _ vs hc rfl]
theorem sc2_eq {m : M Src} {t : MT} {m1 : M Src} {t1 : MT} {te : M U} {vs vs1 : List Nat} {s : Src} {e e' : En} {α : Type} (xs : List α) (g : α → U) (us : α → List U) (fs : α → List Str) (hm : m e' = .ok s e) (hg : s.g = none) (hi : s.items = xs.map g) (hl : (xs.flatMap fs).length < 64) (hc : clr e vs)
    (hs : ∀ x ∈ xs, itemO t m1 t1 te vs vs1 (g x) (wipeE e vs) (us x) (fs x)) : mSc2 m t m1 t1 te vs vs1 e' = .ok (true, .lst ((sortS (dedS (xs.flatMap fs))).map .str)) e :=
  sc2_eq' xs g us fs hm hg hi (by omega) (Nat.lt_of_le_of_lt (dedS_le _) hl) hc hs
theorem sIn_nil {x : Str} : sIn (.str x) (.lst []) = some (false, .bl false) := by
  have := sIn_sl (x := x) (ws := [])
  simpa using this
theorem sNotIn_nil {x : Str} : sNotIn (.str x) (.lst []) = some (false, .bl true) := by
  have := sNotIn_sl (x := x) (ws := [])
  simpa using this
/-! ### classes, ranges -/
section
variable {e : En}
@[simp] theorem e_mth {c x : Str} {n : Nat} {φ : Fs} {mo : M Od} {ms : M (List Od)} : mMth c x n φ mo ms e = (mo.bd fun od e => match rdO e od with
  | some (.ins c' fs) => if c' = c ∧ lkU x fs = none then (ms.bd fun ods => callO n φ (od :: ods)) e else .bad
  | _ => .bad) e := rfl
@[simp] theorem e_callMk {c : Str} {n : Nat} {φ : Fs} {ods : List Od} : callMk c n φ ods e = (match argsOf e ods with
  | some as => if ods.length + 1 = n ∧ (ownIx e ods).Nodup then match φ ((true, .ins c []) :: as) with
      | .ok (false, .non) (some r :: outs) => .ok r (updE ods outs 0 e)
      | .exc c u (_ :: outs) => .exc c u (updE ods outs 0 e)
      | _ => .bad
    else .bad
  | none => .bad) := rfl
@[simp] theorem lkU_nil {f : Str} : lkU f [] = none := rfl
@[simp] theorem lkU_cons {f g : Str} {u : U} {r : List (Str × U)} : lkU f ((g, u) :: r) = if g = f then some u else lkU f r := rfl
@[simp] theorem putU_nil {f : Str} {u : U} : putU f u [] = [(f, u)] := rfl
@[simp] theorem putU_cons {f g : Str} {u x : U} {r : List (Str × U)} : putU f u ((g, x) :: r) = if g = f then (g, u) :: r else (g, x) :: putU f u r := rfl
@[simp] theorem sInt_i {i : Int} : sInt [.int i] = some (false, .int i) := rfl
@[simp] theorem sInt_b {b : Bool} : sInt [.bl b] = some (false, .int (if b then 1 else 0)) := rfl
@[simp] theorem irange_0 {n : Nat} : irange 0 n = (List.range n).map fun i : Nat => .int (i : Nat) := by
  unfold irange
  simp
@[simp] theorem asStrs_m {ns : List Str} : asStrs (ns.map U.str) = some ns := asStrs_map ns
theorem lim62_ok {i : Int} (h0 : 0 ≤ i) (h1 : i < 4611686018427387904) : lim62 i = true := by
  unfold lim62
  rw [Bool.and_eq_true, cdec_iff, cdec_iff]
  exact ⟨by omega, by omega⟩
end
/-! ### defs -/
theorem outS_eq {pr : Nat → Bool} {n : Nat} {e : En} : outS pr n e = (List.range n).map fun i => if pr i then gs e i else none := by
  unfold outS
  apply List.map_congr_left
  intro i _
  rw [gs_eq]
theorem fnS_post {N n : Nat} {pr : Nat → Bool} {b : MS} {as : List Ar} (R : RF → Prop) (h1 : as.length = n) (h2 : n ≤ N)
    (h : (b (enA as ++ List.replicate (N - n) none)).post ⟨fun e => R (.ok (false, .non) (outS pr n e)), fun _ => False, fun _ => False, fun o u e => R (.ok (o, u) (outS pr n e)), fun c u e => R (.exc c u (outS pr n e))⟩) : R (fnS N n pr b as) := by
  unfold fnS
  rw [if_pos ⟨h1, h2⟩]
  cases z : b (enA as ++ List.replicate (N - n) none) with
  | nx e => rw [z] at h; exact h
  | rt o u e => rw [z] at h; exact h
  | exc c u e => rw [z] at h; exact h
  | ct e => rw [z] at h; exact h.elim
  | bk e => rw [z] at h; exact h.elim
  | bad => rw [z] at h; exact h.elim
end VS
set_option Elab.async false
set_option linter.all false
set_option maxRecDepth 100000
/-! VP5: equations for VS32 to VS38. -/
namespace VS
open PySem L2
section
variable {e : En}
@[simp] theorem e_callO0 {n : Nat} {φ : Fs} {ods : List Od} : callO0 n φ ods e = (match callO n φ ods e with | .ok r e' => .ok r e' | _ => .bad) := rfl
@[simp] theorem e_own2 {c : Str} {φ : Fs} {ma mb : M Od} : mOwn2 c φ ma mb e = (ma.bd fun x => mb.bd fun y => fun e => match rdO e x with
  | some (.ins c' _) => match rdO e y with
    | some (.ins c2 _) => if c' = c ∧ c2 = c then callO0 2 φ [x, y] e else .bad
    | _ => .bad
  | _ => .bad) e := rfl
@[simp] theorem e_prop {c : Str} {φ : Fs} {mo : M Od} : mProp c φ mo e = (mo.bd fun od e => match rdO e od with
  | some (.ins c' _) => if c' = c then callO0 1 φ [od] e else .bad
  | _ => .bad) e := rfl
@[simp] theorem e_lenX {c : Str} {φ : Fs} {m : M Od} : mLenX c φ m e = (m.bd fun od e => match rdO e od with
  | some (.ins c' _) => if c' = c then lenR (callO0 1 φ [od] e) else .bad
  | some u => match sLenU [u] with
    | some z => .ok z e
    | none => .bad
  | none => .bad) e := rfl
@[simp] theorem e_eqX {c : Str} {φ : Fs} {ma mb : M Od} : mEqX c φ ma mb e = (ma.bd fun x => mb.bd fun y => fun e => match rdO e x with
  | some (.ins c' _) => match rdO e y with
    | some (.ins c2 _) => if c' = c ∧ c2 = c then boolR (callO0 2 φ [x, y] e) else .bad
    | _ => .bad
  | _ => op2 (sEq false) x y e) e := rfl
@[simp] theorem boolR_ok {b : Bool} : boolR (.ok (false, .bl b) e) = .ok (false, .bl b) e := rfl
@[simp] theorem e_isC {c : Str} {m : M Od} : mIsC c m e = (m.bd fun od e => match rdO e od with
  | some (.ins c' _) => if c' = c then .ok (false, .bl true) e else .bad
  | _ => .bad) e := rfl
@[simp] theorem e_lit {m : M Od} : mLIt m e = (m.bd fun od e => match rdO e od with
  | some (.dct kvs) => if kvs.all (fun p => isK1 p.1) then .ok (true, .lst (kvs.map fun p => .tup [p.1, p.2])) e else .bad
  | _ => .bad) e := rfl
@[simp] theorem e_dispX {mk mv : M U} : mDispX mk mv e = (mk.bd fun k => if isKx k then mv.bd fun w => .ret (true, .dct [(k, w)]) else fun _ => .bad) e := rfl
theorem lenR_int {i : Nat} (h : i < 1000000) : lenR (.ok (false, .int (i : Nat)) e) = .ok (false, .int (i : Nat)) e := by
  unfold lenR
  dsimp only
  rw [if_pos]
  rw [Bool.and_eq_true, cdec_iff]
  exact ⟨lim62_ok (by omega) (by omega), by omega⟩
end
/-! ### operators -/
theorem sAdd2_of {u w : U} {z : Bool × U} (h : sAdd u w = some z) : sAdd2 u w = some z := by unfold sAdd2 orS; rw [h]
@[simp] theorem sAdd2_ii {i j : Int} : sAdd2 (.int i) (.int j) = some (false, .int (i + j)) := sAdd2_of sAdd_ii
@[simp] theorem sAdd2_ll {x y : List U} : sAdd2 (.lst x) (.lst y) = if x.length + y.length ≤ sizeLine then some (true, .lst (x ++ y)) else none := by
  unfold sAdd2 orS
  rw [sAdd_ll]
  split
  · rename_i h
    split at h
    · cases h
      rw [if_pos ‹_›]
    · cases h
  · rename_i h
    split at h
    · cases h
    · rw [if_neg ‹_›]
      rfl
@[simp] theorem sAdd2_tt {x y : List U} : sAdd2 (.tup x) (.tup y) = if x.length + y.length ≤ sizeLine then some (false, .tup (x ++ y)) else none := by
  have h : sAdd (.tup x) (.tup y) = none := rfl
  unfold sAdd2 orS
  rw [h]
  rfl
theorem sNotIn2_of {u w : U} {z : Bool × U} (h : sNotIn u w = some z) : sNotIn2 u w = some z := by unfold sNotIn2 orS; rw [h]
@[simp] theorem sNotIn2_d {k : U} {kvs : List (U × U)} : sNotIn2 k (.dct kvs) = if okD kvs k then some (false, .bl (!(dfind kvs k).isSome)) else none := by
  unfold sNotIn2 orS
  rw [sNotIn_d]
  split
  · rename_i h
    split at h
    · cases h; rw [if_pos ‹_›]
    · cases h
  · rename_i h
    split at h
    · cases h
    · rw [if_neg ‹_›]; rfl
@[simp] theorem sList2_l {ws : List U} : sList2 [.lst ws] = some (true, .lst ws) := rfl
@[simp] theorem sList2_t {ws : List U} : sList2 [.tup ws] = some (true, .lst ws) := rfl
@[simp] theorem sList2_d {s : List (Str × Nat)} : sList2 [.dct (encD s)] = some (true, .lst ((s.map (·.1)).map .str)) := by
  have h : sList [.dct (encD s)] = none := rfl
  unfold sList2 orN
  rw [h]
  unfold sListD
  dsimp only
  rw [if_pos (by simp [encD, isK1])]
  simp [encD]
def tKI (p : Str × Int) : U := .tup [.str p.1, .int p.2]
theorem sSorted2_ki {ps : List (Str × Int)} : sSorted2 [.lst (ps.map tKI)] = some (true, .lst ((sortK ps).map tKI)) := by
  cases ps with
  | nil =>
    have h : sSorted [.lst []] = some (true, .lst []) := by
      have := sSorted_strs (ns := [])
      simpa [sortS] using this
    unfold sSorted2 orN
    rw [List.map_nil, h]
    simp [sortK]
  | cons p ps =>
    have h : sSorted [.lst ((p :: ps).map tKI)] = none := rfl
    unfold sSorted2 orN
    rw [h]
    unfold sSortKI
    dsimp only
    have : asKI ((p :: ps).map tKI) = some (p :: ps) := asKI_map (p :: ps)
    rw [this]
    rfl
/-! ### data at any depth -/
mutual
theorem eqv_self : ∀ d : PyData, PyData.canLay0 d = true → PyData.eqv d d = true
  | .none, _ => rfl
  | .bool b, _ => by simp [PyData.eqv]
  | .int i, _ => by simp [PyData.eqv]
  | .str x, _ => by simp [PyData.eqv]
  | .list xs, h => by simp only [PyData.eqv]; exact eqvAll_self xs (by simpa [PyData.canLay0] using h)
  | .tuple xs, h => by simp only [PyData.eqv]; exact eqvAll_self xs (by simpa [PyData.canLay0] using h)
  | .dict _, h => by simp [PyData.canLay0] at h
theorem eqvAll_self : ∀ ds : List PyData, PyData.canLayAll0 ds = true → PyData.eqvAll ds ds = true
  | [], _ => rfl
  | d :: ds, h => by
    simp only [PyData.canLayAll0, Bool.and_eq_true] at h
    simp only [PyData.eqvAll, Bool.and_eq_true]
    exact ⟨eqv_self d h.1, eqvAll_self ds h.2⟩
end
end VS
set_option Elab.async false
set_option linter.all false
set_option maxRecDepth 100000
/-! VP6: data without bools: in, index, ==. -/
namespace VS
open PySem L2
def leafU : U → Bool
  | .non => true
  | .int _ => true
  | .str x => PyData.strOk x
  | _ => false
/-- data at most n deep, without bools -/
def dat : Nat → U → Bool
  | 0 => leafU
  | n + 1 => fun u => match u with
    | .tup us => us.all (dat n)
    | .lst us => us.all (dat n)
    | u => leafU u
theorem dat_succ : ∀ (n : Nat) (u : U), dat n u = true → dat (n + 1) u = true
  | 0, u, h => by cases u <;> first | exact h | cases h
  | n + 1, u, h => by
    cases u with
    | tup us =>
      have h : us.all (dat n) = true := h
      show us.all (dat (n + 1)) = true
      rw [List.all_eq_true] at h ⊢
      exact fun x hx => dat_succ n x (h x hx)
    | lst us =>
      have h : us.all (dat n) = true := h
      show us.all (dat (n + 1)) = true
      rw [List.all_eq_true] at h ⊢
      exact fun x hx => dat_succ n x (h x hx)
    | _ => exact h
theorem dat_le {n m : Nat} (h : n ≤ m) {u : U} (k : dat n u = true) : dat m u = true := by
  induction h with
  | refl => exact k
  | step _ ih => exact dat_succ _ _ ih
theorem lay_all {us : List U} (h : ∀ u ∈ us, (toD u).canLay0 = true) : PyData.canLayAll0 (toDs us) = true := by
  induction us with
  | nil => rfl
  | cons u us ih =>
    simp only [toDs, PyData.canLayAll0, Bool.and_eq_true]
    exact ⟨h u List.mem_cons_self, ih fun x hx => h x (List.mem_cons_of_mem _ hx)⟩
theorem depth_all {us : List U} {n : Nat} (h : ∀ u ∈ us, (toD u).depth ≤ n) : PyData.depthAll (toDs us) ≤ n := by
  induction us with
  | nil => exact Nat.zero_le _
  | cons u us ih =>
    simp only [toDs, PyData.depthAll]
    exact Nat.max_le.mpr ⟨h u List.mem_cons_self, ih fun x hx => h x (List.mem_cons_of_mem _ hx)⟩
theorem dat_lay : ∀ (n : Nat) (u : U), dat n u = true → (toD u).canLay0 = true ∧ (toD u).depth ≤ n := by
  have leaf : ∀ (n : Nat) (u : U), leafU u = true → (toD u).canLay0 = true ∧ (toD u).depth ≤ n := fun n u h => by
    cases u <;> first | (exfalso; revert h; simp [leafU]; done) | (simp only [toD, PyData.canLay0, PyData.depth]; exact ⟨by first | exact h | trivial, Nat.zero_le _⟩)
  intro n
  induction n with
  | zero => exact fun u h => leaf 0 u h
  | succ n ih =>
    intro u h
    cases u with
    | tup us =>
      have h : us.all (dat n) = true := h
      rw [List.all_eq_true] at h
      simp only [toD, PyData.canLay0, PyData.depth]
      exact ⟨lay_all fun x hx => (ih x (h x hx)).1, Nat.succ_le_succ (depth_all fun x hx => (ih x (h x hx)).2)⟩
    | lst us =>
      have h : us.all (dat n) = true := h
      rw [List.all_eq_true] at h
      simp only [toD, PyData.canLay0, PyData.depth]
      exact ⟨lay_all fun x hx => (ih x (h x hx)).1, Nat.succ_le_succ (depth_all fun x hx => (ih x (h x hx)).2)⟩
    | _ => exact leaf (n + 1) _ h
theorem dat_shp {n : Nat} {u : U} (h : dat n u = true) (hn : n ≤ 64) : shp u = true := by
  obtain ⟨h1, h2⟩ := dat_lay n u h
  unfold shp SeqAt.shaped
  rw [h1, decide_eq_true (by omega)]
  rfl
theorem eqvAll_iff {us ws : List U} (h : ∀ u ∈ us, ∀ w ∈ ws, (PyData.eqv (toD u) (toD w) = true ↔ u = w)) : PyData.eqvAll (toDs us) (toDs ws) = true ↔ us = ws := by
  induction us generalizing ws with
  | nil => cases ws <;> simp [toDs, PyData.eqvAll]
  | cons u us ih =>
    cases ws with
    | nil => simp [toDs, PyData.eqvAll]
    | cons w ws =>
      simp only [toDs, PyData.eqvAll, Bool.and_eq_true, List.cons.injEq]
      rw [h u List.mem_cons_self w List.mem_cons_self, ih fun a ha b hb => h a (List.mem_cons_of_mem _ ha) b (List.mem_cons_of_mem _ hb)]
theorem dat_eqv : ∀ (n : Nat) (u w : U), dat n u = true → dat n w = true → (PyData.eqv (toD u) (toD w) = true ↔ u = w) := by
  have leaf : ∀ (u w : U), leafU u = true → leafU w = true → (PyData.eqv (toD u) (toD w) = true ↔ u = w) := fun u w h k => by
    cases u <;> first | (exfalso; revert h; simp [leafU]; done) | (cases w <;> first | (exfalso; revert k; simp [leafU]; done) | (simp [toD, PyData.eqv]; done))
  have mix : ∀ (u w : U), leafU u = true → (∃ us, w = .tup us ∨ w = .lst us) → (PyData.eqv (toD u) (toD w) = true ↔ u = w) := fun u w h k => by
    obtain ⟨us, rfl | rfl⟩ := k <;> (cases u <;> first | (exfalso; revert h; simp [leafU]; done) | (simp [toD, PyData.eqv]; done))
  have mix2 : ∀ (u w : U), leafU u = true → (∃ us, w = .tup us ∨ w = .lst us) → (PyData.eqv (toD w) (toD u) = true ↔ w = u) := fun u w h k => by
    obtain ⟨us, rfl | rfl⟩ := k <;> (cases u <;> first | (exfalso; revert h; simp [leafU]; done) | (simp [toD, PyData.eqv]; done))
  intro n
  induction n with
  | zero => exact fun u w h k => leaf u w h k
  | succ n ih =>
    intro u w h k
    have sub : ∀ us ws : List U, us.all (dat n) = true → ws.all (dat n) = true → (PyData.eqvAll (toDs us) (toDs ws) = true ↔ us = ws) := fun us ws h k => by
      rw [List.all_eq_true] at h k
      exact eqvAll_iff fun a ha b hb => ih a b (h a ha) (k b hb)
    cases u with
    | tup us =>
      cases w with
      | tup ws => simp only [toD, PyData.eqv, U.tup.injEq]; exact sub us ws h k
      | lst ws => simp [toD, PyData.eqv]
      | _ => exact mix2 _ _ k ⟨_, .inl rfl⟩
    | lst us =>
      cases w with
      | lst ws => simp only [toD, PyData.eqv, U.lst.injEq]; exact sub us ws h k
      | tup ws => simp [toD, PyData.eqv]
      | _ => exact mix2 _ _ k ⟨_, .inr rfl⟩
    | _ =>
      cases w with
      | tup ws => exact mix _ _ h ⟨_, .inl rfl⟩
      | lst ws => exact mix _ _ h ⟨_, .inr rfl⟩
      | _ => exact leaf _ _ h k
theorem any_toDs {ws : List U} {p : PyData → Bool} : (toDs ws).any p = ws.any fun w => p (toD w) := by
  induction ws with
  | nil => rfl
  | cons w ws ih => simp only [toDs, List.any_cons, ih]
theorem any_dat {n : Nat} {u : U} {ws : List U} (h : dat n u = true) (k : ∀ w ∈ ws, dat n w = true) : ((toDs ws).any fun z => PyData.eqv z (toD u)) = decide (u ∈ ws) := by
  rw [any_toDs]
  rw [Bool.eq_iff_iff, List.any_eq_true, decide_eq_true_eq]
  constructor
  · rintro ⟨w, hw, e⟩
    rw [dat_eqv n w u (k w hw) h] at e
    exact e ▸ hw
  · intro hu
    exact ⟨u, hu, (dat_eqv n u u h h).mpr rfl⟩
theorem dat_lst {n : Nat} {ws : List U} (k : ∀ w ∈ ws, dat n w = true) : dat (n + 1) (.lst ws) = true := by
  show ws.all (dat n) = true
  rw [List.all_eq_true]
  exact k
theorem sInF_tup {neg : Bool} {us ws : List U} : sInF neg (.tup us) (.lst ws) = none := by simp [sInF, flU]
theorem sNotIn2_dat {n : Nat} {us ws : List U} (hn : n ≤ 50) (h : dat n (.tup us) = true) (k : ∀ w ∈ ws, dat n w = true) : sNotIn2 (.tup us) (.lst ws) = some (false, .bl (!decide (U.tup us ∈ ws))) := by
  have h0 : sNotIn (.tup us) (.lst ws) = none := by
    unfold sNotIn orS
    rw [sInF_tup]
    rfl
  unfold sNotIn2 orS
  rw [h0]
  unfold sInA
  dsimp only
  rw [if_pos (by rw [dat_shp h (by omega), dat_shp (dat_lst k) (by omega)]; rfl), any_dat h k]
  rfl
theorem ixD_dat {n : Nat} {u : U} {ws : List U} (h : dat n u = true) (k : ∀ w ∈ ws, dat n w = true) (m : u ∈ ws) : ixD (toDs ws) (toD u) = some (ws.idxOf u) := by
  unfold ixD
  induction ws with
  | nil => cases m
  | cons w ws ih =>
    rw [toDs, List.findIdx?_cons, List.idxOf_cons]
    by_cases e : w = u
    · subst e
      have : PyData.eqv (toD w) (toD w) = true := (dat_eqv n w w h h).mpr rfl
      simp [this]
    · have e1 : PyData.eqv (toD w) (toD u) = false := by
        have := dat_eqv n w u (k w List.mem_cons_self) h
        cases z : PyData.eqv (toD w) (toD u) with
        | false => rfl
        | true => exact absurd (this.mp z) e
      have e2 : (w == u) = false := by simpa using e
      rw [e1, e2]
      have m2 : u ∈ ws := (List.mem_cons.mp m).resolve_left fun z => e z.symm
      rw [if_neg Bool.false_ne_true, ih (fun x hx => k x (List.mem_cons_of_mem _ hx)) m2]
      rfl
theorem sIndex_dat {n : Nat} {u : U} {ws : List U} (hn : n ≤ 50) (h : dat n u = true) (k : ∀ w ∈ ws, dat n w = true) (m : u ∈ ws) : sIndex (.lst ws) [u] = some (false, .int (ws.idxOf u : Nat)) := by
  unfold sIndex
  dsimp only
  rw [if_pos (by rw [dat_shp h (by omega), dat_shp (dat_lst k) (by omega)]; rfl), ixD_dat h k m]
end VS
set_option Elab.async false
set_option linter.all false
set_option maxRecDepth 100000
/-! VP7: comprehensions over a list of one's own. -/
namespace VS
open PySem L2
@[simp] theorem i_N {i : Nat} {e : En} : mItN i e = (match gs e i with
  | some (true, .lst us) => .ok ⟨us, us, some i⟩ e
  | some (false, .lst us) => .ok ⟨us, [], none⟩ e
  | some (false, .scr ns) => .ok ⟨ns.map .int, [], none⟩ e
  | _ => .bad) := by
  unfold mItN
  rw [← gs_eq]
  cases h : e[i]? with
  | none => rfl
  | some s =>
    cases s with
    | none => rfl
    | some p => obtain ⟨o, u⟩ := p; cases o <;> cases u <;> rfl
theorem lcL_eq {t : MT} {te : M U} {vs : List Nat} {e : En} {g : Option Nat} {src : List U} {α : Type} (f : α → U) (gg : α → U) (hk : gOK g src (wipeE e vs)) : ∀ (xs : List α) (acc : List U), acc.length + xs.length ≤ sizeLine → (∀ x, x ∈ xs → item t te vs (gg x) e (f x)) →
    lcL t (M.ret true) te vs g src (xs.map gg) acc (wipeE e vs) = some (acc ++ xs.map f, wipeE e vs)
  | [], acc, _, _ => by simp [lcL]
  | x :: xs, acc, hl, hs => by
    have q := hs x List.mem_cons_self
    rw [List.length_cons] at hl
    unfold item at q
    rw [List.map_cons]
    unfold lcL
    cases z : t (gg x) (wipeE e vs) with
    | none => rw [z] at q; exact q.elim
    | some e1 =>
      rw [z] at q
      dsimp only [M.ret] at q ⊢
      cases y : te e1 with
      | ok y' e3 =>
        rw [y] at q
        obtain ⟨q1, q2⟩ := q
        dsimp only
        rw [q2, if_pos ⟨by omega, hk⟩, q1, lcL_eq f gg hk xs _ (by rw [List.length_append, List.length_singleton]; omega) fun x hx => hs x (List.mem_cons_of_mem _ hx)]
        simp
      | _ => rw [y] at q; exact q.elim
theorem lc_eqG {t : MT} {te : M U} {vs : List Nat} {s : Src} {e : En} {α : Type} (xs : List α) (g : α → U) (f : α → U) (hg : gOK s.g s.src (wipeE e vs)) (hi : s.items = xs.map g) (hl : xs.length ≤ sizeLine) (hc : clr e vs) (hs : ∀ x, x ∈ xs → item t te vs (g x) e (f x)) :
    lcR t (M.ret true) te vs s e = .ok (true, .lst (xs.map f)) e := by
  unfold lcR
  rw [if_pos hg, hi, lcL_eq f g hg xs [] (by simpa using hl) hs]
  dsimp only
  rw [List.nil_append, resE_self e _ vs hc rfl]
end VS
set_option linter.all false
set_option maxRecDepth 100000
/-! VP8: equations for dict comprehensions, sorted items, comprehensions with two clauses. -/
namespace VS
open PySem L2
open Classical in
noncomputable def dcR (t : MT) (tt : M Bool) (tk tv : M U) (vs : List Nat) (s : Src) (e : En) : R (Bool × U) :=
  if gOK s.g s.src (wipeE e vs) then match dcL t tt tk tv vs s.g s.src s.items [] (wipeE e vs) with
    | some (acc, e') => .ok (true, .dct acc) (resE e e' vs)
    | none => .bad
  else .bad
@[simp] theorem e_dc {m : M Src} {t : MT} {tt : M Bool} {tk tv : M U} {vs : List Nat} {e : En} : mDc m t tt tk tv vs e = (m.bd fun s e => dcR t tt tk tv vs s e) e := rfl
def itemD (t : MT) (tk tv : M U) (vs : List Nat) (u : U) (e : En) (k y : U) : Prop := match t u (wipeE e vs) with
  | some e1 => match tk e1 with
    | .ok k' e2 => match tv e2 with
      | .ok y' e3 => k' = k ∧ y' = y ∧ wipeE e3 vs = wipeE e vs
      | _ => False
    | _ => False
  | none => False
theorem dfind_none {kvs : List (U × U)} {k : U} (h : k ∉ kvs.map (·.1)) : dfind kvs k = none := by
  unfold dfind
  rw [Option.map_eq_none_iff, List.find?_eq_none]
  intro p hp
  rw [decide_eq_true_eq]
  exact fun e => h (List.mem_map.mpr ⟨p, hp, e⟩)
theorem dcL_eq {t : MT} {tk tv : M U} {vs : List Nat} {e : En} {g : Option Nat} {src : List U} {α : Type} (kf f gg : α → U) (hk : gOK g src (wipeE e vs)) : ∀ (xs : List α) (acc : List (U × U)), acc.length + xs.length ≤ sizeLine → (acc.map (·.1) ++ xs.map kf).Nodup → (∀ x, x ∈ xs → isK1 (kf x) = true ∧ itemD t tk tv vs (gg x) e (kf x) (f x)) →
    dcL t (M.ret true) tk tv vs g src (xs.map gg) acc (wipeE e vs) = some (acc ++ xs.map fun x => (kf x, f x), wipeE e vs)
  | [], acc, _, _, _ => by simp [dcL]
  | x :: xs, acc, hl, nd, hs => by
    obtain ⟨q0, q⟩ := hs x List.mem_cons_self
    rw [List.length_cons] at hl
    unfold itemD at q
    rw [List.map_cons]
    unfold dcL
    cases z : t (gg x) (wipeE e vs) with
    | none => rw [z] at q; exact q.elim
    | some e1 =>
      rw [z] at q
      dsimp only [M.ret] at q ⊢
      cases y : tk e1 with
      | ok k' e2 =>
        rw [y] at q
        dsimp only at q ⊢
        cases y2 : tv e2 with
        | ok y' e3 =>
          rw [y2] at q
          obtain ⟨rfl, q1, q2⟩ := q
          dsimp only
          have fr : dfind acc (kf x) = none := dfind_none fun hm => by
            rw [List.nodup_append] at nd
            exact nd.2.2 _ hm (kf x) (by simp) rfl
          rw [q2, if_pos ⟨q0, by omega, hk⟩, q1, dset_new fr, dcL_eq kf f gg hk xs _ (by rw [List.length_append, List.length_singleton]; omega) (by simpa using nd) fun x hx => hs x (List.mem_cons_of_mem _ hx)]
          simp
        | _ => rw [y2] at q; exact q.elim
      | _ => rw [y] at q; exact q.elim
theorem dc_eq {t : MT} {tk tv : M U} {vs : List Nat} {s : Src} {e : En} {α : Type} (xs : List α) (g kf f : α → U) (hg : gOK s.g s.src (wipeE e vs)) (hi : s.items = xs.map g) (hl : xs.length ≤ sizeLine) (hc : clr e vs) (nd : (xs.map kf).Nodup) (hs : ∀ x, x ∈ xs → isK1 (kf x) = true ∧ itemD t tk tv vs (g x) e (kf x) (f x)) :
    dcR t (M.ret true) tk tv vs s e = .ok (true, .dct (xs.map fun x => (kf x, f x))) e := by
  unfold dcR
  rw [if_pos hg, hi, dcL_eq kf f g hg xs [] (by simpa using hl) (by simpa using nd) hs]
  dsimp only
  rw [List.nil_append, resE_self e _ vs hc rfl]
@[simp] theorem e_sortV {m : M Od} {e : En} : mSortV m e = (m.bd fun od e => match rdO e od with
  | some (.dct kvs) => match asKV kvs with
    | some ps => .ok (true, .lst ((sortK ps).map fun p => .tup [.str p.1, .int p.2])) e
    | none => .bad
  | _ => .bad) e := rfl
theorem asKV_encD (r : List (Str × Nat)) : asKV (encD r) = some (r.map fun p => (p.1, (p.2 : Int))) := by
  induction r with
  | nil => rfl
  | cons p r ih =>
    unfold encD at ih ⊢
    rw [List.map_cons, asKV, ih]
    rfl
/-! ### two clauses -/
noncomputable def lc2R (t : MT) (m1 : M Src) (t1 : MT) (te : M U) (vs vs1 : List Nat) (s : Src) (e : En) : R (Bool × U) := match s.g with
  | none => match lcO t m1 t1 te vs vs1 s.items [] (wipeE e vs) with
    | some (acc, e') => .ok (true, .lst acc) (resE e e' vs)
    | none => .bad
  | some _ => .bad
@[simp] theorem e_lc2 {m : M Src} {t : MT} {m1 : M Src} {t1 : MT} {te : M U} {vs vs1 : List Nat} {e : En} : mLc2 m t m1 t1 te vs vs1 e = (m.bd fun s e => lc2R t m1 t1 te vs vs1 s e) e := rfl
def itemS2 (t : MT) (te : M U) (vs : List Nat) (u : U) (e : En) (y : U) : Prop := match t u e with
  | some e1 => match te e1 with
    | .ok y' e3 => y' = y ∧ wipeE e3 vs = e
    | _ => False
  | none => False
theorem lcI_eq {t1 : MT} {te : M U} {vs1 : List Nat} {e : En} {α : Type} (h f : α → U) : ∀ (ys : List α) (acc : List U), acc.length + ys.length ≤ sizeLine → (∀ y ∈ ys, itemS2 t1 te vs1 (h y) e (f y)) → lcI t1 te vs1 (ys.map h) acc e = some (acc ++ ys.map f, e)
  | [], acc, _, _ => by simp [lcI]
  | y :: ys, acc, hl, hs => by
    rw [List.length_cons] at hl
    have q := hs y List.mem_cons_self
    unfold itemS2 at q
    rw [List.map_cons]
    unfold lcI
    cases z : t1 (h y) e with
    | none => rw [z] at q; exact q.elim
    | some e1 =>
      rw [z] at q
      dsimp only at q ⊢
      cases z2 : te e1 with
      | ok y' e3 =>
        rw [z2] at q
        obtain ⟨rfl, q⟩ := q
        dsimp only
        rw [if_pos (by omega), q, lcI_eq h f ys _ (by rw [List.length_append, List.length_singleton]; omega) fun y hy => hs y (List.mem_cons_of_mem _ hy)]
        simp
      | _ => rw [z2] at q; exact q.elim
def itemO2 {β : Type} (t : MT) (m1 : M Src) (t1 : MT) (te : M U) (vs vs1 : List Nat) (u : U) (e : En) (ys : List β) (h f : β → U) : Prop := match t u e with
  | some e1 => match m1 e1 with
    | .ok s e2 => s.g = none ∧ s.items = ys.map h ∧ (∀ y ∈ ys, itemS2 t1 te vs1 (h y) (wipeE e2 vs1) (f y)) ∧ wipeE (wipeE e2 vs1) vs = e
    | _ => False
  | none => False
theorem lcO_eq {t : MT} {m1 : M Src} {t1 : MT} {te : M U} {vs vs1 : List Nat} {e : En} {α β : Type} (g : α → U) (ys : α → List β) (h f : β → U) : ∀ (xs : List α) (acc : List U), acc.length + (xs.flatMap ys).length ≤ sizeLine → (∀ x ∈ xs, itemO2 t m1 t1 te vs vs1 (g x) e (ys x) h f) →
    lcO t m1 t1 te vs vs1 (xs.map g) acc e = some (acc ++ (xs.flatMap ys).map f, e)
  | [], acc, _, _ => by simp [lcO]
  | x :: xs, acc, hl, hs => by
    rw [List.flatMap_cons, List.length_append] at hl
    have q := hs x List.mem_cons_self
    unfold itemO2 at q
    rw [List.map_cons]
    unfold lcO
    cases z : t (g x) e with
    | none => rw [z] at q; exact q.elim
    | some e1 =>
      rw [z] at q
      dsimp only at q ⊢
      cases z2 : m1 e1 with
      | ok s e2 =>
        rw [z2] at q
        obtain ⟨q1, q2, q3, q4⟩ := q
        dsimp only
        rw [q1, q2, lcI_eq h f _ _ (by omega) q3]
        dsimp only
        rw [q4, lcO_eq g ys h f xs _ (by rw [List.length_append, List.length_map]; omega) fun x hx => hs x (List.mem_cons_of_mem _ hx)]
        simp
      | _ => rw [z2] at q; exact q.elim
theorem lc2_eq {t : MT} {m1 : M Src} {t1 : MT} {te : M U} {vs vs1 : List Nat} {s : Src} {e : En} {α β : Type} (xs : List α) (g : α → U) (ys : α → List β) (h f : β → U) (hg : s.g = none) (hi : s.items = xs.map g) (hl : (xs.flatMap ys).length ≤ sizeLine) (hc : clr e vs)
    (hs : ∀ x ∈ xs, itemO2 t m1 t1 te vs vs1 (g x) (wipeE e vs) (ys x) h f) : lc2R t m1 t1 te vs vs1 s e = .ok (true, .lst ((xs.flatMap ys).map f)) e := by
  unfold lc2R
  rw [hg, hi]
  dsimp only
  rw [lcO_eq g ys h f xs [] (by simpa using hl) hs]
  dsimp only
  rw [List.nil_append, resE_self e _ vs hc rfl]
/-! ### wide operators at plain data -/
theorem orS_of {s t : Op2} {u w : U} {z : Bool × U} (h : s u w = some z) : orS s t u w = some z := by unfold orS; rw [h]
theorem orN_of {s t : OpN} {us : List U} {z : Bool × U} (h : s us = some z) : orN s t us = some z := by unfold orN; rw [h]
@[simp] theorem sGe2_ii {i j : Int} : sGe2 (.int i) (.int j) = some (false, .bl (decide (j ≤ i))) := orS_of sGe_ii
@[simp] theorem sGe2_ss {x y : Str} : sGe2 (.str x) (.str y) = some (false, .bl (!decide (x.cps.toList < y.cps.toList))) := rfl
end VS
set_option linter.all false
/-! KN: machines as tables: what is reached, kinds, the least table. -/
namespace KN
open KM
variable {ε : Type} [DecidableEq ε]
abbrev Tb (ε : Type) := List (List (ε × Nat))
def row (t : Tb ε) (s : Nat) : List (ε × Nat) := t.getD s []
def nxt (t : Tb ε) (s : Nat) (e : ε) : Option Nat := ((row t s).find? fun p => decide (p.1 = e)).map (·.2)
def Fit (t : Tb ε) : Prop := 0 < t.length ∧ ∀ s, ∀ p ∈ row t s, p.2 < t.length
def walk (t : Tb ε) : Nat → List ε → Option Nat
  | s, [] => some s
  | s, e :: r => match nxt t s e with
    | some s' => walk t s' r
    | none => none
/-- what is told of a list of events from a state on -/
def beh (t : Tb ε) (m : Nat → Bool) (s : Nat) (run : List ε) : Option Bool := (walk t s run).map m
/-! ### what is reached -/
def add1 (o : List Nat) (p : ε × Nat) : List Nat := if p.2 ∈ o then o else o ++ [p.2]
def adds (o : List Nat) (r : List (ε × Nat)) : List Nat := r.foldl add1 o
def bfs (t : Tb ε) : Nat → Nat → List Nat → List Nat
  | 0, _, o => o
  | n + 1, k, o => match o[k]? with
    | some s => bfs t n (k + 1) (adds o (row t s))
    | none => o
def ordr (t : Tb ε) : List Nat := bfs t (t.length + 1) 0 [0]
theorem adds_snoc {o : List Nat} {r : List (ε × Nat)} {p : ε × Nat} : adds o (r ++ [p]) = add1 (adds o r) p := by
  unfold adds; rw [List.foldl_append]; rfl
theorem add1_ext (o : List Nat) (p : ε × Nat) : ∃ z, add1 o p = o ++ z := by
  unfold add1; split
  · exact ⟨[], by simp⟩
  · exact ⟨_, rfl⟩
theorem adds_ext (r : List (ε × Nat)) : ∀ o : List Nat, ∃ z, adds o r = o ++ z := by
  induction r with
  | nil => exact fun o => ⟨[], by simp [adds]⟩
  | cons p r ih =>
    intro o
    obtain ⟨z1, h1⟩ := add1_ext o p
    obtain ⟨z2, h2⟩ := ih (add1 o p)
    exact ⟨z1 ++ z2, by rw [show adds o (p :: r) = adds (add1 o p) r from rfl, h2, h1, List.append_assoc]⟩
theorem mem_adds {r : List (ε × Nat)} : ∀ {o : List Nat} {x : Nat}, x ∈ adds o r ↔ x ∈ o ∨ ∃ p ∈ r, p.2 = x := by
  induction r with
  | nil => intro o x; simp [adds]
  | cons p r ih =>
    intro o x
    rw [show adds o (p :: r) = adds (add1 o p) r from rfl, ih]
    unfold add1
    split
    · rename_i h
      constructor
      · rintro (h1 | ⟨q, hq, h1⟩)
        · exact .inl h1
        · exact .inr ⟨q, List.mem_cons_of_mem _ hq, h1⟩
      · rintro (h1 | ⟨q, hq, h1⟩)
        · exact .inl h1
        · rcases List.mem_cons.mp hq with e | hq
          · subst e; subst h1; exact .inl h
          · exact .inr ⟨q, hq, h1⟩
    · rw [List.mem_append, List.mem_singleton]
      constructor
      · rintro ((h1 | h1) | ⟨q, hq, h1⟩)
        · exact .inl h1
        · exact .inr ⟨p, List.mem_cons_self, h1.symm⟩
        · exact .inr ⟨q, List.mem_cons_of_mem _ hq, h1⟩
      · rintro (h1 | ⟨q, hq, h1⟩)
        · exact .inl (.inl h1)
        · rcases List.mem_cons.mp hq with e | hq
          · subst e; exact .inl (.inr h1.symm)
          · exact .inr ⟨q, hq, h1⟩
theorem adds_nodup {r : List (ε × Nat)} : ∀ {o : List Nat}, o.Nodup → (adds o r).Nodup := by
  induction r with
  | nil => exact fun h => h
  | cons p r ih =>
    intro o h
    rw [show adds o (p :: r) = adds (add1 o p) r from rfl]
    apply ih
    unfold add1
    split
    · exact h
    · rename_i q
      rw [List.nodup_append]
      exact ⟨h, by simp, fun a ha b hb e => q (by rw [List.mem_singleton] at hb; rw [← hb, ← e]; exact ha)⟩
/-- the walk so far: k states are done -/
structure Bf (t : Tb ε) (k : Nat) (o : List Nat) : Prop where
  nd : o.Nodup
  z : o[0]? = some 0
  lt : ∀ s ∈ o, s < t.length
  cl : ∀ i s, i < k → o[i]? = some s → ∀ p ∈ row t s, p.2 ∈ o
  le : k ≤ o.length
  rc : ∀ s ∈ o, ∃ run, walk t 0 run = some s
  fin : bfs t (t.length + 1 - k) k o = ordr t
theorem Bf.len {t : Tb ε} {k : Nat} {o : List Nat} (h : Bf t k o) : o.length ≤ t.length := nodup_lt h.nd h.lt
theorem Bf.init {t : Tb ε} (hf : Fit t) : Bf t 0 [0] := ⟨by simp, rfl, fun s hs => by rw [List.mem_singleton] at hs; rw [hs]; exact hf.1, fun i s hi => by omega, by simp, fun s hs => ⟨[], by rw [List.mem_singleton] at hs; rw [hs]; rfl⟩, rfl⟩
theorem walk_append {t : Tb ε} : ∀ {a b : List ε} {s : Nat}, walk t s (a ++ b) = (walk t s a).bind fun s' => walk t s' b := by
  intro a
  induction a with
  | nil => intro b s; rfl
  | cons e a ih =>
    intro b s
    rw [List.cons_append, walk, walk]
    cases nxt t s e with
    | none => rfl
    | some s' => exact ih
/-- names of a row are different -/
def Nd (t : Tb ε) : Prop := ∀ s, ((row t s).map (·.1)).Nodup
theorem nxt_mem {t : Tb ε} {s s' : Nat} {e : ε} (h : nxt t s e = some s') : (e, s') ∈ row t s := by
  unfold nxt at h
  obtain ⟨p, hp, e1⟩ := Option.map_eq_some_iff.mp h
  have := List.find?_some hp
  have m := List.mem_of_find?_eq_some hp
  simp only [decide_eq_true_eq] at this
  obtain ⟨a, b⟩ := p
  dsimp only at this e1
  subst this e1
  exact m
theorem find_nd {l : List (ε × Nat)} (h : (l.map (·.1)).Nodup) {e : ε} {s : Nat} (m : (e, s) ∈ l) : (l.find? fun p => decide (p.1 = e)) = some (e, s) := by
  induction l with
  | nil => cases m
  | cons p l ih =>
    simp only [List.map_cons, List.nodup_cons] at h
    rw [List.find?_cons]
    rcases List.mem_cons.mp m with q | q
    · rw [← q]; simp
    · have : p.1 ≠ e := fun z => h.1 (List.mem_map.mpr ⟨_, q, z.symm⟩)
      simp only [this, decide_false]
      exact ih h.2 q
theorem nxt_of {t : Tb ε} (h : Nd t) {s s' : Nat} {e : ε} (m : (e, s') ∈ row t s) : nxt t s e = some s' := by
  unfold nxt
  rw [find_nd (h s) m]
  rfl
theorem Bf.step {t : Tb ε} (hf : Fit t) (hn : Nd t) {k s : Nat} {o : List Nat} (h : Bf t k o) (hk : o[k]? = some s) : Bf t (k + 1) (adds o (row t s)) := by
  obtain ⟨z, hz⟩ := adds_ext (row t s) o
  have hk' := (List.getElem?_eq_some_iff.mp hk).1
  refine ⟨adds_nodup h.nd, ?_, fun x hx => ?_, fun i x hi hx p hp => ?_, ?_, fun x hx => ?_, ?_⟩
  · rw [hz, List.getElem?_append_left (by omega)]
    exact h.z
  · rcases mem_adds.mp hx with q | ⟨p, hp, rfl⟩
    · exact h.lt x q
    · exact hf.2 s p hp
  · rw [hz, List.getElem?_append_left (by omega)] at hx
    by_cases q : i < k
    · exact mem_adds.mpr (.inl (h.cl i x q hx p hp))
    · have : i = k := by omega
      subst this
      rw [hk] at hx
      cases hx
      exact mem_adds.mpr (.inr ⟨p, hp, rfl⟩)
  · rw [hz, List.length_append]; omega
  · rcases mem_adds.mp hx with q | ⟨p, hp, rfl⟩
    · exact h.rc x q
    · obtain ⟨run, hr⟩ := h.rc s (List.mem_of_getElem? hk)
      refine ⟨run ++ [p.1], ?_⟩
      rw [walk_append, hr]
      show walk t s [p.1] = some p.2
      unfold walk
      rw [nxt_of hn (show (p.1, p.2) ∈ row t s from hp)]
      rfl
  · have l := h.len
    have f := h.fin
    rw [show t.length + 1 - k = (t.length + 1 - (k + 1)) + 1 by omega] at f
    rw [bfs, hk] at f
    exact f
theorem Bf.done {t : Tb ε} {k : Nat} {o : List Nat} (h : Bf t k o) (hk : o.length ≤ k) : o = ordr t := by
  have f := h.fin
  have l := h.len
  have le := h.le
  cases q : t.length + 1 - k with
  | zero => rw [q] at f; exact f
  | succ n => rw [q, bfs, List.getElem?_eq_none (by omega)] at f; exact f
theorem Bf.all {t : Tb ε} (hf : Fit t) (hn : Nd t) : ∃ k, Bf t k (ordr t) ∧ k = (ordr t).length := by
  have : ∀ (n k : Nat) (o : List Nat), n = t.length - k → Bf t k o → ∃ k, Bf t k (ordr t) ∧ k = (ordr t).length := by
    intro n
    induction n using Nat.strongRecOn with
    | ind n ih =>
      intro k o hn' h
      by_cases q : k < o.length
      · have l := h.len
        exact ih (t.length - (k + 1)) (by omega) (k + 1) _ rfl (h.step hf hn (List.getElem?_eq_getElem q))
      · have e := h.done (by omega)
        have le := h.le
        subst e
        exact ⟨k, h, by omega⟩
  exact this _ 0 [0] rfl (Bf.init hf)
/-- the reached states -/
structure Rch (t : Tb ε) (o : List Nat) : Prop where
  nd : o.Nodup
  z : o[0]? = some 0
  lt : ∀ s ∈ o, s < t.length
  cl : ∀ s ∈ o, ∀ p ∈ row t s, p.2 ∈ o
  rc : ∀ s ∈ o, ∃ run, walk t 0 run = some s
theorem rch {t : Tb ε} (hf : Fit t) (hn : Nd t) : Rch t (ordr t) := by
  obtain ⟨k, h, e⟩ := Bf.all hf hn
  refine ⟨h.nd, h.z, h.lt, fun s hs => ?_, h.rc⟩
  obtain ⟨i, hi⟩ := List.mem_iff_getElem?.mp hs
  exact h.cl i s (by rw [e]; exact (List.getElem?_eq_some_iff.mp hi).1) hi
theorem Rch.mem0 {t : Tb ε} {o : List Nat} (h : Rch t o) : 0 ∈ o := List.mem_of_getElem? h.z
theorem Rch.nxt {t : Tb ε} {o : List Nat} (h : Rch t o) {s s' : Nat} {e : ε} (hs : s ∈ o) (q : nxt t s e = some s') : s' ∈ o := h.cl s hs _ (nxt_mem q)
/-! ### the same behaviour -/
def Eqv (t : Tb ε) (m : Nat → Bool) (t' : Tb ε) (m' : Nat → Bool) (a b : Nat) : Prop := ∀ run, beh t m a run = beh t' m' b run
section
variable {t t' t2 : Tb ε} {m m' m2 : Nat → Bool}
theorem Eqv.refl {a : Nat} : Eqv t m t m a a := fun _ => rfl
theorem Eqv.symm {a b : Nat} (h : Eqv t m t' m' a b) : Eqv t' m' t m b a := fun r => (h r).symm
theorem Eqv.trans {a b c : Nat} (h : Eqv t m t' m' a b) (k : Eqv t' m' t2 m2 b c) : Eqv t m t2 m2 a c := fun r => (h r).trans (k r)
theorem Eqv.mark {a b : Nat} (h : Eqv t m t' m' a b) : m a = m' b := by
  have := h []
  simpa [beh, walk] using this
theorem Eqv.sm {a b a' : Nat} {e : ε} (h : Eqv t m t' m' a b) (q : nxt t a e = some a') : ∃ b', nxt t' b e = some b' ∧ Eqv t m t' m' a' b' := by
  have h1 := h [e]
  unfold beh walk at h1
  rw [q] at h1
  cases z : nxt t' b e with
  | none => rw [z] at h1; simp [walk] at h1
  | some b' =>
    refine ⟨b', rfl, fun r => ?_⟩
    have := h (e :: r)
    unfold beh walk at this
    rw [q, z] at this
    exact this
theorem Eqv.nn {a b : Nat} {e : ε} (h : Eqv t m t' m' a b) : nxt t a e = none ↔ nxt t' b e = none := by
  constructor
  · intro q
    cases z : nxt t' b e with
    | none => rfl
    | some b' =>
      obtain ⟨a', h1, _⟩ := h.symm.sm z
      rw [q] at h1; cases h1
  · intro q
    cases z : nxt t a e with
    | none => rfl
    | some b' =>
      obtain ⟨a', h1, _⟩ := h.sm z
      rw [q] at h1; cases h1
/-- from a relation that is kept -/
theorem Eqv.of_bis (R : Nat → Nat → Prop) (hm : ∀ a b, R a b → m a = m' b) (hs : ∀ a b e a', R a b → nxt t a e = some a' → ∃ b', nxt t' b e = some b' ∧ R a' b') (hn : ∀ a b e, R a b → nxt t a e = none → nxt t' b e = none) : ∀ a b, R a b → Eqv t m t' m' a b := by
  intro a b h run
  induction run generalizing a b with
  | nil => simp [beh, walk, hm a b h]
  | cons e r ih =>
    unfold beh walk
    cases z : nxt t a e with
    | none => rw [hn a b e h z]; rfl
    | some a' =>
      obtain ⟨b', h1, h2⟩ := hs a b e a' h z
      rw [h1]
      exact ih a' b' h2
end
end KN
set_option linter.all false
/-! KN2: kinds of states, the least table, its behaviour. -/
namespace KN
open KM
variable {ε : Type} [DecidableEq ε]
/-- names of a row, in their order, are told by which names there are -/
structure Srt (lt : ε → ε → Prop) : Prop where
  irr : ∀ a, ¬ lt a a
  asy : ∀ a b, lt a b → ¬ lt b a
theorem srt_eq {lt : ε → ε → Prop} (hs : Srt lt) : ∀ {x y : List ε}, x.Pairwise lt → y.Pairwise lt → (∀ e, e ∈ x ↔ e ∈ y) → x = y
  | [], [], _, _, _ => rfl
  | [], b :: y, _, _, h => absurd ((h b).mpr List.mem_cons_self) (by simp)
  | a :: x, [], _, _, h => absurd ((h a).mp List.mem_cons_self) (by simp)
  | a :: x, b :: y, hx, hy, h => by
    rw [List.pairwise_cons] at hx hy
    have e : a = b := by
      rcases List.mem_cons.mp ((h a).mp List.mem_cons_self) with q | q
      · exact q
      · rcases List.mem_cons.mp ((h b).mpr List.mem_cons_self) with q2 | q2
        · exact q2.symm
        · exact absurd (hx.1 b q2) (hs.asy _ _ (hy.1 a q))
    subst e
    have nx : a ∉ x := fun q => hs.irr _ (hx.1 a q)
    have ny : a ∉ y := fun q => hs.irr _ (hy.1 a q)
    rw [srt_eq hs hx.2 hy.2 fun e => ?_]
    have := h e
    rw [List.mem_cons, List.mem_cons] at this
    by_cases q : e = a
    · subst q; exact ⟨fun z => absurd z nx, fun z => absurd z ny⟩
    · exact ⟨fun z => (this.mp (.inr z)).resolve_left q, fun z => (this.mpr (.inr z)).resolve_left q⟩
/-- rows in ascending order of their names -/
def Asc (lt : ε → ε → Prop) (t : Tb ε) : Prop := ∀ s, ((row t s).map (·.1)).Pairwise lt
theorem Asc.nd {lt : ε → ε → Prop} (hs : Srt lt) {t : Tb ε} (h : Asc lt t) : Nd t := fun s => (h s).imp fun {a b} (q : lt a b) (e : a = b) => hs.irr b (by rw [e] at q; exact q)
/-- the place of an item -/
def ixo {α : Type} [DecidableEq α] (l : List α) (x : α) : Nat := l.idxOf x
theorem ixo_lt {α : Type} [DecidableEq α] {l : List α} {x : α} (h : x ∈ l) : ixo l x < l.length := List.idxOf_lt_length_of_mem h
theorem ixo_inj {α : Type} [DecidableEq α] {l : List α} {x y : α} (h : x ∈ l) (q : ixo l x = ixo l y) : x = y := idx_inj h q
theorem ixo_get {α : Type} [DecidableEq α] {l : List α} (nd : l.Nodup) {v : Nat} (h : v < l.length) : ixo l l[v] = v := nd.idxOf_getElem v h
theorem ixo_app {α : Type} [DecidableEq α] {l z : List α} {x : α} (h : x ∈ l) : ixo (l ++ z) x = ixo l x := by
  unfold ixo; rw [List.idxOf_append, if_pos h]
theorem ixo_new {α : Type} [DecidableEq α] {l : List α} {x : α} (h : x ∉ l) : ixo (l ++ [x]) x = l.length := by
  unfold ixo; rw [List.idxOf_append, if_neg h]; simp
section
variable {κ : Type} [DecidableEq κ]
def mapr (c : Nat → κ) (r : List (ε × Nat)) : List (ε × κ) := r.map fun p => (p.1, c p.2)
def look (t : Tb ε) (c : Nat → κ) (s : Nat) : κ × List (ε × κ) := (c s, mapr c (row t s))
def looks (t : Tb ε) (c : Nat → κ) (o : List Nat) : List (κ × List (ε × κ)) := o.map (look t c)
/-- the finer kinds -/
def finer (t : Tb ε) (c : Nat → κ) (o : List Nat) (s : Nat) : Nat := ixo (nub (looks t c o)) (look t c s)
/-- how many -/
def many (t : Tb ε) (c : Nat → κ) (o : List Nat) : Nat := (nub (looks t c o)).length
theorem many_le {t : Tb ε} {c : Nat → κ} {o : List Nat} : many t c o ≤ o.length := by
  have := nub_len (xs := looks t c o)
  unfold many
  rw [looks, List.length_map] at this
  exact this
theorem look_mem {t : Tb ε} {c : Nat → κ} {o : List Nat} {s : Nat} (h : s ∈ o) : look t c s ∈ nub (looks t c o) := mem_nub.mpr (List.mem_map.mpr ⟨s, h, rfl⟩)
theorem finer_lt {t : Tb ε} {c : Nat → κ} {o : List Nat} {s : Nat} (h : s ∈ o) : finer t c o s < many t c o := ixo_lt (look_mem h)
theorem finer_iff {t : Tb ε} {c : Nat → κ} {o : List Nat} {s s' : Nat} (h : s ∈ o) (h' : s' ∈ o) : finer t c o s = finer t c o s' ↔ look t c s = look t c s' :=
  ⟨fun q => ixo_inj (look_mem h) q, fun q => by unfold finer; rw [q]⟩
theorem finer_sur {t : Tb ε} {c : Nat → κ} {o : List Nat} {v : Nat} (h : v < many t c o) : ∃ s ∈ o, finer t c o s = v := by
  have : (nub (looks t c o))[v] ∈ looks t c o := mem_nub.mp (List.getElem_mem h)
  obtain ⟨s, hs, e⟩ := List.mem_map.mp this
  exact ⟨s, hs, by unfold finer; rw [e]; exact ixo_get nodup_nub h⟩
end
/-- kinds so far: as coarse as the behaviour -/
def Co {κ : Type} (t : Tb ε) (m : Nat → Bool) (o : List Nat) (c : Nat → κ) : Prop := ∀ a ∈ o, ∀ b ∈ o, Eqv t m t m a b → c a = c b
def Mk {κ : Type} (m : Nat → Bool) (o : List Nat) (c : Nat → κ) : Prop := ∀ a ∈ o, ∀ b ∈ o, c a = c b → m a = m b
theorem Eqv.names {lt : ε → ε → Prop} (hs : Srt lt) {t t' : Tb ε} {m m' : Nat → Bool} (ha : Asc lt t) (ha' : Asc lt t') {a b : Nat} (h : Eqv t m t' m' a b) : (row t a).map (·.1) = (row t' b).map (·.1) := by
  have one : ∀ {t t' : Tb ε} {m m' : Nat → Bool} {a b : Nat}, Nd t → Nd t' → Eqv t m t' m' a b → ∀ e, e ∈ (row t a).map (·.1) → e ∈ (row t' b).map (·.1) := by
    intro t t' m m' a b n n' h e he
    obtain ⟨p, hp, rfl⟩ := List.mem_map.mp he
    obtain ⟨b', h1, _⟩ := h.sm (nxt_of n (show (p.1, p.2) ∈ row t a from hp))
    exact List.mem_map.mpr ⟨_, nxt_mem h1, rfl⟩
  exact srt_eq hs (ha a) (ha' b) fun e => ⟨one (ha.nd hs) (ha'.nd hs) h e, one (ha'.nd hs) (ha.nd hs) h.symm e⟩
theorem rows_eq {κ : Type} {c d : Nat → κ} : ∀ {x y : List (ε × Nat)}, (x.map (·.1)).Nodup → x.map (·.1) = y.map (·.1) → (∀ e a b, (e, a) ∈ x → (e, b) ∈ y → c a = d b) → mapr c x = mapr d y
  | [], [], _, _, _ => rfl
  | [], p :: y, _, h, _ => by simp at h
  | p :: x, [], _, h, _ => by simp at h
  | (e, a) :: x, (e', b) :: y, nd, h, k => by
    simp only [List.map_cons, List.cons.injEq] at h
    obtain ⟨h1, h2⟩ := h
    subst h1
    simp only [List.map_cons, List.nodup_cons] at nd
    have := rows_eq (c := c) (d := d) nd.2 h2 fun e a b ha hb => k e a b (List.mem_cons_of_mem _ ha) (List.mem_cons_of_mem _ hb)
    unfold mapr at this ⊢
    rw [List.map_cons, List.map_cons, this, k e a b List.mem_cons_self List.mem_cons_self]
theorem Eqv.mapr {κ : Type} {lt : ε → ε → Prop} (hs : Srt lt) {t t' : Tb ε} {m m' : Nat → Bool} (ha : Asc lt t) (ha' : Asc lt t') {a b : Nat} (h : Eqv t m t' m' a b) {c d : Nat → κ} (k : ∀ e x y, nxt t a e = some x → nxt t' b e = some y → Eqv t m t' m' x y → c x = d y) : KN.mapr c (row t a) = KN.mapr d (row t' b) := by
  refine rows_eq ((ha.nd hs) a) (h.names hs ha ha') fun e x y hx hy => ?_
  have h1 := nxt_of (ha.nd hs) hx
  obtain ⟨y', h2, h3⟩ := h.sm h1
  have h4 := nxt_of (ha'.nd hs) hy
  rw [h2] at h4
  cases h4
  exact k e x _ h1 h2 h3
section
variable {lt : ε → ε → Prop} {t : Tb ε} {m : Nat → Bool} {o : List Nat} {κ : Type} [DecidableEq κ] {c : Nat → κ}
theorem Co.finer (hs : Srt lt) (ha : Asc lt t) (ho : Rch t o) (h : Co t m o c) : Co t m o (finer t c o) := fun a hx b hy q => by
  rw [finer_iff hx hy]
  unfold look
  rw [h a hx b hy q, Eqv.mapr hs ha ha q (c := c) (d := c) fun e x y h1 h2 h3 => h x (ho.nxt hx h1) y (ho.nxt hy h2) h3]
theorem Mk.finer (h : Mk m o c) : Mk m o (KN.finer t c o) := fun a hx b hy q => by
  rw [finer_iff hx hy] at q
  exact h a hx b hy (congrArg Prod.fst q)
/-- kinds whose number does not grow any more -/
structure Kd (t : Tb ε) (m : Nat → Bool) (o : List Nat) (c : Nat → Nat) (n : Nat) : Prop where
  co : Co t m o c
  mrk : Mk m o c
  st : ∀ a ∈ o, ∀ b ∈ o, c a = c b → mapr c (row t a) = mapr c (row t b)
  lt : ∀ a ∈ o, c a < n
  nb : nub (o.map c) = List.range n
end
/-- numbers by first places -/
theorem nub_idx {α β : Type} [DecidableEq α] [DecidableEq β] (f : α → β) (inj : ∀ a b, f a = f b → a = b) : ∀ xs : List α, nub (xs.map f) = (nub xs).map f := by
  intro xs
  induction xs using list_snoc_ind with
  | h0 => rfl
  | hs xs x ih =>
    rw [List.map_append, List.map_cons, List.map_nil, nub_snoc, nub_snoc, ih]
    by_cases q : x ∈ nub xs
    · rw [if_pos q, if_pos (List.mem_map.mpr ⟨x, q, rfl⟩)]
    · rw [if_neg q, if_neg (fun z => by
        obtain ⟨y, hy, e⟩ := List.mem_map.mp z
        rw [inj y x e] at hy
        exact q hy), List.map_append]
      rfl
theorem nub_pre {α : Type} [DecidableEq α] {xs : List α} {x : α} : ∃ z, nub (xs ++ [x]) = nub xs ++ z := by
  rw [nub_snoc]; split
  · exact ⟨[], by simp⟩
  · exact ⟨_, rfl⟩
theorem nub_numb {α : Type} [DecidableEq α] : ∀ xs : List α, nub (xs.map fun x => ixo (nub xs) x) = List.range (nub xs).length := by
  have key : ∀ (xs : List α) (L : List α), (∃ z, L = nub xs ++ z) → L.Nodup → nub (xs.map fun x => ixo L x) = List.range (nub xs).length := by
    intro xs
    induction xs using list_snoc_ind with
    | h0 => intro L _ _; rfl
    | hs xs x ih =>
      intro L hL nd
      obtain ⟨z, hz⟩ := hL
      obtain ⟨z2, hz2⟩ := nub_pre (xs := xs) (x := x)
      have i := ih L ⟨z2 ++ z, by rw [hz, hz2, List.append_assoc]⟩ nd
      rw [List.map_append, List.map_cons, List.map_nil, nub_snoc, i, nub_snoc]
      by_cases q : x ∈ nub xs
      · rw [if_pos q]
        have : ixo L x ∈ List.range (nub xs).length := by
          rw [List.mem_range, hz, hz2, List.append_assoc, ixo_app q]
          exact ixo_lt q
        rw [if_pos this]
      · rw [if_neg q]
        have e : ixo L x = (nub xs).length := by
          rw [hz, nub_snoc, if_neg q, ixo_app (by simp), ixo_new q]
        rw [e, if_neg (by simp), List.length_append, List.length_singleton, List.range_succ]
  exact fun xs => key xs _ ⟨[], by simp⟩ nodup_nub
/-- at the end of the refinement -/
theorem kd_of {lt : ε → ε → Prop} (hs : Srt lt) {t : Tb ε} {m : Nat → Bool} {o : List Nat} {κ : Type} [DecidableEq κ] {p : Nat → κ} (ha : Asc lt t) (ho : Rch t o) (hc : Co t m o p) (hm : Mk m o p) (hn : many t (finer t p o) o = many t p o) : Kd t m o (finer t p o) (many t p o) := by
  refine ⟨hc.finer hs ha ho, hm.finer, fun a hx b hy q => ?_, fun a hx => finer_lt hx, ?_⟩
  · have h := same_part (n := o.length) (mc := many t (finer t p o) o) (mp := many t p o) (c := fun i => finer t (finer t p o) o (o.getD i 0)) (p := fun i => finer t p o (o.getD i 0))
      (fun i hi => finer_lt (by rw [List.getD_eq_getElem?_getD, List.getElem?_eq_getElem hi]; exact List.getElem_mem hi))
      (fun v hv => by
        obtain ⟨s, hs', e⟩ := finer_sur hv
        obtain ⟨i, hi⟩ := List.mem_iff_getElem?.mp hs'
        refine ⟨i, (List.getElem?_eq_some_iff.mp hi).1, ?_⟩
        simp only [List.getD_eq_getElem?_getD, hi, Option.getD_some, e])
      (fun i hi => finer_lt (by rw [List.getD_eq_getElem?_getD, List.getElem?_eq_getElem hi]; exact List.getElem_mem hi))
      (fun i j hi hj q => by
        have mi : o.getD i 0 ∈ o := by rw [List.getD_eq_getElem?_getD, List.getElem?_eq_getElem hi]; exact List.getElem_mem hi
        have mj : o.getD j 0 ∈ o := by rw [List.getD_eq_getElem?_getD, List.getElem?_eq_getElem hj]; exact List.getElem_mem hj
        exact congrArg Prod.fst ((finer_iff mi mj).mp q)) (by omega)
    obtain ⟨i, hi⟩ := List.mem_iff_getElem?.mp hx
    obtain ⟨j, hj⟩ := List.mem_iff_getElem?.mp hy
    have := h i j (List.getElem?_eq_some_iff.mp hi).1 (List.getElem?_eq_some_iff.mp hj).1 (by simp only [List.getD_eq_getElem?_getD, hi, hj, Option.getD_some]; exact q)
    simp only [List.getD_eq_getElem?_getD, hi, hj, Option.getD_some] at this
    exact congrArg Prod.snd ((finer_iff hx hy).mp this)
  · have := nub_numb (looks t p o)
    unfold looks at this
    rw [List.map_map] at this
    exact this
theorem many_mono {t : Tb ε} {o : List Nat} {κ : Type} [DecidableEq κ] {p : Nat → κ} : many t p o ≤ many t (finer t p o) o := by
  have h1 : ∀ v, v < many t p o → ∃ s ∈ o, finer t p o s = v := fun v hv => finer_sur hv
  unfold many
  have nd : ((List.range (many t p o)).map fun v => (if h : v < many t p o then look t (finer t p o) (h1 v h).choose else look t (finer t p o) 0)).Nodup := by
    unfold List.Nodup
    rw [List.pairwise_map]
    refine List.Pairwise.imp_of_mem ?_ (List.nodup_range (n := many t p o))
    intro v w hv hw n e
    rw [List.mem_range] at hv hw
    rw [dif_pos hv, dif_pos hw] at e
    have := congrArg Prod.fst e
    simp only [look] at this
    rw [(h1 v hv).choose_spec.2, (h1 w hw).choose_spec.2] at this
    exact n this
  have := nodup_len nd (ys := nub (looks t (finer t p o) o)) fun x hx => by
    obtain ⟨v, hv, e⟩ := List.mem_map.mp hx
    rw [List.mem_range] at hv
    rw [dif_pos hv] at e
    rw [← e]
    exact look_mem (h1 v hv).choose_spec.1
  simpa [many] using this
end KN
set_option linter.all false
/-! KN3: the least table: it behaves as the machine, and it is told by the behaviour. -/
namespace KN
open KM
variable {ε : Type} [DecidableEq ε]
def rep1 (c : Nat → Nat) (acc : List Nat) (s : Nat) : List Nat := if c s = acc.length then acc ++ [s] else acc
def reps (c : Nat → Nat) (o : List Nat) : List Nat := o.foldl (rep1 c) []
theorem reps_snoc {c : Nat → Nat} {o : List Nat} {s : Nat} : reps c (o ++ [s]) = rep1 c (reps c o) s := by
  unfold reps; rw [List.foldl_append]; rfl
def tab (t : Tb ε) (c : Nat → Nat) (o : List Nat) : Tb ε := (reps c o).map fun s => mapr c (row t s)
def told (m : Nat → Bool) (c : Nat → Nat) (o : List Nat) : List Bool := (reps c o).map m
def mkf (bs : List Bool) (i : Nat) : Bool := bs.getD i false
theorem nub_app {α : Type} [DecidableEq α] {xs : List α} : ∀ {ys : List α}, ∃ z, nub (xs ++ ys) = nub xs ++ z := by
  intro ys
  induction ys using list_snoc_ind with
  | h0 => exact ⟨[], by simp⟩
  | hs ys y ih =>
    obtain ⟨z, hz⟩ := ih
    obtain ⟨z2, hz2⟩ := nub_pre (xs := xs ++ ys) (x := y)
    exact ⟨z ++ z2, by rw [← List.append_assoc, hz2, hz, List.append_assoc]⟩
/-- the representatives, as far as they go -/
theorem reps_ok {c : Nat → Nat} {n : Nat} {o : List Nat} (h : nub (o.map c) = List.range n) : ∀ (o1 o2 : List Nat), o = o1 ++ o2 → nub (o1.map c) = List.range (reps c o1).length ∧ (∀ i s, (reps c o1)[i]? = some s → c s = i ∧ s ∈ o1) := by
  intro o1
  induction o1 using list_snoc_ind with
  | h0 => intro o2 _; exact ⟨rfl, fun i s h => by simp [reps] at h⟩
  | hs o1 s ih =>
    intro o2 e
    obtain ⟨i1, i2⟩ := ih ([s] ++ o2) (by rw [e, List.append_assoc])
    obtain ⟨z, hz⟩ := nub_app (xs := (o1 ++ [s]).map c) (ys := o2.map c)
    rw [← List.map_append, ← e, h] at hz
    rw [reps_snoc, List.map_append, List.map_cons, List.map_nil, nub_snoc, i1]
    rw [List.map_append, List.map_cons, List.map_nil, nub_snoc, i1] at hz
    unfold rep1
    by_cases q : c s ∈ List.range (reps c o1).length
    · rw [if_pos q]
      rw [List.mem_range] at q
      rw [if_neg (by omega)]
      exact ⟨rfl, fun i x hx => ⟨(i2 i x hx).1, List.mem_append_left _ (i2 i x hx).2⟩⟩
    · rw [if_neg q] at hz ⊢
      have e2 : c s = (reps c o1).length := by
        have h1 : (List.range n)[(reps c o1).length]? = some (c s) := by rw [hz]; simp
        rw [List.getElem?_range (by
          have := (List.getElem?_eq_some_iff.mp h1).1
          simpa using this)] at h1
        injection h1 with h1
        exact h1.symm
      rw [if_pos e2]
      refine ⟨by rw [List.length_append, List.length_singleton, List.range_succ, e2], fun i x hx => ?_⟩
      rw [List.getElem?_append] at hx
      split at hx
      · exact ⟨(i2 i x hx).1, List.mem_append_left _ (i2 i x hx).2⟩
      · rename_i hi
        have := (List.getElem?_eq_some_iff.mp hx).1
        simp only [List.length_singleton] at this
        have ei : i = (reps c o1).length := by omega
        subst ei
        simp at hx
        subst hx
        exact ⟨e2, by simp⟩
section
variable {lt : ε → ε → Prop} {t : Tb ε} {m : Nat → Bool} {o : List Nat} {c : Nat → Nat} {n : Nat}
theorem Kd.reps_len (h : Kd t m o c n) : (reps c o).length = n := by
  have := (reps_ok h.nb o [] (by simp)).1
  rw [h.nb] at this
  have e := congrArg List.length this
  simpa using e.symm
theorem Kd.rep (h : Kd t m o c n) {i : Nat} (hi : i < n) : ∃ s, (reps c o)[i]? = some s ∧ c s = i ∧ s ∈ o := by
  have l := h.reps_len
  have g : (reps c o)[i]? = some ((reps c o)[i]'(by omega)) := List.getElem?_eq_getElem (by omega)
  obtain ⟨a, b⟩ := (reps_ok h.nb o [] (by simp)).2 i _ g
  exact ⟨_, g, a, b⟩
theorem Kd.len (h : Kd t m o c n) : (tab t c o).length = n := by unfold tab; rw [List.length_map, h.reps_len]
theorem Kd.row (h : Kd t m o c n) {s : Nat} (hs : s ∈ o) : row (tab t c o) (c s) = mapr c (row t s) := by
  obtain ⟨r, h1, h2, h3⟩ := h.rep (h.lt s hs)
  unfold KN.row tab
  rw [List.getD_eq_getElem?_getD, List.getElem?_map, h1]
  show mapr c (KN.row t r) = _
  exact h.st r h3 s hs h2
theorem Kd.mark (h : Kd t m o c n) {s : Nat} (hs : s ∈ o) : mkf (told m c o) (c s) = m s := by
  obtain ⟨r, h1, h2, h3⟩ := h.rep (h.lt s hs)
  unfold mkf told
  rw [List.getD_eq_getElem?_getD, List.getElem?_map, h1]
  exact h.mrk r h3 s hs h2
theorem nxt_mapr {t t' : Tb ε} {c : Nat → Nat} {a b : Nat} (h : row t' b = mapr c (row t a)) (e : ε) : nxt t' b e = (nxt t a e).map c := by
  unfold nxt
  rw [h]
  unfold mapr
  rw [List.find?_map, Option.map_map, Option.map_map]
  rfl
theorem Kd.nxt (h : Kd t m o c n) {s : Nat} (hs : s ∈ o) (e : ε) : nxt (tab t c o) (c s) e = (nxt t s e).map c := nxt_mapr (h.row hs) e
/-- the table behaves as the machine -/
theorem Kd.eqv (h : Kd t m o c n) (ho : Rch t o) {s : Nat} (hs : s ∈ o) : Eqv t m (tab t c o) (mkf (told m c o)) s (c s) := by
  refine Eqv.of_bis (fun a b => a ∈ o ∧ b = c a) (fun a b ⟨ha, hb⟩ => by rw [hb, h.mark ha]) (fun a b e a' ⟨ha, hb⟩ q => ⟨c a', by rw [hb, h.nxt ha, q]; rfl, ho.nxt ha q, rfl⟩) (fun a b e ⟨ha, hb⟩ q => by rw [hb, h.nxt ha, q]; rfl) s (c s) ⟨hs, rfl⟩
theorem row_none {t : Tb ε} {s : Nat} (h : t.length ≤ s) : row t s = [] := by
  unfold row; rw [List.getD_eq_getElem?_getD, List.getElem?_eq_none h]; rfl
theorem Kd.rows (h : Kd t m o c n) {P : List (ε × Nat) → Prop} (h0 : P []) (hP : ∀ s ∈ o, P (mapr c (KN.row t s))) (i : Nat) : P (KN.row (tab t c o) i) := by
  by_cases q : i < n
  · obtain ⟨s, _, h2, h3⟩ := h.rep q
    have := h.row h3
    rw [h2] at this
    rw [this]
    exact hP s h3
  · rw [row_none (by rw [h.len]; omega)]
    exact h0
theorem Kd.fit (h : Kd t m o c n) (ho : Rch t o) : Fit (tab t c o) := by
  refine ⟨by rw [h.len]; exact Nat.lt_of_le_of_lt (Nat.zero_le _) (h.lt 0 ho.mem0), h.rows (P := fun r => ∀ p ∈ r, p.2 < (tab t c o).length) (fun p hp => by cases hp) fun s hs p hp => ?_⟩
  obtain ⟨q, hq, rfl⟩ := List.mem_map.mp hp
  rw [h.len]
  exact h.lt _ (ho.cl s hs q hq)
theorem Kd.asc (h : Kd t m o c n) (ha : Asc lt t) : Asc lt (tab t c o) := fun i => h.rows (P := fun r => (r.map (·.1)).Pairwise lt) .nil (fun s hs => by
  unfold mapr
  rw [List.map_map]
  exact ha s) i
theorem Kd.apart (h : Kd t m o c n) (ho : Rch t o) {a b : Nat} (ha : a < n) (hb : b < n) (q : Eqv (tab t c o) (mkf (told m c o)) (tab t c o) (mkf (told m c o)) a b) : a = b := by
  obtain ⟨s, _, h2, h3⟩ := h.rep ha
  obtain ⟨r, _, k2, k3⟩ := h.rep hb
  have e1 := h.eqv ho h3
  have e2 := h.eqv ho k3
  rw [h2] at e1
  rw [k2] at e2
  have := h.co s h3 r k3 ((e1.trans q).trans e2.symm)
  omega
theorem nub_adds (c : Nat → Nat) : ∀ (r : List (ε × Nat)) (o : List Nat), nub ((adds o r).map c) = adds (nub (o.map c)) (mapr c r) := by
  intro r
  induction r using list_snoc_ind with
  | h0 => intro o; rfl
  | hs r p ih =>
    intro o
    unfold mapr
    rw [List.map_append, List.map_cons, List.map_nil, adds_snoc, adds_snoc]
    have ih := ih o
    unfold mapr at ih
    rw [← ih]
    unfold add1
    by_cases q : p.2 ∈ adds o r
    · rw [if_pos q, if_pos (mem_nub.mpr (List.mem_map.mpr ⟨_, q, rfl⟩))]
    · rw [if_neg q, List.map_append, List.map_cons, List.map_nil, nub_snoc]
theorem adds_id : ∀ {r : List (ε × Nat)} {o : List Nat}, (∀ p ∈ r, p.2 ∈ o) → adds o r = o := by
  intro r
  induction r with
  | nil => intro o _; rfl
  | cons p r ih =>
    intro o h
    rw [show adds o (p :: r) = adds (add1 o p) r from rfl]
    unfold add1
    rw [if_pos (h p List.mem_cons_self)]
    exact ih fun q hq => h q (List.mem_cons_of_mem _ hq)
/-- the table's states are numbered as they are first reached -/
theorem Kd.first (hf : Fit t) (hn : Nd t) (hs : Srt lt) (ha : Asc lt t) (h : Kd t m (ordr t) c n) : ordr (tab t c (ordr t)) = List.range n := by
  have ho := rch hf hn
  have fT := h.fit ho
  have nT : Nd (tab t c (ordr t)) := (h.asc ha).nd hs
  have key : ∀ (k : Nat) (o : List Nat), Bf t k o → ∃ o2, ordr t = o ++ o2 := by
    have : ∀ (n k : Nat) (o : List Nat), n = t.length - k → Bf t k o → ∃ o2, ordr t = o ++ o2 := by
      intro n
      induction n using Nat.strongRecOn with
      | ind n ih =>
        intro k o hn' hb
        by_cases q : k < o.length
        · have l := hb.len
          obtain ⟨z, hz⟩ := ih (t.length - (k + 1)) (by omega) (k + 1) _ rfl (hb.step hf hn (List.getElem?_eq_getElem q))
          obtain ⟨y, hy⟩ := adds_ext (KN.row t o[k]) o
          exact ⟨y ++ z, by rw [hz, hy, List.append_assoc]⟩
        · exact ⟨[], by rw [hb.done (by omega)]; simp⟩
    exact fun k o => this _ k o rfl
  have main : ∀ (d k : Nat) (o : List Nat), d = t.length - k → Bf t k o → Bf (tab t c (ordr t)) (nub ((o.take k).map c)).length (nub (o.map c)) → ordr (tab t c (ordr t)) = List.range n := by
    intro d
    induction d using Nat.strongRecOn with
    | ind d ih =>
      intro k o hd hb hT
      by_cases q : k < o.length
      · have l := hb.len
        have hk : o[k]? = some o[k] := List.getElem?_eq_getElem q
        generalize hsv : o[k] = s at hk
        have hb2 := hb.step hf hn hk
        obtain ⟨o2, e2⟩ := key _ _ hb
        have so : s ∈ ordr t := by rw [e2]; exact List.mem_append_left _ (List.mem_of_getElem? hk)
        obtain ⟨z, hz⟩ := adds_ext (KN.row t s) o
        have tk : (adds o (KN.row t s)).take (k + 1) = o.take k ++ [s] := by
          rw [hz, List.take_append_of_le_length (by omega), List.take_succ, hk]
          rfl
        refine ih (t.length - (k + 1)) (by omega) (k + 1) _ rfl hb2 ?_
        rw [tk, List.map_append, List.map_cons, List.map_nil, nub_snoc, nub_adds]
        by_cases w : c s ∈ nub ((o.take k).map c)
        · rw [if_pos w]
          obtain ⟨x, hx, ex⟩ := List.mem_map.mp (mem_nub.mp w)
          obtain ⟨i, hi⟩ := List.mem_iff_getElem?.mp hx
          rw [List.getElem?_take] at hi
          split at hi
          · rename_i hik
            have xo : x ∈ ordr t := by rw [e2]; exact List.mem_append_left _ (List.mem_of_getElem? hi)
            rw [← h.st x xo s so ex, adds_id fun p hp => ?_]
            · exact hT
            · obtain ⟨p', hp', rfl⟩ := List.mem_map.mp hp
              exact mem_nub.mpr (List.mem_map.mpr ⟨_, hb.cl i x hik hi p' hp', rfl⟩)
          · cases hi
        · rw [if_neg w, List.length_append, List.length_singleton]
          rw [← h.row so]
          refine hT.step fT nT ?_
          have : o = o.take k ++ s :: o.drop (k + 1) := by
            rw [← hsv, ← List.drop_eq_getElem_cons q, List.take_append_drop]
          obtain ⟨z2, hz2⟩ := nub_app (xs := (o.take k ++ [s]).map c) (ys := (o.drop (k + 1)).map c)
          rw [← List.map_append, List.append_assoc, List.singleton_append, ← this] at hz2
          rw [hz2, List.map_append, List.map_cons, List.map_nil, nub_snoc, if_neg w]
          simp
      · have e := hb.done (by omega)
        have le := hb.le
        subst e
        have hk : k = (ordr t).length := by omega
        rw [hk, List.take_length, h.nb] at hT
        exact (hT.done (by simp)).symm
  have c0 : c 0 = 0 := by
    have z := ho.z
    cases e : ordr t with
    | nil => rw [e] at z; cases z
    | cons x r =>
      rw [e] at z
      have : x = 0 := by simpa using z
      subst this
      have h1 := (nub_cons (x := c 0) (xs := r.map c)).2
      have h2 := h.nb
      rw [e, List.map_cons] at h2
      rw [h2] at h1
      obtain ⟨l, q⟩ := List.getElem?_eq_some_iff.mp h1
      rw [List.getElem_range] at q
      exact q.symm
  exact main _ 0 [0] rfl (Bf.init hf) (by
    have e1 : nub ([0].map c) = [0] := by
      show nub [c 0] = [0]
      rw [c0]
      rfl
    rw [e1]
    exact Bf.init fT)
end
/-- a least form -/
structure Canon (lt : ε → ε → Prop) (T : Tb ε) (M : Nat → Bool) : Prop where
  fit : Fit T
  asc : Asc lt T
  ord : ordr T = List.range T.length
  ap : ∀ a b, a < T.length → b < T.length → Eqv T M T M a b → a = b
theorem Kd.canon {lt : ε → ε → Prop} {t : Tb ε} {m : Nat → Bool} {c : Nat → Nat} {n : Nat} (hf : Fit t) (hs : Srt lt) (ha : Asc lt t) (h : Kd t m (ordr t) c n) : Canon lt (tab t c (ordr t)) (mkf (told m c (ordr t))) := by
  have ho := rch hf (ha.nd hs)
  exact ⟨h.fit ho, h.asc ha, by rw [h.len]; exact h.first hf (ha.nd hs) hs ha, fun a b x y q => h.apart ho (by rw [h.len] at x; exact x) (by rw [h.len] at y; exact y) q⟩
/-- two least forms of the same behaviour are the same -/
theorem Canon.uniq {lt : ε → ε → Prop} (hs : Srt lt) {T T' : Tb ε} {M M' : Nat → Bool} (h : Canon lt T M) (h' : Canon lt T' M') (h0 : Eqv T M T' M' 0 0) : T = T' ∧ ∀ i, i < T.length → M i = M' i := by
  have nT := h.asc.nd hs
  have nT' := h'.asc.nd hs
  let X : Nat → Nat → Prop := fun a b => Eqv T M T' M' a b ∧ a < T.length ∧ b < T'.length
  have sm : ∀ {o o' : List Nat}, Pd X o o' → ∀ {a b : Nat}, X a b → (a ∈ o ↔ b ∈ o') := by
    intro o o' pd
    induction pd with
    | nil => intro a b _; simp
    | cons q _ ih =>
      rename_i x y xs ys _
      intro a b w
      rw [List.mem_cons, List.mem_cons, ih w]
      have : a = x ↔ b = y := by
        constructor
        · intro e
          subst e
          exact h'.ap _ _ w.2.2 q.2.2 (w.1.symm.trans q.1)
        · intro e
          subst e
          exact h.ap _ _ w.2.1 q.2.1 (w.1.trans q.1.symm)
      rw [this]
  have ad : ∀ (r r' : List (ε × Nat)), r.length = r'.length → (∀ (i : Nat) p q, r[i]? = some p → r'[i]? = some q → X p.2 q.2) → ∀ {o o' : List Nat}, Pd X o o' → Pd X (adds o r) (adds o' r') := by
    intro r
    induction r with
    | nil => intro r' hl _ o o' pd; cases r' with
      | nil => exact pd
      | cons _ _ => cases hl
    | cons p r ih =>
      intro r' hl hx o o' pd
      cases r' with
      | nil => cases hl
      | cons q r' =>
        refine ih r' (by simpa using hl) (fun i p q a b => hx (i + 1) p q (by simpa using a) (by simpa using b)) ?_
        have w := hx 0 p q rfl rfl
        unfold add1
        by_cases z : p.2 ∈ o
        · rw [if_pos z, if_pos ((sm pd w).mp z)]; exact pd
        · rw [if_neg z, if_neg fun y => z ((sm pd w).mpr y)]; exact pd.snoc w
  have rl : ∀ {a b : Nat}, X a b → (row T a).length = (row T' b).length ∧ ∀ (i : Nat) p q, (row T a)[i]? = some p → (row T' b)[i]? = some q → p.1 = q.1 ∧ X p.2 q.2 := by
    intro a b w
    have nm := w.1.names hs h.asc h'.asc
    refine ⟨by have := congrArg List.length nm; simpa using this, fun i p q hp hq => ?_⟩
    have e1 : p.1 = q.1 := by
      have := congrArg (fun l => l[i]?) nm
      simp only [List.getElem?_map, hp, hq, Option.map_some, Option.some.injEq] at this
      exact this
    have mp := List.mem_of_getElem? hp
    have mq := List.mem_of_getElem? hq
    obtain ⟨b', x1, x2⟩ := w.1.sm (nxt_of nT (show (p.1, p.2) ∈ row T a from mp))
    have x3 := nxt_of nT' (show (q.1, q.2) ∈ row T' b from mq)
    rw [e1, x3] at x1
    cases x1
    exact ⟨e1, x2, h.fit.2 a p mp, h'.fit.2 b q mq⟩
  have go : ∀ (d k : Nat) (o o' : List Nat), d = T.length - k → Bf T k o → Bf T' k o' → Pd X o o' → Pd X (ordr T) (ordr T') := by
    intro d
    induction d using Nat.strongRecOn with
    | ind d ih =>
      intro k o o' hd b1 b2 pd
      by_cases q : k < o.length
      · have l := b1.len
        have e1 := List.getElem?_eq_getElem q
        obtain ⟨y, e2, w⟩ := pd.get e1
        obtain ⟨r1, r2⟩ := rl w
        exact ih (T.length - (k + 1)) (by omega) (k + 1) _ _ rfl (b1.step h.fit nT e1) (b2.step h'.fit nT' e2) (ad _ _ r1 (fun i p q a b => (r2 i p q a b).2) pd)
      · have le := pd.len
        rw [← b1.done (by omega), ← b2.done (by omega)]
        exact pd
  have fin := go _ 0 [0] [0] rfl (Bf.init h.fit) (Bf.init h'.fit) (Pd.snoc (xs := []) (ys := []) .nil ⟨h0, h.fit.1, h'.fit.1⟩)
  rw [h.ord, h'.ord] at fin
  have ln := fin.len
  simp only [List.length_range] at ln
  have xi : ∀ i, i < T.length → X i i := fun i hi => by
    obtain ⟨b, h1, h2⟩ := fin.get (k := i) (a := i) (List.getElem?_range hi)
    rw [List.getElem?_range (by omega)] at h1
    cases h1
    exact h2
  refine ⟨?_, fun i hi => (xi i hi).1.mark⟩
  apply List.ext_getElem ln
  intro i hi hi'
  have w := xi i hi
  have e1 : T[i] = row T i := by unfold row; rw [List.getD_eq_getElem?_getD, List.getElem?_eq_getElem hi]; rfl
  have e2 : T'[i] = row T' i := by unfold row; rw [List.getD_eq_getElem?_getD, List.getElem?_eq_getElem hi']; rfl
  rw [e1, e2]
  obtain ⟨r1, r2⟩ := rl w
  apply List.ext_getElem r1
  intro j hj hj'
  obtain ⟨a1, a2⟩ := r2 j _ _ (List.getElem?_eq_getElem hj) (List.getElem?_eq_getElem hj')
  have a3 : (row T i)[j].2 = (row T' i)[j].2 := by
    have x2 := xi _ a2.2.1
    have y2 := xi (row T' i)[j].2 (by rw [ln]; exact a2.2.2)
    exact h.ap _ _ a2.2.1 (by rw [ln]; exact a2.2.2) (a2.1.trans y2.1.symm)
  exact Prod.ext a1 a3
end KN
set_option linter.all false
set_option maxRecDepth 100000
/-! KN4: telling all states of a least form apart. -/
namespace KN
variable {ε : Type} [DecidableEq ε]
def sn (r : List (ε × Nat)) (k : Nat) : Nat := (r.map (·.2)).getD k 0
def stp (ra rb : List (ε × Nat)) : List (Nat × Nat) := (List.range ra.length).map fun k => (sn ra k, sn rb k)
/-- marked pairs are apart -/
structure Ap (T : Tb ε) (M : Nat → Bool) (D : List (Nat × Nat)) : Prop where
  nd : D.Nodup
  ok : ∀ p ∈ D, p.1 < T.length ∧ p.2 < T.length ∧ ¬ Eqv T M T M p.1 p.2
theorem Ap.add {T : Tb ε} {M : Nat → Bool} {D : List (Nat × Nat)} (h : Ap T M D) {a b : Nat} (ha : a < T.length) (hb : b < T.length) (hn : (a, b) ∉ D) (k : ¬ Eqv T M T M a b) : Ap T M (D ++ [(a, b)]) := by
  refine ⟨?_, fun q hq => ?_⟩
  · rw [List.nodup_append]
    exact ⟨h.nd, by simp, fun x hx y hy e => hn (by rw [List.mem_singleton] at hy; rw [← hy, ← e]; exact hx)⟩
  · rcases List.mem_append.mp hq with hq | hq
    · exact h.ok q hq
    · rw [List.mem_singleton.mp hq]; exact ⟨ha, hb, k⟩
/-- unmarked pairs look alike -/
def Lo (T : Tb ε) (M : Nat → Bool) (a b : Nat) : Prop := M a = M b ∧ (row T a).map (·.1) = (row T b).map (·.1)
def Hit (T : Tb ε) (D : List (Nat × Nat)) (a b : Nat) : Prop := ∃ p ∈ stp (row T a) (row T b), p ∈ D
theorem sn_at {r : List (ε × Nat)} {k : Nat} (h : k < r.length) : r[k]? = some (r[k].1, sn r k) := by
  have : sn r k = r[k].2 := by unfold sn; rw [List.getD_eq_getElem?_getD, List.getElem?_map, List.getElem?_eq_getElem h]; rfl
  rw [this, List.getElem?_eq_getElem h]
theorem names_at {ra rb : List (ε × Nat)} (h : ra.map (·.1) = rb.map (·.1)) {k : Nat} (hk : k < ra.length) : ∃ e, (e, sn ra k) ∈ ra ∧ (e, sn rb k) ∈ rb := by
  have hl : ra.length = rb.length := by simpa using congrArg List.length h
  have h1 : ra[k]? = some ra[k] := List.getElem?_eq_getElem hk
  have h2 : rb[k]? = some (rb[k]'(by omega)) := List.getElem?_eq_getElem (by omega)
  have h3 : (ra.map (·.1))[k]? = (rb.map (·.1))[k]? := by rw [h]
  rw [List.getElem?_map, List.getElem?_map, h1, h2] at h3
  injection h3 with h3
  refine ⟨ra[k].1, ?_, ?_⟩
  · have : sn ra k = ra[k].2 := by unfold sn; rw [List.getD_eq_getElem?_getD, List.getElem?_map, h1]; rfl
    rw [this]
    exact List.getElem_mem hk
  · have : sn rb k = (rb[k]'(by omega)).2 := by unfold sn; rw [List.getD_eq_getElem?_getD, List.getElem?_map, h2]; rfl
    rw [this]
    show (ra[k].1, _) ∈ rb
    dsimp only at h3
    rw [h3]
    exact List.getElem_mem _
theorem at_names {ra rb : List (ε × Nat)} (h : ra.map (·.1) = rb.map (·.1)) {e : ε} {x : Nat} (hx : (e, x) ∈ ra) : ∃ k, k < ra.length ∧ sn ra k = x ∧ (e, sn rb k) ∈ rb := by
  have hl : ra.length = rb.length := by simpa using congrArg List.length h
  obtain ⟨k, hk⟩ := List.mem_iff_getElem?.mp hx
  obtain ⟨kl, _⟩ := List.getElem?_eq_some_iff.mp hk
  have h2 : rb[k]? = some (rb[k]'(by omega)) := List.getElem?_eq_getElem (by omega)
  have h3 : (ra.map (·.1))[k]? = (rb.map (·.1))[k]? := by rw [h]
  rw [List.getElem?_map, List.getElem?_map, hk, h2] at h3
  injection h3 with h3
  dsimp only at h3
  refine ⟨k, kl, by unfold sn; rw [List.getD_eq_getElem?_getD, List.getElem?_map, hk]; rfl, ?_⟩
  have : sn rb k = (rb[k]'(by omega)).2 := by unfold sn; rw [List.getD_eq_getElem?_getD, List.getElem?_map, h2]; rfl
  rw [this, h3]
  exact List.getElem_mem _
theorem Ap.hit {T : Tb ε} {M : Nat → Bool} {D : List (Nat × Nat)} (h : Ap T M D) (hn : Nd T) {a b : Nat} (hl : Lo T M a b) (q : Hit T D a b) : ¬ Eqv T M T M a b := by
  intro E
  obtain ⟨p, hp, hd⟩ := q
  obtain ⟨k, hk, rfl⟩ := List.mem_map.mp hp
  obtain ⟨e, h1, h2⟩ := names_at hl.2 (List.mem_range.mp hk)
  obtain ⟨y, h3, h4⟩ := E.sm (nxt_of hn h1)
  rw [nxt_of hn h2] at h3
  injection h3 with h3
  subst h3
  exact (h.ok _ hd).2.2 h4
def Bas (T : Tb ε) (M : Nat → Bool) (D : List (Nat × Nat)) : Prop := ∀ a b, a < T.length → b < T.length → (a, b) ∉ D → Lo T M a b
def Stab (T : Tb ε) (D : List (Nat × Nat)) : Prop := ∀ a b, a < T.length → b < T.length → (a, b) ∉ D → ¬ Hit T D a b
theorem nxt_none {T : Tb ε} {a : Nat} {e : ε} : nxt T a e = none ↔ e ∉ (row T a).map (·.1) := by
  unfold nxt
  rw [Option.map_eq_none_iff, List.find?_eq_none]
  constructor
  · intro h m
    obtain ⟨p, hp, q⟩ := List.mem_map.mp m
    exact h p hp (by simpa using q)
  · intro h p hp q
    exact h (List.mem_map.mpr ⟨p, hp, by simpa using q⟩)
theorem stab_eqv {T : Tb ε} {M : Nat → Bool} {D : List (Nat × Nat)} (hf : Fit T) (hn : Nd T) (hb : Bas T M D) (hs : Stab T D) {a b : Nat} (ha : a < T.length) (hb' : b < T.length) (h : (a, b) ∉ D) : Eqv T M T M a b := by
  refine Eqv.of_bis (fun a b => a < T.length ∧ b < T.length ∧ (a, b) ∉ D) (fun a b h => (hb a b h.1 h.2.1 h.2.2).1) ?_ ?_ a b ⟨ha, hb', h⟩
  · rintro a b e a' ⟨h1, h2, h3⟩ q
    have lo := hb a b h1 h2 h3
    have m := nxt_mem q
    obtain ⟨k, kl, ke, km⟩ := at_names lo.2 m
    refine ⟨_, nxt_of hn km, hf.2 a _ m, hf.2 b _ km, fun z => hs a b h1 h2 h3 ⟨_, List.mem_map.mpr ⟨k, List.mem_range.mpr kl, rfl⟩, ?_⟩⟩
    rw [ke]
    exact z
  · rintro a b e ⟨h1, h2, h3⟩ q
    have lo := hb a b h1 h2 h3
    rw [nxt_none] at q ⊢
    rwa [← lo.2]
theorem flat_nodup (n m : Nat) : ((List.range n).flatMap fun a => (List.range m).map fun b => (a, b)).Nodup := by
  unfold List.Nodup
  rw [List.pairwise_flatMap]
  refine ⟨fun a _ => ?_, ?_⟩
  · rw [List.pairwise_map]
    exact (List.nodup_range (n := m)).imp fun {x y} n e => n (by injection e)
  · refine (List.nodup_range (n := n)).imp fun {x y} hxy p hp q hq e => ?_
    obtain ⟨_, _, rfl⟩ := List.mem_map.mp hp
    obtain ⟨_, _, rfl⟩ := List.mem_map.mp hq
    exact hxy (by injection e)
theorem flat_len (n m : Nat) : ((List.range n).flatMap fun a => (List.range m).map fun b => (a, b)).length = n * m := by
  rw [List.length_flatMap]
  simp only [List.length_map, List.length_range]
  rw [List.map_const', List.sum_replicate_nat, List.length_range]
theorem Ap.len {lt : ε → ε → Prop} (hs : Srt lt) {T : Tb ε} {M : Nat → Bool} (hc : Canon lt T M) {D : List (Nat × Nat)} (h : Ap T M D) (hb : Bas T M D) (st : Stab T D) : D.length + T.length = T.length * T.length := by
  have hn := hc.asc.nd hs
  have nd2 : (D ++ (List.range T.length).map fun a => (a, a)).Nodup := by
    rw [List.nodup_append]
    refine ⟨h.nd, ?_, fun x hx y hy e => ?_⟩
    · unfold List.Nodup
      rw [List.pairwise_map]
      exact (List.nodup_range (n := T.length)).imp fun {x y} n e => n (by injection e)
    · obtain ⟨a, _, rfl⟩ := List.mem_map.mp hy
      subst e
      exact (h.ok _ hx).2.2 Eqv.refl
  have l1 := KM.nodup_len nd2 (ys := (List.range T.length).flatMap fun a => (List.range T.length).map fun b => (a, b)) fun p hp => by
    have : p.1 < T.length ∧ p.2 < T.length := by
      rcases List.mem_append.mp hp with q | q
      · exact ⟨(h.ok p q).1, (h.ok p q).2.1⟩
      · obtain ⟨a, ha, rfl⟩ := List.mem_map.mp q
        exact ⟨List.mem_range.mp ha, List.mem_range.mp ha⟩
    rw [List.mem_flatMap]
    exact ⟨p.1, List.mem_range.mpr this.1, List.mem_map.mpr ⟨p.2, List.mem_range.mpr this.2, rfl⟩⟩
  have l2 := KM.nodup_len (flat_nodup T.length T.length) (ys := D ++ (List.range T.length).map fun a => (a, a)) fun p hp => by
    obtain ⟨a, ha, q⟩ := List.mem_flatMap.mp hp
    obtain ⟨b, hb', rfl⟩ := List.mem_map.mp q
    have ha := List.mem_range.mp ha
    have hb' := List.mem_range.mp hb'
    by_cases z : (a, b) ∈ D
    · exact List.mem_append_left _ z
    · have := hc.ap a b ha hb' (stab_eqv hc.fit hn hb st ha hb' z)
      subst this
      exact List.mem_append_right _ (List.mem_map.mpr ⟨a, List.mem_range.mpr ha, rfl⟩)
  rw [flat_len] at l1 l2
  simp at l1 l2
  omega
end KN
set_option linter.all false
set_option maxRecDepth 100000
/-! MG: helpers for the machines' laws, without program. -/
namespace VS
open PySem L2
theorem dfind_zip (g : Nat → Nat) (ks : List U) (k : U) : ∀ s : Nat, dfind ((ks.zipIdx s).map fun p => (p.1, U.int (p.2 : Nat))) k = if k ∈ ks then some (.int ((s + ks.idxOf k : Nat))) else none := by
  induction ks with
  | nil => intro s; rfl
  | cons x ks ih =>
    intro s
    rw [List.zipIdx_cons, List.map_cons, dfind_cons, ih (s + 1)]
    by_cases h : x = k
    · subst h; simp
    · rw [if_neg h]
      simp only [List.mem_cons, Ne.symm h, false_or]
      split
      · rw [List.idxOf_cons]
        have : (x == k) = false := by simpa using h
        rw [this]
        simp only [cond_false]
        congr 3
        omega
      · rfl
def encN (ks : List U) : List (U × U) := ks.zipIdx.map fun p => (p.1, U.int (p.2 : Nat))
theorem encN_len (ks : List U) : (encN ks).length = ks.length := by simp [encN]
theorem encN_snoc (ks : List U) (k : U) : encN (ks ++ [k]) = encN ks ++ [(k, .int (ks.length : Nat))] := by
  simp [encN, List.zipIdx_append]
theorem dfind_encN (ks : List U) (k : U) : dfind (encN ks) k = if k ∈ ks then some (.int (ks.idxOf k : Nat)) else none := by
  have := dfind_zip id ks k 0
  simpa [encN] using this
theorem enumL_map {α : Type} (g : α → U) (xs : List α) : enumL (xs.map g) = xs.zipIdx.map fun p => .tup [.int (p.2 : Nat), g p.1] := by
  unfold enumL
  rw [List.zipIdx_map, List.map_map]
  rfl
theorem mem_sortS {xs : List Str} {x : Str} : x ∈ sortS xs ↔ x ∈ xs := by unfold sortS; rw [List.mem_mergeSort]
theorem sortS_len {xs : List Str} : (sortS xs).length = xs.length := by unfold sortS; rw [List.length_mergeSort]
theorem lk_of_mem {s : List (Str × Nat)} {e : Str} (h : e ∈ s.map (·.1)) : ∃ k, KM.lk s e = some k ∧ (e, k) ∈ s := by
  obtain ⟨p, hp, rfl⟩ := List.mem_map.mp h
  have : (s.find? fun q => decide (q.1 = p.1)).isSome := by
    rw [List.find?_isSome]
    exact ⟨p, hp, by simp⟩
  obtain ⟨q, hq⟩ := Option.isSome_iff_exists.mp this
  have e1 : KM.lk s p.1 = some q.2 := by unfold KM.lk; rw [hq]; rfl
  exact ⟨q.2, e1, KM.lk_mem e1⟩
theorem nub_map {α β : Type} [DecidableEq α] [DecidableEq β] (g : α → β) (inj : ∀ a b, g a = g b → a = b) (xs : List α) : KM.nub (xs.map g) = (KM.nub xs).map g := by
  induction xs using KM.list_snoc_ind with
  | h0 => rfl
  | hs xs x ih =>
    rw [List.map_append, List.map_cons, List.map_nil, KM.nub_snoc, KM.nub_snoc, ih]
    have : g x ∈ (KM.nub xs).map g ↔ x ∈ KM.nub xs := by
      rw [List.mem_map]
      exact ⟨fun ⟨y, hy, e⟩ => inj _ _ e ▸ hy, fun h => ⟨x, h, rfl⟩⟩
    by_cases h : x ∈ KM.nub xs
    · rw [if_pos (this.mpr h), if_pos h]
    · rw [if_neg (fun z => h (this.mp z)), if_neg h]; simp
theorem idxOf_map {α β : Type} [DecidableEq α] [DecidableEq β] (g : α → β) (inj : ∀ a b, g a = g b → a = b) (x : α) : ∀ xs : List α, (xs.map g).idxOf (g x) = xs.idxOf x
  | [] => rfl
  | y :: r => by
    rw [List.map_cons, List.idxOf_cons, List.idxOf_cons, idxOf_map g inj x r]
    by_cases h : y = x
    · subst h; simp
    · have h2 : ¬ g y = g x := fun z => h (inj _ _ z)
      rw [show (g y == g x) = false from by simpa using h2, show (y == x) = false from by simpa using h]
theorem strs_inj {a b : List Str} (h : a.map U.str = b.map U.str) : a = b := by
  induction a generalizing b with
  | nil => cases b with
    | nil => rfl
    | cons => simp at h
  | cons x a ih => cases b with
    | nil => simp at h
    | cons y b =>
      simp only [List.map_cons, List.cons.injEq, U.str.injEq] at h
      rw [h.1, ih h.2]
theorem nats_inj {a b : List Nat} (h : a.map (fun k => U.int (k : Nat)) = b.map fun k => U.int (k : Nat)) : a = b := by
  induction a generalizing b with
  | nil => cases b with
    | nil => rfl
    | cons => simp at h
  | cons x a ih => cases b with
    | nil => simp at h
    | cons y b =>
      simp only [List.map_cons, List.cons.injEq, U.int.injEq] at h
      rw [Int.ofNat.inj h.1, ih h.2]
theorem okD_x {ks : List U} {k : U} (hk : isKx k = true) (h : ∀ x ∈ ks, isKx x = true ∧ cmpU x k = true) : okD (encN ks) k = true := by
  unfold okD
  rw [Bool.or_eq_true]
  right
  rw [Bool.and_eq_true]
  refine ⟨hk, ?_⟩
  rw [List.all_eq_true]
  intro p hp
  unfold encN at hp
  obtain ⟨q, hq, rfl⟩ := List.mem_map.mp hp
  have := h q.1 (List.mem_zipIdx hq |>.2.2 ▸ List.getElem_mem _)
  simp [this.1, this.2]
def isNm (x : Str) : Bool := decide (0 < x.length ∧ x.length ≤ 8) && x.cps.toList.all fun c => decide (c ∈ ("abcdefghijklmnopqrstuvwxyz" : Str).cps.toList)
theorem isNm_len {x : Str} (h : isNm x = true) : x.length ≤ 8 := by
  unfold isNm at h
  simp at h
  exact h.1.2
end VS
set_option linter.all false
set_option maxRecDepth 100000
/-! MG2: rows, sorted rows, as data. -/
namespace VS
open PySem L2
abbrev Row := List (Str × Nat)
def ltS (a b : Str) : Prop := a.cps.toList < b.cps.toList
theorem ltS_iff {a b : Str} : ltS a b ↔ leS b a = false := by
  unfold ltS leS
  rw [decide_eq_false_iff_not, List.not_le]
theorem srtS : KN.Srt ltS := ⟨fun a h => by rw [ltS_iff] at h; have := leS_total a a; simp [h] at this, fun a b h k => by
  rw [ltS_iff] at h k
  have := leS_total a b
  simp [h, k] at this⟩
def leR (p q : Str × Nat) : Bool := leS p.1 q.1
def sortN (r : Row) : Row := r.mergeSort leR
theorem sortN_perm (r : Row) : (sortN r).Perm r := List.mergeSort_perm _ _
theorem mem_sortN {r : Row} {p : Str × Nat} : p ∈ sortN r ↔ p ∈ r := (sortN_perm r).mem_iff
theorem sortN_len (r : Row) : (sortN r).length = r.length := (sortN_perm r).length_eq
theorem sortN_pair (r : Row) : (sortN r).Pairwise fun p q => leR p q = true := List.pairwise_mergeSort (fun a b c => leS_trans a.1 b.1 c.1) (fun a b => leS_total a.1 b.1) r
theorem sortN_asc {r : Row} (nd : (r.map (·.1)).Nodup) : ((sortN r).map (·.1)).Pairwise ltS := by
  have nd2 : ((sortN r).map (·.1)).Nodup := ((sortN_perm r).map (·.1)).nodup_iff.mpr nd
  rw [List.pairwise_map]
  unfold List.Nodup at nd2
  rw [List.pairwise_map] at nd2
  refine (sortN_pair r).imp₂ ?_ nd2
  intro p q h n
  rw [ltS_iff]
  cases z : leS q.1 p.1 with
  | false => rfl
  | true => exact absurd (leS_anti _ _ h z) n
def castI (p : Str × Nat) : Str × Int := (p.1, (p.2 : Int))
theorem sortK_cast {r : Row} (nd : (r.map (·.1)).Nodup) : sortK (r.map castI) = (sortN r).map castI := by
  refine (List.Perm.eq_of_pairwise (le := fun p q => leK p q = true) (fun a b _ _ h k => leK_anti a b h k) ?_ ?_ ((List.mergeSort_perm _ _).trans ((sortN_perm r).map castI).symm))
  · exact List.pairwise_mergeSort leK_trans leK_total _
  · rw [List.pairwise_map]
    have nd2 : ((sortN r).map (·.1)).Nodup := ((sortN_perm r).map (·.1)).nodup_iff.mpr nd
    unfold List.Nodup at nd2
    rw [List.pairwise_map] at nd2
    refine (sortN_pair r).imp₂ ?_ nd2
    intro p q h n
    rw [leK_iff]
    exact .inr ⟨n, h⟩
abbrev encP2 (p : Str × Nat) : U := .tup [.str p.1, .int (p.2 : Nat)]
abbrev encRw (r : Row) : U := .lst (r.map encP2)
abbrev encT (t : List Row) : U := .lst (t.map encRw)
abbrev encRt (r : Row) : U := .tup (r.map encP2)
/-- a table that is held -/
abbrev encH (t : List Row) : U := .tup (t.map encRt)
abbrev encDs (plan : List Row) : U := .lst (plan.map fun r => .dct (encD r))
abbrev encNs (ks : List Nat) : U := .lst (ks.map fun k => .int (k : Nat))
abbrev encBs (bs : List Bool) : U := .lst (bs.map U.bl)
/-- a plan that makes a machine -/
structure POk (plan : List Row) (fin : List Nat) : Prop where
  n0 : 0 < plan.length
  n1 : plan.length ≤ 100000
  nd : ∀ r ∈ plan, (r.map (·.1)).Nodup
  nm : ∀ r ∈ plan, ∀ p ∈ r, isNm p.1 = true ∧ p.2 < plan.length
  rl : ∀ r ∈ plan, r.length < 64
  fl : ∀ k ∈ fin, k < plan.length
  fn : fin.length ≤ 100000
def tOf (plan : List Row) : KN.Tb Str := plan.map sortN
def mOf (fin : List Nat) (s : Nat) : Bool := decide (s ∈ fin)
theorem tOf_row {plan : List Row} {s : Nat} {r : Row} (h : plan[s]? = some r) : KN.row (tOf plan) s = sortN r := by
  unfold KN.row tOf
  rw [List.getD_eq_getElem?_getD, List.getElem?_map, h]
  rfl
theorem tOf_no {plan : List Row} {s : Nat} (h : plan[s]? = none) : KN.row (tOf plan) s = [] := by
  unfold KN.row tOf
  rw [List.getD_eq_getElem?_getD, List.getElem?_map, h]
  rfl
theorem POk.asc {plan : List Row} {fin : List Nat} (h : POk plan fin) : KN.Asc ltS (tOf plan) := fun s => by
  cases q : plan[s]? with
  | none => rw [tOf_no q]; exact .nil
  | some r => rw [tOf_row q]; exact sortN_asc (h.nd r (List.mem_of_getElem? q))
theorem POk.fit {plan : List Row} {fin : List Nat} (h : POk plan fin) : KN.Fit (tOf plan) := ⟨by unfold tOf; rw [List.length_map]; exact h.n0, fun s p hp => by
  unfold tOf
  rw [List.length_map]
  cases q : plan[s]? with
  | none => rw [tOf_no q] at hp; cases hp
  | some r => rw [tOf_row q] at hp; exact (h.nm r (List.mem_of_getElem? q) p (mem_sortN.mp hp)).2⟩
theorem lk_of {r : Row} (nd : (r.map (·.1)).Nodup) {p : Str × Nat} (h : p ∈ r) : KM.lk r p.1 = some p.2 := by
  unfold KM.lk
  rw [KN.find_nd nd (show (p.1, p.2) ∈ r from h)]
  rfl
theorem atI_row {t : List Row} {f : Row → U} {s : Nat} {r : Row} (h : t[s]? = some r) : atI (t.map f) (s : Int) = some (f r) := atI_at h
theorem asPr_rw (r : Row) : asPr (r.map encP2) = some (encD r) := by
  induction r with
  | nil => rfl
  | cons p r ih =>
    rw [List.map_cons, asPr, ih]
    rfl
theorem encD_keys (r : Row) : (encD r).map (·.1) = (r.map (·.1)).map U.str := by simp [encD]
theorem str_nodup {l : List Str} (h : l.Nodup) : (l.map U.str).Nodup := by
  unfold List.Nodup at *
  rw [List.pairwise_map]
  exact h.imp fun {a b} n e => n (by injection e)
theorem sDict2_rw {r : Row} (nd : (r.map (·.1)).Nodup) : sDict2 [encRw r] = some (true, .dct (encD r)) := by
  have h1 : sDictC [encRw r] = none := rfl
  unfold sDict2 orN
  rw [h1]
  dsimp only
  unfold sDictP
  dsimp only
  rw [asPr_rw]
  dsimp only
  rw [if_pos (by rw [cdec_iff, encD_keys]; exact str_nodup nd)]
theorem isK1_encD {r : Row} : ((encD r).all fun p => isK1 p.1) = true := by simp [encD, isK1]
theorem sDict2_d {r : Row} : sDict2 [.dct (encD r)] = some (true, .dct (encD r)) := orN_of (by unfold sDictC; dsimp only; rw [if_pos isK1_encD])
end VS
set_option linter.all false
set_option maxRecDepth 100000
/-! MG3: looks of states as keys. -/
namespace VS
open PySem L2
@[simp] theorem truU_bl {b : Bool} : truU (.bl b) = some b := rfl
abbrev encKU (c : Nat → U) (o : List Nat) : List (U × U) := o.map fun s => (.int (s : Nat), c s)
theorem dfind_encKU (c : Nat → U) (o : List Nat) (k : Nat) : dfind (encKU c o) (.int (k : Nat)) = if k ∈ o then some (c k) else none := by
  induction o with
  | nil => rfl
  | cons x o ih =>
    rw [encKU, List.map_cons, dfind_cons]
    by_cases h : x = k
    · subst h; simp
    · have h2 : ¬ (U.int (x : Nat) = U.int (k : Nat)) := fun z => h (by injection z with z; exact Int.ofNat.inj z)
      rw [if_neg h2]
      have e : (k ∈ x :: o) ↔ k ∈ o := by simp [Ne.symm h]
      simp only [e]
      exact ih
theorem okD_encKU (c : Nat → U) (o : List Nat) (k : Nat) : okD (encKU c o) (.int (k : Nat)) = true := by
  unfold okD
  rw [Bool.or_eq_true]
  left
  simp [isK1]
abbrev Lk := U × List (Str × U)
def encLk (l : Lk) : U := .tup [l.1, .tup (l.2.map fun p => .tup [.str p.1, p.2])]
theorem encLk_inj : ∀ a b : Lk, encLk a = encLk b → a = b := by
  rintro ⟨a1, a2⟩ ⟨b1, b2⟩ h
  unfold encLk at h
  injection h with h
  simp only [List.cons.injEq, U.tup.injEq, and_true] at h
  obtain ⟨h1, h2⟩ := h
  rw [h1]
  congr 1
  clear h1
  induction a2 generalizing b2 with
  | nil => cases b2 with
    | nil => rfl
    | cons => simp at h2
  | cons x a ih => cases b2 with
    | nil => simp at h2
    | cons y b =>
      simp only [List.map_cons, List.cons.injEq, U.tup.injEq, U.str.injEq, and_true] at h2
      rw [Prod.ext h2.1.1 h2.1.2, ih _ h2.2]
/-- a mode: all kinds bools, or all ints -/
def Md (c : Nat → U) : Prop := (∀ s, ∃ b, c s = .bl b) ∨ (∀ s, ∃ i, c s = .int i)
theorem kd_lk {p : U → Bool} {n : Nat} (hs : ∀ x, kd p (n + 1) (.str x) = true) {c : Nat → U} (hc : ∀ s k, kd p (k + 1) (c s) = true) (t : List Row) (s : Nat) : kd p (n + 4) (encLk (KN.look t c s)) = true := by
  unfold encLk KN.look KN.mapr
  simp only [kd, List.all_cons, List.all_nil, Bool.and_true, Bool.and_eq_true, List.all_map, List.all_eq_true, Function.comp, List.all_map]
  refine ⟨hc s _, fun q hq => ?_⟩
  exact ⟨hs _, hc _ _⟩
theorem kx_lk {c : Nat → U} (h : Md c) (t : List Row) (s : Nat) : isKx (encLk (KN.look t c s)) = true := by
  have : kd lfA 8 (encLk (KN.look t c s)) = true := by
    refine kd_lk (n := 4) (fun x => rfl) (fun s k => ?_) t s
    rcases h with h | h
    · obtain ⟨b, e⟩ := h s; rw [e]; rfl
    · obtain ⟨b, e⟩ := h s; rw [e]; rfl
  exact this
theorem cm_lk {c : Nat → U} (h : Md c) (t : List Row) (s s' : Nat) : cmpU (encLk (KN.look t c s)) (encLk (KN.look t c s')) = true := by
  unfold cmpU
  rw [Bool.or_eq_true, Bool.and_eq_true, Bool.and_eq_true]
  rcases h with h | h
  · have k : ∀ s, kd lfB 8 (encLk (KN.look t c s)) = true := fun s => kd_lk (n := 4) (fun x => rfl) (fun s k => by obtain ⟨b, e⟩ := h s; rw [e]; rfl) t s
    exact .inr ⟨k s, k s'⟩
  · have k : ∀ s, kd lfI 8 (encLk (KN.look t c s)) = true := fun s => kd_lk (n := 4) (fun x => rfl) (fun s k => by obtain ⟨b, e⟩ := h s; rw [e]; rfl) t s
    exact .inl ⟨k s, k s'⟩
theorem okD_lk {c : Nat → U} (h : Md c) (t : List Row) (done : List Nat) (s : Nat) : okD (encN ((KM.nub (KN.looks t c done)).map encLk)) (encLk (KN.look t c s)) = true := by
  refine okD_x (kx_lk h t s) fun x hx => ?_
  obtain ⟨l, hl, rfl⟩ := List.mem_map.mp hx
  obtain ⟨r, _, rfl⟩ := List.mem_map.mp (KM.mem_nub.mp hl)
  exact ⟨kx_lk h t r, cm_lk h t r s⟩
theorem mem_lk {t : List Row} {c : Nat → U} {done : List Nat} {s : Nat} : encLk (KN.look t c s) ∈ (KM.nub (KN.looks t c done)).map encLk ↔ KN.look t c s ∈ KM.nub (KN.looks t c done) := by
  rw [List.mem_map]
  exact ⟨fun ⟨y, hy, e⟩ => encLk_inj _ _ e ▸ hy, fun h => ⟨_, h, rfl⟩⟩
theorem idx_lk {t : List Row} {c : Nat → U} {done : List Nat} {s : Nat} : ((KM.nub (KN.looks t c done)).map encLk).idxOf (encLk (KN.look t c s)) = KN.ixo (KM.nub (KN.looks t c done)) (KN.look t c s) := idxOf_map encLk encLk_inj _ _
theorem looks_snoc {t : List Row} {c : Nat → U} {done : List Nat} {s : Nat} : KN.looks t c (done ++ [s]) = KN.looks t c done ++ [KN.look t c s] := by simp [KN.looks]
theorem ix_final {t : List Row} {c : Nat → U} {o done rest : List Nat} {s : Nat} (h : o = done ++ s :: rest) : KN.ixo (KM.nub (KN.looks t c (done ++ [s]))) (KN.look t c s) = KN.finer t c o s := by
  unfold KN.finer
  have e : KN.looks t c o = KN.looks t c (done ++ [s]) ++ KN.looks t c rest := by rw [h]; simp [KN.looks]
  obtain ⟨z, hz⟩ := KN.nub_app (xs := KN.looks t c (done ++ [s])) (ys := KN.looks t c rest)
  rw [e, hz, KN.ixo_app (KM.mem_nub.mpr (by rw [looks_snoc]; simp))]
theorem many_int {t : List Row} {f : Nat → Nat} {o : List Nat} : KN.many t (fun s => U.int (f s : Nat)) o = KN.many t f o := by
  unfold KN.many
  have e : KN.looks t (fun s => U.int (f s : Nat)) o = (KN.looks t f o).map fun l => (U.int (l.1 : Nat), l.2.map fun p => (p.1, U.int (p.2 : Nat))) := by
    unfold KN.looks
    rw [List.map_map]
    apply List.map_congr_left
    intro s _
    simp [KN.look, KN.mapr]
  rw [e, KN.nub_idx, List.length_map]
  rintro ⟨a1, a2⟩ ⟨b1, b2⟩ h
  simp only [Prod.mk.injEq, U.int.injEq] at h
  obtain ⟨h1, h2⟩ := h
  rw [Int.ofNat.inj h1]
  congr 1
  clear h1
  induction a2 generalizing b2 with
  | nil => cases b2 with
    | nil => rfl
    | cons => simp at h2
  | cons x a ih => cases b2 with
    | nil => simp at h2
    | cons y b =>
      simp only [List.map_cons, List.cons.injEq, Prod.mk.injEq, U.int.injEq] at h2
      rw [Prod.ext h2.1.1 (Int.ofNat.inj h2.1.2), ih _ h2.2]
end VS
set_option linter.all false
set_option maxRecDepth 100000
namespace VS
open PySem L2
/-! ### texts by their codes -/
def S (l : List Nat) : Str := ⟨l.toArray⟩
theorem S_len (l : List Nat) : (S l).length = l.length := by simp [S, Str.length]
theorem S_cps (l : List Nat) : (S l).cps.toList = l := by simp [S]
theorem S_app (a b : List Nat) : S a ++ S b = S (a ++ b) := by
  show Str.append _ _ = _
  simp [S, Str.append]
theorem S_all (x : Str) : ∃ l, x = S l := ⟨x.cps.toList, by cases x; simp [S]⟩
theorem S_one (c : Nat) : (⟨#[c]⟩ : Str) = S [c] := rfl
def LET : List Nat := ("abcdefghijklmnopqrstuvwxyz" : Str).cps.toList
theorem LET_len : LET.length = 26 := by decide +kernel
theorem LETS_len : ("abcdefghijklmnopqrstuvwxyz" : Str).length = 26 := by decide +kernel
def let1 (k : Int) : Nat := LET.getD k.toNat 97
theorem let1_mem (k : Int) : let1 k ∈ LET := by
  unfold let1
  rw [List.getD_eq_getElem?_getD]
  cases h : LET[k.toNat]? with
  | none => show 97 ∈ LET; decide +kernel
  | some c => exact List.mem_of_getElem? h
theorem sIx_let {k : Int} (h0 : 0 ≤ k) (h1 : k < 26) : sIx (.str (Str.ofString "abcdefghijklmnopqrstuvwxyz")) (.int k) = some (false, .str (S [let1 k])) := by
  rw [sIx_s, if_pos (by rw [LETS_len]; decide)]
  have : atI LET k = some (let1 k) := by
    rw [atI_int h0 (by rw [LET_len]; exact h1)]
    unfold let1
    rw [List.getD_eq_getElem?_getD, List.getElem?_eq_getElem (by rw [LET_len]; omega)]
    rfl
  have e : atI (Str.ofString "abcdefghijklmnopqrstuvwxyz").cps.toList k = some (let1 k) := this
  rw [e]
  rfl
def Nml (l : List Nat) : Prop := 0 < l.length ∧ l.length ≤ 8 ∧ ∀ c ∈ l, c ∈ LET
theorem isNm_S {l : List Nat} (h : Nml l) : isNm (S l) = true := by
  unfold isNm
  rw [S_len, S_cps, Bool.and_eq_true, decide_eq_true_eq, List.all_eq_true]
  exact ⟨⟨h.1, h.2.1⟩, fun c hc => decide_eq_true (h.2.2 c hc)⟩
theorem sSlc_s {x : Str} {lo hi : Option Int} (h : x.length ≤ 16777216) : orSl sSlL sSlS (.str x) lo hi = some (false, .str (cutS x lo hi)) := by
  have h2 : x.length ≤ sizeLine := by rw [sl_eq]; exact h
  simp only [orSl, sSlL, sSlS, if_pos h2]
@[simp] theorem sSlc_l {us : List U} {lo hi : Option Int} : orSl sSlL sSlS (.lst us) lo hi = some (true, .lst (cutU us lo hi)) := rfl
@[simp] theorem sSlc_c {us : List Int} {lo hi : Option Int} : orSl sSlL sSlS (.scr us) lo hi = some (true, .lst ((cutI us lo hi).map .int)) := rfl
def cutL (l : List Nat) (lo hi : Option Int) : List Nat := (l.drop (HT.sIx l.length 0 lo)).take (HT.sIx l.length l.length hi - HT.sIx l.length 0 lo)
theorem cutS_S (l : List Nat) (lo hi : Option Int) : cutS (S l) lo hi = S (cutL l lo hi) := by
  unfold cutS cutL
  rw [S_len, S_cps]
  rfl
theorem cutL_mem {l : List Nat} {lo hi : Option Int} {c : Nat} (h : c ∈ cutL l lo hi) : c ∈ l := List.mem_of_mem_drop (List.mem_of_mem_take h)
theorem cutL_pre {l : List Nat} {k : Int} (h : 0 ≤ k) : cutL l none (some k) = l.take k.toNat := by
  unfold cutL
  rw [HT.sIx_none]
  have e : HT.sIx l.length l.length (some k) = min k.toNat l.length := by
    have := HT.sIx_nat l.length l.length k.toNat
    rwa [Int.toNat_of_nonneg h] at this
  rw [e]
  simp only [List.drop_zero, Nat.sub_zero]
  rcases Nat.le_total k.toNat l.length with h | h
  · rw [Nat.min_eq_left h]
  · rw [Nat.min_eq_right h, List.take_of_length_le (Nat.le_refl _), List.take_of_length_le h]
theorem cutL_len {l : List Nat} {a b : Int} (ha : 0 ≤ a) (hb : 0 ≤ b) : (cutL l (some a) (some b)).length ≤ b.toNat - a.toNat := by
  unfold cutL
  have e : ∀ (d : Nat) (k : Int), 0 ≤ k → HT.sIx l.length d (some k) = min k.toNat l.length := fun d k h => by
    have := HT.sIx_nat l.length d k.toNat
    rwa [Int.toNat_of_nonneg h] at this
  rw [e _ _ ha, e _ _ hb, List.length_take, List.length_drop]
  omega
theorem sMul_S {l : List Nat} {k : Int} (h0 : 0 ≤ k) (h1 : k < 1000) (hl : l.length ≤ 1000) : sMulS (.str (S l)) (.int k) = some (false, .str (S (List.replicate k.toNat l).flatten)) := by
  unfold sMulS
  dsimp only
  rw [if_pos (by
    rw [Bool.and_eq_true, decide_eq_true_eq, S_len]
    refine ⟨by unfold lim63; rw [Bool.and_eq_true, cdec_iff, cdec_iff]; exact ⟨by omega, by omega⟩, ?_⟩
    calc l.length * k.toNat ≤ 1000 * k.toNat := Nat.mul_le_mul_right _ hl
      _ ≤ 1000 * 1000 := Nat.mul_le_mul_left _ (by omega))]
  unfold repS
  rw [S_cps]
  rfl
theorem joinS (ls : List (List Nat)) : Str.join (Str.ofString "") (ls.map S) = S ls.flatten := by
  have h0 : Str.ofString "" = S [] := by decide +kernel
  rw [h0]
  induction ls with
  | nil => rfl
  | cons l r ih =>
    cases r with
    | nil => simp [Str.join]
    | cons m r =>
      show S l ++ S [] ++ Str.join (S []) (S m :: r.map S) = _
      have ih' : Str.join (S []) (S m :: r.map S) = S (m :: r).flatten := ih
      rw [ih', S_app, S_app, List.append_nil]
      simp
theorem sJoin_S {ls : List (List Nat)} (h : (ls.map List.length).sum ≤ 1000) : sJoin (.str (Str.ofString "")) [.lst (ls.map fun l => U.str (S l))] = some (false, .str (S ls.flatten)) := by
  have e : (ls.map fun l => U.str (S l)) = (ls.map S).map U.str := by rw [List.map_map]; rfl
  have z : (Str.ofString "").length = 0 := by decide +kernel
  unfold sJoin
  dsimp only
  rw [e, asStrs_map]
  dsimp only
  rw [if_pos (by
    rw [List.map_map, z]
    have : (ls.map (Str.length ∘ S)) = ls.map List.length := List.map_congr_left fun l _ => S_len l
    rw [this]
    omega), TL.join_eq, joinS]
end VS
set_option linter.all false
set_option maxRecDepth 100000
/-! MG5: == of data. -/
namespace VS
open PySem L2
theorem sEq_ll {neg : Bool} {us ws : List U} {n : Nat} (hn : n ≤ 50) (h : dat n (.lst us) = true) (k : dat n (.lst ws) = true) : sEq neg (.lst us) (.lst ws) = some (false, .bl (if neg then !decide (us = ws) else decide (us = ws))) := by
  unfold sEq
  have s0 : scalU (.lst us) (.lst ws) = false := by simp [scalU, flU]
  rw [s0, dat_shp h (by omega), dat_shp k (by omega)]
  have e : PyData.eqv (toD (.lst us)) (toD (.lst ws)) = decide (us = ws) := by
    have := dat_eqv n (.lst us) (.lst ws) h k
    by_cases q : us = ws
    · rw [decide_eq_true q]; exact this.mpr (by rw [q])
    · rw [decide_eq_false q]
      cases z : PyData.eqv (toD (.lst us)) (toD (.lst ws)) with
      | false => rfl
      | true => exact absurd (by injection (this.mp z)) q
  simp [e]
theorem dat_ints (ks : List Nat) : dat 1 (encNs ks) = true := by
  show List.all _ _ = true
  rw [List.all_eq_true]
  intro u hu
  obtain ⟨k, _, rfl⟩ := List.mem_map.mp hu
  rfl
theorem ints_inj {a b : List Nat} : (a.map fun k : Nat => U.int (k : Nat)) = (b.map fun k : Nat => U.int (k : Nat)) ↔ a = b := ⟨fun h => nats_inj h, fun h => by rw [h]⟩
theorem sEq_ints {neg : Bool} {a b : List Nat} : sEq neg (encNs a) (encNs b) = some (false, .bl (if neg then !decide (a = b) else decide (a = b))) := by
  rw [sEq_ll (n := 1) (by decide) (dat_ints a) (dat_ints b)]
  congr 2
  simp only [ints_inj]
theorem range_at {n k : Nat} {done rest : List Nat} (h : List.range n = done ++ k :: rest) : k = done.length ∧ k < n := by
  have h1 : (List.range n)[done.length]? = some k := by rw [h]; simp
  have h2 : done.length < n := by have := (List.getElem?_eq_some_iff.mp h1).1; simpa using this
  rw [List.getElem?_range h2] at h1
  injection h1 with h1
  omega
theorem sNotIn_il {x : Nat} {c : List Nat} (hin : inU (.int (x : Nat)) (c.map fun k : Nat => U.int (k : Nat)) = decide (x ∈ c)) : sNotIn (.int (x : Nat)) (encNs c) = some (false, .bl (!decide (x ∈ c))) := by
  unfold sNotIn orS sInF
  dsimp only
  rw [if_pos (by simp [flU]), hin]
  rfl
end VS
set_option Elab.async false
set_option linter.all false
set_option maxRecDepth 100000
namespace VS
open PySem L2
def top (i : Nat) : Stmt := PySem.Challenge.pw_seenbars_k04_whole_least_states.main.body.getD i (.Pass ⟨0, 0, 0, 0⟩)
def clsB : Stmt → List Stmt
  | .ClassDef (body := b) .. => b
  | _ => []
structure Fr (K : PySem.W.Frag) (mg : Str → Option Value) (C_Machine : Addr) : Prop where
  cl_Machine : ClsV K mg "Machine" C_Machine
  k_LETTERS : ∃ t, mg "LETTERS" = some (.str "abcdefghijklmnopqrstuvwxyz" t)
  k_LONGEST : ∃ t, mg "LONGEST" = some (.int 8 t)
  f_abs : mg "abs" = none
  f_all : mg "all" = none
  f_dict : mg "dict" = none
  f_enumerate : mg "enumerate" = none
  f_int : mg "int" = none
  f_isinstance : mg "isinstance" = none
  f_len : mg "len" = none
  f_list : mg "list" = none
  f_max : mg "max" = none
  f_min : mg "min" = none
  f_range : mg "range" = none
  f_set : mg "set" = none
  f_sorted : mg "sorted" = none
  f_tuple : mg "tuple" = none
  na_Machine_held_finals : NoAttr K C_Machine "held_finals"
  na_Machine_held_rows : NoAttr K C_Machine "held_rows"
theorem Fr.c_LETTERS {X : Cx} {W : WXX} {pos : Pos} {C_Machine : Addr} (fr : Fr X.K X.mg C_Machine) (hg : Gl X "LETTERS") : PV X W (.Name "LETTERS" pos) (mC (.str "abcdefghijklmnopqrstuvwxyz")) := by
  obtain ⟨t, h⟩ := fr.k_LETTERS
  exact pv_glob hg h (v := .str "abcdefghijklmnopqrstuvwxyz") ⟨t, rfl⟩ (fun B => by simp only [rep])
theorem Fr.c_LONGEST {X : Cx} {W : WXX} {pos : Pos} {C_Machine : Addr} (fr : Fr X.K X.mg C_Machine) (hg : Gl X "LONGEST") : PV X W (.Name "LONGEST" pos) (mC (.int 8)) := by
  obtain ⟨t, h⟩ := fr.k_LONGEST
  exact pv_glob hg h (v := .int 8) ⟨t, rfl⟩ (fun B => by simp only [rep])
abbrev st_law_purse : Stmt := top 23
abbrev N_law_purse : List Str := ["_law_script", "_law_at", "_law_cell"]
theorem sc_law_purse : FnScope N_law_purse ["_law_script", "_law_at"] (defScope st_law_purse) := ⟨rfl, rfl, rfl, by decide +kernel, rfl, by decide +kernel, by decide +kernel⟩
noncomputable def b_law_purse : MS :=
 ((mAsg 2 (mIfE (mTst (mBin sLtI (mSl 1) (mR (mF (mCB sLenU (mRc (mSl 0) mRn)))))) (mBin sIx (mSl 0) (mSl 1)) (mO (mC (.int 0))))).seq
 (mRet (mLst (mVc (mF (mCB sMx (mRc (mR (mC (.int 0))) (mRc (mR (mF (mBin sSub (mR (mF (mCB sAbs (mRc (mSl 2) mRn)))) (mR (mF (mBin sPow (mR (mC (.int 10))) (mR (mC (.int 18))))))))) mRn)))) (mVc (mF (mBin sAdd (mR (mF (mBin sAdd (mR (mF (mBin sMul (mR (mF (mBin sMod (mR (mF (mCB sInt (mRc (mSl 2) mRn)))) (mR (mF (mBin sAdd (mR (mF (mBin sPow (mR (mC (.int 10))) (mR (mC (.int 43)))))) (mR (mC (.int 57))))))))) (mR (mC (.int 64)))))) (mR (mF (mBin sMul (mR (mC (.int 5))) (mSl 1))))))) (mR (mC (.int 3))))) (mVc (mC (.int 0)) mVn))))))
noncomputable def φ_law_purse : Fs := fnS 3 2 (prL [0, 1]) b_law_purse
abbrev st_law_spend : Stmt := top 24
abbrev N_law_spend : List Str := ["_law_purse_here", "_law_below", "_law_mixed", "_law_digit"]
theorem sc_law_spend : FnScope N_law_spend ["_law_purse_here", "_law_below"] (defScope st_law_spend) := ⟨rfl, rfl, rfl, by decide +kernel, rfl, by decide +kernel, by decide +kernel⟩
noncomputable def b_law_spend : MS :=
 ((mIf (mTst (mBin sGtI (mR (mF (mBin sIx (mSl 0) (mR (mC (.int 0)))))) (mR (mC (.int 0)))))
 ((mAsg 3 (mBin sMod (mR (mF (mCB sInt (mRc (mR (mF (mBin sIx (mSl 0) (mR (mC (.int 0)))))) mRn)))) (mSl 1))).seq
 ((mSto 0 (mC (.int 0)) (mF (mBin sDiv (mR (mF (mBin sIx (mSl 0) (mR (mC (.int 0)))))) (mSl 1)))).seq
 (mRetV 3)))
 MS.nop).seq
 ((mSto 0 (mC (.int 2)) (mF (mBin sAdd (mR (mF (mBin sIx (mSl 0) (mR (mC (.int 2)))))) (mR (mC (.int 1)))))).seq
 ((mAsg 2 (mBin sMod (mR (mF (mCB sInt (mRc (mR (mF (mBin sAdd (mR (mF (mBin sIx (mSl 0) (mR (mC (.int 1)))))) (mR (mF (mBin sMul (mR (mC (.int 6700417))) (mR (mF (mBin sIx (mSl 0) (mR (mC (.int 2)))))))))))) mRn)))) (mR (mC (.int 618970019642690137449562111))))).seq
 ((mAsg 2 (mBin sMod (mR (mF (mCB sInt (mRc (mR (mF (mBin sAdd (mR (mF (mBin sMul (mSl 2) (mSl 2)))) (mR (mF (mBin sIx (mSl 0) (mR (mC (.int 2))))))))) mRn)))) (mR (mC (.int 162259276829213363391578010288127))))).seq
 ((mAsg 2 (mBin sMod (mR (mF (mCB sInt (mRc (mR (mF (mBin sMul (mR (mF (mBin sMul (mSl 2) (mSl 2)))) (mSl 2)))) mRn)))) (mR (mC (.int 618970019642690137449562111))))).seq
 (mRet (mBin sMod (mR (mF (mBin sDiv (mSl 2) (mR (mC (.int 4096)))))) (mSl 1))))))))
noncomputable def φ_law_spend : Fs := fnS 4 2 (prL [0, 1]) b_law_spend
abbrev st_law_names : Stmt := top 25
abbrev N_law_names : List Str := ["_law_purse_here", "_law_many", "_law_letters", "_law_leap", "_law_k", "_law_start", "_law_fill", "_law_way", "_law_size", "_law_names_here", "_law_place", "_law_row", "_law_mark"]
theorem sc_law_names : FnScope N_law_names ["_law_purse_here", "_law_many"] (defScope st_law_names) := ⟨rfl, rfl, rfl, by decide +kernel, rfl, by decide +kernel, by decide +kernel⟩
noncomputable def b_law_names : MS :=
 ((mAsg 2 (mO (mC (.str "abcdefghijklmnopqrstuvwxyz")))).seq
 ((mPar [5, 6, 7] (mOc (mCall 2 φ_law_spend (mRc (mSl 0) (mRc (mR (mC (.int 26))) mRn))) (mOc (mCall 2 φ_law_spend (mRc (mSl 0) (mRc (mR (mC (.int 26))) mRn))) (mOc (mCall 2 φ_law_spend (mRc (mSl 0) (mRc (mR (mC (.int 3))) mRn))) mOn)))).seq
 ((mAsg 3 (mBin sIx (mR (mF (mLst (mVc (mC (.int 1)) (mVc (mC (.int 3)) (mVc (mC (.int 5)) (mVc (mC (.int 7)) (mVc (mC (.int 9)) (mVc (mC (.int 11)) (mVc (mC (.int 15)) (mVc (mC (.int 17)) mVn))))))))))) (mR (mF (mCall 2 φ_law_spend (mRc (mSl 0) (mRc (mR (mC (.int 8))) mRn))))))).seq
 ((mPar [8, 9] (mOc (mBin sAdd (mR (mC (.int 1))) (mR (mF (mCall 2 φ_law_spend (mRc (mSl 0) (mRc (mR (mC (.int 8))) mRn)))))) (mOc (mLst mVn) mOn))).seq
 ((mFor (mRg1 (mN 1)) (tgN 4)
 ((mIf (mTst (mBin (sEq false) (mSl 7) (mR (mC (.int 0)))))
 (mAsg 8 (mO (mC (.int 1))))
 MS.nop).seq
 ((mIf (mTst (mBin (sEq false) (mSl 7) (mR (mC (.int 2)))))
 (mAsg 8 (mBin sAdd (mR (mC (.int 1))) (mR (mF (mCall 2 φ_law_spend (mRc (mSl 0) (mRc (mR (mC (.int 8))) mRn)))))))
 MS.nop).seq
 ((mAsg 10 (mCall 2 φ_law_spend (mRc (mSl 0) (mRc (mSl 8) mRn)))).seq
 ((mAsg 11 (mBin sMul (mR (mF (mBin sIx (mSl 2) (mSl 6)))) (mSl 8))).seq
 ((mAsg 12 (mBin sIx (mSl 2) (mR (mF (mBin sMod (mR (mF (mCB sInt (mRc (mR (mF (mBin sAdd (mSl 5) (mR (mF (mBin sMul (mSl 3) (mSl 4))))))) mRn)))) (mR (mC (.int 26)))))))).seq
 (mDrp (mF (mMu isL sApp 9 (mVc (mF (mBin sAdd (mR (mF (mBin sAdd (mR (mF (mSlc (orSl sSlL sSlS) (mSl 11) mP0 (mP1 (mN 10))))) (mSl 12)))) (mR (mF (mSlc (orSl sSlL sSlS) (mSl 11) (mP1 (mF (mBin sAdd (mSl 10) (mR (mC (.int 1)))))) mP0))))) mVn)))))))))).seq
 ((mIf (mTa (mTst (mBin (sEq false) (mSl 7) (mR (mC (.int 1))))) (mTst (mBin sNotIn (mR (mF (mStp (mR (mF (mBin sIx (mSl 9) (mR (mC (.int 0)))))) (mNeg (mC (.int 1)))))) (mSl 9))))
 (mSto 9 (mF (mBin sSub (mSl 1) (mR (mC (.int 1))))) (mF (mStp (mR (mF (mBin sIx (mSl 9) (mR (mC (.int 0)))))) (mNeg (mC (.int 1))))))
 MS.nop).seq
 (mRetV 9)))))))
noncomputable def φ_law_names : Fs := fnS 13 2 (prL [0, 1]) b_law_names
abbrev st_law_raw : Stmt := top 26
abbrev N_law_raw : List Str := ["_law_purse_here", "_law_names_here", "_law_most", "_law_many", "_law_state", "_law_thin", "_law_twin", "_law_ends", "_law_plan", "_law_lasts", "_law_row", "_law_name", "_law_lead", "_law_follow", "_law_aim"]
theorem sc_law_raw : FnScope N_law_raw ["_law_purse_here", "_law_names_here", "_law_most"] (defScope st_law_raw) := ⟨rfl, rfl, rfl, by decide +kernel, rfl, by decide +kernel, by decide +kernel⟩
noncomputable def b_law_raw : MS :=
 ((mAsg 3 (mBin sAdd (mR (mC (.int 1))) (mR (mF (mCall 2 φ_law_spend (mRc (mSl 0) (mRc (mSl 2) mRn))))))).seq
 ((mPar [5, 6, 7] (mOc (mCall 2 φ_law_spend (mRc (mSl 0) (mRc (mR (mC (.int 3))) mRn))) (mOc (mCall 2 φ_law_spend (mRc (mSl 0) (mRc (mR (mC (.int 4))) mRn))) (mOc (mCall 2 φ_law_spend (mRc (mSl 0) (mRc (mR (mC (.int 4))) mRn))) mOn)))).seq
 ((mPar [8, 9] (mOc (mLst mVn) (mOc (mLst mVn) mOn))).seq
 ((mFor (mRg1 (mN 3)) (tgN 4)
 ((mAsg 10 mDn).seq
 ((mFor (mItA (mF (mBin sIx (mR (mF (mLst (mVc (mN 1) (mVc (mF (mStp (mSl 1) (mNeg (mC (.int 1))))) mVn))))) (mR (mF (mCall 2 φ_law_spend (mRc (mSl 0) (mRc (mR (mC (.int 2))) mRn)))))))) (tgN 11)
 ((mAsg 14 (mCall 2 φ_law_spend (mRc (mSl 0) (mRc (mR (mF (mBin sAdd (mSl 3) (mR (mF (mBin sIx (mR (mF (mLst (mVc (mC (.int 0)) (mVc (mC (.int 1)) (mVc (mN 3) mVn)))))) (mSl 5))))))) mRn)))).seq
 (mIf (mTst (mBin sLtI (mSl 14) (mSl 3)))
 (mSto 10 (mN 11) (mN 14))
 MS.nop))).seq
 ((mDrp (mF (mMu isL sApp 8 (mVc (mN 10) mVn)))).seq
 (mIf (mTo (mTst (mBin (sEq false) (mSl 7) (mR (mC (.int 0))))) (mTa (mTst (mBin sGtI (mSl 7) (mR (mC (.int 1))))) (mTst (mBin (sEq false) (mR (mF (mCall 2 φ_law_spend (mRc (mSl 0) (mRc (mR (mC (.int 2))) mRn))))) (mR (mC (.int 1)))))))
 (mDrp (mF (mMu isL sApp 9 (mVc (mN 4) mVn))))
 MS.nop))))).seq
 ((mPar [12, 13] (mOc (mCall 2 φ_law_spend (mRc (mSl 0) (mRc (mSl 3) mRn))) (mOc (mCall 2 φ_law_spend (mRc (mSl 0) (mRc (mSl 3) mRn))) mOn))).seq
 ((mIf (mTst (mBin (sEq false) (mSl 6) (mR (mC (.int 0)))))
 ((mSto 8 (mN 13) (mF (mCB sDict2 (mRc (mR (mF (mBin sIx (mSl 8) (mSl 12)))) mRn)))).seq
 (mAsg 9 (mBin sAdd (mR (mF (mLc (mItN 9) (tgN 4) (mTst (mBin (sEq true) (mSl 4) (mSl 13))) (mN 4) [4]))) (mR (mF (mIfE (mTst (mBin sIn (mSl 12) (mSl 9))) (mLst (mVc (mN 13) mVn)) (mLst mVn)))))))
 MS.nop).seq
 (mRet (mTup (mVc (mN 8) (mVc (mN 9) mVn))))))))))
noncomputable def φ_law_raw : Fs := fnS 15 3 (prL [0, 1, 2]) b_law_raw
abbrev st_is_name : Stmt := top 9
abbrev N_is_name : List Str := ["text", "sign"]
theorem sc_is_name : FnScope N_is_name ["text"] (defScope st_is_name) := ⟨rfl, rfl, rfl, by decide +kernel, rfl, by decide +kernel, by decide +kernel⟩
noncomputable def b_is_name : MS :=
 (mRet (mAnd (mChn sLtI sLeI (mR (mC (.int 0))) (mR (mF (mCB sLenU (mRc (mSl 0) mRn)))) (mR (mC (.int 8)))) (mCB sAll (mRc (mR (mF (mLc (mItA (mN 0)) (tgN 1) (M.ret true) (mF (mBin sIn (mSl 1) (mR (mC (.str "abcdefghijklmnopqrstuvwxyz"))))) [1]))) mRn))))
noncomputable def φ_is_name : Fs := fnS 2 1 (prL [0]) b_is_name
abbrev st_check_steps : Stmt := top 10
abbrev N_check_steps : List Str := ["index", "steps", "many", "event"]
theorem sc_check_steps : FnScope N_check_steps ["index", "steps", "many"] (defScope st_check_steps) := ⟨rfl, rfl, rfl, by decide +kernel, rfl, by decide +kernel, by decide +kernel⟩
noncomputable def b_check_steps : MS :=
 (mFor (mItA (mF (mCB sSorted (mRc (mSl 1) mRn)))) (tgN 3)
 ((mIf (mTn (mTst (mCall 1 φ_is_name (mRc (mSl 3) mRn))))
 mBad
 MS.nop).seq
 (mIf (mTn (mTst (mChn sLeI sLtI (mR (mC (.int 0))) (mR (mF (mBin sIx (mSl 1) (mSl 3)))) (mSl 2))))
 mBad
 MS.nop)))
noncomputable def φ_check_steps : Fs := fnS 4 3 (prL [0, 1, 2]) b_check_steps
abbrev st_check_machine : Stmt := top 11
abbrev N_check_machine : List Str := ["states", "finals", "index", "steps"]
theorem sc_check_machine : FnScope N_check_machine ["states", "finals"] (defScope st_check_machine) := ⟨rfl, rfl, rfl, by decide +kernel, rfl, by decide +kernel, by decide +kernel⟩
noncomputable def b_check_machine : MS :=
 ((mFor (mItE2 (mN 0)) (tgT 2 (tgsC (tgN 2) (tgsC (tgN 3) tgs0)))
 (mDrp (mF (mCall 3 φ_check_steps (mRc (mSl 2) (mRc (mSl 3) (mRc (mR (mF (mCB sLenU (mRc (mSl 0) mRn)))) mRn))))))).seq
 (mFor (mItA (mN 1)) (tgN 2)
 (mIf (mTn (mTst (mChn sLeI sLtI (mR (mC (.int 0))) (mSl 2) (mR (mF (mCB sLenU (mRc (mSl 0) mRn)))))))
 mBad
 MS.nop)))
noncomputable def φ_check_machine : Fs := fnS 4 2 (prL [0, 1]) b_check_machine
abbrev st_first_reached : Stmt := top 12
abbrev N_first_reached : List Str := ["rows", "order", "known", "at", "event", "after"]
theorem sc_first_reached : FnScope N_first_reached ["rows"] (defScope st_first_reached) := ⟨rfl, rfl, rfl, by decide +kernel, rfl, by decide +kernel, by decide +kernel⟩
noncomputable def b_first_reached : MS :=
 ((mAsg 1 (mLst (mVc (mC (.int 0)) mVn))).seq
 ((mAsg 2 (mDisp1 (mC (.int 0)) (mC (.bl true)))).seq
 ((mAsg 3 (mO (mC (.int 0)))).seq
 ((mWhl (mTst (mBin sLtI (mSl 3) (mR (mF (mCB sLenU (mRc (mSl 1) mRn))))))
 ((mFor (mItA (mF (mBin sIx (mSl 0) (mR (mF (mBin sIx (mSl 1) (mSl 3))))))) (tgT 2 (tgsC (tgN 4) (tgsC (tgN 5) tgs0)))
 (mIf (mTst (mBin sNotIn (mSl 5) (mSl 2)))
 ((mSto 2 (mN 5) (mC (.bl true))).seq
 (mDrp (mF (mMu isL sApp 1 (mVc (mN 5) mVn)))))
 MS.nop)).seq
 (mAsg 3 (mBin sAdd (mSl 3) (mR (mC (.int 1))))))).seq
 (mRetV 1)))))
noncomputable def φ_first_reached : Fs := fnS 6 1 (prL [0]) b_first_reached
abbrev st_kinds_of : Stmt := top 13
abbrev N_kinds_of : List Str := ["rows", "marks", "order", "kinds", "many", "numbers", "finer", "state", "look", "event", "after"]
theorem sc_kinds_of : FnScope N_kinds_of ["rows", "marks"] (defScope st_kinds_of) := ⟨rfl, rfl, rfl, by decide +kernel, rfl, by decide +kernel, by decide +kernel⟩
noncomputable def b_kinds_of : MS :=
 ((mAsg 2 (mCall 1 φ_first_reached (mRc (mSl 0) mRn))).seq
 ((mAsg 3 (mDc (mItA (mN 2)) (tgN 7) (M.ret true) (mN 7) (mF (mBin sIx (mSl 1) (mSl 7))) [7])).seq
 ((mAsg 4 (mO (mC (.int 0)))).seq
 (mWhl (mTru (mR (mC (.bl true))))
 ((mAsg 5 mDn).seq
 ((mAsg 6 mDn).seq
 ((mFor (mItA (mN 2)) (tgN 7)
 ((mAsg 8 (mTup (mVc (mF (mBin sIx (mSl 3) (mSl 7))) (mVc (mF (mCB sTuple (mRc (mR (mF (mLc (mItA (mF (mBin sIx (mSl 0) (mSl 7)))) (tgT 2 (tgsC (tgN 9) (tgsC (tgN 10) tgs0))) (M.ret true) (mF (mTup (mVc (mN 9) (mVc (mF (mBin sIx (mSl 3) (mSl 10))) mVn)))) [9, 10]))) mRn))) mVn)))).seq
 ((mIf (mTst (mBin sNotIn (mSl 8) (mSl 5)))
 (mSto 5 (mN 8) (mF (mCB sLenU (mRc (mSl 5) mRn))))
 MS.nop).seq
 (mSto 6 (mN 7) (mF (mBin sIx (mSl 5) (mSl 8))))))).seq
 ((mIf (mTst (mBin (sEq false) (mR (mF (mCB sLenU (mRc (mSl 5) mRn)))) (mSl 4)))
 (mRetV 3)
 MS.nop).seq
 (mPar [3, 4] (mOc (mO (mN 6)) (mOc (mCB sLenU (mRc (mSl 5) mRn)) mOn)))))))))))
noncomputable def φ_kinds_of : Fs := fnS 11 2 (prL [0, 1]) b_kinds_of
abbrev st_least_table : Stmt := top 14
abbrev N_least_table : List Str := ["rows", "marks", "kinds", "table", "told", "state", "event", "after"]
theorem sc_least_table : FnScope N_least_table ["rows", "marks"] (defScope st_least_table) := ⟨rfl, rfl, rfl, by decide +kernel, rfl, by decide +kernel, by decide +kernel⟩
noncomputable def b_least_table : MS :=
 ((mAsg 2 (mCall 2 φ_kinds_of (mRc (mSl 0) (mRc (mSl 1) mRn)))).seq
 ((mAsg 3 (mLst mVn)).seq
 ((mAsg 4 (mLst mVn)).seq
 ((mFor (mItA (mF (mCall 1 φ_first_reached (mRc (mSl 0) mRn)))) (tgN 5)
 (mIf (mTst (mBin (sEq false) (mR (mF (mBin sIx (mSl 2) (mSl 5)))) (mR (mF (mCB sLenU (mRc (mSl 3) mRn))))))
 ((mDrp (mF (mMu isL sApp 3 (mVc (mF (mCB sTuple (mRc (mR (mF (mLc (mItA (mF (mBin sIx (mSl 0) (mSl 5)))) (tgT 2 (tgsC (tgN 6) (tgsC (tgN 7) tgs0))) (M.ret true) (mF (mTup (mVc (mN 6) (mVc (mF (mBin sIx (mSl 2) (mSl 7))) mVn)))) [6, 7]))) mRn))) mVn)))).seq
 (mDrp (mF (mMu isL sApp 4 (mVc (mF (mBin sIx (mSl 1) (mSl 5))) mVn)))))
 MS.nop)).seq
 (mRet (mTup (mVc (mF (mCB sTuple (mRc (mSl 3) mRn))) (mVc (mF (mCB sTuple (mRc (mSl 4) mRn))) mVn))))))))
noncomputable def φ_least_table : Fs := fnS 8 2 (prL [0, 1]) b_least_table
abbrev st_Machine___init__ : Stmt := (clsB (top 15)).getD 0 (.Pass ⟨0, 0, 0, 0⟩)
abbrev N_Machine___init__ : List Str := ["self", "states", "finals", "rows", "marks", "table", "told", "steps", "index", "mark"]
theorem sc_Machine___init__ : FnScope N_Machine___init__ ["self", "states", "finals"] (defScope st_Machine___init__) := ⟨rfl, rfl, rfl, by decide +kernel, rfl, by decide +kernel, by decide +kernel⟩
noncomputable def b_Machine___init__ : MS :=
 ((mDrp (mF (mCall 2 φ_check_machine (mRc (mSl 1) (mRc (mSl 2) mRn))))).seq
 ((mAsg 3 (mLc (mItA (mN 1)) (tgN 7) (M.ret true) (mF (mSortV (mSl 7))) [7])).seq
 ((mAsg 4 (mLc (mRg1 (mF (mCB sLenU (mRc (mSl 1) mRn)))) (tgN 8) (M.ret true) (mF (mBin sIn (mSl 8) (mSl 2))) [8])).seq
 ((mUnp (tgT 2 (tgsC (tgN 5) (tgsC (tgN 6) tgs0))) (mF (mCall 2 φ_least_table (mRc (mSl 3) (mRc (mSl 4) mRn))))).seq
 ((mFst "Machine" "held_rows" 0 (mN 5)).seq
 (mFst "Machine" "held_finals" 0 (mF (mCB sTuple (mRc (mR (mF (mLc (mItE2 (mN 6)) (tgT 2 (tgsC (tgN 8) (tgsC (tgN 9) tgs0))) (mTru (mSl 9)) (mN 8) [8, 9]))) mRn)))))))))
noncomputable def φ_Machine___init__ : Fs := fnS 10 3 (prL [0, 1, 2]) b_Machine___init__
abbrev st_law_copied : Stmt := top 27
abbrev N_law_copied : List Str := ["_law_plan", "_law_row"]
theorem sc_law_copied : FnScope N_law_copied ["_law_plan"] (defScope st_law_copied) := ⟨rfl, rfl, rfl, by decide +kernel, rfl, by decide +kernel, by decide +kernel⟩
noncomputable def b_law_copied : MS :=
 (mRet (mLc (mItA (mN 0)) (tgN 1) (M.ret true) (mF (mCB sDict2 (mRc (mSl 1) mRn))) [1]))
noncomputable def φ_law_copied : Fs := fnS 2 1 (prL [0]) b_law_copied
abbrev st_law_listed : Stmt := top 28
abbrev N_law_listed : List Str := ["_law_purse_here", "_law_lasts", "_law_more"]
theorem sc_law_listed : FnScope N_law_listed ["_law_purse_here", "_law_lasts"] (defScope st_law_listed) := ⟨rfl, rfl, rfl, by decide +kernel, rfl, by decide +kernel, by decide +kernel⟩
noncomputable def b_law_listed : MS :=
 ((mAsg 2 (mSlc (orSl sSlL sSlS) (mSl 1) mP0 (mP1 (mF (mCall 2 φ_law_spend (mRc (mSl 0) (mRc (mR (mF (mBin sAdd (mR (mF (mCB sLenU (mRc (mSl 1) mRn)))) (mR (mC (.int 1)))))) mRn))))))).seq
 (mRet (mBin sIx (mR (mF (mLst (mVc (mF (mBin sAdd (mSl 1) (mSl 2))) (mVc (mF (mBin sAdd (mSl 2) (mR (mF (mStp (mSl 1) (mNeg (mC (.int 1)))))))) mVn))))) (mR (mF (mCall 2 φ_law_spend (mRc (mSl 0) (mRc (mR (mC (.int 2))) mRn))))))))
noncomputable def φ_law_listed : Fs := fnS 3 2 (prL [0, 1]) b_law_listed
abbrev st_Machine_finals : Stmt := (clsB (top 15)).getD 2 (.Pass ⟨0, 0, 0, 0⟩)
abbrev N_Machine_finals : List Str := ["self"]
theorem sc_Machine_finals : FnScope N_Machine_finals ["self"] (defScope st_Machine_finals) := ⟨rfl, rfl, rfl, by decide +kernel, rfl, by decide +kernel, by decide +kernel⟩
noncomputable def b_Machine_finals : MS :=
 (mRet (mLst (mVst (mFld "Machine" "held_finals" (mSl 0)) mVn)))
noncomputable def φ_Machine_finals : Fs := fnS 1 1 (prL [0]) b_Machine_finals
abbrev st_Machine_states : Stmt := (clsB (top 15)).getD 1 (.Pass ⟨0, 0, 0, 0⟩)
abbrev N_Machine_states : List Str := ["self", "row"]
theorem sc_Machine_states : FnScope N_Machine_states ["self"] (defScope st_Machine_states) := ⟨rfl, rfl, rfl, by decide +kernel, rfl, by decide +kernel, by decide +kernel⟩
noncomputable def b_Machine_states : MS :=
 (mRet (mLc (mItA (mFld "Machine" "held_rows" (mSl 0))) (tgN 1) (M.ret true) (mF (mLst (mVst (mN 1) mVn))) [1]))
noncomputable def φ_Machine_states : Fs := fnS 2 1 (prL [0]) b_Machine_states
abbrev st_law_shape_right : Stmt := top 29
abbrev N_law_shape_right : List Str := ["_law_rows", "_law_ends", "_law_order", "_law_row", "_law_at", "_law_k", "_law_name", "_law_after", "_law_state"]
theorem sc_law_shape_right : FnScope N_law_shape_right ["_law_rows", "_law_ends"] (defScope st_law_shape_right) := ⟨rfl, rfl, rfl, by decide +kernel, rfl, by decide +kernel, by decide +kernel⟩
noncomputable def b_law_shape_right : MS :=
 ((mIf (mTo (mTn (mTst (mIsi "list" (mSl 0)))) (mTo (mTn (mTst (mIsi "list" (mSl 1)))) (mTst (mBin (sEq true) (mSl 1) (mR (mF (mSS2 (mSl 1))))))))
 (mRet (mO (mC (.bl false))))
 MS.nop).seq
 ((mAsg 2 (mLst (mVc (mC (.int 0)) mVn))).seq
 ((mFor (mItA (mN 0)) (tgN 3)
 ((mIf (mTn (mTst (mIsi "list" (mSl 3))))
 (mRet (mO (mC (.bl false))))
 MS.nop).seq
 (mFor (mRg1 (mF (mCB sLenU (mRc (mSl 3) mRn)))) (tgN 5)
 (mIf (mTo (mTn (mTst (mIsi "tuple" (mR (mF (mBin sIx (mSl 3) (mSl 5))))))) (mTa (mTst (mBin sGtI (mSl 5) (mR (mC (.int 0))))) (mTst (mBin sGe2 (mR (mF (mBin sIx (mR (mF (mBin sIx (mSl 3) (mR (mF (mBin sSub (mSl 5) (mR (mC (.int 1))))))))) (mR (mC (.int 0)))))) (mR (mF (mBin sIx (mR (mF (mBin sIx (mSl 3) (mSl 5)))) (mR (mC (.int 0))))))))))
 (mRet (mO (mC (.bl false))))
 MS.nop)))).seq
 ((mFor (mRg1 (mF (mCB sLenU (mRc (mSl 0) mRn)))) (tgN 4)
 (mIf (mTst (mBin sLtI (mSl 4) (mR (mF (mCB sLenU (mRc (mSl 2) mRn))))))
 (mFor (mItA (mF (mBin sIx (mSl 0) (mR (mF (mBin sIx (mSl 2) (mSl 4))))))) (tgT 2 (tgsC (tgN 6) (tgsC (tgN 7) tgs0)))
 (mIf (mTst (mBin sNotIn (mSl 7) (mSl 2)))
 (mDrp (mF (mMu isL sApp 2 (mVc (mN 7) mVn))))
 MS.nop))
 MS.nop)).seq
 (mRet (mAnd (mBin (sEq false) (mSl 2) (mR (mF (mLR1 (mF (mCB sLenU (mRc (mSl 0) mRn))))))) (mCB sAll (mRc (mR (mF (mLc (mItA (mN 1)) (tgN 8) (M.ret true) (mF (mChn sLeI sLtI (mR (mC (.int 0))) (mSl 8) (mR (mF (mCB sLenU (mRc (mSl 0) mRn)))))) [8]))) mRn))))))))
noncomputable def φ_law_shape_right : Fs := fnS 9 2 (prL [0, 1]) b_law_shape_right
abbrev st_Machine___len__ : Stmt := (clsB (top 15)).getD 4 (.Pass ⟨0, 0, 0, 0⟩)
abbrev N_Machine___len__ : List Str := ["self"]
theorem sc_Machine___len__ : FnScope N_Machine___len__ ["self"] (defScope st_Machine___len__) := ⟨rfl, rfl, rfl, by decide +kernel, rfl, by decide +kernel, by decide +kernel⟩
noncomputable def b_Machine___len__ : MS :=
 (mRet (mCB sLenU (mRc (mR (mFld "Machine" "held_rows" (mSl 0))) mRn)))
noncomputable def φ_Machine___len__ : Fs := fnS 1 1 (prL [0]) b_Machine___len__
abbrev st_law_apart : Stmt := top 31
abbrev N_law_apart : List Str := ["_law_rows", "_law_ends", "_law_size", "_law_apart_here", "_law_lead", "_law_many", "_law_follow", "_law_names_here", "_law_state", "_law_steps", "_law_name", "_law_after", "_law_k", "_law_pair"]
theorem sc_law_apart : FnScope N_law_apart ["_law_rows", "_law_ends"] (defScope st_law_apart) := ⟨rfl, rfl, rfl, by decide +kernel, rfl, by decide +kernel, by decide +kernel⟩
noncomputable def b_law_apart : MS :=
 ((mAsg 2 (mCB sLenU (mRc (mSl 0) mRn))).seq
 ((mAsg 3 mDn).seq
 ((mFor (mRg1 (mN 2)) (tgN 4)
 (mFor (mRg1 (mN 2)) (tgN 6)
 ((mAsg 7 (mLc (mItA (mF (mTup (mVc (mN 4) (mVc (mN 6) mVn))))) (tgN 8) (M.ret true) (mF (mLc (mItA (mF (mBin sIx (mSl 0) (mSl 8)))) (tgT 2 (tgsC (tgN 10) (tgsC (tgN 11) tgs0))) (M.ret true) (mN 10) [10, 11])) [8])).seq
 (mIf (mTo (mTst (mBin (sEq true) (mR (mF (mBin sIn2 (mSl 4) (mSl 1)))) (mR (mF (mBin sIn2 (mSl 6) (mSl 1)))))) (mTst (mBin (sEq true) (mR (mF (mBin sIx (mSl 7) (mR (mC (.int 0)))))) (mR (mF (mBin sIx (mSl 7) (mR (mC (.int 1)))))))))
 (mSto 3 (mF (mTup (mVc (mN 4) (mVc (mN 6) mVn)))) (mC (.bl true)))
 MS.nop)))).seq
 ((mAsg 5 (mO (mNeg (mC (.int 1))))).seq
 ((mWhl (mTst (mBin (sEq true) (mSl 5) (mR (mF (mCB sLenU (mRc (mSl 3) mRn))))))
 ((mAsg 5 (mCB sLenU (mRc (mSl 3) mRn))).seq
 (mFor (mRg1 (mN 2)) (tgN 4)
 (mFor (mRg1 (mN 2)) (tgN 6)
 (mIf (mTst (mBin sNotIn2 (mR (mF (mTup (mVc (mN 4) (mVc (mN 6) mVn))))) (mSl 3)))
 ((mAsg 9 (mLc (mRg1 (mF (mCB sLenU (mRc (mR (mF (mBin sIx (mSl 0) (mSl 4)))) mRn)))) (tgN 12) (M.ret true) (mF (mTup (mVc (mF (mBin sIx (mR (mF (mBin sIx (mR (mF (mBin sIx (mSl 0) (mSl 4)))) (mSl 12)))) (mR (mC (.int 1))))) (mVc (mF (mBin sIx (mR (mF (mBin sIx (mR (mF (mBin sIx (mSl 0) (mSl 6)))) (mSl 12)))) (mR (mC (.int 1))))) mVn)))) [12])).seq
 (mIf (mTst (mBin (sEq true) (mR (mF (mLc (mItA (mN 9)) (tgN 13) (mTst (mBin sIn2 (mSl 13) (mSl 3))) (mN 13) [13]))) (mR (mF (mLst mVn)))))
 (mSto 3 (mF (mTup (mVc (mN 4) (mVc (mN 6) mVn)))) (mC (.bl true)))
 MS.nop))
 MS.nop))))).seq
 (mRet (mBin sEq2 (mR (mF (mCB sLenU (mRc (mSl 3) mRn)))) (mR (mF (mBin sSub (mR (mF (mBin sMul (mSl 2) (mSl 2)))) (mSl 2)))))))))))
noncomputable def φ_law_apart : Fs := fnS 14 2 (prL [0, 1]) b_law_apart
abbrev st_law_alike : Stmt := top 30
abbrev N_law_alike : List Str := ["_law_plan", "_law_lasts", "_law_rows", "_law_ends", "_law_pairs", "_law_at", "_law_steps", "_law_name", "_law_raw_here", "_law_heard"]
theorem sc_law_alike : FnScope N_law_alike ["_law_plan", "_law_lasts", "_law_rows", "_law_ends"] (defScope st_law_alike) := ⟨rfl, rfl, rfl, by decide +kernel, rfl, by decide +kernel, by decide +kernel⟩
noncomputable def b_law_alike : MS :=
 ((mPar [4, 5] (mOc (mLst (mVc (mF (mTup (mVc (mC (.int 0)) (mVc (mC (.int 0)) mVn)))) mVn)) (mOc (mO (mC (.int 0))) mOn))).seq
 ((mWhl (mTst (mBin sLtI (mSl 5) (mR (mF (mCB sLenU (mRc (mSl 4) mRn))))))
 ((mUnp (tgT 2 (tgsC (tgN 8) (tgsC (tgN 9) tgs0))) (mF (mBin sIx (mSl 4) (mSl 5)))).seq
 ((mAsg 6 (mCB sDict2 (mRc (mR (mF (mBin sIx (mSl 2) (mSl 9)))) mRn))).seq
 ((mIf (mTo (mTst (mBin (sEq true) (mR (mF (mCB sSorted2 (mRc (mSl 6) mRn)))) (mR (mF (mCB sSorted2 (mRc (mR (mF (mBin sIx (mSl 0) (mSl 8)))) mRn)))))) (mTst (mBin (sEq true) (mR (mF (mBin sIn2 (mSl 8) (mSl 1)))) (mR (mF (mBin sIn2 (mSl 9) (mSl 3)))))))
 (mRet (mO (mC (.bl false))))
 MS.nop).seq
 ((mFor (mItA (mN 6)) (tgN 7)
 (mIf (mTst (mBin sNotIn2 (mR (mF (mTup (mVc (mF (mBin sIx (mR (mF (mBin sIx (mSl 0) (mSl 8)))) (mSl 7))) (mVc (mF (mBin sIx (mSl 6) (mSl 7))) mVn))))) (mSl 4)))
 (mDrp (mF (mMu isL sApp 4 (mVc (mF (mTup (mVc (mF (mBin sIx (mR (mF (mBin sIx (mSl 0) (mSl 8)))) (mSl 7))) (mVc (mF (mBin sIx (mSl 6) (mSl 7))) mVn)))) mVn))))
 MS.nop)).seq
 (mAsg 5 (mBin sAdd2 (mSl 5) (mR (mC (.int 1)))))))))).seq
 (mRet (mO (mC (.bl true))))))
noncomputable def φ_law_alike : Fs := fnS 10 4 (prL [0, 1, 2, 3]) b_law_alike
abbrev st_law : Stmt := top 32
abbrev N_law : List Str := ["_law_script", "_law_at", "_law_purse_here", "_law_names_here", "_law_engine", "_law_plan", "_law_lasts", "_law_rows", "_law_ends"]
theorem sc_law : FnScope N_law ["_law_script"] (defScope st_law) := ⟨rfl, rfl, rfl, by decide +kernel, rfl, by decide +kernel, by decide +kernel⟩
noncomputable def b_law : MS :=
 ((mFor (mRg1 (mF (mCB sMx (mRc (mR (mC (.int 1))) (mRc (mR (mF (mCB sMin2 (mRc (mR (mC (.int 20))) (mRc (mR (mF (mCB sLenU (mRc (mSl 0) mRn)))) mRn))))) mRn))))) (tgN 1)
 ((mAsg 2 (mCall 2 φ_law_purse (mRc (mSl 0) (mRc (mSl 1) mRn)))).seq
 ((mAsg 3 (mCall 2 φ_law_names (mRc (mSl 2) (mRc (mR (mF (mBin sAdd (mR (mC (.int 1))) (mR (mF (mCall 2 φ_law_spend (mRc (mSl 2) (mRc (mR (mC (.int 5))) mRn)))))))) mRn)))).seq
 ((mUnp (tgT 2 (tgsC (tgN 5) (tgsC (tgN 6) tgs0))) (mF (mCall 3 φ_law_raw (mRc (mSl 2) (mRc (mSl 3) (mRc (mR (mF (mIfE (mTst (mBin (sEq false) (mSl 1) (mR (mC (.int 0))))) (mO (mC (.int 20))) (mO (mC (.int 6)))))) mRn)))))).seq
 ((mAsg 4 (mMk "Machine" 3 φ_Machine___init__ (mRc (mR (mF (mCall 1 φ_law_copied (mRc (mSl 5) mRn)))) (mRc (mR (mF (mCall 2 φ_law_listed (mRc (mSl 2) (mRc (mSl 6) mRn))))) mRn)))).seq
 ((mPar [7, 8] (mOc (mProp "Machine" φ_Machine_states (mSl 4)) (mOc (mProp "Machine" φ_Machine_finals (mSl 4)) mOn))).seq
 ((mIf (mTo (mTst (mBin (sEq true) (mR (mF (mLenX "Machine" φ_Machine___len__ (mSl 4)))) (mR (mF (mCB sLenU (mRc (mSl 7) mRn)))))) (mTn (mTst (mCall 2 φ_law_shape_right (mRc (mSl 7) (mRc (mSl 8) mRn))))))
 (mRet (mO (mC (.bl false))))
 MS.nop).seq
 (mIf (mTo (mTn (mTst (mCall 4 φ_law_alike (mRc (mSl 5) (mRc (mSl 6) (mRc (mSl 7) (mRc (mSl 8) mRn))))))) (mTn (mTst (mCall 2 φ_law_apart (mRc (mSl 7) (mRc (mSl 8) mRn))))))
 (mRet (mO (mC (.bl false))))
 MS.nop)))))))).seq
 (mRet (mO (mC (.bl true)))))
noncomputable def φ_law : Fs := fnS 9 1 (prL [0]) b_law
theorem ok_law_purse {P : Program} {w : World} {K : PySem.W.Frag} {mg : Str → Option Value} {base : Heap} {f : Addr} {fd : FuncData} {C_Machine : Addr} (fr : Fr K mg C_Machine) (hm : mg "_law_purse" = some (.ref f)) (F : FunD K "_law_purse" "_law_purse" (defArgs st_law_purse) (defBody st_law_purse) (defScope st_law_purse) [] [] f fd) : FnV P w K mg base 1 "_law_purse" 2 φ_law_purse :=
  fn_rule (k := 0) (N := N_law_purse) (pr := prL [0, 1]) hm F sc_law_purse (fun _ _ _ _ _ _ us hl => match us, hl with | [_, _], _ => rfl) fun cdv A outer s H E ct =>
 (bv_cons (sv_set (i := 2) ct.hN rfl (by first | exact Or.inl rfl | exact Or.inr rfl) rfl (po_if (pt_cmp' ok_ltI (pr_n 1) (pr_of (pv_of (po_callB ok_lenU rfl fr.f_len bt_len (prs_cons (pr_n 0) prs_nil)))) (by first | exact nomark _ | with_unfolding_all rfl)) (po_ix (ok_ix ct.hr.units) (pr_n 0) (pr_n 1) (by intro _ _; rfl)) (po_of pv_int)))
 (bv_one (sv_ret (po_lst (pvs_cons (pv_of (po_callB (ok_mx ct.hc) rfl fr.f_max bt_max (prs_cons (pr_of pv_int) (prs_cons (pr_of (pv_of (po_bin ok_sub (pr_of (pv_of (po_callB ok_abs rfl fr.f_abs bt_abs (prs_cons (pr_n 2) prs_nil)))) (pr_of (pv_of (po_bin ok_pow (pr_of pv_int) (pr_of pv_int))))))) prs_nil)))) (pvs_cons (pv_of (po_bin ok_add (pr_of (pv_of (po_bin ok_add (pr_of (pv_of (po_bin ok_mul (pr_of (pv_of (po_bin ok_mod (pr_of (pv_of (po_callTy ok_int rfl fr.f_int bt_int (prs_cons (pr_n 2) prs_nil)))) (pr_of (pv_of (po_bin ok_add (pr_of (pv_of (po_bin ok_pow (pr_of pv_int) (pr_of pv_int)))) (pr_of pv_int))))))) (pr_of pv_int)))) (pr_of (pv_of (po_bin ok_mul (pr_of pv_int) (pr_n 1))))))) (pr_of pv_int))) (pvs_cons pv_int pvs_nil)))))))
theorem ok_law_spend {P : Program} {w : World} {K : PySem.W.Frag} {mg : Str → Option Value} {base : Heap} {f : Addr} {fd : FuncData} {C_Machine : Addr} (fr : Fr K mg C_Machine) (hm : mg "_law_spend" = some (.ref f)) (F : FunD K "_law_spend" "_law_spend" (defArgs st_law_spend) (defBody st_law_spend) (defScope st_law_spend) [] [] f fd) : FnV P w K mg base 1 "_law_spend" 2 φ_law_spend :=
  fn_rule (k := 0) (N := N_law_spend) (pr := prL [0, 1]) hm F sc_law_spend (fun _ _ _ _ _ _ us hl => match us, hl with | [_, _], _ => rfl) fun cdv A outer s H E ct =>
 (bv_cons (sv_if (pt_cmp' ok_gtI (pr_of (pv_of (po_ix (ok_ix ct.hr.units) (pr_n 0) (pr_of pv_int) (by intro _ _; rfl)))) (pr_of pv_int) (by first | exact nomark _ | with_unfolding_all rfl))
 (bv_cons (sv_set (i := 3) ct.hN rfl (by first | exact Or.inl rfl | exact Or.inr rfl) rfl (po_bin ok_mod (pr_of (pv_of (po_callTy ok_int rfl fr.f_int bt_int (prs_cons (pr_of (pv_of (po_ix (ok_ix ct.hr.units) (pr_n 0) (pr_of pv_int) (by intro _ _; rfl)))) prs_nil)))) (pr_n 1)))
 (bv_cons (sv_sto (i := 0) ct.hr.units rfl (by first | exact Or.inl rfl | exact Or.inr (Or.inl rfl)) pv_int (pv_of (po_bin ok_div (pr_of (pv_of (po_ix (ok_ix ct.hr.units) (pr_n 0) (pr_of pv_int) (by intro _ _; rfl)))) (pr_n 1))))
 (bv_one (sv_retV (i := 3) rfl (by first | exact Or.inl rfl | exact Or.inr (Or.inl rfl))))))
 bv_nil)
 (bv_cons (sv_sto (i := 0) ct.hr.units rfl (by first | exact Or.inl rfl | exact Or.inr (Or.inl rfl)) pv_int (pv_of (po_bin ok_add (pr_of (pv_of (po_ix (ok_ix ct.hr.units) (pr_n 0) (pr_of pv_int) (by intro _ _; rfl)))) (pr_of pv_int))))
 (bv_cons (sv_set (i := 2) ct.hN rfl (by first | exact Or.inl rfl | exact Or.inr rfl) rfl (po_bin ok_mod (pr_of (pv_of (po_callTy ok_int rfl fr.f_int bt_int (prs_cons (pr_of (pv_of (po_bin ok_add (pr_of (pv_of (po_ix (ok_ix ct.hr.units) (pr_n 0) (pr_of pv_int) (by intro _ _; rfl)))) (pr_of (pv_of (po_bin ok_mul (pr_of pv_int) (pr_of (pv_of (po_ix (ok_ix ct.hr.units) (pr_n 0) (pr_of pv_int) (by intro _ _; rfl)))))))))) prs_nil)))) (pr_of pv_int)))
 (bv_cons (sv_set (i := 2) ct.hN rfl (by first | exact Or.inl rfl | exact Or.inr rfl) rfl (po_bin ok_mod (pr_of (pv_of (po_callTy ok_int rfl fr.f_int bt_int (prs_cons (pr_of (pv_of (po_bin ok_add (pr_of (pv_of (po_bin ok_mul (pr_n 2) (pr_n 2)))) (pr_of (pv_of (po_ix (ok_ix ct.hr.units) (pr_n 0) (pr_of pv_int) (by intro _ _; rfl))))))) prs_nil)))) (pr_of pv_int)))
 (bv_cons (sv_set (i := 2) ct.hN rfl (by first | exact Or.inl rfl | exact Or.inr rfl) rfl (po_bin ok_mod (pr_of (pv_of (po_callTy ok_int rfl fr.f_int bt_int (prs_cons (pr_of (pv_of (po_bin ok_mul (pr_of (pv_of (po_bin ok_mul (pr_n 2) (pr_n 2)))) (pr_n 2)))) prs_nil)))) (pr_of pv_int)))
 (bv_one (sv_ret (po_bin ok_mod (pr_of (pv_of (po_bin ok_div (pr_n 2) (pr_of pv_int)))) (pr_n 1)))))))))
theorem ok_law_names {P : Program} {w : World} {K : PySem.W.Frag} {mg : Str → Option Value} {base : Heap} {f : Addr} {fd : FuncData} {C_Machine : Addr} (fr : Fr K mg C_Machine) (hm : mg "_law_names" = some (.ref f)) (F : FunD K "_law_names" "_law_names" (defArgs st_law_names) (defBody st_law_names) (defScope st_law_names) [] [] f fd) (F_law_spend : FnV P w K mg base 1 "_law_spend" 2 φ_law_spend) : FnV P w K mg base 2 "_law_names" 2 φ_law_names :=
  fn_rule (k := 1) (N := N_law_names) (pr := prL [0, 1]) hm F sc_law_names (fun _ _ _ _ _ _ us hl => match us, hl with | [_, _], _ => rfl) fun cdv A outer s H E ct =>
 (bv_cons (sv_set (i := 2) ct.hN rfl (by first | exact Or.inl rfl | exact Or.inr rfl) rfl (po_of pv_str))
 (bv_cons (sv_par3 ct.hc (pos_cons (po_call ct F_law_spend (by omega) rfl (prs_cons (pr_n 0) (prs_cons (pr_of pv_int) prs_nil))) (pos_cons (po_call ct F_law_spend (by omega) rfl (prs_cons (pr_n 0) (prs_cons (pr_of pv_int) prs_nil))) (pos_cons (po_call ct F_law_spend (by omega) rfl (prs_cons (pr_n 0) (prs_cons (pr_of pv_int) prs_nil))) pos_nil))) ct.hN (by intro i hi; revert hi i; decide) rfl rfl rfl (by decide) (by decide) (by decide) rfl rfl rfl)
 (bv_cons (sv_set (i := 3) ct.hN rfl (by first | exact Or.inl rfl | exact Or.inr rfl) rfl (po_ix (ok_ix ct.hr.units) (pr_of (pv_of (po_lst (pvs_cons pv_int (pvs_cons pv_int (pvs_cons pv_int (pvs_cons pv_int (pvs_cons pv_int (pvs_cons pv_int (pvs_cons pv_int (pvs_cons pv_int pvs_nil))))))))))) (pr_of (pv_of (po_call ct F_law_spend (by omega) rfl (prs_cons (pr_n 0) (prs_cons (pr_of pv_int) prs_nil))))) (by intro _ _; rfl)))
 (bv_cons (sv_par2 ct.hc (pos_cons (po_bin ok_add (pr_of pv_int) (pr_of (pv_of (po_call ct F_law_spend (by omega) rfl (prs_cons (pr_n 0) (prs_cons (pr_of pv_int) prs_nil)))))) (pos_cons (po_lst pvs_nil) pos_nil)) ct.hN (by intro i hi; revert hi i; decide) rfl rfl (by decide) rfl rfl)
 (bv_cons (sv_for (pr' := prL [0, 1]) ct.ps ct.hc (iv_range1 rfl fr.f_range (pv_n 1)) nog_rg1.src (prL_sub rfl) (gv_n 4 ct)
 (bv_cons (sv_if (pt_cmp' (ok_eq ct.hr.units) (pr_n 7) (pr_of pv_int) (by first | exact nomark _ | with_unfolding_all rfl))
 (bv_one (sv_set (i := 8) ct.hN rfl (by first | exact Or.inl rfl | exact Or.inr rfl) rfl (po_of pv_int)))
 bv_nil)
 (bv_cons (sv_if (pt_cmp' (ok_eq ct.hr.units) (pr_n 7) (pr_of pv_int) (by first | exact nomark _ | with_unfolding_all rfl))
 (bv_one (sv_set (i := 8) ct.hN rfl (by first | exact Or.inl rfl | exact Or.inr rfl) rfl (po_bin ok_add (pr_of pv_int) (pr_of (pv_of (po_call ct F_law_spend (by omega) rfl (prs_cons (pr_n 0) (prs_cons (pr_of pv_int) prs_nil))))))))
 bv_nil)
 (bv_cons (sv_set (i := 10) ct.hN rfl (by first | exact Or.inl rfl | exact Or.inr rfl) rfl (po_call ct F_law_spend (by omega) rfl (prs_cons (pr_n 0) (prs_cons (pr_n 8) prs_nil))))
 (bv_cons (sv_set (i := 11) ct.hN rfl (by first | exact Or.inl rfl | exact Or.inr rfl) rfl (po_bin ok_mul (pr_of (pv_of (po_ix (ok_ix ct.hr.units) (pr_n 2) (pr_n 6) (by intro _ _; rfl)))) (pr_n 8)))
 (bv_cons (sv_set (i := 12) ct.hN rfl (by first | exact Or.inl rfl | exact Or.inr rfl) rfl (po_ix (ok_ix ct.hr.units) (pr_n 2) (pr_of (pv_of (po_bin ok_mod (pr_of (pv_of (po_callTy ok_int rfl fr.f_int bt_int (prs_cons (pr_of (pv_of (po_bin ok_add (pr_n 5) (pr_of (pv_of (po_bin ok_mul (pr_n 3) (pr_n 4))))))) prs_nil)))) (pr_of pv_int)))) (by intro _ _; rfl)))
 (bv_one (sv_exprO (po_mu ok_append PySem.F.plainAttrs_list PySem.F.slot_list_append PySem.F.type_list_append (i := 9) rfl (by first | exact Or.inl rfl | exact Or.inr (Or.inl rfl) | exact Or.inr (Or.inr rfl)) (pvs_cons (pv_of (po_bin ok_add (pr_of (pv_of (po_bin ok_add (pr_of (pv_of (po_slc (ok_slL.or ok_slS) (pr_n 11) pp_none (pp_some (pv_n 10))))) (pr_n 12)))) (pr_of (pv_of (po_slc (ok_slL.or ok_slS) (pr_n 11) (pp_some (pv_of (po_bin ok_add (pr_n 10) (pr_of pv_int)))) pp_none))))) pvs_nil))))))))))
 (bv_cons (sv_if (pt_of (pwb_and (pt_cmp' (ok_eq ct.hr.units) (pr_n 7) (pr_of pv_int) (by first | exact nomark _ | with_unfolding_all rfl)) (pwb_and1 (pt_cmp' (ok_notIn ct.hr.units) (pr_of (pv_of (po_stp (pr_of (pv_of (po_ix (ok_ix ct.hr.units) (pr_n 9) (pr_of pv_int) (by intro _ _; rfl)))) (pv_neg pv_int)))) (pr_n 9) (by first | exact nomark _ | with_unfolding_all rfl)))))
 (bv_one (sv_sto (i := 9) ct.hr.units rfl (by first | exact Or.inl rfl | exact Or.inr (Or.inl rfl)) (pv_of (po_bin ok_sub (pr_n 1) (pr_of pv_int))) (pv_of (po_stp (pr_of (pv_of (po_ix (ok_ix ct.hr.units) (pr_n 9) (pr_of pv_int) (by intro _ _; rfl)))) (pv_neg pv_int)))))
 bv_nil)
 (bv_one (sv_retV (i := 9) rfl (by first | exact Or.inl rfl | exact Or.inr (Or.inl rfl))))))))))
theorem ok_law_raw {P : Program} {w : World} {K : PySem.W.Frag} {mg : Str → Option Value} {base : Heap} {f : Addr} {fd : FuncData} {C_Machine : Addr} (fr : Fr K mg C_Machine) (hm : mg "_law_raw" = some (.ref f)) (F : FunD K "_law_raw" "_law_raw" (defArgs st_law_raw) (defBody st_law_raw) (defScope st_law_raw) [] [] f fd) (F_law_spend : FnV P w K mg base 1 "_law_spend" 2 φ_law_spend) : FnV P w K mg base 2 "_law_raw" 3 φ_law_raw :=
  fn_rule (k := 1) (N := N_law_raw) (pr := prL [0, 1, 2]) hm F sc_law_raw (fun _ _ _ _ _ _ us hl => match us, hl with | [_, _, _], _ => rfl) fun cdv A outer s H E ct =>
 (bv_cons (sv_set (i := 3) ct.hN rfl (by first | exact Or.inl rfl | exact Or.inr rfl) rfl (po_bin ok_add (pr_of pv_int) (pr_of (pv_of (po_call ct F_law_spend (by omega) rfl (prs_cons (pr_n 0) (prs_cons (pr_n 2) prs_nil)))))))
 (bv_cons (sv_par3 ct.hc (pos_cons (po_call ct F_law_spend (by omega) rfl (prs_cons (pr_n 0) (prs_cons (pr_of pv_int) prs_nil))) (pos_cons (po_call ct F_law_spend (by omega) rfl (prs_cons (pr_n 0) (prs_cons (pr_of pv_int) prs_nil))) (pos_cons (po_call ct F_law_spend (by omega) rfl (prs_cons (pr_n 0) (prs_cons (pr_of pv_int) prs_nil))) pos_nil))) ct.hN (by intro i hi; revert hi i; decide) rfl rfl rfl (by decide) (by decide) (by decide) rfl rfl rfl)
 (bv_cons (sv_par2 ct.hc (pos_cons (po_lst pvs_nil) (pos_cons (po_lst pvs_nil) pos_nil)) ct.hN (by intro i hi; revert hi i; decide) rfl rfl (by decide) rfl rfl)
 (bv_cons (sv_for (pr' := prL [0, 1, 2]) ct.ps ct.hc (iv_range1 rfl fr.f_range (pv_n 3)) nog_rg1.src (prL_sub rfl) (gv_n 4 ct)
 (bv_cons (sv_set (i := 10) ct.hN rfl (by first | exact Or.inl rfl | exact Or.inr rfl) rfl po_dn)
 (bv_cons (sv_for (pr' := prL [0, 1, 2]) ct.ps ct.hc (iv_any (pv_of (po_ix (ok_ix ct.hr.units) (pr_of (pv_of (po_lst (pvs_cons (pv_n 1) (pvs_cons (pv_of (po_stp (pr_n 1) (pv_neg pv_int))) pvs_nil))))) (pr_of (pv_of (po_call ct F_law_spend (by omega) rfl (prs_cons (pr_n 0) (prs_cons (pr_of pv_int) prs_nil))))) (by intro _ _; rfl)))) nog_any.src (prL_sub rfl) (gv_n 11 ct)
 (bv_cons (sv_set (i := 14) ct.hN rfl (by first | exact Or.inl rfl | exact Or.inr rfl) rfl (po_call ct F_law_spend (by omega) rfl (prs_cons (pr_n 0) (prs_cons (pr_of (pv_of (po_bin ok_add (pr_n 3) (pr_of (pv_of (po_ix (ok_ix ct.hr.units) (pr_of (pv_of (po_lst (pvs_cons pv_int (pvs_cons pv_int (pvs_cons (pv_n 3) pvs_nil)))))) (pr_n 5) (by intro _ _; rfl))))))) prs_nil))))
 (bv_one (sv_if (pt_cmp' ok_ltI (pr_n 14) (pr_n 3) (by first | exact nomark _ | with_unfolding_all rfl))
 (bv_one (sv_sto (i := 10) ct.hr.units rfl (by first | exact Or.inl rfl | exact Or.inr (Or.inl rfl)) (pv_n 11) (pv_n 14)))
 bv_nil))))
 (bv_cons (sv_exprO (po_mu ok_append PySem.F.plainAttrs_list PySem.F.slot_list_append PySem.F.type_list_append (i := 8) rfl (by first | exact Or.inl rfl | exact Or.inr (Or.inl rfl) | exact Or.inr (Or.inr rfl)) (pvs_cons (pv_n 10) pvs_nil)))
 (bv_one (sv_if (pt_of (pwb_or (pt_cmp' (ok_eq ct.hr.units) (pr_n 7) (pr_of pv_int) (by first | exact nomark _ | with_unfolding_all rfl)) (pwb_or1 (pt_of (pwb_and (pt_cmp' ok_gtI (pr_n 7) (pr_of pv_int) (by first | exact nomark _ | with_unfolding_all rfl)) (pwb_and1 (pt_cmp' (ok_eq ct.hr.units) (pr_of (pv_of (po_call ct F_law_spend (by omega) rfl (prs_cons (pr_n 0) (prs_cons (pr_of pv_int) prs_nil))))) (pr_of pv_int) (by first | exact nomark _ | with_unfolding_all rfl))))))))
 (bv_one (sv_exprO (po_mu ok_append PySem.F.plainAttrs_list PySem.F.slot_list_append PySem.F.type_list_append (i := 9) rfl (by first | exact Or.inl rfl | exact Or.inr (Or.inl rfl) | exact Or.inr (Or.inr rfl)) (pvs_cons (pv_n 4) pvs_nil))))
 bv_nil))))))
 (bv_cons (sv_par ct.hc (pos_cons (po_call ct F_law_spend (by omega) rfl (prs_cons (pr_n 0) (prs_cons (pr_n 3) prs_nil))) (pos_cons (po_call ct F_law_spend (by omega) rfl (prs_cons (pr_n 0) (prs_cons (pr_n 3) prs_nil))) pos_nil)) (pgi_cons (i := 12) ct.hN rfl (by first | exact Or.inl rfl | exact Or.inr rfl) (pgi_cons (i := 13) ct.hN rfl (by first | exact Or.inl rfl | exact Or.inr rfl) pgi_nil)) (by intro i hi; revert hi i; decide))
 (bv_cons (sv_if (pt_cmp' (ok_eq ct.hr.units) (pr_n 6) (pr_of pv_int) (by first | exact nomark _ | with_unfolding_all rfl))
 (bv_cons (sv_sto (i := 8) ct.hr.units rfl (by first | exact Or.inl rfl | exact Or.inr (Or.inl rfl)) (pv_n 13) (pv_of (po_callTy (ok_dict2 ct.hc) rfl fr.f_dict bt_dict (prs_cons (pr_of (pv_of (po_ix (ok_ix ct.hr.units) (pr_n 8) (pr_n 12) (by intro _ _; rfl)))) prs_nil))))
 (bv_one (sv_set (i := 9) ct.hN rfl (by first | exact Or.inl rfl | exact Or.inr rfl) rfl (po_bin ok_add (pr_of (pv_of (po_lc ct.hc ct.hN (iv_name (i := 9) rfl (by first | exact Or.inl rfl | exact Or.inr (Or.inl rfl) | exact Or.inr (Or.inr rfl))) (blkOk_by (own := [("_law_state", 4)]) (by first | (show blkC N_law_raw (defScope st_law_raw) _ _ = true; decide +kernel) | rfl)) rfl (fun _ _ _ _ _ => (gv_n 4 ct.blk)) (fun _ _ _ _ _ => (cv_one (pt_cmp' (ok_ne ct.hr.units) (pr_n 4) (pr_n 13) (by first | exact nomark _ | with_unfolding_all rfl)))) (fun _ _ _ _ _ => (pv_n 4))))) (pr_of (pv_of (po_if (pt_cmp' (ok_in ct.hr.units) (pr_n 12) (pr_n 9) (by first | exact nomark _ | with_unfolding_all rfl)) (po_lst (pvs_cons (pv_n 13) pvs_nil)) (po_lst pvs_nil))))))))
 bv_nil)
 (bv_one (sv_ret (po_tup (pvs_cons (pv_n 8) (pvs_cons (pv_n 9) pvs_nil)))))))))))
theorem ok_is_name {P : Program} {w : World} {K : PySem.W.Frag} {mg : Str → Option Value} {base : Heap} {f : Addr} {fd : FuncData} {C_Machine : Addr} (fr : Fr K mg C_Machine) (hm : mg "is_name" = some (.ref f)) (F : FunD K "is_name" "is_name" (defArgs st_is_name) (defBody st_is_name) (defScope st_is_name) [] [] f fd) : FnV P w K mg base 1 "is_name" 1 φ_is_name :=
  fn_rule (k := 0) (N := N_is_name) (pr := prL [0]) hm F sc_is_name (fun _ _ _ _ _ _ us hl => match us, hl with | [_], _ => rfl) fun cdv A outer s H E ct =>
 (bv_one (sv_ret (po_and (po_chn ok_ltI ok_leI (pr_of pv_int) (pr_of (pv_of (po_callB ok_lenU rfl fr.f_len bt_len (prs_cons (pr_n 0) prs_nil)))) (pr_of (fr.c_LONGEST rfl))) (po_one (po_callB (ok_all ct.hc) rfl fr.f_all bt_all (prs_cons (pr_of (pv_of (po_lc ct.hc ct.hN (iv_any (pv_n 0)) (blkOk_by (own := [("sign", 1)]) (by first | (show blkC N_is_name (defScope st_is_name) _ _ = true; decide +kernel) | rfl)) rfl (fun _ _ _ _ _ => (gv_n 1 ct.blk)) (fun _ _ _ _ _ => cv_nil) (fun _ _ _ _ _ => (pv_of (po_cmp (ok_in ct.hr.units) (pr_n 1) (pr_of (fr.c_LETTERS rfl)) (by first | exact nomark _ | with_unfolding_all rfl))))))) prs_nil))))))
theorem ok_check_steps {P : Program} {w : World} {K : PySem.W.Frag} {mg : Str → Option Value} {base : Heap} {f : Addr} {fd : FuncData} {C_Machine : Addr} (fr : Fr K mg C_Machine) (hm : mg "check_steps" = some (.ref f)) (F : FunD K "check_steps" "check_steps" (defArgs st_check_steps) (defBody st_check_steps) (defScope st_check_steps) [] [] f fd) (F_is_name : FnV P w K mg base 1 "is_name" 1 φ_is_name) : FnV P w K mg base 2 "check_steps" 3 φ_check_steps :=
  fn_rule (k := 1) (N := N_check_steps) (pr := prL [0, 1, 2]) hm F sc_check_steps (fun _ _ _ _ _ _ us hl => match us, hl with | [_, _, _], _ => rfl) fun cdv A outer s H E ct =>
 (bv_one (sv_for (pr' := prL [0, 1, 2]) ct.ps ct.hc (iv_any (pv_of (po_callB (ok_sorted ct.hc) rfl fr.f_sorted bt_sorted (prs_cons (pr_n 1) prs_nil)))) nog_any.src (prL_sub rfl) (gv_n 3 ct)
 (bv_cons (sv_if (pt_not' (pt_vb (po_call ct F_is_name (by omega) rfl (prs_cons (pr_n 3) prs_nil))))
 (bv_one sv_bad)
 bv_nil)
 (bv_one (sv_if (pt_not' (pt_chn ok_leI ok_ltI (pr_of pv_int) (pr_of (pv_of (po_ix (ok_ix ct.hr.units) (pr_n 1) (pr_n 3) (by intro _ _; rfl)))) (pr_n 2)))
 (bv_one sv_bad)
 bv_nil)))))
theorem ok_check_machine {P : Program} {w : World} {K : PySem.W.Frag} {mg : Str → Option Value} {base : Heap} {f : Addr} {fd : FuncData} {C_Machine : Addr} (fr : Fr K mg C_Machine) (hm : mg "check_machine" = some (.ref f)) (F : FunD K "check_machine" "check_machine" (defArgs st_check_machine) (defBody st_check_machine) (defScope st_check_machine) [] [] f fd) (F_check_steps : FnV P w K mg base 2 "check_steps" 3 φ_check_steps) : FnV P w K mg base 3 "check_machine" 2 φ_check_machine :=
  fn_rule (k := 2) (N := N_check_machine) (pr := prL [0, 1]) hm F sc_check_machine (fun _ _ _ _ _ _ us hl => match us, hl with | [_, _], _ => rfl) fun cdv A outer s H E ct =>
 (bv_cons (sv_for (pr' := prL [0, 1]) ct.ps ct.hc (iv_enum2 rfl fr.f_enumerate (pv_n 0)) nog_enum2.src (prL_sub rfl) (gv_tup ct.hc (gvs_cons (gv_n 2 ct) (gvs_cons (gv_n 3 ct) gvs_nil)))
 (bv_one (sv_exprO (po_call ct F_check_steps (by omega) rfl (prs_cons (pr_n 2) (prs_cons (pr_n 3) (prs_cons (pr_of (pv_of (po_callB ok_lenU rfl fr.f_len bt_len (prs_cons (pr_n 0) prs_nil)))) prs_nil)))))))
 (bv_one (sv_for (pr' := prL [0, 1]) ct.ps ct.hc (iv_any (pv_n 1)) nog_any.src (prL_sub rfl) (gv_n 2 ct)
 (bv_one (sv_if (pt_not' (pt_chn ok_leI ok_ltI (pr_of pv_int) (pr_n 2) (pr_of (pv_of (po_callB ok_lenU rfl fr.f_len bt_len (prs_cons (pr_n 0) prs_nil))))))
 (bv_one sv_bad)
 bv_nil)))))
theorem ok_first_reached {P : Program} {w : World} {K : PySem.W.Frag} {mg : Str → Option Value} {base : Heap} {f : Addr} {fd : FuncData} {C_Machine : Addr} (fr : Fr K mg C_Machine) (hm : mg "first_reached" = some (.ref f)) (F : FunD K "first_reached" "first_reached" (defArgs st_first_reached) (defBody st_first_reached) (defScope st_first_reached) [] [] f fd) : FnV P w K mg base 1 "first_reached" 1 φ_first_reached :=
  fn_rule (k := 0) (N := N_first_reached) (pr := prL [0]) hm F sc_first_reached (fun _ _ _ _ _ _ us hl => match us, hl with | [_], _ => rfl) fun cdv A outer s H E ct =>
 (bv_cons (sv_set (i := 1) ct.hN rfl (by first | exact Or.inl rfl | exact Or.inr rfl) rfl (po_lst (pvs_cons pv_int pvs_nil)))
 (bv_cons (sv_set (i := 2) ct.hN rfl (by first | exact Or.inl rfl | exact Or.inr rfl) rfl (po_disp1 pv_int pv_bl))
 (bv_cons (sv_set (i := 3) ct.hN rfl (by first | exact Or.inl rfl | exact Or.inr rfl) rfl (po_of pv_int))
 (bv_cons (sv_while ct.ps (pt_cmp' ok_ltI (pr_n 3) (pr_of (pv_of (po_callB ok_lenU rfl fr.f_len bt_len (prs_cons (pr_n 1) prs_nil)))) (by first | exact nomark _ | with_unfolding_all rfl))
 (bv_cons (sv_for (pr' := prL [0]) ct.ps ct.hc (iv_any (pv_of (po_ix (ok_ix ct.hr.units) (pr_n 0) (pr_of (pv_of (po_ix (ok_ix ct.hr.units) (pr_n 1) (pr_n 3) (by intro _ _; rfl)))) (by intro _ _; rfl)))) nog_any.src (prL_sub rfl) (gv_tup ct.hc (gvs_cons (gv_n 4 ct) (gvs_cons (gv_n 5 ct) gvs_nil)))
 (bv_one (sv_if (pt_cmp' (ok_notIn ct.hr.units) (pr_n 5) (pr_n 2) (by first | exact nomark _ | with_unfolding_all rfl))
 (bv_cons (sv_sto (i := 2) ct.hr.units rfl (by first | exact Or.inl rfl | exact Or.inr (Or.inl rfl)) (pv_n 5) pv_bl)
 (bv_one (sv_exprO (po_mu ok_append PySem.F.plainAttrs_list PySem.F.slot_list_append PySem.F.type_list_append (i := 1) rfl (by first | exact Or.inl rfl | exact Or.inr (Or.inl rfl) | exact Or.inr (Or.inr rfl)) (pvs_cons (pv_n 5) pvs_nil)))))
 bv_nil)))
 (bv_one (sv_set (i := 3) ct.hN rfl (by first | exact Or.inl rfl | exact Or.inr rfl) rfl (po_bin ok_add (pr_n 3) (pr_of pv_int))))))
 (bv_one (sv_retV (i := 1) rfl (by first | exact Or.inl rfl | exact Or.inr (Or.inl rfl))))))))
theorem ok_kinds_of {P : Program} {w : World} {K : PySem.W.Frag} {mg : Str → Option Value} {base : Heap} {f : Addr} {fd : FuncData} {C_Machine : Addr} (fr : Fr K mg C_Machine) (hm : mg "kinds_of" = some (.ref f)) (F : FunD K "kinds_of" "kinds_of" (defArgs st_kinds_of) (defBody st_kinds_of) (defScope st_kinds_of) [] [] f fd) (F_first_reached : FnV P w K mg base 1 "first_reached" 1 φ_first_reached) : FnV P w K mg base 2 "kinds_of" 2 φ_kinds_of :=
  fn_rule (k := 1) (N := N_kinds_of) (pr := prL [0, 1]) hm F sc_kinds_of (fun _ _ _ _ _ _ us hl => match us, hl with | [_, _], _ => rfl) fun cdv A outer s H E ct =>
 (bv_cons (sv_set (i := 2) ct.hN rfl (by first | exact Or.inl rfl | exact Or.inr rfl) rfl (po_call ct F_first_reached (by omega) rfl (prs_cons (pr_n 0) prs_nil)))
 (bv_cons (sv_set (i := 3) ct.hN rfl (by first | exact Or.inl rfl | exact Or.inr rfl) rfl (po_dc ct.hc ct.hN (iv_any (pv_n 2)) (blkOk_by (own := [("state", 7)]) (by first | (show blkC N_kinds_of (defScope st_kinds_of) _ _ = true; decide +kernel) | rfl)) rfl (fun _ _ _ _ _ => (gv_n 7 ct.blk)) (fun _ _ _ _ _ => cv_nil) (fun _ _ _ _ _ => (pv_n 7)) (fun _ _ _ _ _ => (pv_of (po_ix (ok_ix ct.hr.units) (pr_n 1) (pr_n 7) (by intro _ _; rfl))))))
 (bv_cons (sv_set (i := 4) ct.hN rfl (by first | exact Or.inl rfl | exact Or.inr rfl) rfl (po_of pv_int))
 (bv_one (sv_while ct.ps (pt_tru (pr_of pv_bl))
 (bv_cons (sv_set (i := 5) ct.hN rfl (by first | exact Or.inl rfl | exact Or.inr rfl) rfl po_dn)
 (bv_cons (sv_set (i := 6) ct.hN rfl (by first | exact Or.inl rfl | exact Or.inr rfl) rfl po_dn)
 (bv_cons (sv_for (pr' := prL [0, 1]) ct.ps ct.hc (iv_any (pv_n 2)) nog_any.src (prL_sub rfl) (gv_n 7 ct)
 (bv_cons (sv_set (i := 8) ct.hN rfl (by first | exact Or.inl rfl | exact Or.inr rfl) rfl (po_tup (pvs_cons (pv_of (po_ix (ok_ix ct.hr.units) (pr_n 3) (pr_n 7) (by intro _ _; rfl))) (pvs_cons (pv_of (po_callTy ok_tuple rfl fr.f_tuple bt_tuple (prs_cons (pr_of (pv_of (po_lc ct.hc ct.hN (iv_any (pv_of (po_ix (ok_ix ct.hr.units) (pr_n 0) (pr_n 7) (by intro _ _; rfl)))) (blkOk_by (own := [("event", 9), ("after", 10)]) (by first | (show blkC N_kinds_of (defScope st_kinds_of) _ _ = true; decide +kernel) | rfl)) rfl (fun _ _ _ _ _ => (gv_tup ct.blk.hc (gvs_cons (gv_n 9 ct.blk) (gvs_cons (gv_n 10 ct.blk) gvs_nil)))) (fun _ _ _ _ _ => cv_nil) (fun _ _ _ _ _ => (pv_of (po_tup (pvs_cons (pv_n 9) (pvs_cons (pv_of (po_ix (ok_ix ct.hr.units) (pr_n 3) (pr_n 10) (by intro _ _; rfl))) pvs_nil)))))))) prs_nil))) pvs_nil))))
 (bv_cons (sv_if (pt_cmp' (ok_notIn ct.hr.units) (pr_n 8) (pr_n 5) (by first | exact nomark _ | with_unfolding_all rfl))
 (bv_one (sv_sto (i := 5) ct.hr.units rfl (by first | exact Or.inl rfl | exact Or.inr (Or.inl rfl)) (pv_n 8) (pv_of (po_callB ok_lenU rfl fr.f_len bt_len (prs_cons (pr_n 5) prs_nil)))))
 bv_nil)
 (bv_one (sv_sto (i := 6) ct.hr.units rfl (by first | exact Or.inl rfl | exact Or.inr (Or.inl rfl)) (pv_n 7) (pv_of (po_ix (ok_ix ct.hr.units) (pr_n 5) (pr_n 8) (by intro _ _; rfl))))))))
 (bv_cons (sv_if (pt_cmp' (ok_eq ct.hr.units) (pr_of (pv_of (po_callB ok_lenU rfl fr.f_len bt_len (prs_cons (pr_n 5) prs_nil)))) (pr_n 4) (by first | exact nomark _ | with_unfolding_all rfl))
 (bv_one (sv_retV (i := 3) rfl (by first | exact Or.inl rfl | exact Or.inr (Or.inl rfl))))
 bv_nil)
 (bv_one (sv_par ct.hc (pos_cons (po_of (pv_n 6)) (pos_cons (po_callB ok_lenU rfl fr.f_len bt_len (prs_cons (pr_n 5) prs_nil)) pos_nil)) (pgi_cons (i := 3) ct.hN rfl (by first | exact Or.inl rfl | exact Or.inr rfl) (pgi_cons (i := 4) ct.hN rfl (by first | exact Or.inl rfl | exact Or.inr rfl) pgi_nil)) (by intro i hi; revert hi i; decide))))))))))))
theorem ok_least_table {P : Program} {w : World} {K : PySem.W.Frag} {mg : Str → Option Value} {base : Heap} {f : Addr} {fd : FuncData} {C_Machine : Addr} (fr : Fr K mg C_Machine) (hm : mg "least_table" = some (.ref f)) (F : FunD K "least_table" "least_table" (defArgs st_least_table) (defBody st_least_table) (defScope st_least_table) [] [] f fd) (F_kinds_of : FnV P w K mg base 2 "kinds_of" 2 φ_kinds_of) (F_first_reached : FnV P w K mg base 1 "first_reached" 1 φ_first_reached) : FnV P w K mg base 3 "least_table" 2 φ_least_table :=
  fn_rule (k := 2) (N := N_least_table) (pr := prL [0, 1]) hm F sc_least_table (fun _ _ _ _ _ _ us hl => match us, hl with | [_, _], _ => rfl) fun cdv A outer s H E ct =>
 (bv_cons (sv_set (i := 2) ct.hN rfl (by first | exact Or.inl rfl | exact Or.inr rfl) rfl (po_call ct F_kinds_of (by omega) rfl (prs_cons (pr_n 0) (prs_cons (pr_n 1) prs_nil))))
 (bv_cons (sv_set (i := 3) ct.hN rfl (by first | exact Or.inl rfl | exact Or.inr rfl) rfl (po_lst pvs_nil))
 (bv_cons (sv_set (i := 4) ct.hN rfl (by first | exact Or.inl rfl | exact Or.inr rfl) rfl (po_lst pvs_nil))
 (bv_cons (sv_for (pr' := prL [0, 1]) ct.ps ct.hc (iv_any (pv_of (po_call ct F_first_reached (by omega) rfl (prs_cons (pr_n 0) prs_nil)))) nog_any.src (prL_sub rfl) (gv_n 5 ct)
 (bv_one (sv_if (pt_cmp' (ok_eq ct.hr.units) (pr_of (pv_of (po_ix (ok_ix ct.hr.units) (pr_n 2) (pr_n 5) (by intro _ _; rfl)))) (pr_of (pv_of (po_callB ok_lenU rfl fr.f_len bt_len (prs_cons (pr_n 3) prs_nil)))) (by first | exact nomark _ | with_unfolding_all rfl))
 (bv_cons (sv_exprO (po_mu ok_append PySem.F.plainAttrs_list PySem.F.slot_list_append PySem.F.type_list_append (i := 3) rfl (by first | exact Or.inl rfl | exact Or.inr (Or.inl rfl) | exact Or.inr (Or.inr rfl)) (pvs_cons (pv_of (po_callTy ok_tuple rfl fr.f_tuple bt_tuple (prs_cons (pr_of (pv_of (po_lc ct.hc ct.hN (iv_any (pv_of (po_ix (ok_ix ct.hr.units) (pr_n 0) (pr_n 5) (by intro _ _; rfl)))) (blkOk_by (own := [("event", 6), ("after", 7)]) (by first | (show blkC N_least_table (defScope st_least_table) _ _ = true; decide +kernel) | rfl)) rfl (fun _ _ _ _ _ => (gv_tup ct.blk.hc (gvs_cons (gv_n 6 ct.blk) (gvs_cons (gv_n 7 ct.blk) gvs_nil)))) (fun _ _ _ _ _ => cv_nil) (fun _ _ _ _ _ => (pv_of (po_tup (pvs_cons (pv_n 6) (pvs_cons (pv_of (po_ix (ok_ix ct.hr.units) (pr_n 2) (pr_n 7) (by intro _ _; rfl))) pvs_nil)))))))) prs_nil))) pvs_nil)))
 (bv_one (sv_exprO (po_mu ok_append PySem.F.plainAttrs_list PySem.F.slot_list_append PySem.F.type_list_append (i := 4) rfl (by first | exact Or.inl rfl | exact Or.inr (Or.inl rfl) | exact Or.inr (Or.inr rfl)) (pvs_cons (pv_of (po_ix (ok_ix ct.hr.units) (pr_n 1) (pr_n 5) (by intro _ _; rfl))) pvs_nil)))))
 bv_nil)))
 (bv_one (sv_ret (po_tup (pvs_cons (pv_of (po_callTy ok_tuple rfl fr.f_tuple bt_tuple (prs_cons (pr_n 3) prs_nil))) (pvs_cons (pv_of (po_callTy ok_tuple rfl fr.f_tuple bt_tuple (prs_cons (pr_n 4) prs_nil))) pvs_nil)))))))))
theorem ok_Machine___init__ {P : Program} {w : World} {K : PySem.W.Frag} {mg : Str → Option Value} {base : Heap} {f : Addr} {fd : FuncData} {C_Machine : Addr} (fr : Fr K mg C_Machine) {C : Addr} (hm : mg "Machine" = some (.ref C)) (M : Mk K C f) (F : FunD K "__init__" "Machine.__init__" (defArgs st_Machine___init__) (defBody st_Machine___init__) (defScope st_Machine___init__) [] [] f fd) (F_check_machine : FnV P w K mg base 3 "check_machine" 2 φ_check_machine) (F_least_table : FnV P w K mg base 3 "least_table" 2 φ_least_table) : MkV P w K mg base 4 "Machine" 3 φ_Machine___init__ :=
  mk_rule (k := 3) (N := N_Machine___init__) (pr := prL [0, 1, 2]) hm M F sc_Machine___init__ (fun _ _ _ _ _ _ us hl => match us, hl with | [_, _, _], _ => rfl) fun cdv A outer s H E ct =>
 (bv_cons (sv_exprO (po_call ct F_check_machine (by omega) rfl (prs_cons (pr_n 1) (prs_cons (pr_n 2) prs_nil))))
 (bv_cons (sv_setLc (i := 3) ct.hc ct.hN rfl rfl rfl (sw_true rfl rfl rfl rfl) (iv_any (pv_n 1)) (blkOk_by (own := [("steps", 7)]) (by first | (show blkC N_Machine___init__ (defScope st_Machine___init__) _ _ = true; decide +kernel) | rfl)) rfl (fun _ _ _ _ _ => (gv_n 7 ct.blk)) (fun _ _ _ _ _ => cv_nil) (fun _ _ _ _ _ => (pv_of (po_sortV ct.blk.hc (pr_n 7) fr.f_sorted rfl))))
 (bv_cons (sv_setLc (i := 4) ct.hc ct.hN rfl rfl rfl (sw_true rfl rfl rfl rfl) (iv_range1 rfl fr.f_range (pv_of (po_callB ok_lenU rfl fr.f_len bt_len (prs_cons (pr_n 1) prs_nil)))) (blkOk_by (own := [("index", 8)]) (by first | (show blkC N_Machine___init__ (defScope st_Machine___init__) _ _ = true; decide +kernel) | rfl)) rfl (fun _ _ _ _ _ => (gv_n 8 ct.blk)) (fun _ _ _ _ _ => cv_nil) (fun _ _ _ _ _ => (pv_of (po_cmp (ok_in ct.hr.units) (pr_n 8) (pr_n 2) (by first | exact nomark _ | with_unfolding_all rfl)))))
 (bv_cons (sv_unp (pv_of (po_call ct F_least_table (by omega) rfl (prs_cons (pr_n 3) (prs_cons (pr_n 4) prs_nil)))) (gv_tup ct.hc (gvs_cons (gv_n 5 ct) (gvs_cons (gv_n 6 ct) gvs_nil))))
 (bv_cons (sv_fst (i := 0) fr.cl_Machine fr.na_Machine_held_rows rfl (by first | exact Or.inl rfl | exact Or.inr (Or.inl rfl)) (pv_n 5))
 (bv_one (sv_fst (i := 0) fr.cl_Machine fr.na_Machine_held_finals rfl (by first | exact Or.inl rfl | exact Or.inr (Or.inl rfl)) (pv_of (po_callTy ok_tuple rfl fr.f_tuple bt_tuple (prs_cons (pr_of (pv_of (po_lc ct.hc ct.hN (iv_enum2 rfl fr.f_enumerate (pv_n 6)) (blkOk_by (own := [("index", 8), ("mark", 9)]) (by first | (show blkC N_Machine___init__ (defScope st_Machine___init__) _ _ = true; decide +kernel) | rfl)) rfl (fun _ _ _ _ _ => (gv_tup ct.blk.hc (gvs_cons (gv_n 8 ct.blk) (gvs_cons (gv_n 9 ct.blk) gvs_nil)))) (fun _ _ _ _ _ => (cv_one (pt_tru (pr_n 9)))) (fun _ _ _ _ _ => (pv_n 8))))) prs_nil))))))))))
theorem ok_law_copied {P : Program} {w : World} {K : PySem.W.Frag} {mg : Str → Option Value} {base : Heap} {f : Addr} {fd : FuncData} {C_Machine : Addr} (fr : Fr K mg C_Machine) (hm : mg "_law_copied" = some (.ref f)) (F : FunD K "_law_copied" "_law_copied" (defArgs st_law_copied) (defBody st_law_copied) (defScope st_law_copied) [] [] f fd) : FnV P w K mg base 1 "_law_copied" 1 φ_law_copied :=
  fn_rule (k := 0) (N := N_law_copied) (pr := prL [0]) hm F sc_law_copied (fun _ _ _ _ _ _ us hl => match us, hl with | [_], _ => rfl) fun cdv A outer s H E ct =>
 (bv_one (sv_ret (po_lc ct.hc ct.hN (iv_any (pv_n 0)) (blkOk_by (own := [("_law_row", 1)]) (by first | (show blkC N_law_copied (defScope st_law_copied) _ _ = true; decide +kernel) | rfl)) rfl (fun _ _ _ _ _ => (gv_n 1 ct.blk)) (fun _ _ _ _ _ => cv_nil) (fun _ _ _ _ _ => (pv_of (po_callTy (ok_dict2 ct.blk.hc) rfl fr.f_dict bt_dict (prs_cons (pr_n 1) prs_nil)))))))
theorem ok_law_listed {P : Program} {w : World} {K : PySem.W.Frag} {mg : Str → Option Value} {base : Heap} {f : Addr} {fd : FuncData} {C_Machine : Addr} (fr : Fr K mg C_Machine) (hm : mg "_law_listed" = some (.ref f)) (F : FunD K "_law_listed" "_law_listed" (defArgs st_law_listed) (defBody st_law_listed) (defScope st_law_listed) [] [] f fd) (F_law_spend : FnV P w K mg base 1 "_law_spend" 2 φ_law_spend) : FnV P w K mg base 2 "_law_listed" 2 φ_law_listed :=
  fn_rule (k := 1) (N := N_law_listed) (pr := prL [0, 1]) hm F sc_law_listed (fun _ _ _ _ _ _ us hl => match us, hl with | [_, _], _ => rfl) fun cdv A outer s H E ct =>
 (bv_cons (sv_set (i := 2) ct.hN rfl (by first | exact Or.inl rfl | exact Or.inr rfl) rfl (po_slc (ok_slL.or ok_slS) (pr_n 1) pp_none (pp_some (pv_of (po_call ct F_law_spend (by omega) rfl (prs_cons (pr_n 0) (prs_cons (pr_of (pv_of (po_bin ok_add (pr_of (pv_of (po_callB ok_lenU rfl fr.f_len bt_len (prs_cons (pr_n 1) prs_nil)))) (pr_of pv_int)))) prs_nil)))))))
 (bv_one (sv_ret (po_ix (ok_ix ct.hr.units) (pr_of (pv_of (po_lst (pvs_cons (pv_of (po_bin ok_add (pr_n 1) (pr_n 2))) (pvs_cons (pv_of (po_bin ok_add (pr_n 2) (pr_of (pv_of (po_stp (pr_n 1) (pv_neg pv_int)))))) pvs_nil))))) (pr_of (pv_of (po_call ct F_law_spend (by omega) rfl (prs_cons (pr_n 0) (prs_cons (pr_of pv_int) prs_nil))))) (by intro _ _; rfl)))))
theorem ok_Machine_finals {P : Program} {w : World} {K : PySem.W.Frag} {mg : Str → Option Value} {base : Heap} {f : Addr} {fd : FuncData} {C_Machine : Addr} (fr : Fr K mg C_Machine) {pa : Addr} (M : PropOf K C_Machine "finals" pa f) (F : FunD K "finals" "Machine.finals" (defArgs st_Machine_finals) (defBody st_Machine_finals) (defScope st_Machine_finals) [] [] f fd) : PrV P w K mg base 1 C_Machine "finals" φ_Machine_finals :=
  pp_rule (k := 0) (N := N_Machine_finals) (pr := prL [0]) M F sc_Machine_finals (fun _ _ _ _ _ _ us hl => match us, hl with | [_], _ => rfl) fun cdv A outer s H E ct =>
 (bv_one (sv_ret (po_lst (pvs_star (pv_fld fr.cl_Machine fr.na_Machine_held_finals (pr_n 0)) pvs_nil))))
theorem ok_Machine_states {P : Program} {w : World} {K : PySem.W.Frag} {mg : Str → Option Value} {base : Heap} {f : Addr} {fd : FuncData} {C_Machine : Addr} (fr : Fr K mg C_Machine) {pa : Addr} (M : PropOf K C_Machine "states" pa f) (F : FunD K "states" "Machine.states" (defArgs st_Machine_states) (defBody st_Machine_states) (defScope st_Machine_states) [] [] f fd) : PrV P w K mg base 1 C_Machine "states" φ_Machine_states :=
  pp_rule (k := 0) (N := N_Machine_states) (pr := prL [0]) M F sc_Machine_states (fun _ _ _ _ _ _ us hl => match us, hl with | [_], _ => rfl) fun cdv A outer s H E ct =>
 (bv_one (sv_ret (po_lc ct.hc ct.hN (iv_any (pv_fld fr.cl_Machine fr.na_Machine_held_rows (pr_n 0))) (blkOk_by (own := [("row", 1)]) (by first | (show blkC N_Machine_states (defScope st_Machine_states) _ _ = true; decide +kernel) | rfl)) rfl (fun _ _ _ _ _ => (gv_n 1 ct.blk)) (fun _ _ _ _ _ => cv_nil) (fun _ _ _ _ _ => (pv_of (po_lst (pvs_star (pv_n 1) pvs_nil)))))))
theorem ok_law_shape_right {P : Program} {w : World} {K : PySem.W.Frag} {mg : Str → Option Value} {base : Heap} {f : Addr} {fd : FuncData} {C_Machine : Addr} (fr : Fr K mg C_Machine) (hm : mg "_law_shape_right" = some (.ref f)) (F : FunD K "_law_shape_right" "_law_shape_right" (defArgs st_law_shape_right) (defBody st_law_shape_right) (defScope st_law_shape_right) [] [] f fd) : FnV P w K mg base 1 "_law_shape_right" 2 φ_law_shape_right :=
  fn_rule (k := 0) (N := N_law_shape_right) (pr := prL [0, 1]) hm F sc_law_shape_right (fun _ _ _ _ _ _ us hl => match us, hl with | [_, _], _ => rfl) fun cdv A outer s H E ct =>
 (bv_cons (sv_if (pt_of (pwb_or (pt_not' (pt_vb (po_isi (by simp) rfl fr.f_isinstance rfl fr.f_list bt_list (pr_n 0)))) (pwb_or (pt_not' (pt_vb (po_isi (by simp) rfl fr.f_isinstance rfl fr.f_list bt_list (pr_n 1)))) (pwb_or1 (pt_cmp' (ok_ne ct.hr.units) (pr_n 1) (pr_of (pv_of (po_sortSet2 ct.hc rfl fr.f_sorted rfl fr.f_set (pr_n 1)))) (by first | exact nomark _ | with_unfolding_all rfl))))))
 (bv_one (sv_ret (po_of pv_bl)))
 bv_nil)
 (bv_cons (sv_set (i := 2) ct.hN rfl (by first | exact Or.inl rfl | exact Or.inr rfl) rfl (po_lst (pvs_cons pv_int pvs_nil)))
 (bv_cons (sv_for (pr' := prL [0, 1]) ct.ps ct.hc (iv_any (pv_n 0)) nog_any.src (prL_sub rfl) (gv_n 3 ct)
 (bv_cons (sv_if (pt_not' (pt_vb (po_isi (by simp) rfl fr.f_isinstance rfl fr.f_list bt_list (pr_n 3))))
 (bv_one (sv_ret (po_of pv_bl)))
 bv_nil)
 (bv_one (sv_for (pr' := prL [0, 1]) ct.ps ct.hc (iv_range1 rfl fr.f_range (pv_of (po_callB ok_lenU rfl fr.f_len bt_len (prs_cons (pr_n 3) prs_nil)))) nog_rg1.src (prL_sub rfl) (gv_n 5 ct)
 (bv_one (sv_if (pt_of (pwb_or (pt_not' (pt_vb (po_isi (by simp) rfl fr.f_isinstance rfl fr.f_tuple bt_tuple (pr_of (pv_of (po_ix (ok_ix ct.hr.units) (pr_n 3) (pr_n 5) (by intro _ _; rfl))))))) (pwb_or1 (pt_of (pwb_and (pt_cmp' ok_gtI (pr_n 5) (pr_of pv_int) (by first | exact nomark _ | with_unfolding_all rfl)) (pwb_and1 (pt_cmp' ok_ge2 (pr_of (pv_of (po_ix (ok_ix ct.hr.units) (pr_of (pv_of (po_ix (ok_ix ct.hr.units) (pr_n 3) (pr_of (pv_of (po_bin ok_sub (pr_n 5) (pr_of pv_int)))) (by intro _ _; rfl)))) (pr_of pv_int) (by intro _ _; rfl)))) (pr_of (pv_of (po_ix (ok_ix ct.hr.units) (pr_of (pv_of (po_ix (ok_ix ct.hr.units) (pr_n 3) (pr_n 5) (by intro _ _; rfl)))) (pr_of pv_int) (by intro _ _; rfl)))) (by first | exact nomark _ | with_unfolding_all rfl))))))))
 (bv_one (sv_ret (po_of pv_bl)))
 bv_nil))))))
 (bv_cons (sv_for (pr' := prL [0, 1]) ct.ps ct.hc (iv_range1 rfl fr.f_range (pv_of (po_callB ok_lenU rfl fr.f_len bt_len (prs_cons (pr_n 0) prs_nil)))) nog_rg1.src (prL_sub rfl) (gv_n 4 ct)
 (bv_one (sv_if (pt_cmp' ok_ltI (pr_n 4) (pr_of (pv_of (po_callB ok_lenU rfl fr.f_len bt_len (prs_cons (pr_n 2) prs_nil)))) (by first | exact nomark _ | with_unfolding_all rfl))
 (bv_one (sv_for (pr' := prL [0, 1]) ct.ps ct.hc (iv_any (pv_of (po_ix (ok_ix ct.hr.units) (pr_n 0) (pr_of (pv_of (po_ix (ok_ix ct.hr.units) (pr_n 2) (pr_n 4) (by intro _ _; rfl)))) (by intro _ _; rfl)))) nog_any.src (prL_sub rfl) (gv_tup ct.hc (gvs_cons (gv_n 6 ct) (gvs_cons (gv_n 7 ct) gvs_nil)))
 (bv_one (sv_if (pt_cmp' (ok_notIn ct.hr.units) (pr_n 7) (pr_n 2) (by first | exact nomark _ | with_unfolding_all rfl))
 (bv_one (sv_exprO (po_mu ok_append PySem.F.plainAttrs_list PySem.F.slot_list_append PySem.F.type_list_append (i := 2) rfl (by first | exact Or.inl rfl | exact Or.inr (Or.inl rfl) | exact Or.inr (Or.inr rfl)) (pvs_cons (pv_n 7) pvs_nil))))
 bv_nil))))
 bv_nil)))
 (bv_one (sv_ret (po_and (po_cmp (ok_eq ct.hr.units) (pr_n 2) (pr_of (pv_of (po_lr1 ct.hc rfl fr.f_list rfl fr.f_range (pv_of (po_callB ok_lenU rfl fr.f_len bt_len (prs_cons (pr_n 0) prs_nil)))))) (by first | exact nomark _ | with_unfolding_all rfl)) (po_one (po_callB (ok_all ct.hc) rfl fr.f_all bt_all (prs_cons (pr_of (pv_of (po_lc ct.hc ct.hN (iv_any (pv_n 1)) (blkOk_by (own := [("_law_state", 8)]) (by first | (show blkC N_law_shape_right (defScope st_law_shape_right) _ _ = true; decide +kernel) | rfl)) rfl (fun _ _ _ _ _ => (gv_n 8 ct.blk)) (fun _ _ _ _ _ => cv_nil) (fun _ _ _ _ _ => (pv_of (po_chn ok_leI ok_ltI (pr_of pv_int) (pr_n 8) (pr_of (pv_of (po_callB ok_lenU rfl fr.f_len bt_len (prs_cons (pr_n 0) prs_nil)))))))))) prs_nil))))))))))
theorem ok_Machine___len__ {P : Program} {w : World} {K : PySem.W.Frag} {mg : Str → Option Value} {base : Heap} {f : Addr} {fd : FuncData} {C_Machine : Addr} (fr : Fr K mg C_Machine) (M : Meth K C_Machine "__len__" f) (F : FunD K "__len__" "Machine.__len__" (defArgs st_Machine___len__) (defBody st_Machine___len__) (defScope st_Machine___len__) [] [] f fd) : MtV P w K mg base 1 C_Machine "__len__" 1 φ_Machine___len__ :=
  mt_rule (k := 0) (N := N_Machine___len__) (pr := prL [0]) M F sc_Machine___len__ (fun _ _ _ _ _ _ us hl => match us, hl with | [_], _ => rfl) fun cdv A outer s H E ct =>
 (bv_one (sv_ret (po_callB ok_lenU rfl fr.f_len bt_len (prs_cons (pr_of (pv_fld fr.cl_Machine fr.na_Machine_held_rows (pr_n 0))) prs_nil))))
theorem ok_law_apart {P : Program} {w : World} {K : PySem.W.Frag} {mg : Str → Option Value} {base : Heap} {f : Addr} {fd : FuncData} {C_Machine : Addr} (fr : Fr K mg C_Machine) (hm : mg "_law_apart" = some (.ref f)) (F : FunD K "_law_apart" "_law_apart" (defArgs st_law_apart) (defBody st_law_apart) (defScope st_law_apart) [] [] f fd) : FnV P w K mg base 1 "_law_apart" 2 φ_law_apart :=
  fn_rule (k := 0) (N := N_law_apart) (pr := prL [0, 1]) hm F sc_law_apart (fun _ _ _ _ _ _ us hl => match us, hl with | [_, _], _ => rfl) fun cdv A outer s H E ct =>
 (bv_cons (sv_set (i := 2) ct.hN rfl (by first | exact Or.inl rfl | exact Or.inr rfl) rfl (po_callB ok_lenU rfl fr.f_len bt_len (prs_cons (pr_n 0) prs_nil)))
 (bv_cons (sv_set (i := 3) ct.hN rfl (by first | exact Or.inl rfl | exact Or.inr rfl) rfl po_dn)
 (bv_cons (sv_for (pr' := prL [0, 1]) ct.ps ct.hc (iv_range1 rfl fr.f_range (pv_n 2)) nog_rg1.src (prL_sub rfl) (gv_n 4 ct)
 (bv_one (sv_for (pr' := prL [0, 1]) ct.ps ct.hc (iv_range1 rfl fr.f_range (pv_n 2)) nog_rg1.src (prL_sub rfl) (gv_n 6 ct)
 (bv_cons (sv_setLc (i := 7) ct.hc ct.hN rfl rfl rfl (sw_true rfl rfl rfl rfl) (iv_any (pv_of (po_tup (pvs_cons (pv_n 4) (pvs_cons (pv_n 6) pvs_nil))))) (blkOk_by (own := [("_law_state", 8)]) (by first | (show blkC N_law_apart (defScope st_law_apart) _ _ = true; decide +kernel) | rfl)) rfl (fun _ _ _ _ _ => (gv_n 8 ct.blk)) (fun _ _ _ _ _ => cv_nil) (fun _ _ _ _ _ => (pv_of (po_lc ct.blk.hc ct.blk.hN (iv_any (pv_of (po_ix (ok_ix ct.hr.units) (pr_n 0) (pr_n 8) (by intro _ _; rfl)))) (blkOk_by (own := [("_law_name", 10), ("_law_after", 11)]) (by first | (show blkC N_law_apart (defScope st_law_apart) _ _ = true; decide +kernel) | rfl)) rfl (fun _ _ _ _ _ => (gv_tup ct.blk.blk.hc (gvs_cons (gv_n 10 ct.blk.blk) (gvs_cons (gv_n 11 ct.blk.blk) gvs_nil)))) (fun _ _ _ _ _ => cv_nil) (fun _ _ _ _ _ => (pv_n 10))))))
 (bv_one (sv_if (pt_of (pwb_or (pt_cmp' (ok_ne ct.hr.units) (pr_of (pv_of (po_cmp (ok_in2 (u65 ct.hr)) (pr_n 4) (pr_n 1) (by first | exact nomark _ | with_unfolding_all rfl)))) (pr_of (pv_of (po_cmp (ok_in2 (u65 ct.hr)) (pr_n 6) (pr_n 1) (by first | exact nomark _ | with_unfolding_all rfl)))) (by first | exact nomark _ | with_unfolding_all rfl)) (pwb_or1 (pt_cmp' (ok_ne ct.hr.units) (pr_of (pv_of (po_ix (ok_ix ct.hr.units) (pr_n 7) (pr_of pv_int) (by intro _ _; rfl)))) (pr_of (pv_of (po_ix (ok_ix ct.hr.units) (pr_n 7) (pr_of pv_int) (by intro _ _; rfl)))) (by first | exact nomark _ | with_unfolding_all rfl)))))
 (bv_one (sv_sto (i := 3) ct.hr.units rfl (by first | exact Or.inl rfl | exact Or.inr (Or.inl rfl)) (pv_of (po_tup (pvs_cons (pv_n 4) (pvs_cons (pv_n 6) pvs_nil)))) pv_bl))
 bv_nil))))))
 (bv_cons (sv_set (i := 5) ct.hN rfl (by first | exact Or.inl rfl | exact Or.inr rfl) rfl (po_of (pv_neg pv_int)))
 (bv_cons (sv_while ct.ps (pt_cmp' (ok_ne ct.hr.units) (pr_n 5) (pr_of (pv_of (po_callB ok_lenU rfl fr.f_len bt_len (prs_cons (pr_n 3) prs_nil)))) (by first | exact nomark _ | with_unfolding_all rfl))
 (bv_cons (sv_set (i := 5) ct.hN rfl (by first | exact Or.inl rfl | exact Or.inr rfl) rfl (po_callB ok_lenU rfl fr.f_len bt_len (prs_cons (pr_n 3) prs_nil)))
 (bv_one (sv_for (pr' := prL [0, 1]) ct.ps ct.hc (iv_range1 rfl fr.f_range (pv_n 2)) nog_rg1.src (prL_sub rfl) (gv_n 4 ct)
 (bv_one (sv_for (pr' := prL [0, 1]) ct.ps ct.hc (iv_range1 rfl fr.f_range (pv_n 2)) nog_rg1.src (prL_sub rfl) (gv_n 6 ct)
 (bv_one (sv_if (pt_cmp' (ok_notIn2 (u65 ct.hr)) (pr_of (pv_of (po_tup (pvs_cons (pv_n 4) (pvs_cons (pv_n 6) pvs_nil))))) (pr_n 3) (by first | exact nomark _ | with_unfolding_all rfl))
 (bv_cons (sv_setLc (i := 9) ct.hc ct.hN rfl rfl rfl (sw_true rfl rfl rfl rfl) (iv_range1 rfl fr.f_range (pv_of (po_callB ok_lenU rfl fr.f_len bt_len (prs_cons (pr_of (pv_of (po_ix (ok_ix ct.hr.units) (pr_n 0) (pr_n 4) (by intro _ _; rfl)))) prs_nil)))) (blkOk_by (own := [("_law_k", 12)]) (by first | (show blkC N_law_apart (defScope st_law_apart) _ _ = true; decide +kernel) | rfl)) rfl (fun _ _ _ _ _ => (gv_n 12 ct.blk)) (fun _ _ _ _ _ => cv_nil) (fun _ _ _ _ _ => (pv_of (po_tup (pvs_cons (pv_of (po_ix (ok_ix ct.hr.units) (pr_of (pv_of (po_ix (ok_ix ct.hr.units) (pr_of (pv_of (po_ix (ok_ix ct.hr.units) (pr_n 0) (pr_n 4) (by intro _ _; rfl)))) (pr_n 12) (by intro _ _; rfl)))) (pr_of pv_int) (by intro _ _; rfl))) (pvs_cons (pv_of (po_ix (ok_ix ct.hr.units) (pr_of (pv_of (po_ix (ok_ix ct.hr.units) (pr_of (pv_of (po_ix (ok_ix ct.hr.units) (pr_n 0) (pr_n 6) (by intro _ _; rfl)))) (pr_n 12) (by intro _ _; rfl)))) (pr_of pv_int) (by intro _ _; rfl))) pvs_nil))))))
 (bv_one (sv_if (pt_cmp' (ok_ne ct.hr.units) (pr_of (pv_of (po_lc ct.hc ct.hN (iv_any (pv_n 9)) (blkOk_by (own := [("_law_pair", 13)]) (by first | (show blkC N_law_apart (defScope st_law_apart) _ _ = true; decide +kernel) | rfl)) rfl (fun _ _ _ _ _ => (gv_n 13 ct.blk)) (fun _ _ _ _ _ => (cv_one (pt_cmp' (ok_in2 (u65 ct.hr)) (pr_n 13) (pr_n 3) (by first | exact nomark _ | with_unfolding_all rfl)))) (fun _ _ _ _ _ => (pv_n 13))))) (pr_of (pv_of (po_lst pvs_nil))) (by first | exact nomark _ | with_unfolding_all rfl))
 (bv_one (sv_sto (i := 3) ct.hr.units rfl (by first | exact Or.inl rfl | exact Or.inr (Or.inl rfl)) (pv_of (po_tup (pvs_cons (pv_n 4) (pvs_cons (pv_n 6) pvs_nil)))) pv_bl))
 bv_nil)))
 bv_nil))))))))
 (bv_one (sv_ret (po_cmp (ok_eq2 ct.hr.units) (pr_of (pv_of (po_callB ok_lenU rfl fr.f_len bt_len (prs_cons (pr_n 3) prs_nil)))) (pr_of (pv_of (po_bin ok_sub (pr_of (pv_of (po_bin ok_mul (pr_n 2) (pr_n 2)))) (pr_n 2)))) (by first | exact nomark _ | with_unfolding_all rfl)))))))))
theorem ok_law_alike {P : Program} {w : World} {K : PySem.W.Frag} {mg : Str → Option Value} {base : Heap} {f : Addr} {fd : FuncData} {C_Machine : Addr} (fr : Fr K mg C_Machine) (hm : mg "_law_alike" = some (.ref f)) (F : FunD K "_law_alike" "_law_alike" (defArgs st_law_alike) (defBody st_law_alike) (defScope st_law_alike) [] [] f fd) : FnV P w K mg base 1 "_law_alike" 4 φ_law_alike :=
  fn_rule (k := 0) (N := N_law_alike) (pr := prL [0, 1, 2, 3]) hm F sc_law_alike (fun _ _ _ _ _ _ us hl => match us, hl with | [_, _, _, _], _ => rfl) fun cdv A outer s H E ct =>
 (bv_cons (sv_par2 ct.hc (pos_cons (po_lst (pvs_cons (pv_of (po_tup (pvs_cons pv_int (pvs_cons pv_int pvs_nil)))) pvs_nil)) (pos_cons (po_of pv_int) pos_nil)) ct.hN (by intro i hi; revert hi i; decide) rfl rfl (by decide) rfl rfl)
 (bv_cons (sv_while ct.ps (pt_cmp' ok_ltI (pr_n 5) (pr_of (pv_of (po_callB ok_lenU rfl fr.f_len bt_len (prs_cons (pr_n 4) prs_nil)))) (by first | exact nomark _ | with_unfolding_all rfl))
 (bv_cons (sv_unp (pv_of (po_ix (ok_ix ct.hr.units) (pr_n 4) (pr_n 5) (by intro _ _; rfl))) (gv_tup ct.hc (gvs_cons (gv_n 8 ct) (gvs_cons (gv_n 9 ct) gvs_nil))))
 (bv_cons (sv_set (i := 6) ct.hN rfl (by first | exact Or.inl rfl | exact Or.inr rfl) rfl (po_callTy (ok_dict2 ct.hc) rfl fr.f_dict bt_dict (prs_cons (pr_of (pv_of (po_ix (ok_ix ct.hr.units) (pr_n 2) (pr_n 9) (by intro _ _; rfl)))) prs_nil)))
 (bv_cons (sv_if (pt_of (pwb_or (pt_cmp' (ok_ne ct.hr.units) (pr_of (pv_of (po_callB (ok_sorted2 ct.hc) rfl fr.f_sorted bt_sorted (prs_cons (pr_n 6) prs_nil)))) (pr_of (pv_of (po_callB (ok_sorted2 ct.hc) rfl fr.f_sorted bt_sorted (prs_cons (pr_of (pv_of (po_ix (ok_ix ct.hr.units) (pr_n 0) (pr_n 8) (by intro _ _; rfl)))) prs_nil)))) (by first | exact nomark _ | with_unfolding_all rfl)) (pwb_or1 (pt_cmp' (ok_ne ct.hr.units) (pr_of (pv_of (po_cmp (ok_in2 (u65 ct.hr)) (pr_n 8) (pr_n 1) (by first | exact nomark _ | with_unfolding_all rfl)))) (pr_of (pv_of (po_cmp (ok_in2 (u65 ct.hr)) (pr_n 9) (pr_n 3) (by first | exact nomark _ | with_unfolding_all rfl)))) (by first | exact nomark _ | with_unfolding_all rfl)))))
 (bv_one (sv_ret (po_of pv_bl)))
 bv_nil)
 (bv_cons (sv_for (pr' := prL [0, 1, 2, 3]) ct.ps ct.hc (iv_any (pv_n 6)) nog_any.src (prL_sub rfl) (gv_n 7 ct)
 (bv_one (sv_if (pt_cmp' (ok_notIn2 (u65 ct.hr)) (pr_of (pv_of (po_tup (pvs_cons (pv_of (po_ix (ok_ix ct.hr.units) (pr_of (pv_of (po_ix (ok_ix ct.hr.units) (pr_n 0) (pr_n 8) (by intro _ _; rfl)))) (pr_n 7) (by intro _ _; rfl))) (pvs_cons (pv_of (po_ix (ok_ix ct.hr.units) (pr_n 6) (pr_n 7) (by intro _ _; rfl))) pvs_nil))))) (pr_n 4) (by first | exact nomark _ | with_unfolding_all rfl))
 (bv_one (sv_exprO (po_mu ok_append PySem.F.plainAttrs_list PySem.F.slot_list_append PySem.F.type_list_append (i := 4) rfl (by first | exact Or.inl rfl | exact Or.inr (Or.inl rfl) | exact Or.inr (Or.inr rfl)) (pvs_cons (pv_of (po_tup (pvs_cons (pv_of (po_ix (ok_ix ct.hr.units) (pr_of (pv_of (po_ix (ok_ix ct.hr.units) (pr_n 0) (pr_n 8) (by intro _ _; rfl)))) (pr_n 7) (by intro _ _; rfl))) (pvs_cons (pv_of (po_ix (ok_ix ct.hr.units) (pr_n 6) (pr_n 7) (by intro _ _; rfl))) pvs_nil)))) pvs_nil))))
 bv_nil)))
 (bv_one (sv_set (i := 5) ct.hN rfl (by first | exact Or.inl rfl | exact Or.inr rfl) rfl (po_bin ok_add2 (pr_n 5) (pr_of pv_int)))))))))
 (bv_one (sv_ret (po_of pv_bl)))))
theorem ok_law {P : Program} {w : World} {K : PySem.W.Frag} {mg : Str → Option Value} {base : Heap} {f : Addr} {fd : FuncData} {C_Machine : Addr} (fr : Fr K mg C_Machine) (F : FunD K "law" "law" (defArgs st_law) (defBody st_law) (defScope st_law) [] [] f fd) (F_law_purse : FnV P w K mg base 1 "_law_purse" 2 φ_law_purse) (F_law_names : FnV P w K mg base 2 "_law_names" 2 φ_law_names) (F_law_spend : FnV P w K mg base 1 "_law_spend" 2 φ_law_spend) (F_law_raw : FnV P w K mg base 2 "_law_raw" 3 φ_law_raw) (F_Machine___init__ : MkV P w K mg base 4 "Machine" 3 φ_Machine___init__) (F_law_copied : FnV P w K mg base 1 "_law_copied" 1 φ_law_copied) (F_law_listed : FnV P w K mg base 2 "_law_listed" 2 φ_law_listed) (F_Machine_finals : PrV P w K mg base 1 C_Machine "finals" φ_Machine_finals) (F_Machine_states : PrV P w K mg base 1 C_Machine "states" φ_Machine_states) (F_law_shape_right : FnV P w K mg base 1 "_law_shape_right" 2 φ_law_shape_right) (F_Machine___len__ : MtV P w K mg base 1 C_Machine "__len__" 1 φ_Machine___len__) (F_law_apart : FnV P w K mg base 1 "_law_apart" 2 φ_law_apart) (F_law_alike : FnV P w K mg base 1 "_law_alike" 4 φ_law_alike) : FnOk P w K mg base CX0 6 f fd ["_law_script"] (spL ⟨P, w, K, mg⟩ 1 φ_law) :=
  law_rule (k := 5) (N := N_law) (pr := prL [0]) F sc_law fun cdv A outer s H E ct =>
 (bv_cons (sv_for (pr' := prL [0]) ct.ps ct.hc (iv_range1 rfl fr.f_range (pv_of (po_callB (ok_mx ct.hc) rfl fr.f_max bt_max (prs_cons (pr_of pv_int) (prs_cons (pr_of (pv_of (po_callB (ok_min2 ct.hc) rfl fr.f_min bt_min (prs_cons (pr_of pv_int) (prs_cons (pr_of (pv_of (po_callB ok_lenU rfl fr.f_len bt_len (prs_cons (pr_n 0) prs_nil)))) prs_nil))))) prs_nil))))) nog_rg1.src (prL_sub rfl) (gv_n 1 ct)
 (bv_cons (sv_set (i := 2) ct.hN rfl (by first | exact Or.inl rfl | exact Or.inr rfl) rfl (po_call ct F_law_purse (by omega) rfl (prs_cons (pr_n 0) (prs_cons (pr_n 1) prs_nil))))
 (bv_cons (sv_set (i := 3) ct.hN rfl (by first | exact Or.inl rfl | exact Or.inr rfl) rfl (po_call ct F_law_names (by omega) rfl (prs_cons (pr_n 2) (prs_cons (pr_of (pv_of (po_bin ok_add (pr_of pv_int) (pr_of (pv_of (po_call ct F_law_spend (by omega) rfl (prs_cons (pr_n 2) (prs_cons (pr_of pv_int) prs_nil)))))))) prs_nil))))
 (bv_cons (sv_unp (pv_of (po_call ct F_law_raw (by omega) rfl (prs_cons (pr_n 2) (prs_cons (pr_n 3) (prs_cons (pr_of (pv_of (po_if (pt_cmp' (ok_eq ct.hr.units) (pr_n 1) (pr_of pv_int) (by first | exact nomark _ | with_unfolding_all rfl)) (po_of pv_int) (po_of pv_int)))) prs_nil))))) (gv_tup ct.hc (gvs_cons (gv_n 5 ct) (gvs_cons (gv_n 6 ct) gvs_nil))))
 (bv_cons (sv_set (i := 4) ct.hN rfl (by first | exact Or.inl rfl | exact Or.inr rfl) rfl (po_mk ct F_Machine___init__ (by omega) rfl (prs_cons (pr_of (pv_of (po_call ct F_law_copied (by omega) rfl (prs_cons (pr_n 5) prs_nil)))) (prs_cons (pr_of (pv_of (po_call ct F_law_listed (by omega) rfl (prs_cons (pr_n 2) (prs_cons (pr_n 6) prs_nil))))) prs_nil))))
 (bv_cons (sv_par2 ct.hc (pos_cons (po_prop ct fr.cl_Machine F_Machine_states (by omega) (pr_n 4)) (pos_cons (po_prop ct fr.cl_Machine F_Machine_finals (by omega) (pr_n 4)) pos_nil)) ct.hN (by intro i hi; revert hi i; decide) rfl rfl (by decide) rfl rfl)
 (bv_cons (sv_if (pt_of (pwb_or (pt_cmp' (ok_ne ct.hr.units) (pr_of (pv_of (po_lenX ct fr.cl_Machine F_Machine___len__ (by omega) rfl fr.f_len (pr_n 4)))) (pr_of (pv_of (po_callB ok_lenU rfl fr.f_len bt_len (prs_cons (pr_n 7) prs_nil)))) (by first | exact nomark _ | with_unfolding_all rfl)) (pwb_or1 (pt_not' (pt_vb (po_call ct F_law_shape_right (by omega) rfl (prs_cons (pr_n 7) (prs_cons (pr_n 8) prs_nil))))))))
 (bv_one (sv_ret (po_of pv_bl)))
 bv_nil)
 (bv_one (sv_if (pt_of (pwb_or (pt_not' (pt_vb (po_call ct F_law_alike (by omega) rfl (prs_cons (pr_n 5) (prs_cons (pr_n 6) (prs_cons (pr_n 7) (prs_cons (pr_n 8) prs_nil))))))) (pwb_or1 (pt_not' (pt_vb (po_call ct F_law_apart (by omega) rfl (prs_cons (pr_n 7) (prs_cons (pr_n 8) prs_nil))))))))
 (bv_one (sv_ret (po_of pv_bl)))
 bv_nil)))))))))
 (bv_one (sv_ret (po_of pv_bl))))
end VS
set_option linter.all false
set_option maxRecDepth 100000
namespace VS
open PySem L2
/-! ### is_name -/
theorem ev_is_name (x : Str) (hx : x.length ≤ sizeLine) : φ_is_name [(false, .str x)] = .ok (false, .bl (isNm x)) [some (false, .str x)] := by
  rw [sl_eq] at hx
  refine fnS_post (fun r => r = .ok (false, .bl (isNm x)) [some (false, .str x)]) rfl (by decide) ?_
  have hl : (x.cps.toList).length = x.length := by simp [Str.length]
  unfold b_is_name
  simp [hx]
  have hc := lc_eq (t := tgN 1) (te := mF (mBin sIn (mSl 1) (mR (mC (.str "abcdefghijklmnopqrstuvwxyz"))))) (vs := [1]) (s := ⟨strL x, [], none⟩) (e := [some (false, .str x), none]) x.cps.toList (fun c => .str ⟨#[c]⟩) (fun c => .bl (decide (c ∈ ("abcdefghijklmnopqrstuvwxyz" : Str).cps.toList))) rfl rfl (by rw [sl_eq]; omega) (by rw [clr_nt]; simp) (by
    intro c hc
    simp [item])
  by_cases h1 : 0 < x.length
  · by_cases h2 : (x.length : Int) ≤ 8
    · have h3 : x.length ≤ 8 := by omega
      simp [h1, h2, hc, isNm, h3, outS_eq, prL]
    · have h3 : ¬ x.length ≤ 8 := by omega
      simp [h1, h2, isNm, h3, outS_eq, prL]
  · simp [h1, isNm, outS_eq, prL]
end VS
set_option linter.all false
set_option maxRecDepth 100000
namespace VS
open PySem L2
/-! ### check_steps, check_machine -/
theorem ev_check_steps (i n : Nat) (r : Row) (hl : r.length < 64) (h : ∀ p ∈ r, isNm p.1 = true ∧ p.2 < n) : φ_check_steps [(false, .int (i : Nat)), (false, .dct (encD r)), (false, .int (n : Nat))] = .ok (false, .non) [some (false, .int (i : Nat)), some (false, .dct (encD r)), some (false, .int (n : Nat))] := by
  refine fnS_post (fun z => z = .ok (false, .non) [some (false, .int (i : Nat)), some (false, .dct (encD r)), some (false, .int (n : Nat))]) rfl (by decide) ?_
  unfold b_check_steps
  simp [sSorted_d hl]
  refine post_forL (sortS (r.map (·.1))) U.str rfl (fun done e => ∃ z3, e = [some (false, .int (i : Nat)), some (false, .dct (encD r)), some (false, .int (n : Nat)), z3]) ⟨none, rfl⟩ ?_ ?_
  · rintro done x rest e hms ⟨z3, rfl⟩
    have hx : x ∈ sortS (r.map (·.1)) := by rw [hms]; simp
    rw [mem_sortS] at hx
    obtain ⟨k, hk, hm⟩ := lk_of_mem hx
    obtain ⟨hn, hk2⟩ : isNm x = true ∧ k < n := h _ hm
    have hl := isNm_len hn
    have := ev_is_name x (by rw [sl_eq]; omega)
    simp [turn, this, hn, hk, hk2]
  · rintro e ⟨z3, rfl⟩
    simp [outS_eq, prL, List.range_succ]
theorem ev_check_machine (o o2 : Bool) (plan : List Row) (fin : List Nat) (h : POk plan fin) : φ_check_machine [(o, encDs plan), (o2, encNs fin)] = .ok (false, .non) [some (false, encDs plan), some (false, encNs fin)] := by
  refine fnS_post (fun z => z = .ok (false, .non) [some (false, encDs plan), some (false, encNs fin)]) rfl (by decide) ?_
  have ha : ∀ (b : Bool) (k : Ks), (b_check_machine [some (b, encDs plan), some (o2, encNs fin), none, none]).post k = (b_check_machine [some (false, encDs plan), some (o2, encNs fin), none, none]).post k := by
    intro b k
    cases b
    · rfl
    · unfold b_check_machine; simp
  show (b_check_machine [some (o, encDs plan), some (o2, encNs fin), none, none]).post _
  rw [ha o]
  unfold b_check_machine
  have n1 := h.n1
  simp [enumL_map]
  refine post_forL plan.zipIdx _ rfl (fun done e => ∃ z2 z3, e = [some (false, encDs plan), some (o2, encNs fin), z2, z3]) ⟨_, _, rfl⟩ ?_ ?_
  · rintro done x rest e hms ⟨z2, z3, rfl⟩
    have hx : x ∈ plan.zipIdx := by rw [hms]; simp
    obtain ⟨r, i⟩ := x
    have hr : r ∈ plan := (List.mem_zipIdx hx).2.2 ▸ List.getElem_mem _
    have := ev_check_steps i plan.length r (h.rl r hr) (h.nm r hr)
    simp [turn, this]
  · rintro e ⟨z2, z3, rfl⟩
    have fin2 : ∀ (κ : Ks) (z2 z3 : Sl), (∀ z2, κ.N [some (false, encDs plan), some (false, encNs fin), z2, z3]) → (forL (tgN 2) (mIf (mTn (mTst (mChn sLeI sLtI (mR (mC (U.int 0))) (mSl 2) (mR (mF (mCB sLenU (mRc (mSl 0) mRn))))))) mBad MS.nop) none [] (fin.map fun k : Nat => U.int (k : Nat)) [some (false, encDs plan), some (false, encNs fin), z2, z3]).post κ := by
      intro κ z2 z3 hκ
      refine post_forL fin (fun k : Nat => U.int (k : Nat)) rfl (fun done e => ∃ z2, e = [some (false, encDs plan), some (false, encNs fin), z2, z3]) ⟨_, rfl⟩ ?_ ?_
      · rintro done x rest e hms ⟨z2, rfl⟩
        have hx : x ∈ fin := by rw [hms]; simp
        have := h.fl x hx
        simp [turn, this]
      · rintro e ⟨z2, rfl⟩
        exact hκ z2
    cases o2
    all_goals
      simp
      refine fin2 _ z2 z3 ?_
      intro z2
      simp [outS_eq, prL, List.range_succ]
end VS
set_option linter.all false
set_option maxRecDepth 100000
namespace VS
open PySem L2
/-! ### first_reached -/
abbrev encK (o : List Nat) : List (U × U) := o.map fun s => (.int (s : Nat), .bl true)
theorem dfind_encK (o : List Nat) (k : Nat) : dfind (encK o) (.int (k : Nat)) = if k ∈ o then some (.bl true) else none := by
  induction o with
  | nil => rfl
  | cons x o ih =>
    rw [encK, List.map_cons, dfind_cons]
    by_cases h : x = k
    · subst h; simp
    · have h2 : ¬ (U.int (x : Nat) = U.int (k : Nat)) := fun z => h (by injection z with z; exact Int.ofNat.inj z)
      rw [if_neg h2]
      have e : (k ∈ x :: o) ↔ k ∈ o := by simp [Ne.symm h]
      simp only [e]
      exact ih
theorem okD_encK (o : List Nat) (k : Nat) : okD (encK o) (.int (k : Nat)) = true := by
  unfold okD
  rw [Bool.or_eq_true]
  left
  simp [isK1]
theorem row_eq {t : List Row} {s : Nat} (h : s < t.length) : t[s]? = some (KN.row t s) := by
  unfold KN.row
  rw [List.getD_eq_getElem?_getD, List.getElem?_eq_getElem h]
  rfl
theorem ev_first_reached (o : Bool) (t : List Row) (hf : KN.Fit t) (hn : KN.Nd t) (hl : t.length ≤ 100000) : φ_first_reached [(o, encT t)] = .ok (true, encNs (KN.ordr t)) [some (o, encT t)] := by
  refine fnS_post (fun z => z = .ok (true, encNs (KN.ordr t)) [some (o, encT t)]) rfl (by decide) ?_
  show (b_first_reached [some (o, encT t), none, none, none, none, none]).post _
  unfold b_first_reached
  simp [isK1]
  obtain ⟨I, hI⟩ : ∃ I : Nat → En → Prop, ∀ n e, I n e ↔ ∃ (k : Nat) (ord : List Nat) (z4 z5 : Sl), n + k = t.length ∧ KN.Bf t k ord ∧ (nt z4 ∧ nt z5) ∧
    e = [some (o, encT t), some (true, encNs ord), some (true, .dct (encK ord)), some (false, .int (k : Nat)), z4, z5] := ⟨_, fun _ _ => Iff.rfl⟩
  refine post_mWhl I t.length ((hI _ _).mpr ⟨0, [0], none, none, rfl, KN.Bf.init hf, ⟨trivial, trivial⟩, rfl⟩) ?_
  intro n e hin
  obtain ⟨k, ord, z4, z5, hk0, bf, ⟨hz4, hz5⟩, rfl⟩ := (hI _ _).mp hin
  have ol := bf.len
  unfold wturn
  simp
  split
  · rename_i hk
    have hr : ord[k]? = some ord[k] := List.getElem?_eq_getElem hk
    generalize hrr : ord[k] = s at hr
    have sl := bf.lt s (List.mem_of_getElem? hr)
    have rg := row_eq sl
    have e1 : atI (t.map encRw) (s : Int) = some (encRw (KN.row t s)) := atI_row rg
    have e2 : atI (ord.map fun k : Nat => U.int (k : Nat)) (k : Int) = some (.int (s : Nat)) := atI_at hr
    simp [-List.map_map, e1, e2]
    obtain ⟨J, hJ⟩ : ∃ J : Row → En → Prop, ∀ done e, J done e ↔ ∃ (z4 z5 : Sl), (nt z4 ∧ nt z5) ∧
      e = [some (o, encT t), some (true, encNs (KN.adds ord done)), some (true, .dct (encK (KN.adds ord done))), some (false, .int (k : Nat)), z4, z5] := ⟨_, fun _ _ => Iff.rfl⟩
    refine post_forL (KN.row t s) encP2 rfl J ((hJ _ _).mpr ⟨z4, z5, ⟨hz4, hz5⟩, rfl⟩) ?_ ?_
    · intro done x rest e hms hin
      obtain ⟨z4, z5, ⟨hz4, hz5⟩, rfl⟩ := (hJ _ _).mp hin
      obtain ⟨ev, af⟩ := x
      have ln : (KN.adds ord done).length ≤ t.length := by
        refine KM.nodup_lt (KN.adds_nodup bf.nd) fun y hy => ?_
        rcases KN.mem_adds.mp hy with q | ⟨p, hp, rfl⟩
        · exact bf.lt y q
        · exact hf.2 s p (by rw [hms]; exact List.mem_append_left _ hp)
      generalize ho : KN.adds ord done = o1 at ln
      have l2 : o1.length < 16777216 := by omega
      by_cases q : af ∈ o1
      · simp [turn, okD_encK, dfind_encK, q]
        refine (hJ _ _).mpr ⟨some (false, .str ev), some (false, .int (af : Nat)), ⟨trivial, trivial⟩, ?_⟩
        rw [KN.adds_snoc, ho]
        unfold KN.add1
        rw [if_pos q]
      · have d2 : dset (encK o1) (.int (af : Nat)) (.bl true) = encK (o1 ++ [af]) := by
          rw [dset_new (by rw [dfind_encK, if_neg q])]; simp [encK]
        simp [turn, okD_encK, dfind_encK, q, d2, l2]
        refine (hJ _ _).mpr ⟨some (false, .str ev), some (false, .int (af : Nat)), ⟨trivial, trivial⟩, ?_⟩
        rw [KN.adds_snoc, ho]
        unfold KN.add1
        rw [if_neg q]
        simp [encNs]
    · intro e he
      obtain ⟨z4, z5, ⟨hz4, hz5⟩, rfl⟩ := (hJ _ _).mp he
      simp
      exact ⟨n - 1, by omega, (hI _ _).mpr ⟨k + 1, _, z4, z5, by omega, bf.step hf hn hr, ⟨hz4, hz5⟩, by simp⟩⟩
  · rename_i hk
    have e1 := bf.done (by omega)
    subst e1
    simp [outS_eq, prL, List.range_succ]
end VS
set_option linter.all false
set_option maxRecDepth 100000
namespace VS
open PySem L2
/-! ### kinds_of -/
theorem ev_kinds_of (o o1 : Bool) (t : List Row) (ms : List Bool) (hf : KN.Fit t) (ha : KN.Asc ltS t) (hl : t.length ≤ 100000) (hr : ∀ r ∈ t, r.length ≤ 100000) (hm : ms.length = t.length) :
    ∃ (c : Nat → Nat) (n : Nat) (b : Bool), KN.Kd t (KN.mkf ms) (KN.ordr t) c n ∧ φ_kinds_of [(o, encT t), (o1, encBs ms)] = .ok (b, .dct (encKU (fun s => .int (c s : Nat)) (KN.ordr t))) [some (o, encT t), some (o1, encBs ms)] := by
  have hn := ha.nd srtS
  have hR := KN.rch hf hn
  refine fnS_post (fun z => ∃ (c : Nat → Nat) (n : Nat) (b : Bool), KN.Kd t (KN.mkf ms) (KN.ordr t) c n ∧ z = .ok (b, .dct (encKU (fun s => .int (c s : Nat)) (KN.ordr t))) [some (o, encT t), some (o1, encBs ms)]) rfl (by decide) ?_
  show (b_kinds_of [some (o, encT t), some (o1, encBs ms), none, none, none, none, none, none, none, none, none]).post _
  unfold b_kinds_of
  have fr := ev_first_reached o t hf hn hl
  have olen : (KN.ordr t).length ≤ t.length := KM.nodup_lt hR.nd hR.lt
  generalize hord : KN.ordr t = ord at *
  cases o
  · have dc1 := dc_eq (t := tgN 7) (tk := mN 7) (tv := mF (mBin sIx (mSl 1) (mSl 7))) (vs := [7]) (s := ⟨ord.map fun k : Nat => U.int (k : Nat), [], none⟩) (e := [some (false, encT t), some (o1, encBs ms), some (false, encNs ord), none, none, none, none, none, none, none, none])
      ord (fun k : Nat => U.int (k : Nat)) (fun k : Nat => U.int (k : Nat)) (fun s => U.bl (KN.mkf ms s)) trivial rfl (by rw [sl_eq]; omega) (by rw [clr_nt]; simp) (by
        have := hR.nd
        unfold List.Nodup at *
        rw [List.pairwise_map]
        exact this.imp fun {a b} n e => n (by injection e with e; exact Int.ofNat.inj e)) (by
        intro s hs
        refine ⟨rfl, ?_⟩
        have hsl := hR.lt s hs
        have e1 : atI (ms.map U.bl) (s : Int) = some (.bl (KN.mkf ms s)) := atI_at (by unfold KN.mkf; rw [List.getD_eq_getElem?_getD, List.getElem?_eq_getElem (by omega)]; rfl)
        simp [itemD, e1])
    simp [fr, dc1]
    obtain ⟨I, hI⟩ : ∃ I : Nat → En → Prop, ∀ n e, I n e ↔ ∃ (c : Nat → U) (mny : Nat) (b3 : Bool) (z5 z6 z7 z8 z9 z10 : Sl), n + mny = ord.length + 1 ∧ mny ≤ ord.length ∧ KN.Co t (KN.mkf ms) ord c ∧ KN.Mk (KN.mkf ms) ord c ∧ Md c ∧
      (mny = 0 ∨ ∃ p : Nat → U, (∀ s, c s = .int (KN.finer t p ord s : Nat)) ∧ mny = KN.many t p ord ∧ KN.Co t (KN.mkf ms) ord p ∧ KN.Mk (KN.mkf ms) ord p) ∧ (nt z9 ∧ nt z10) ∧
      e = [some (false, encT t), some (o1, encBs ms), some (false, encNs ord), some (b3, .dct (encKU c ord)), some (false, .int (mny : Nat)), z5, z6, z7, z8, z9, z10] := ⟨_, fun _ _ => Iff.rfl⟩
    refine post_mWhl I (ord.length + 1) ((hI _ _).mpr ⟨fun s => .bl (KN.mkf ms s), 0, true, none, none, none, none, none, none, by omega, by omega, fun a _ b _ q => congrArg U.bl q.mark, fun a _ b _ q => by injection q, .inl fun s => ⟨_, rfl⟩, .inl rfl, ⟨trivial, trivial⟩, rfl⟩) ?_
    intro n e hin
    obtain ⟨c, mny, b3, z5, z6, z7, z8, z9, z10, hn1, hn2, hco, hmk, hmd, hph, ⟨hz9, hz10⟩, rfl⟩ := (hI _ _).mp hin
    unfold wturn
    simp
    obtain ⟨J, hJ⟩ : ∃ J : List Nat → En → Prop, ∀ done e, J done e ↔ ∃ (z7 z8 z9 z10 : Sl), (nt z9 ∧ nt z10) ∧
      e = [some (false, encT t), some (o1, encBs ms), some (false, encNs ord), some (b3, .dct (encKU c ord)), some (false, .int (mny : Nat)), some (true, .dct (encN ((KM.nub (KN.looks t c done)).map encLk))), some (true, .dct (encKU (fun s => .int (KN.finer t c ord s : Nat)) done)), z7, z8, z9, z10] := ⟨_, fun _ _ => Iff.rfl⟩
    refine post_forL ord (fun k : Nat => U.int (k : Nat)) rfl J ((hJ _ _).mpr ⟨z7, z8, z9, z10, ⟨hz9, hz10⟩, rfl⟩) ?_ ?_
    · intro done s rest e hms hin
      obtain ⟨z7, z8, z9, z10, ⟨hz9, hz10⟩, rfl⟩ := (hJ _ _).mp hin
      have so : s ∈ ord := by rw [hms]; simp
      have sl := hR.lt s so
      have rg := row_eq sl
      have e1 : atI (t.map encRw) (s : Int) = some (encRw (KN.row t s)) := atI_row rg
      have rlen := hr _ (List.mem_of_getElem? rg)
      have nd : s ∉ done := fun z => by
        have := hR.nd
        rw [hms, List.nodup_append] at this
        exact this.2.2 s z s (by simp) rfl
      have lc := lc_eq (t := tgT 2 (tgsC (tgN 9) (tgsC (tgN 10) tgs0))) (te := mF (mTup (mVc (mN 9) (mVc (mF (mBin sIx (mSl 3) (mSl 10))) mVn)))) (vs := [9, 10]) (s := ⟨(KN.row t s).map encP2, [], none⟩)
        (e := [some (false, encT t), some (o1, encBs ms), some (false, encNs ord), some (b3, .dct (encKU c ord)), some (false, .int (mny : Nat)), some (true, .dct (encN ((KM.nub (KN.looks t c done)).map encLk))), some (true, .dct (encKU (fun s => .int (KN.finer t c ord s : Nat)) done)), some (false, .int (s : Nat)), z8, z9, z10])
        (KN.row t s) encP2 (fun p => .tup [.str p.1, c p.2]) rfl rfl (by rw [sl_eq]; omega) (by rw [clr_nt]; simp [hz9, hz10]) (by
          intro p hp
          have po := hR.cl s so p hp
          simp [-List.map_map, item, dfind_encKU, okD_encKU, po])
      have lk : U.tup [c s, U.tup ((KN.row t s).map fun p => U.tup [U.str p.1, c p.2])] = encLk (KN.look t c s) := by
        unfold encLk KN.look KN.mapr
        rw [List.map_map]
        rfl
      have ok := okD_lk hmd t done s
      have l1 : (KM.nub (KN.looks t c done)).length ≤ done.length := by
        have := KM.nub_len (xs := KN.looks t c done)
        simpa [KN.looks] using this
      have l2 : done.length ≤ ord.length := by rw [hms]; simp
      have l3 : (KM.nub (KN.looks t c done)).length < 16777216 := by omega
      have l4 : done.length < 16777216 := by omega
      have fx := ix_final (t := t) (c := c) hms
      have d6 : dset (encKU (fun s => .int (KN.finer t c ord s : Nat)) done) (.int (s : Nat)) (.int (KN.finer t c ord s : Nat)) = encKU (fun s => .int (KN.finer t c ord s : Nat)) (done ++ [s]) := by
        rw [dset_new (by rw [dfind_encKU, if_neg nd])]; simp [encKU]
      by_cases q : KN.look t c s ∈ KM.nub (KN.looks t c done)
      · have q' := mem_lk.mpr q
        have e5 : KM.nub (KN.looks t c (done ++ [s])) = KM.nub (KN.looks t c done) := by rw [looks_snoc, KM.nub_snoc, if_pos q]
        rw [e5] at fx
        simp only [turn]
        simp [-List.map_map, e1, lc, lk, dfind_encKU, okD_encKU, so, ok, dfind_encN, q', idx_lk, fx, d6, l4]
        refine (hJ _ _).mpr ⟨some (false, .int (s : Nat)), some (false, encLk (KN.look t c s)), z9, z10, ⟨hz9, hz10⟩, ?_⟩
        rw [e5]
        simp [encKU]
      · have q' : ¬ encLk (KN.look t c s) ∈ (KM.nub (KN.looks t c done)).map encLk := fun z => q (mem_lk.mp z)
        have e5 : KM.nub (KN.looks t c (done ++ [s])) = KM.nub (KN.looks t c done) ++ [KN.look t c s] := by rw [looks_snoc, KM.nub_snoc, if_neg q]
        have d2 : dset (encN ((KM.nub (KN.looks t c done)).map encLk)) (encLk (KN.look t c s)) (.int ((KM.nub (KN.looks t c done)).length : Nat)) = encN ((KM.nub (KN.looks t c (done ++ [s]))).map encLk) := by
          rw [dset_new (by rw [dfind_encN, if_neg q']), e5, List.map_append, List.map_cons, List.map_nil, encN_snoc, List.length_map]
        have ok2 := okD_lk hmd t (done ++ [s]) s
        have q2 : encLk (KN.look t c s) ∈ (KM.nub (KN.looks t c (done ++ [s]))).map encLk := mem_lk.mpr (by rw [e5]; simp)
        have ix2 : ((KM.nub (KN.looks t c (done ++ [s]))).map encLk).idxOf (encLk (KN.look t c s)) = KN.finer t c ord s := by rw [idx_lk, fx]
        simp only [turn]
        simp [-List.map_map, e1, lc, lk, dfind_encKU, okD_encKU, so, ok, dfind_encN, q', encN_len, l3, d2, ok2, q2, ix2, d6, l4]
        refine (hJ _ _).mpr ⟨some (false, .int (s : Nat)), some (false, encLk (KN.look t c s)), z9, z10, ⟨hz9, hz10⟩, ?_⟩
        simp [encKU]
    · intro e he
      obtain ⟨z7, z8, z9, z10, ⟨hz9, hz10⟩, rfl⟩ := (hJ _ _).mp he
      have ml : (KM.nub (KN.looks t c ord)).length = KN.many t c ord := rfl
      have mle := KN.many_le (t := t) (c := c) (o := ord)
      by_cases q : KN.many t c ord = mny
      · rcases hph with h0 | ⟨p, h1, h2, h3, h4⟩
        · exfalso
          have m0 := KN.finer_lt (t := t) (c := c) (o := ord) (s := 0) hR.mem0
          omega
        · have hc : c = fun s => .int (KN.finer t p ord s : Nat) := funext h1
          have q2 := q
          rw [hc, many_int] at q2
          have fin := KN.kd_of srtS ha hR h3 h4 (q2.trans h2)
          cases b3
          all_goals
            simp [encN_len, ml, q, outS_eq, prL, List.range_succ]
            exact ⟨KN.finer t p ord, ⟨KN.many t p ord, fin⟩, fun s _ => h1 s⟩
      · have q' : ¬ ((KN.many t c ord : Int) = (mny : Int)) := by omega
        simp [encN_len, ml, q']
        have grow : mny ≤ KN.many t c ord := by
          rcases hph with h0 | ⟨p, h1, h2, h3, h4⟩
          · omega
          · have hc : c = fun s => .int (KN.finer t p ord s : Nat) := funext h1
            subst hc
            rw [many_int, h2]
            exact KN.many_mono
        refine ⟨ord.length + 1 - KN.many t c ord, by omega, (hI _ _).mpr ⟨fun s => .int (KN.finer t c ord s : Nat), KN.many t c ord, false, some (true, .dct (encN ((KM.nub (KN.looks t c ord)).map encLk))), some (false, .dct (encKU (fun s => .int (KN.finer t c ord s : Nat)) ord)), z7, z8, z9, z10, by omega, mle, fun a ha' b hb e => by
            have := (hco.finer srtS ha hR) a ha' b hb e
            exact congrArg (fun k : Nat => U.int (k : Nat)) this, fun a ha' b hb e => by
            injection e with e
            exact hmk.finer a ha' b hb (Int.ofNat.inj e), .inr fun s => ⟨_, rfl⟩, .inr ⟨c, fun s => rfl, rfl, hco, hmk⟩, ⟨hz9, hz10⟩, rfl⟩⟩
  · have dc1 := dc_eq (t := tgN 7) (tk := mN 7) (tv := mF (mBin sIx (mSl 1) (mSl 7))) (vs := [7]) (s := ⟨ord.map fun k : Nat => U.int (k : Nat), [], none⟩) (e := [some (true, encT t), some (o1, encBs ms), some (false, encNs ord), none, none, none, none, none, none, none, none])
      ord (fun k : Nat => U.int (k : Nat)) (fun k : Nat => U.int (k : Nat)) (fun s => U.bl (KN.mkf ms s)) trivial rfl (by rw [sl_eq]; omega) (by rw [clr_nt]; simp) (by
        have := hR.nd
        unfold List.Nodup at *
        rw [List.pairwise_map]
        exact this.imp fun {a b} n e => n (by injection e with e; exact Int.ofNat.inj e)) (by
        intro s hs
        refine ⟨rfl, ?_⟩
        have hsl := hR.lt s hs
        have e1 : atI (ms.map U.bl) (s : Int) = some (.bl (KN.mkf ms s)) := atI_at (by unfold KN.mkf; rw [List.getD_eq_getElem?_getD, List.getElem?_eq_getElem (by omega)]; rfl)
        simp [itemD, e1])
    simp [fr, dc1]
    obtain ⟨I, hI⟩ : ∃ I : Nat → En → Prop, ∀ n e, I n e ↔ ∃ (c : Nat → U) (mny : Nat) (b3 : Bool) (z5 z6 z7 z8 z9 z10 : Sl), n + mny = ord.length + 1 ∧ mny ≤ ord.length ∧ KN.Co t (KN.mkf ms) ord c ∧ KN.Mk (KN.mkf ms) ord c ∧ Md c ∧
      (mny = 0 ∨ ∃ p : Nat → U, (∀ s, c s = .int (KN.finer t p ord s : Nat)) ∧ mny = KN.many t p ord ∧ KN.Co t (KN.mkf ms) ord p ∧ KN.Mk (KN.mkf ms) ord p) ∧ (nt z9 ∧ nt z10) ∧
      e = [some (true, encT t), some (o1, encBs ms), some (false, encNs ord), some (b3, .dct (encKU c ord)), some (false, .int (mny : Nat)), z5, z6, z7, z8, z9, z10] := ⟨_, fun _ _ => Iff.rfl⟩
    refine post_mWhl I (ord.length + 1) ((hI _ _).mpr ⟨fun s => .bl (KN.mkf ms s), 0, true, none, none, none, none, none, none, by omega, by omega, fun a _ b _ q => congrArg U.bl q.mark, fun a _ b _ q => by injection q, .inl fun s => ⟨_, rfl⟩, .inl rfl, ⟨trivial, trivial⟩, rfl⟩) ?_
    intro n e hin
    obtain ⟨c, mny, b3, z5, z6, z7, z8, z9, z10, hn1, hn2, hco, hmk, hmd, hph, ⟨hz9, hz10⟩, rfl⟩ := (hI _ _).mp hin
    unfold wturn
    simp
    obtain ⟨J, hJ⟩ : ∃ J : List Nat → En → Prop, ∀ done e, J done e ↔ ∃ (z7 z8 z9 z10 : Sl), (nt z9 ∧ nt z10) ∧
      e = [some (true, encT t), some (o1, encBs ms), some (false, encNs ord), some (b3, .dct (encKU c ord)), some (false, .int (mny : Nat)), some (true, .dct (encN ((KM.nub (KN.looks t c done)).map encLk))), some (true, .dct (encKU (fun s => .int (KN.finer t c ord s : Nat)) done)), z7, z8, z9, z10] := ⟨_, fun _ _ => Iff.rfl⟩
    refine post_forL ord (fun k : Nat => U.int (k : Nat)) rfl J ((hJ _ _).mpr ⟨z7, z8, z9, z10, ⟨hz9, hz10⟩, rfl⟩) ?_ ?_
    · intro done s rest e hms hin
      obtain ⟨z7, z8, z9, z10, ⟨hz9, hz10⟩, rfl⟩ := (hJ _ _).mp hin
      have so : s ∈ ord := by rw [hms]; simp
      have sl := hR.lt s so
      have rg := row_eq sl
      have e1 : atI (t.map encRw) (s : Int) = some (encRw (KN.row t s)) := atI_row rg
      have rlen := hr _ (List.mem_of_getElem? rg)
      have nd : s ∉ done := fun z => by
        have := hR.nd
        rw [hms, List.nodup_append] at this
        exact this.2.2 s z s (by simp) rfl
      have lc := lc_eq (t := tgT 2 (tgsC (tgN 9) (tgsC (tgN 10) tgs0))) (te := mF (mTup (mVc (mN 9) (mVc (mF (mBin sIx (mSl 3) (mSl 10))) mVn)))) (vs := [9, 10]) (s := ⟨(KN.row t s).map encP2, [], none⟩)
        (e := [some (true, encT t), some (o1, encBs ms), some (false, encNs ord), some (b3, .dct (encKU c ord)), some (false, .int (mny : Nat)), some (true, .dct (encN ((KM.nub (KN.looks t c done)).map encLk))), some (true, .dct (encKU (fun s => .int (KN.finer t c ord s : Nat)) done)), some (false, .int (s : Nat)), z8, z9, z10])
        (KN.row t s) encP2 (fun p => .tup [.str p.1, c p.2]) rfl rfl (by rw [sl_eq]; omega) (by rw [clr_nt]; simp [hz9, hz10]) (by
          intro p hp
          have po := hR.cl s so p hp
          simp [-List.map_map, item, dfind_encKU, okD_encKU, po])
      have lk : U.tup [c s, U.tup ((KN.row t s).map fun p => U.tup [U.str p.1, c p.2])] = encLk (KN.look t c s) := by
        unfold encLk KN.look KN.mapr
        rw [List.map_map]
        rfl
      have ok := okD_lk hmd t done s
      have l1 : (KM.nub (KN.looks t c done)).length ≤ done.length := by
        have := KM.nub_len (xs := KN.looks t c done)
        simpa [KN.looks] using this
      have l2 : done.length ≤ ord.length := by rw [hms]; simp
      have l3 : (KM.nub (KN.looks t c done)).length < 16777216 := by omega
      have l4 : done.length < 16777216 := by omega
      have fx := ix_final (t := t) (c := c) hms
      have d6 : dset (encKU (fun s => .int (KN.finer t c ord s : Nat)) done) (.int (s : Nat)) (.int (KN.finer t c ord s : Nat)) = encKU (fun s => .int (KN.finer t c ord s : Nat)) (done ++ [s]) := by
        rw [dset_new (by rw [dfind_encKU, if_neg nd])]; simp [encKU]
      by_cases q : KN.look t c s ∈ KM.nub (KN.looks t c done)
      · have q' := mem_lk.mpr q
        have e5 : KM.nub (KN.looks t c (done ++ [s])) = KM.nub (KN.looks t c done) := by rw [looks_snoc, KM.nub_snoc, if_pos q]
        rw [e5] at fx
        simp only [turn]
        simp [-List.map_map, e1, lc, lk, dfind_encKU, okD_encKU, so, ok, dfind_encN, q', idx_lk, fx, d6, l4]
        refine (hJ _ _).mpr ⟨some (false, .int (s : Nat)), some (false, encLk (KN.look t c s)), z9, z10, ⟨hz9, hz10⟩, ?_⟩
        rw [e5]
        simp [encKU]
      · have q' : ¬ encLk (KN.look t c s) ∈ (KM.nub (KN.looks t c done)).map encLk := fun z => q (mem_lk.mp z)
        have e5 : KM.nub (KN.looks t c (done ++ [s])) = KM.nub (KN.looks t c done) ++ [KN.look t c s] := by rw [looks_snoc, KM.nub_snoc, if_neg q]
        have d2 : dset (encN ((KM.nub (KN.looks t c done)).map encLk)) (encLk (KN.look t c s)) (.int ((KM.nub (KN.looks t c done)).length : Nat)) = encN ((KM.nub (KN.looks t c (done ++ [s]))).map encLk) := by
          rw [dset_new (by rw [dfind_encN, if_neg q']), e5, List.map_append, List.map_cons, List.map_nil, encN_snoc, List.length_map]
        have ok2 := okD_lk hmd t (done ++ [s]) s
        have q2 : encLk (KN.look t c s) ∈ (KM.nub (KN.looks t c (done ++ [s]))).map encLk := mem_lk.mpr (by rw [e5]; simp)
        have ix2 : ((KM.nub (KN.looks t c (done ++ [s]))).map encLk).idxOf (encLk (KN.look t c s)) = KN.finer t c ord s := by rw [idx_lk, fx]
        simp only [turn]
        simp [-List.map_map, e1, lc, lk, dfind_encKU, okD_encKU, so, ok, dfind_encN, q', encN_len, l3, d2, ok2, q2, ix2, d6, l4]
        refine (hJ _ _).mpr ⟨some (false, .int (s : Nat)), some (false, encLk (KN.look t c s)), z9, z10, ⟨hz9, hz10⟩, ?_⟩
        simp [encKU]
    · intro e he
      obtain ⟨z7, z8, z9, z10, ⟨hz9, hz10⟩, rfl⟩ := (hJ _ _).mp he
      have ml : (KM.nub (KN.looks t c ord)).length = KN.many t c ord := rfl
      have mle := KN.many_le (t := t) (c := c) (o := ord)
      by_cases q : KN.many t c ord = mny
      · rcases hph with h0 | ⟨p, h1, h2, h3, h4⟩
        · exfalso
          have m0 := KN.finer_lt (t := t) (c := c) (o := ord) (s := 0) hR.mem0
          omega
        · have hc : c = fun s => .int (KN.finer t p ord s : Nat) := funext h1
          have q2 := q
          rw [hc, many_int] at q2
          have fin := KN.kd_of srtS ha hR h3 h4 (q2.trans h2)
          cases b3
          all_goals
            simp [encN_len, ml, q, outS_eq, prL, List.range_succ]
            exact ⟨KN.finer t p ord, ⟨KN.many t p ord, fin⟩, fun s _ => h1 s⟩
      · have q' : ¬ ((KN.many t c ord : Int) = (mny : Int)) := by omega
        simp [encN_len, ml, q']
        have grow : mny ≤ KN.many t c ord := by
          rcases hph with h0 | ⟨p, h1, h2, h3, h4⟩
          · omega
          · have hc : c = fun s => .int (KN.finer t p ord s : Nat) := funext h1
            subst hc
            rw [many_int, h2]
            exact KN.many_mono
        refine ⟨ord.length + 1 - KN.many t c ord, by omega, (hI _ _).mpr ⟨fun s => .int (KN.finer t c ord s : Nat), KN.many t c ord, false, some (true, .dct (encN ((KM.nub (KN.looks t c ord)).map encLk))), some (false, .dct (encKU (fun s => .int (KN.finer t c ord s : Nat)) ord)), z7, z8, z9, z10, by omega, mle, fun a ha' b hb e => by
            have := (hco.finer srtS ha hR) a ha' b hb e
            exact congrArg (fun k : Nat => U.int (k : Nat)) this, fun a ha' b hb e => by
            injection e with e
            exact hmk.finer a ha' b hb (Int.ofNat.inj e), .inr fun s => ⟨_, rfl⟩, .inr ⟨c, fun s => rfl, rfl, hco, hmk⟩, ⟨hz9, hz10⟩, rfl⟩⟩
end VS
set_option linter.all false
set_option maxRecDepth 100000
namespace VS
open PySem L2
/-! ### least_table -/
theorem ev_least_table (o o1 : Bool) (t : List Row) (ms : List Bool) (hf : KN.Fit t) (ha : KN.Asc ltS t) (hl : t.length ≤ 100000) (hr : ∀ r ∈ t, r.length ≤ 100000) (hm : ms.length = t.length) :
    ∃ (c : Nat → Nat) (n : Nat), KN.Kd t (KN.mkf ms) (KN.ordr t) c n ∧ φ_least_table [(o, encT t), (o1, encBs ms)] = .ok (false, .tup [encH (KN.tab t c (KN.ordr t)), .tup ((KN.told (KN.mkf ms) c (KN.ordr t)).map .bl)]) [some (o, encT t), some (o1, encBs ms)] := by
  have hn := ha.nd srtS
  have hR := KN.rch hf hn
  obtain ⟨c, n, b, kd, ek⟩ := ev_kinds_of o o1 t ms hf ha hl hr hm
  refine ⟨c, n, kd, ?_⟩
  have fr := ev_first_reached o t hf hn hl
  have olen : (KN.ordr t).length ≤ t.length := KM.nodup_lt hR.nd hR.lt
  refine fnS_post (fun z => z = .ok (false, .tup [encH (KN.tab t c (KN.ordr t)), .tup ((KN.told (KN.mkf ms) c (KN.ordr t)).map .bl)]) [some (o, encT t), some (o1, encBs ms)]) rfl (by decide) ?_
  show (b_least_table [some (o, encT t), some (o1, encBs ms), none, none, none, none, none, none]).post _
  unfold b_least_table
  generalize hord : KN.ordr t = ord at *
  have main : ∀ (κ : Ks), (∀ z5 z6 z7, κ.N [some (o, encT t), some (o1, encBs ms), some (b, .dct (encKU (fun s => .int (c s : Nat)) ord)), some (true, .lst ((KN.tab t c ord).map encRt)), some (true, .lst ((KN.told (KN.mkf ms) c ord).map .bl)), z5, z6, z7]) →
    (forL (tgN 5) (mIf (mTst (mBin (sEq false) (mR (mF (mBin sIx (mSl 2) (mSl 5)))) (mR (mF (mCB sLenU (mRc (mSl 3) mRn))))))
 ((mDrp (mF (mMu isL sApp 3 (mVc (mF (mCB sTuple (mRc (mR (mF (mLc (mItA (mF (mBin sIx (mSl 0) (mSl 5)))) (tgT 2 (tgsC (tgN 6) (tgsC (tgN 7) tgs0))) (M.ret true) (mF (mTup (mVc (mN 6) (mVc (mF (mBin sIx (mSl 2) (mSl 7))) mVn)))) [6, 7]))) mRn))) mVn)))).seq
 (mDrp (mF (mMu isL sApp 4 (mVc (mF (mBin sIx (mSl 1) (mSl 5))) mVn)))))
 MS.nop) none [] (ord.map fun k : Nat => U.int (k : Nat)) [some (o, encT t), some (o1, encBs ms), some (b, .dct (encKU (fun s => .int (c s : Nat)) ord)), some (true, .lst []), some (true, .lst []), none, none, none]).post κ := by
    intro κ hκ
    obtain ⟨J, hJ⟩ : ∃ J : List Nat → En → Prop, ∀ done e, J done e ↔ ∃ (z5 z6 z7 : Sl), (nt z6 ∧ nt z7) ∧
      e = [some (o, encT t), some (o1, encBs ms), some (b, .dct (encKU (fun s => .int (c s : Nat)) ord)), some (true, .lst ((KN.tab t c done).map encRt)), some (true, .lst ((KN.told (KN.mkf ms) c done).map .bl)), z5, z6, z7] := ⟨_, fun _ _ => Iff.rfl⟩
    refine post_forL ord (fun k : Nat => U.int (k : Nat)) rfl J ((hJ _ _).mpr ⟨none, none, none, ⟨trivial, trivial⟩, rfl⟩) ?_ ?_
    · intro done s rest e hms hin
      obtain ⟨z5, z6, z7, ⟨hz6, hz7⟩, rfl⟩ := (hJ _ _).mp hin
      have so : s ∈ ord := by rw [hms]; simp
      have sl := hR.lt s so
      have rg := row_eq sl
      have e1 : atI (t.map encRw) (s : Int) = some (encRw (KN.row t s)) := atI_row rg
      have e2 : atI (ms.map U.bl) (s : Int) = some (.bl (KN.mkf ms s)) := atI_at (by unfold KN.mkf; rw [List.getD_eq_getElem?_getD, List.getElem?_eq_getElem (by omega)]; rfl)
      have rlen := hr _ (List.mem_of_getElem? rg)
      have lc := lc_eq (t := tgT 2 (tgsC (tgN 6) (tgsC (tgN 7) tgs0))) (te := mF (mTup (mVc (mN 6) (mVc (mF (mBin sIx (mSl 2) (mSl 7))) mVn)))) (vs := [6, 7]) (s := ⟨(KN.row t s).map encP2, [], none⟩)
        (e := [some (o, encT t), some (o1, encBs ms), some (b, .dct (encKU (fun s => .int (c s : Nat)) ord)), some (true, .lst ((KN.tab t c done).map encRt)), some (true, .lst ((KN.told (KN.mkf ms) c done).map .bl)), some (false, .int (s : Nat)), z6, z7])
        (KN.row t s) encP2 (fun p => encP2 (p.1, c p.2)) rfl rfl (by rw [sl_eq]; omega) (by rw [clr_nt]; simp [hz6, hz7]) (by
          intro p hp
          have po := hR.cl s so p hp
          simp [-List.map_map, item, dfind_encKU, okD_encKU, po])
      have rl : (KN.reps c done).length ≤ ord.length := by
        have h1 : ∀ d : List Nat, (KN.reps c d).length ≤ d.length := by
          intro d
          induction d using KM.list_snoc_ind with
          | h0 => simp [KN.reps]
          | hs d x ih => rw [KN.reps_snoc]; unfold KN.rep1; split <;> simp <;> omega
        have := h1 done
        have := congrArg List.length hms
        simp at this
        have := h1 done
        omega
      have r2 : (KN.reps c done).length < 16777216 := by omega
      have tl : (KN.tab t c done).length = (KN.reps c done).length := by unfold KN.tab; rw [List.length_map]
      have ul : (KN.told (KN.mkf ms) c done).length = (KN.reps c done).length := by unfold KN.told; rw [List.length_map]
      by_cases q : c s = (KN.reps c done).length
      · have rp : KN.reps c (done ++ [s]) = KN.reps c done ++ [s] := by rw [KN.reps_snoc]; unfold KN.rep1; rw [if_pos q]
        have hrow : (KN.row t s).map (fun p => encP2 (p.1, c p.2)) = (KN.mapr c (KN.row t s)).map encP2 := by unfold KN.mapr; rw [List.map_map]; rfl
        simp only [turn]
        simp [-List.map_map, tl, ul, e1, e2, lc, dfind_encKU, okD_encKU, so, q, r2]
        refine (hJ _ _).mpr ⟨some (false, .int (s : Nat)), z6, z7, ⟨hz6, hz7⟩, ?_⟩
        simp [KN.tab, KN.told, rp, KN.mapr]
      · have rp : KN.reps c (done ++ [s]) = KN.reps c done := by rw [KN.reps_snoc]; unfold KN.rep1; rw [if_neg q]
        have q' : ¬ ((c s : Int) = ((KN.reps c done).length : Int)) := by omega
        simp only [turn]
        simp [-List.map_map, tl, ul, dfind_encKU, okD_encKU, so, q']
        refine (hJ _ _).mpr ⟨some (false, .int (s : Nat)), z6, z7, ⟨hz6, hz7⟩, ?_⟩
        simp [KN.tab, KN.told, rp]
    · intro e he
      obtain ⟨z5, z6, z7, ⟨hz6, hz7⟩, rfl⟩ := (hJ _ _).mp he
      exact hκ z5 z6 z7
  cases o
  all_goals
    cases o1
    all_goals
      simp [ek, fr]
      refine main _ ?_
      intro z5 z6 z7
      simp [outS_eq, prL, List.range_succ]
end VS
set_option linter.all false
set_option maxRecDepth 100000
namespace VS
open PySem L2
theorem inU_ii {x : Nat} {c : List Nat} : inU (.int (x : Nat)) (c.map fun k : Nat => U.int (k : Nat)) = decide (x ∈ c) := by
  unfold inU
  rw [List.any_map]
  induction c with
  | nil => rfl
  | cons w ws ih =>
    have e : eqV (vOf (.int (w : Nat))) (vOf (.int (x : Nat))) = decide (x = w) := by
      simp only [vOf, eqV]
      by_cases h : w = x
      · subst h; simp
      · have : ¬ ((w : Int) = (x : Int)) := by omega
        simp [this, Ne.symm h]
    simp only [List.any_cons, Function.comp, e, List.mem_cons] at ih ⊢
    rw [ih]
    by_cases h : x = w <;> simp [h]
theorem sIn_il {x : Nat} {c : List Nat} : sIn (.int (x : Nat)) (encNs c) = some (false, .bl (decide (x ∈ c))) := by
  unfold sIn orS sInF
  dsimp only
  rw [if_pos (by simp [flU]), inU_ii]
  rfl
theorem sIn_it {x : Nat} {c : List Nat} : sIn (.int (x : Nat)) (.tup (c.map fun k : Nat => U.int (k : Nat))) = some (false, .bl (decide (x ∈ c))) := by
  unfold sIn orS sInF
  dsimp only
  rw [if_pos (by simp [flU]), inU_ii]
  rfl
/-- the final states of a table -/
def finsOf (told : List Bool) : List Nat := (told.zipIdx.filter fun p => p.1).map (·.2)
theorem mem_finsOf {told : List Bool} {k : Nat} : k ∈ finsOf told ↔ KN.mkf told k = true := by
  unfold finsOf KN.mkf
  rw [List.mem_map]
  constructor
  · rintro ⟨⟨b, i⟩, h, rfl⟩
    rw [List.mem_filter] at h
    obtain ⟨h1, h2⟩ := h
    have := List.mem_zipIdx_iff_getElem?.mp h1
    dsimp only at h2 this ⊢
    rw [List.getD_eq_getElem?_getD, this, h2]
    rfl
  · intro h
    refine ⟨(true, k), ?_, rfl⟩
    rw [List.mem_filter]
    refine ⟨List.mem_zipIdx_iff_getElem?.mpr ?_, rfl⟩
    rw [List.getD_eq_getElem?_getD] at h
    cases q : told[k]? with
    | none => rw [q] at h; cases h
    | some b => rw [q] at h; rw [Option.getD_some] at h; rw [h]
/-- the machine of a least form -/
def encM (T : List Row) (told : List Bool) : U := .ins "Machine" [("held_rows", encH T), ("held_finals", .tup ((finsOf told).map fun k : Nat => U.int (k : Nat)))]
/-- T, told are the least form of a machine -/
structure Least (t : List Row) (m : Nat → Bool) (T : List Row) (told : List Bool) : Prop where
  can : KN.Canon ltS T (KN.mkf told)
  tl : told.length = T.length
  eqv : KN.Eqv t m T (KN.mkf told) 0 0
  le : T.length ≤ t.length
  sub : ∀ r ∈ T, ∃ r' ∈ t, r.map (·.1) = r'.map (·.1)
theorem Kd.least {t : List Row} {m : Nat → Bool} {c : Nat → Nat} {n : Nat} (hf : KN.Fit t) (ha : KN.Asc ltS t) (h : KN.Kd t m (KN.ordr t) c n) : Least t m (KN.tab t c (KN.ordr t)) (KN.told m c (KN.ordr t)) := by
  have hR := KN.rch hf (ha.nd srtS)
  have c0 : c 0 = 0 := by
    have h1 := h.first hf (ha.nd srtS) srtS ha
    have h2 := (KN.rch (h.fit hR) ((h.asc ha).nd srtS)).z
    have z := hR.z
    cases e : KN.ordr t with
    | nil => rw [e] at z; cases z
    | cons x r =>
      rw [e] at z
      have : x = 0 := by simpa using z
      subst this
      have h1 := (KM.nub_cons (x := c 0) (xs := r.map c)).2
      have h2 := h.nb
      rw [e, List.map_cons] at h2
      rw [h2] at h1
      obtain ⟨l, q⟩ := List.getElem?_eq_some_iff.mp h1
      rw [List.getElem_range] at q
      exact q.symm
  refine ⟨h.canon hf srtS ha, by unfold KN.told KN.tab; rw [List.length_map, List.length_map], ?_, ?_, ?_⟩
  · have := h.eqv hR hR.mem0
    rwa [c0] at this
  · rw [h.len]
    have h1 := KN.Kd.reps_len h
    have h2 : ∀ d : List Nat, (KN.reps c d).length ≤ d.length := by
      intro d
      induction d using KM.list_snoc_ind with
      | h0 => simp [KN.reps]
      | hs d x ih => rw [KN.reps_snoc]; unfold KN.rep1; split <;> simp <;> omega
    have h3 := h2 (KN.ordr t)
    have h4 := KM.nodup_lt hR.nd hR.lt
    omega
  · intro r hr
    unfold KN.tab at hr
    obtain ⟨s, hs, rfl⟩ := List.mem_map.mp hr
    have so : s ∈ KN.ordr t := by
      obtain ⟨i, hi⟩ := List.mem_iff_getElem?.mp hs
      exact ((KN.reps_ok h.nb (KN.ordr t) [] (by simp)).2 i s hi).2
    refine ⟨KN.row t s, List.mem_of_getElem? (row_eq (hR.lt s so)), ?_⟩
    unfold KN.mapr
    rw [List.map_map]
    rfl
theorem mkf_range {n : Nat} {f : Nat → Bool} (h : ∀ k, f k = true → k < n) : KN.mkf ((List.range n).map f) = f := by
  funext k
  unfold KN.mkf
  rw [List.getD_eq_getElem?_getD, List.getElem?_map]
  by_cases q : k < n
  · rw [List.getElem?_range q]; rfl
  · rw [List.getElem?_eq_none (by simpa using q)]
    cases z : f k with
    | false => rfl
    | true => exact absurd (h k z) q
/-! ### Machine -/
theorem ev_Machine_init (o1 o2 : Bool) (plan : List Row) (fin : List Nat) (h : POk plan fin) : ∃ (T : List Row) (told : List Bool), Least (tOf plan) (mOf fin) T told ∧
    φ_Machine___init__ [(true, .ins "Machine" []), (o1, encDs plan), (o2, encNs fin)] = .ok (false, .non) [some (true, encM T told), some (false, encDs plan), some (false, encNs fin)] := by
  have n1 := h.n1
  have tl : (tOf plan).length = plan.length := by unfold tOf; rw [List.length_map]
  have hmk : KN.mkf ((List.range plan.length).map (mOf fin)) = mOf fin := mkf_range fun k hk => h.fl k (by unfold mOf at hk; simpa using hk)
  obtain ⟨c, n, kd, el⟩ := ev_least_table true true (tOf plan) ((List.range plan.length).map (mOf fin)) h.fit h.asc (by omega) (fun r hr => by
    unfold tOf at hr
    obtain ⟨r', hr', rfl⟩ := List.mem_map.mp hr
    rw [sortN_len]
    have := h.rl r' hr'
    omega) (by simp [tl])
  rw [hmk] at kd el
  have lst := Kd.least h.fit h.asc kd
  refine ⟨_, _, lst, ?_⟩
  generalize KN.tab (tOf plan) c (KN.ordr (tOf plan)) = T at *
  generalize KN.told (mOf fin) c (KN.ordr (tOf plan)) = told at *
  refine fnS_post (fun z => z = .ok (false, .non) [some (true, encM T told), some (false, encDs plan), some (false, encNs fin)]) rfl (by decide) ?_
  unfold b_Machine___init__
  have cm := ev_check_machine o1 o2 plan fin h
  have lc1 := lc_eq (t := tgN 7) (te := mF (mSortV (mSl 7))) (vs := [7]) (s := ⟨plan.map fun r => .dct (encD r), [], none⟩) (e := [some (true, .ins "Machine" []), some (false, encDs plan), some (false, encNs fin), none, none, none, none, none, none, none])
    plan (fun r => .dct (encD r)) (fun r => encRw (sortN r)) rfl rfl (by rw [sl_eq]; omega) (by rw [clr_nt]; simp) (by
      intro r hr
      have nd := h.nd r hr
      have sk := sortK_cast nd
      unfold castI at sk
      simp [-List.map_map, item, asKV_encD, sk]
      simp)
  have lc2 := lc_eq (t := tgN 8) (te := mF (mBin sIn (mSl 8) (mSl 2))) (vs := [8]) (s := ⟨(List.range plan.length).map fun i : Nat => U.int (i : Nat), [], none⟩) (e := [some (true, .ins "Machine" []), some (false, encDs plan), some (false, encNs fin), some (true, encT (tOf plan)), none, none, none, none, none, none])
    (List.range plan.length) (fun i : Nat => U.int (i : Nat)) (fun i => U.bl (mOf fin i)) rfl rfl (by rw [sl_eq]; simp; omega) (by rw [clr_nt]; simp) (by
      intro i hi
      simp [item, sIn_il, mOf])
  have tT : (plan.map fun r => encRw (sortN r)) = (tOf plan).map encRw := by unfold tOf; rw [List.map_map]; rfl
  have bT : ((List.range plan.length).map fun i => U.bl (mOf fin i)) = ((List.range plan.length).map (mOf fin)).map U.bl := by rw [List.map_map]; rfl
  have lm : lim62 (plan.length : Nat) = true := lim62_ok (by omega) (by omega)
  cases o1
  all_goals
    cases o2
    all_goals
      have lc3 := lcF_eq (t := tgT 2 (tgsC (tgN 8) (tgsC (tgN 9) tgs0))) (tt := mTru (mSl 9)) (te := mN 8) (vs := [8, 9]) (s := ⟨told.zipIdx.map fun p => .tup [.int (p.2 : Nat), .bl p.1], [], none⟩) (e := [some (true, .ins "Machine" [("held_rows", encH T)]), some (false, encDs plan), some (false, encNs fin), some (true, encT (tOf plan)), some (true, encBs ((List.range plan.length).map (mOf fin))), some (false, encH T), some (false, .tup (told.map U.bl)), none, none, none])
        told.zipIdx (fun p => .tup [.int (p.2 : Nat), .bl p.1]) (fun p => p.1) (fun p => .int (p.2 : Nat)) rfl rfl (by rw [sl_eq, List.length_zipIdx, lst.tl]; have := lst.le; omega) (by rw [clr_nt]; simp) (by
          intro p hp
          obtain ⟨b, i⟩ := p
          cases b <;> simp [itemF])
      have fe : (told.zipIdx.filter fun p => p.1).map (fun p => U.int (p.2 : Nat)) = (finsOf told).map fun k : Nat => U.int (k : Nat) := by unfold finsOf; rw [List.map_map]; rfl
      simp [-List.map_map, cm, lc1, tT, n1, lm, lc2, bT, el, enumL_map, lc3, fe, outS_eq, prL, List.range_succ, encM]
      decide
@[simp] theorem e_vst {ma : M U} {mr : M (List U)} {e : En} : mVst ma mr e = (ma.bd fun u => match u with
  | .lst ws => mr.bd fun us => .ret (ws ++ us)
  | .tup ws => mr.bd fun us => .ret (ws ++ us)
  | _ => fun _ => .bad) e := rfl
/-! ### what a machine tells -/
theorem hr_hf : ¬ (("held_rows" : Str) = ("held_finals" : Str)) := by decide
theorem ev_Machine_states (o : Bool) (T : List Row) (told : List Bool) (hl : T.length ≤ 100000) (hr : ∀ r ∈ T, r.length ≤ 100000) : φ_Machine_states [(o, encM T told)] = .ok (true, encT T) [some (o, encM T told)] := by
  refine fnS_post (fun z => z = .ok (true, encT T) [some (o, encM T told)]) rfl (by decide) ?_
  unfold b_Machine_states
  have lc1 := lc_eq (t := tgN 1) (te := mF (mLst (mVst (mN 1) mVn))) (vs := [1]) (s := ⟨T.map encRt, [], none⟩) (e := [some (o, encM T told), none])
    T encRt encRw rfl rfl (by rw [sl_eq]; omega) (by rw [clr_nt]; simp) (by
      intro r hm
      have := hr r hm
      have l : r.length ≤ 16777216 := by omega
      simp [-List.map_map, item, e_vst, l])
  have e0 : encM T told = .ins "Machine" [("held_rows", encH T), ("held_finals", .tup ((finsOf told).map fun k : Nat => U.int (k : Nat)))] := rfl
  rw [e0] at lc1
  simp [-List.map_map, e0, lc1, outS_eq, prL, List.range_succ]
theorem ev_Machine_finals (o : Bool) (T : List Row) (told : List Bool) (hl : told.length ≤ 100000) : φ_Machine_finals [(o, encM T told)] = .ok (true, encNs (finsOf told)) [some (o, encM T told)] := by
  have l : (finsOf told).length ≤ 16777216 := by
    unfold finsOf
    rw [List.length_map]
    have := List.length_filter_le (fun p : Bool × Nat => p.1) told.zipIdx
    rw [List.length_zipIdx] at this
    omega
  refine fnS_post (fun z => z = .ok (true, encNs (finsOf told)) [some (o, encM T told)]) rfl (by decide) ?_
  unfold b_Machine_finals
  simp [-List.map_map, e_vst, encM, hr_hf, l, outS_eq, prL, List.range_succ]
theorem ev_Machine_len (o : Bool) (T : List Row) (told : List Bool) : φ_Machine___len__ [(o, encM T told)] = .ok (false, .int (T.length : Nat)) [some (o, encM T told)] := by
  refine fnS_post (fun z => z = .ok (false, .int (T.length : Nat)) [some (o, encM T told)]) rfl (by decide) ?_
  unfold b_Machine___len__
  simp [-List.map_map, encM, outS_eq, prL, List.range_succ]
end VS
set_option linter.all false
set_option maxRecDepth 100000
namespace VS
open PySem L2
/-! ### the draws -/
theorem sAbs_i (i : Int) : ∃ j, sAbs [.int i] = some (false, .int j) := ⟨_, rfl⟩
theorem sMx_2 (i j : Int) : sMx [.int i, .int j] = some (false, .int (if i < j then j else i)) := by
  unfold sMx orN
  rfl
theorem nb_mul {i j : Int} {a b : Nat} (h : i.natAbs < 2 ^ a) (k : j.natAbs < 2 ^ b) : (i * j).natAbs < 2 ^ (a + b) := by
  rw [Int.natAbs_mul, Nat.pow_add]
  exact Nat.mul_lt_mul'' h k
theorem sMul_w {i j : Int} {a b : Nat} (h : i.natAbs < 2 ^ a) (k : j.natAbs < 2 ^ b) (ha : a ≤ 100000) (hb : b ≤ 100000) : sMul (.int i) (.int j) = some (false, .int (i * j)) := by
  refine sMul_ii ?_
  have h2 : i.natAbs < wideB := Nat.lt_of_lt_of_le h (Nat.pow_le_pow_right (by decide) ha)
  have k2 : j.natAbs < wideB := Nat.lt_of_lt_of_le k (Nat.pow_le_pow_right (by decide) hb)
  unfold mulOk
  simp [cdec_iff, h2, k2]
abbrev encPu (a b c : Int) : U := .lst [.int a, .int b, .int c]
theorem st0 {a b c : Int} {w : U} : sSto (encPu a b c) (.int 0) w = some (.lst [w, .int b, .int c]) := rfl
theorem st2 {a b c : Int} {w : U} : sSto (encPu a b c) (.int 2) w = some (.lst [.int a, .int b, w]) := rfl
def SpR (o : Bool) (n : Int) (z : RF) : Prop := ∃ a' b' c' k, 0 ≤ k ∧ k < n ∧ z = .ok (false, .int k) [some (true, encPu a' b' c'), some (o, .int n)]
theorem ev_spend (o : Bool) (a b c n : Int) (h0 : 0 < n) (h1 : n < 1073741824) : ∃ a' b' c' k, 0 ≤ k ∧ k < n ∧ φ_law_spend [(true, encPu a b c), (o, .int n)] = .ok (false, .int k) [some (true, encPu a' b' c'), some (o, .int n)] := by
  refine fnS_post (SpR o n) rfl (by decide) ?_
  unfold b_law_spend
  by_cases q : 0 < a
  · simp [q, sMod_ii h0, sDiv_ii h0 h1, st0, outS_eq, prL, List.range_succ]
    exact ⟨_, _, _, _, Int.emod_nonneg _ (by omega), Int.emod_lt_of_pos _ h0, rfl⟩
  · have m1 : ∀ x : Int, sMod (.int x) (.int 618970019642690137449562111) = some (false, .int (x % 618970019642690137449562111)) := fun x => sMod_ii (by decide)
    have m2 : ∀ x : Int, sMod (.int x) (.int 162259276829213363391578010288127) = some (false, .int (x % 162259276829213363391578010288127)) := fun x => sMod_ii (by decide)
    have d1 : ∀ x : Int, sDiv (.int x) (.int 4096) = some (false, .int (x / 4096)) := fun x => sDiv_ii (by decide) (by decide)
    have l1 : ∀ x : Int, sMul (.int 6700417) (.int x) = some (false, .int (6700417 * x)) := fun x => sMul_l (by decide) (by decide)
    have b1 : ∀ x : Int, (x % 618970019642690137449562111).natAbs < 2 ^ 90 := fun x => by
      have h1 := Int.emod_nonneg x (b := 618970019642690137449562111) (by decide)
      have h2 := Int.emod_lt_of_pos x (b := 618970019642690137449562111) (by decide)
      have : (2 : Nat) ^ 90 = 1237940039285380274899124224 := by decide
      omega
    have b2 : ∀ x : Int, (x % 162259276829213363391578010288127).natAbs < 2 ^ 110 := fun x => by
      have h1 := Int.emod_nonneg x (b := 162259276829213363391578010288127) (by decide)
      have h2 := Int.emod_lt_of_pos x (b := 162259276829213363391578010288127) (by decide)
      have : (2 : Nat) ^ 110 = 1298074214633706907132624082305024 := by decide
      omega
    have w1 : ∀ x : Int, sMul (.int (x % 618970019642690137449562111)) (.int (x % 618970019642690137449562111)) = some (false, .int ((x % 618970019642690137449562111) * (x % 618970019642690137449562111))) := fun x => sMul_w (b1 x) (b1 x) (by decide) (by decide)
    have w2 : ∀ x : Int, sMul (.int (x % 162259276829213363391578010288127)) (.int (x % 162259276829213363391578010288127)) = some (false, .int ((x % 162259276829213363391578010288127) * (x % 162259276829213363391578010288127))) := fun x => sMul_w (b2 x) (b2 x) (by decide) (by decide)
    have w3 : ∀ x : Int, sMul (.int ((x % 162259276829213363391578010288127) * (x % 162259276829213363391578010288127))) (.int (x % 162259276829213363391578010288127)) = some (false, .int ((x % 162259276829213363391578010288127) * (x % 162259276829213363391578010288127) * (x % 162259276829213363391578010288127))) := fun x => sMul_w (nb_mul (b2 x) (b2 x)) (b2 x) (by decide) (by decide)
    have atl : ∀ (x y z : U), atI [x, y, z] (2 : Int) = some z := fun _ _ _ => rfl
    simp [q, st2, m1, m2, l1, d1, w1, w2, w3, atl, sMod_ii h0, outS_eq, prL, List.range_succ]
    exact ⟨_, _, _, _, Int.emod_nonneg _ (by omega), Int.emod_lt_of_pos _ h0, rfl⟩
def PuR (o : Bool) (ns : List Int) (k : Nat) (z : RF) : Prop := ∃ a b c, z = .ok (true, encPu a b c) [some (o, .scr ns), some (false, .int (k : Nat))]
theorem ev_purse (o : Bool) (ns : List Int) (k : Nat) : ∃ a b c, φ_law_purse [(o, .scr ns), (false, .int (k : Nat))] = .ok (true, encPu a b c) [some (o, .scr ns), some (false, .int (k : Nat))] := by
  obtain ⟨n, hn⟩ : ∃ n : Int, n = if k < ns.length then ns.getD k 0 else 0 := ⟨_, rfl⟩
  refine fnS_post (PuR o ns k) rfl (by decide) ?_
  unfold b_law_purse
  have p18 : sPow (.int 10) (.int 18) = some (false, .int (10 ^ 18)) := sPow_ii (i := 10) (j := 18) (by decide) (by decide) (by decide)
  have p43 : sPow (.int 10) (.int 43) = some (false, .int (10 ^ 43)) := sPow_ii (i := 10) (j := 43) (by decide) (by decide) (by decide)
  obtain ⟨A, hA⟩ : ∃ A : Int, A = 10 ^ 18 := ⟨_, rfl⟩
  obtain ⟨B, hB⟩ : ∃ B : Int, B = 10 ^ 43 := ⟨_, rfl⟩
  rw [← hA] at p18
  rw [← hB] at p43
  have hB0 : 0 < B + 57 := by rw [hB]; decide
  have md : ∀ x : Int, sMod (.int x) (.int (B + 57)) = some (false, .int (x % (B + 57))) := fun x => sMod_ii hB0
  have r1 : ∀ x : Int, sMul (.int x) (.int 64) = some (false, .int (x * 64)) := fun x => sMul_r (by decide) (by decide)
  have l1 : ∀ x : Int, sMul (.int 5) (.int x) = some (false, .int (5 * x)) := fun x => sMul_l (by decide) (by decide)
  by_cases h : k < ns.length
  · have hx : ns[k]? = some ns[k] := List.getElem?_eq_getElem h
    obtain ⟨j, hj⟩ := sAbs_i ns[k]
    simp [hj, sMx_2, atI_nat, hx, h, p18, p43, md, r1, l1, outS_eq, prL, List.range_succ]
    exact ⟨_, _, _, rfl⟩
  · obtain ⟨j, hj⟩ := sAbs_i 0
    simp [hj, sMx_2, h, p18, p43, md, r1, l1, outS_eq, prL, List.range_succ]
    exact ⟨_, _, _, rfl⟩
end VS
set_option linter.all false
set_option maxRecDepth 100000
namespace VS
open PySem L2
/-! ### names -/
@[simp] theorem sSto_l {l : List U} {i : Int} {w : U} : sSto (.lst l) (.int i) w = (ixN l.length i).map fun j => .lst (l.set j w) := rfl
def NmS (x : Str) : Prop := ∃ l, x = S l ∧ Nml l
theorem NmS.nm {x : Str} (h : NmS x) : isNm x = true := by obtain ⟨l, rfl, h⟩ := h; exact isNm_S h
theorem NmS.rev {x : Str} (h : NmS x) : NmS (stpS (-1) x) := by
  obtain ⟨l, rfl, h⟩ := h
  refine ⟨l.reverse, ?_, by rw [List.length_reverse]; exact h.1, by rw [List.length_reverse]; exact h.2.1, fun c hc => h.2.2 c (List.mem_reverse.mp hc)⟩
  unfold stpS
  rw [if_neg (by decide), S_cps]
  rfl
theorem cutL_suf {l : List Nat} {k : Int} (h : 0 ≤ k) : cutL l (some k) none = l.drop k.toNat := by
  unfold cutL
  have e : HT.sIx l.length 0 (some k) = min k.toNat l.length := by
    have := HT.sIx_nat l.length 0 k.toNat
    rwa [Int.toNat_of_nonneg h] at this
  rw [HT.sIx_none, e]
  rcases Nat.le_total k.toNat l.length with h | h
  · rw [Nat.min_eq_left h, List.take_of_length_le (by rw [List.length_drop]; exact Nat.le_refl _)]
  · rw [Nat.min_eq_right h, List.drop_of_length_le (Nat.le_refl _), List.drop_of_length_le h]; simp
def NaR (many : Nat) (z : RF) : Prop := ∃ (a b c : Int) (ws : List Str), ws.length = many ∧ (∀ x ∈ ws, NmS x) ∧ z = .ok (true, .lst (ws.map .str)) [some (true, encPu a b c), some (false, .int (many : Nat))]
theorem leaps {i : Int} (h0 : 0 ≤ i) (h1 : i < 8) : ∃ L : Int, 0 ≤ L ∧ L ≤ 17 ∧ atI [U.int 1, U.int 3, U.int 5, U.int 7, U.int 9, U.int 11, U.int 15, U.int 17] i = some (.int L) := by
  have : i = 0 ∨ i = 1 ∨ i = 2 ∨ i = 3 ∨ i = 4 ∨ i = 5 ∨ i = 6 ∨ i = 7 := by omega
  rcases this with rfl | rfl | rfl | rfl | rfl | rfl | rfl | rfl
  · exact ⟨1, by omega, by omega, rfl⟩
  · exact ⟨3, by omega, by omega, rfl⟩
  · exact ⟨5, by omega, by omega, rfl⟩
  · exact ⟨7, by omega, by omega, rfl⟩
  · exact ⟨9, by omega, by omega, rfl⟩
  · exact ⟨11, by omega, by omega, rfl⟩
  · exact ⟨15, by omega, by omega, rfl⟩
  · exact ⟨17, by omega, by omega, rfl⟩
theorem ev_names (a b c : Int) (many : Nat) (h0 : 0 < many) (h1 : many < 1000) : NaR many (φ_law_names [(true, encPu a b c), (false, .int (many : Nat))]) := by
  refine fnS_post (NaR many) rfl (by decide) ?_
  unfold b_law_names
  obtain ⟨a1, b1, c1, st, s0, s1, e1⟩ := ev_spend false a b c 26 (by decide) (by decide)
  obtain ⟨a2, b2, c2, fi, f0, f1, e2⟩ := ev_spend false a1 b1 c1 26 (by decide) (by decide)
  obtain ⟨a3, b3, c3, wy, w0, w1, e3⟩ := ev_spend false a2 b2 c2 3 (by decide) (by decide)
  obtain ⟨a4, b4, c4, li, l0, l1, e4⟩ := ev_spend false a3 b3 c3 8 (by decide) (by decide)
  obtain ⟨a5, b5, c5, sz, z0, z1, e5⟩ := ev_spend false a4 b4 c4 8 (by decide) (by decide)
  obtain ⟨L, L0, L1, eL⟩ := leaps l0 l1
  have lm : lim62 (many : Nat) = true := lim62_ok (by omega) (by omega)
  simp [e1, e2, e3, e4, e5, eL, lm]
  obtain ⟨J, hJ⟩ : ∃ J : List Nat → En → Prop, ∀ done e, J done e ↔ ∃ (a b c sz : Int) (ws : List Str) (z4 z10 z11 z12 : Sl), (1 ≤ sz ∧ sz ≤ 8) ∧ ws.length = done.length ∧ (∀ x ∈ ws, NmS x) ∧
    e = [some (true, encPu a b c), some (false, .int (many : Nat)), some (false, .str (Str.ofString "abcdefghijklmnopqrstuvwxyz")), some (false, .int L), z4, some (false, .int st), some (false, .int fi), some (false, .int wy), some (false, .int sz), some (true, .lst (ws.map .str)), z10, z11, z12] := ⟨_, fun _ _ => Iff.rfl⟩
  refine post_forL (List.range many) (fun k : Nat => U.int (k : Nat)) rfl J ((hJ _ _).mpr ⟨a5, b5, c5, 1 + sz, [], none, none, none, none, ⟨by omega, by omega⟩, rfl, fun x hx => (by cases hx), rfl⟩) ?_ ?_
  · intro done k rest e hms hin
    obtain ⟨a, b, c, sz, ws, z4, z10, z11, z12, ⟨q0, q1⟩, hwl, hws, rfl⟩ := (hJ _ _).mp hin
    have hk : k < many := List.mem_range.mp (by rw [hms]; simp)
    have dl : done.length < many := by
      have := congrArg List.length hms
      simp at this
      omega
    have i1 := sIx_let (k := fi) (by omega) (by omega)
    have i2 := sIx_let (k := (st + L * (k : Int)) % 26) (by omega) (by omega)
    have m1 := sMul_l (i := L) (j := (k : Int)) (by omega) (by omega)
    have l3 : ws.length < 16777216 := by omega
    have key : ∀ (a b c sz : Int), 1 ≤ sz → sz ≤ 8 → ∃ (a6 b6 c6 pl : Int) (R : List Nat), φ_law_spend [(true, encPu a b c), (false, .int sz)] = .ok (false, .int pl) [some (true, encPu a6 b6 c6), some (false, .int sz)] ∧
        sMulS (.str (S [let1 fi])) (.int sz) = some (false, .str (S R)) ∧ (∀ lo hi, orSl sSlL sSlS (.str (S R)) lo hi = some (false, .str (S (cutL R lo hi)))) ∧ cutL R none (some pl) = R.take pl.toNat ∧ cutL R (some (pl + 1)) none = R.drop (pl + 1).toNat ∧
        (R.take pl.toNat).length + 1 ≤ 16777216 ∧ (R.take pl.toNat).length + 1 + (R.drop (pl + 1).toNat).length ≤ 16777216 ∧ Nml (R.take pl.toNat ++ [let1 ((st + L * (k : Int)) % 26)] ++ R.drop (pl + 1).toNat) := by
      intro a b c sz q0 q1
      obtain ⟨a6, b6, c6, pl, p0, p1, e6⟩ := ev_spend false a b c sz (by omega) (by omega)
      have m2 := sMul_S (l := [let1 fi]) (k := sz) (by omega) (by omega) (by simp)
      obtain ⟨R, hR⟩ : ∃ R : List Nat, R = (List.replicate sz.toNat [let1 fi]).flatten := ⟨_, rfl⟩
      rw [← hR] at m2
      have Rl : R.length = sz.toNat := by rw [hR, List.length_flatten, List.map_replicate, List.sum_replicate_nat]; simp
      have Rm : ∀ x ∈ R, x ∈ LET := fun x hx => by
        rw [hR] at hx
        obtain ⟨l, h1, h2⟩ := List.mem_flatten.mp hx
        rw [(List.mem_replicate.mp h1).2, List.mem_singleton] at h2
        rw [h2]
        exact let1_mem _
      have wsz : (S R).length ≤ 16777216 := by rw [S_len, Rl]; omega
      have Nl : (R.take pl.toNat ++ [let1 ((st + L * (k : Int)) % 26)] ++ R.drop (pl + 1).toNat).length = sz.toNat := by simp only [List.length_append, List.length_take, List.length_drop, List.length_singleton, Rl]; omega
      refine ⟨a6, b6, c6, pl, R, e6, m2, fun lo hi => by rw [sSlc_s wsz, cutS_S], cutL_pre p0, cutL_suf (by omega), by rw [List.length_take, Rl]; omega, by rw [List.length_take, List.length_drop, Rl]; omega, by omega, by omega, fun x hx => ?_⟩
      rcases List.mem_append.mp hx with hx | hx
      · rcases List.mem_append.mp hx with hx | hx
        · exact Rm x (List.mem_of_mem_take hx)
        · rw [List.mem_singleton.mp hx]; exact let1_mem _
      · exact Rm x (List.mem_of_mem_drop hx)
    have fin : ∀ (a b c sz pl : Int) (R : List Nat), 1 ≤ sz → sz ≤ 8 → Nml (R.take pl.toNat ++ [let1 ((st + L * (k : Int)) % 26)] ++ R.drop (pl + 1).toNat) → J (done ++ [k]) [some (true, encPu a b c), some (false, .int (many : Nat)), some (false, .str (Str.ofString "abcdefghijklmnopqrstuvwxyz")), some (false, .int L), some (false, .int (k : Nat)), some (false, .int st), some (false, .int fi), some (false, .int wy), some (false, .int sz), some (true, .lst (ws.map .str ++ [.str (S (R.take pl.toNat ++ let1 ((st + L * (k : Int)) % 26) :: R.drop (pl + 1).toNat))])), some (false, .int pl), some (false, .str (S R)), some (false, .str (S [let1 ((st + L * (k : Int)) % 26)]))] := by
      intro a b c sz pl R q0 q1 hN
      rw [List.append_assoc, List.singleton_append] at hN
      refine (hJ _ _).mpr ⟨a, b, c, sz, ws ++ [S (R.take pl.toNat ++ let1 ((st + L * (k : Int)) % 26) :: R.drop (pl + 1).toNat)], some (false, .int (k : Nat)), some (false, .int pl), some (false, .str (S R)), some (false, .str (S [let1 ((st + L * (k : Int)) % 26)])), ⟨q0, q1⟩, by simp [hwl], fun x hx => ?_, by simp⟩
      rcases List.mem_append.mp hx with hx | hx
      · exact hws x hx
      · rw [List.mem_singleton.mp hx]; exact ⟨_, rfl, hN⟩
    by_cases y0 : wy = 0
    · obtain ⟨a6, b6, c6, pl, R, e6, m2, sl, cp, cs, l1, l2, hN⟩ := key a b c 1 (by omega) (by omega)
      simp only [turn]
      simp at l1 l2
      simp [y0, e6, i1, i2, m1, m2, sMod_ii, sl, cp, cs, S_app, S_len, l3, l1, l2]
      have := fin a6 b6 c6 1 pl R (by omega) (by omega) hN
      rw [y0] at this
      exact this
    · by_cases y2 : wy = 2
      · obtain ⟨a7, b7, c7, s7, t0, t1, e7⟩ := ev_spend false a b c 8 (by decide) (by decide)
        obtain ⟨a6, b6, c6, pl, R, e6, m2, sl, cp, cs, l1, l2, hN⟩ := key a7 b7 c7 (1 + s7) (by omega) (by omega)
        simp only [turn]
        simp at l1 l2
        simp [y2, e7, e6, i1, i2, m1, m2, sMod_ii, sl, cp, cs, S_app, S_len, l3, l1, l2]
        have := fin a6 b6 c6 (1 + s7) pl R (by omega) (by omega) hN
        rw [y2] at this
        exact this
      · obtain ⟨a6, b6, c6, pl, R, e6, m2, sl, cp, cs, l1, l2, hN⟩ := key a b c sz (by omega) (by omega)
        simp only [turn]
        simp at l1 l2
        simp [y0, y2, e6, i1, i2, m1, m2, sMod_ii, sl, cp, cs, S_app, S_len, l3, l1, l2]
        exact fin a6 b6 c6 sz pl R (by omega) (by omega) hN
  · intro e he
    obtain ⟨a, b, c, sz, ws, z4, z10, z11, z12, ⟨q0, q1⟩, hwl, hws, rfl⟩ := (hJ _ _).mp he
    rw [List.length_range] at hwl
    have hw0 : ws[0]? = some (ws[0]'(by omega)) := List.getElem?_eq_getElem (by omega)
    generalize hwv : ws[0]'(by omega) = w at hw0
    have wn : NmS w := hws w (List.mem_of_getElem? hw0)
    have wl : w.length ≤ sizeLine := by rw [sl_eq]; have := isNm_len wn.nm; omega
    have sp := sStp_s wl
    have mx : ixN ws.length (((many : Nat) : Int) - 1) = some (many - 1) := by
      have : ((many : Nat) : Int) - 1 = ((many - 1 : Nat) : Int) := by omega
      rw [this, ixN_nat, if_pos (by omega)]
    by_cases y1 : wy = 1
    · by_cases qm : stpS (-1) w ∈ ws
      · simp [y1, hw0, sp, qm, outS_eq, prL, List.range_succ]
        exact ⟨a, b, c, ws, hwl, hws, rfl⟩
      · simp [y1, hw0, sp, qm, mx, outS_eq, prL, List.range_succ]
        refine ⟨a, b, c, ws.set (many - 1) (stpS (-1) w), by rw [List.length_set]; exact hwl, fun x hx => ?_, by rw [List.map_set]⟩
        rcases List.mem_or_eq_of_mem_set hx with hx | hx
        · exact hws x hx
        · rw [hx]; exact wn.rev
    · simp [y1, outS_eq, prL, List.range_succ]
      exact ⟨a, b, c, ws, hwl, hws, rfl⟩
end VS
set_option linter.all false
set_option maxRecDepth 100000
namespace VS
open PySem L2
/-! ### raw -/
theorem lcLF_eq {t : MT} {tt : M Bool} {te : M U} {vs : List Nat} {e : En} {g : Option Nat} {src : List U} {α : Type} (gg : α → U) (p : α → Bool) (f : α → U) (hk : gOK g src (wipeE e vs)) : ∀ (xs : List α) (acc : List U), acc.length + xs.length ≤ sizeLine → (∀ x, x ∈ xs → itemF t tt te vs (gg x) e (p x) (f x)) →
    lcL t tt te vs g src (xs.map gg) acc (wipeE e vs) = some (acc ++ (xs.filter p).map f, wipeE e vs)
  | [], acc, _, _ => by simp [lcL]
  | x :: xs, acc, hl, hs => by
    have q := hs x List.mem_cons_self
    rw [List.length_cons] at hl
    unfold itemF at q
    rw [List.map_cons]
    unfold lcL
    cases z : t (gg x) (wipeE e vs) with
    | none => rw [z] at q; exact q.elim
    | some e1 =>
      rw [z] at q
      dsimp only at q ⊢
      cases y : tt e1 with
      | ok b e2 =>
        rw [y] at q
        dsimp only at q ⊢
        obtain ⟨hb, q⟩ := q
        cases b with
        | true =>
          rw [if_pos rfl] at q
          dsimp only
          cases y2 : te e2 with
          | ok y' e3 =>
            rw [y2] at q
            obtain ⟨rfl, q2⟩ := q
            dsimp only
            rw [q2, if_pos ⟨by omega, hk⟩, lcLF_eq gg p f hk xs _ (by rw [List.length_append, List.length_singleton]; omega) fun x hx => hs x (List.mem_cons_of_mem _ hx), List.filter_cons, if_pos hb.symm]
            simp
          | _ => rw [y2] at q; exact q.elim
        | false =>
          rw [if_neg (by decide)] at q
          dsimp only
          rw [q, if_pos hk, lcLF_eq gg p f hk xs _ (by omega) fun x hx => hs x (List.mem_cons_of_mem _ hx), List.filter_cons, if_neg (by rw [← hb]; decide)]
      | _ => rw [y] at q; exact q.elim
theorem lcF_eqG {t : MT} {tt : M Bool} {te : M U} {vs : List Nat} {s : Src} {e : En} {α : Type} (xs : List α) (g : α → U) (p : α → Bool) (f : α → U) (hg : gOK s.g s.src (wipeE e vs)) (hi : s.items = xs.map g) (hl : xs.length ≤ sizeLine) (hc : clr e vs) (hs : ∀ x, x ∈ xs → itemF t tt te vs (g x) e (p x) (f x)) :
    lcR t tt te vs s e = .ok (true, .lst ((xs.filter p).map f)) e := by
  unfold lcR
  rw [if_pos hg, hi, lcLF_eq g p f hg xs [] (by simpa using hl) hs]
  dsimp only
  rw [List.nil_append, resE_self e _ vs hc rfl]
def putN (r : Row) (x : Str) (k : Nat) : Row := if x ∈ r.map (·.1) then r.map (fun p => if p.1 = x then (p.1, k) else p) else r ++ [(x, k)]
theorem dset_encD (r : Row) (x : Str) (k : Nat) : dset (encD r) (.str x) (.int (k : Nat)) = encD (putN r x k) := by
  unfold dset putN
  have e : (dfind (encD r) (.str x)).isSome = decide (x ∈ r.map (·.1)) := by
    rw [dfind_encD, Option.isSome_map]
    unfold KM.lk
    rw [Option.isSome_map]
    by_cases h : x ∈ r.map (·.1)
    · rw [decide_eq_true h, List.find?_isSome]
      obtain ⟨p, hp, q⟩ := List.mem_map.mp h
      exact ⟨p, hp, by simpa using q⟩
    · rw [decide_eq_false h, Bool.eq_false_iff]
      intro z
      rw [List.find?_isSome] at z
      obtain ⟨p, hp, q⟩ := z
      exact h (List.mem_map.mpr ⟨p, hp, by simpa using q⟩)
  rw [e]
  by_cases h : x ∈ r.map (·.1)
  · rw [if_pos (decide_eq_true h), if_pos h]
    unfold encD
    rw [List.map_map, List.map_map]
    apply List.map_congr_left
    intro p hp
    by_cases q : p.1 = x
    · simp [q]
    · have : ¬ U.str p.1 = U.str x := fun z => q (by injection z)
      simp [q, this]
  · rw [if_neg (by simpa using h), if_neg h]
    simp
theorem putN_keys {r : Row} {x : Str} {k : Nat} : (putN r x k).map (·.1) = if x ∈ r.map (·.1) then r.map (·.1) else r.map (·.1) ++ [x] := by
  unfold putN
  split
  · rw [List.map_map]
    apply List.map_congr_left
    intro p hp
    simp only [Function.comp]
    split <;> rfl
  · simp
/-- rows over names -/
structure RowOk (ws : List Str) (n : Nat) (r : Row) : Prop where
  nd : (r.map (·.1)).Nodup
  ks : ∀ p ∈ r, p.1 ∈ ws ∧ p.2 < n
theorem RowOk.put {ws : List Str} {n : Nat} {r : Row} (h : RowOk ws n r) {x : Str} {k : Nat} (hx : x ∈ ws) (hk : k < n) : RowOk ws n (putN r x k) := by
  refine ⟨?_, fun p hp => ?_⟩
  · rw [putN_keys]
    split
    · exact h.nd
    · rename_i q
      rw [List.nodup_append]
      exact ⟨h.nd, by simp, fun a ha b hb e => q (by rw [List.mem_singleton] at hb; rw [← hb, ← e]; exact ha)⟩
  · unfold putN at hp
    split at hp
    · obtain ⟨q, hq, rfl⟩ := List.mem_map.mp hp
      have := h.ks q hq
      split
      · exact ⟨this.1, hk⟩
      · exact this
    · rcases List.mem_append.mp hp with hp | hp
      · exact h.ks p hp
      · rw [List.mem_singleton.mp hp]; exact ⟨hx, hk⟩
theorem RowOk.len {ws : List Str} {n : Nat} {r : Row} (h : RowOk ws n r) : r.length ≤ ws.length := by
  have := KM.nodup_len h.nd (ys := ws) fun x hx => by
    obtain ⟨p, hp, rfl⟩ := List.mem_map.mp hx
    exact (h.ks p hp).1
  simpa using this
/-- a drawn machine -/
structure RawOk (ws : List Str) (most : Nat) (plan : List Row) (lasts : List Nat) : Prop where
  n0 : 0 < plan.length
  n1 : plan.length ≤ most
  rows : ∀ r ∈ plan, RowOk ws plan.length r
  ls : ∀ k ∈ lasts, k < plan.length
  ll : lasts.length ≤ plan.length + 1
def RawR (ws : List Str) (most : Nat) (z : RF) : Prop := ∃ (a b c : Int) (plan : List Row) (lasts : List Nat), RawOk ws most plan lasts ∧ z = .ok (false, .tup [encDs plan, encNs lasts]) [some (true, encPu a b c), some (false, .lst (ws.map .str)), some (false, .int (most : Nat))]
theorem ev_raw (o : Bool) (a b c : Int) (ws : List Str) (most : Nat) (hw : ws.length < 64) (h0 : 0 < most) (h1 : most < 1000) : RawR ws most (φ_law_raw [(true, encPu a b c), (o, .lst (ws.map .str)), (false, .int (most : Nat))]) := by
  refine fnS_post (RawR ws most) rfl (by decide) ?_
  unfold b_law_raw
  obtain ⟨a1, b1, c1, m, m0, m1, e1⟩ := ev_spend false a b c most (by omega) (by omega)
  obtain ⟨a2, b2, c2, th, t0, t1, e2⟩ := ev_spend false a1 b1 c1 3 (by decide) (by decide)
  obtain ⟨a3, b3, c3, tw, w0, w1, e3⟩ := ev_spend false a2 b2 c2 4 (by decide) (by decide)
  obtain ⟨a4, b4, c4, en, n0, n1, e4⟩ := ev_spend false a3 b3 c3 4 (by decide) (by decide)
  obtain ⟨n, hn⟩ : ∃ n : Nat, 1 + m = (n : Int) := ⟨(1 + m).toNat, by omega⟩
  have lm : lim62 (n : Nat) = true := lim62_ok (by omega) (by omega)
  obtain ⟨E, E0, E1, hE⟩ : ∃ E : Int, 0 ≤ E ∧ E ≤ n ∧ atI [U.int 0, U.int 1, U.int (n : Nat)] th = some (.int E) := by
    have : th = 0 ∨ th = 1 ∨ th = 2 := by omega
    rcases this with rfl | rfl | rfl
    · exact ⟨0, by omega, by omega, rfl⟩
    · exact ⟨1, by omega, by omega, rfl⟩
    · exact ⟨n, by omega, by omega, rfl⟩
  simp [e1, e2, e3, e4, hn, lm]
  obtain ⟨I, hI⟩ : ∃ I : List Nat → En → Prop, ∀ done e, I done e ↔ ∃ (a b c : Int) (o : Bool) (plan : List Row) (lasts : List Nat) (z4 z10 z11 z14 : Sl), plan.length = done.length ∧ (∀ r ∈ plan, RowOk ws n r) ∧ (∀ k ∈ lasts, k < n) ∧ lasts.length ≤ done.length ∧ nt z4 ∧ (o = false ∨ done = []) ∧
    e = [some (true, encPu a b c), some (o, .lst (ws.map .str)), some (false, .int (most : Nat)), some (false, .int (n : Nat)), z4, some (false, .int th), some (false, .int tw), some (false, .int en), some (true, encDs plan), some (true, encNs lasts), z10, z11, none, none, z14] := ⟨_, fun _ _ => Iff.rfl⟩
  refine post_forL (List.range n) (fun k : Nat => U.int (k : Nat)) rfl I ((hI _ _).mpr ⟨a4, b4, c4, o, [], [], none, none, none, none, rfl, fun x hx => (by cases hx), fun x hx => (by cases hx), Nat.le_refl _, trivial, .inr rfl, rfl⟩) ?_ ?_
  · intro done k rest e hms hin
    obtain ⟨a, b, c, o, plan, lasts, z4, z10, z11, z14, hpl, hpr, hll, hlc, hz4, _, rfl⟩ := (hI _ _).mp hin
    have hk : k < n := List.mem_range.mp (by rw [hms]; simp)
    have dl : done.length < n := by
      have := congrArg List.length hms
      simp at this
      omega
    obtain ⟨a5, b5, c5, or, or0, or1, e5⟩ := ev_spend false a b c 2 (by decide) (by decide)
    obtain ⟨ws', hws', eW⟩ : ∃ ws' : List Str, (∀ x ∈ ws', x ∈ ws) ∧ atI [U.lst (ws.map .str), U.lst (ws.map .str).reverse] or = some (.lst (ws'.map .str)) := by
      have : or = 0 ∨ or = 1 := by omega
      rcases this with rfl | rfl
      · exact ⟨ws, fun x h => h, rfl⟩
      · exact ⟨ws.reverse, fun x h => List.mem_reverse.mp h, by rw [List.map_reverse]; rfl⟩
    have inner : ∀ (κ : Ks) (z14 : Sl), (∀ (a b c : Int) (r : Row) (z11 z14 : Sl), RowOk ws n r → κ.N [some (true, encPu a b c), some (false, .lst (ws.map .str)), some (false, .int (most : Nat)), some (false, .int (n : Nat)), some (false, .int (k : Nat)), some (false, .int th), some (false, .int tw), some (false, .int en), some (true, encDs plan), some (true, encNs lasts), some (true, .dct (encD r)), z11, none, none, z14]) →
      (forL (tgN 11) ((mAsg 14 (mCall 2 φ_law_spend (mRc (mSl 0) (mRc (mR (mF (mBin sAdd (mSl 3) (mR (mF (mBin sIx (mR (mF (mLst (mVc (mC (.int 0)) (mVc (mC (.int 1)) (mVc (mN 3) mVn)))))) (mSl 5))))))) mRn)))).seq
 (mIf (mTst (mBin sLtI (mSl 14) (mSl 3)))
 (mSto 10 (mN 11) (mN 14))
 MS.nop)) none [] (ws'.map .str) [some (true, encPu a5 b5 c5), some (false, .lst (ws.map .str)), some (false, .int (most : Nat)), some (false, .int (n : Nat)), some (false, .int (k : Nat)), some (false, .int th), some (false, .int tw), some (false, .int en), some (true, encDs plan), some (true, encNs lasts), some (true, .dct []), z11, none, none, z14]).post κ := by
      intro κ z14 hκ
      obtain ⟨J, hJ⟩ : ∃ J : List Str → En → Prop, ∀ done e, J done e ↔ ∃ (a b c : Int) (r : Row) (z11 z14 : Sl), RowOk ws n r ∧
        e = [some (true, encPu a b c), some (false, .lst (ws.map .str)), some (false, .int (most : Nat)), some (false, .int (n : Nat)), some (false, .int (k : Nat)), some (false, .int th), some (false, .int tw), some (false, .int en), some (true, encDs plan), some (true, encNs lasts), some (true, .dct (encD r)), z11, none, none, z14] := ⟨_, fun _ _ => Iff.rfl⟩
      refine post_forL ws' U.str rfl J ((hJ _ _).mpr ⟨a5, b5, c5, [], z11, z14, ⟨by simp, fun p hp => (by cases hp)⟩, rfl⟩) ?_ ?_
      · intro done2 x rest2 e hms2 hin
        obtain ⟨a, b, c, r, z11, z14, hr, rfl⟩ := (hJ _ _).mp hin
        have hx : x ∈ ws := hws' x (by rw [hms2]; simp)
        obtain ⟨a6, b6, c6, am, am0, am1, e6⟩ := ev_spend false a b c ((n : Int) + E) (by omega) (by omega)
        have rl := hr.len
        have rl2 : r.length < 16777216 := by omega
        by_cases q : am < n
        · obtain ⟨A, rfl⟩ : ∃ A : Nat, am = (A : Int) := ⟨am.toNat, by omega⟩
          simp only [turn]
          have q' : A < n := by omega
          simp [hE, e6, q', dset_encD, rl2]
          exact (hJ _ _).mpr ⟨a6, b6, c6, putN r x A, some (false, .str x), some (false, .int (A : Nat)), hr.put hx (by omega), rfl⟩
        · simp only [turn]
          simp [hE, e6, q]
          exact (hJ _ _).mpr ⟨a6, b6, c6, r, some (false, .str x), some (false, .int am), hr, rfl⟩
      · intro e he
        obtain ⟨a, b, c, r, z11, z14, hr, rfl⟩ := (hJ _ _).mp he
        exact hκ a b c r z11 z14 hr
    cases o
    all_goals
      simp only [turn]
      simp [e5, eW]
      refine inner _ _ ?_
      intro a b c r z11 z14 hr
      have pl : plan.length < 16777216 := by omega
      have ll : lasts.length < 16777216 := by omega
      have fin : ∀ (a b c : Int) (ls : List Nat) (LU : List U), (ls = lasts ∨ ls = lasts ++ [k]) → LU = ls.map (fun k : Nat => U.int (k : Nat)) → I (done ++ [k]) [some (true, encPu a b c), some (false, .lst (ws.map .str)), some (false, .int (most : Nat)), some (false, .int (n : Nat)), some (false, .int (k : Nat)), some (false, .int th), some (false, .int tw), some (false, .int en), some (true, .lst ((plan.map fun r => .dct (encD r)) ++ [.dct (encD r)])), some (true, .lst LU), some (false, .dct (encD r)), z11, none, none, z14] := by
        intro a b c ls LU hls hLU
        subst hLU
        refine (hI _ _).mpr ⟨a, b, c, false, plan ++ [r], ls, some (false, .int (k : Nat)), some (false, .dct (encD r)), z11, z14, by simp [hpl], fun x hx => ?_, fun x hx => ?_, ?_, trivial, .inl rfl, by simp [encDs]⟩
        · rcases List.mem_append.mp hx with hx | hx
          · exact hpr x hx
          · rw [List.mem_singleton.mp hx]; exact hr
        · rcases hls with rfl | rfl
          · exact hll x hx
          · rcases List.mem_append.mp hx with hx | hx
            · exact hll x hx
            · rw [List.mem_singleton.mp hx]; exact hk
        · rcases hls with rfl | rfl
          · simp; omega
          · simp; omega
      by_cases y0 : en = 0
      · simp [y0, pl, ll]
        have := fin a b c _ ((lasts.map fun k : Nat => U.int (k : Nat)) ++ [.int (k : Nat)]) (.inr rfl) (by simp)
        rw [y0] at this
        exact this
      · by_cases y1 : 1 < en
        · obtain ⟨a7, b7, c7, f7, g0, g1, e7⟩ := ev_spend false a b c 2 (by decide) (by decide)
          by_cases y2 : f7 = 1
          · simp [y0, y1, e7, y2, pl, ll]
            exact fin a7 b7 c7 _ ((lasts.map fun k : Nat => U.int (k : Nat)) ++ [.int (k : Nat)]) (.inr rfl) (by simp)
          · simp [y0, y1, e7, y2, pl, ll]
            exact fin a7 b7 c7 _ _ (.inl rfl) rfl
        · simp [y0, y1, pl, ll]
          exact fin a b c _ _ (.inl rfl) rfl
  · intro e he
    obtain ⟨a, b, c, o, plan, lasts, z4, z10, z11, z14, hpl, hpr, hll, hlc, hz4, ho, rfl⟩ := (hI _ _).mp he
    rw [List.length_range] at hpl hlc
    have ho' : o = false := ho.resolve_right fun z => by
      have := congrArg List.length z
      simp at this
      omega
    subst ho'
    obtain ⟨a5, b5, c5, ld, ld0, ld1, e5⟩ := ev_spend false a b c (n : Nat) (by omega) (by omega)
    obtain ⟨a6, b6, c6, fo, fo0, fo1, e6⟩ := ev_spend false a5 b5 c5 (n : Nat) (by omega) (by omega)
    obtain ⟨L, rfl⟩ : ∃ L : Nat, ld = (L : Int) := ⟨ld.toNat, by omega⟩
    obtain ⟨F, rfl⟩ : ∃ F : Nat, fo = (F : Int) := ⟨fo.toNat, by omega⟩
    have fl : F < plan.length := by omega
    have gL : plan[L]? = some (plan[L]'(by omega)) := List.getElem?_eq_getElem (by omega)
    generalize hLr : plan[L]'(by omega) = rL at gL
    have rLm : rL ∈ plan := List.mem_of_getElem? gL
    have e7 : atI (plan.map fun r => U.dct (encD r)) (L : Int) = some (.dct (encD rL)) := atI_at gL
    have ixF : ixN plan.length (F : Int) = some F := by rw [ixN_nat, if_pos fl]
    by_cases y0 : tw = 0
    · have lc := lcF_eqG (t := tgN 4) (tt := mTst (mBin (sEq true) (mSl 4) (mSl 13))) (te := mN 4) (vs := [4]) (s := ⟨lasts.map fun k : Nat => U.int (k : Nat), lasts.map fun k : Nat => U.int (k : Nat), some 9⟩)
        (e := [some (true, encPu a6 b6 c6), some (false, .lst (ws.map .str)), some (false, .int (most : Nat)), some (false, .int (n : Nat)), z4, some (false, .int th), some (false, .int 0), some (false, .int en), some (true, .lst ((plan.map fun r => .dct (encD r)).set F (.dct (encD rL)))), some (true, encNs lasts), z10, z11, some (false, .int (L : Nat)), some (false, .int (F : Nat)), z14])
        lasts (fun k : Nat => U.int (k : Nat)) (fun k => decide (k ≠ F)) (fun k : Nat => U.int (k : Nat)) (by simp [gOK]) rfl (by rw [sl_eq]; omega) (by rw [clr_nt]; simp [hz4]) (by
          intro k hk
          by_cases q : k = F
          · simp [itemF, q]
          · have q' : ¬ ((k : Int) = (F : Int)) := by omega
            simp [itemF, q, q'])
      obtain ⟨ls0, h0l, h0m, h0e⟩ : ∃ ls0 : List Nat, ls0.length ≤ lasts.length ∧ (∀ k ∈ ls0, k ∈ lasts) ∧ ls0 = lasts.filter fun k => decide (k ≠ F) := ⟨_, List.length_filter_le _ _, fun k hk => (List.mem_filter.mp hk).1, rfl⟩
      rw [← h0e] at lc
      have sn := sIn_il (x := L) (c := lasts)
      have fin : ∀ (ls : List Nat) (LU : List U), (∀ k ∈ ls, k ∈ lasts ∨ k = F) → ls.length ≤ lasts.length + 1 → LU = ls.map (fun k : Nat => U.int (k : Nat)) → RawR ws most (.ok (false, .tup [.lst ((plan.map fun r => .dct (encD r)).set F (.dct (encD rL))), .lst LU]) [some (true, encPu a6 b6 c6), some (false, .lst (ws.map .str)), some (false, .int (most : Nat))]) := by
        intro ls LU h1 h2 h3
        subst h3
        refine ⟨a6, b6, c6, plan.set F rL, ls, ⟨by rw [List.length_set]; omega, by rw [List.length_set]; omega, fun r hr => ?_, fun k hk => ?_, by rw [List.length_set]; omega⟩, by simp [encDs, List.map_set]⟩
        · rw [List.length_set, hpl]
          rcases List.mem_or_eq_of_mem_set hr with hr | hr
          · exact hpr r hr
          · rw [hr]; exact hpr rL rLm
        · rw [List.length_set]
          rcases h1 k hk with h | h
          · have := hll k h; omega
          · omega
      have ll0 : ls0.length ≤ 16777216 := by omega
      have ll1 : ls0.length + 1 ≤ 16777216 := by omega
      by_cases qL : L ∈ lasts
      · simp [e5, e6, y0, e7, ixF, sDict2_d, lc, sn, qL, ll0, ll1, outS_eq, prL, List.range_succ]
        exact fin (ls0 ++ [F]) _ (fun k hk => by
          rcases List.mem_append.mp hk with hk | hk
          · exact .inl (h0m k hk)
          · exact .inr (List.mem_singleton.mp hk)) (by simp; omega) (by simp)
      · simp [e5, e6, y0, e7, ixF, sDict2_d, lc, sn, qL, ll0, ll1, outS_eq, prL, List.range_succ]
        exact fin ls0 _ (fun k hk => .inl (h0m k hk)) (by omega) (by simp)
    · simp [e5, e6, y0, outS_eq, prL, List.range_succ]
      exact ⟨a6, b6, c6, plan, lasts, ⟨by omega, by omega, fun r hr => by rw [hpl]; exact hpr r hr, fun k hk => by rw [hpl]; exact hll k hk, by omega⟩, rfl⟩
end VS
set_option linter.all false
set_option maxRecDepth 100000
namespace VS
open PySem L2
theorem ev_copied (o : Bool) (plan : List Row) (h : plan.length ≤ 100000) : φ_law_copied [(o, encDs plan)] = .ok (true, encDs plan) [some (false, encDs plan)] := by
  refine fnS_post (fun z => z = .ok (true, encDs plan) [some (false, encDs plan)]) rfl (by decide) ?_
  unfold b_law_copied
  have lc := lc_eq (t := tgN 1) (te := mF (mCB sDict2 (mRc (mSl 1) mRn))) (vs := [1]) (s := ⟨plan.map fun r => .dct (encD r), [], none⟩) (e := [some (false, encDs plan), none])
    plan (fun r => .dct (encD r)) (fun r => .dct (encD r)) rfl rfl (by rw [sl_eq]; omega) (by rw [clr_nt]; simp) (by
      intro r hr
      simp [item, sDict2_d])
  cases o
  all_goals simp [lc, outS_eq, prL, List.range_succ]
def LiR (o : Bool) (lasts : List Nat) (z : RF) : Prop := ∃ (a b c : Int) (fin : List Nat), (∀ k, k ∈ fin ↔ k ∈ lasts) ∧ fin.length ≤ 2 * lasts.length ∧ z = .ok (false, encNs fin) [some (true, encPu a b c), some (o, encNs lasts)]
theorem cutU_pre {α : Type} (f : α → U) (l : List α) (k : Nat) : cutU (l.map f) none (some (k : Int)) = (l.take k).map f := by
  unfold cutU
  rw [HT.sIx_none, HT.sIx_nat, List.length_map]
  simp only [List.drop_zero, Nat.sub_zero]
  rw [← List.map_take]
  congr 1
  rcases Nat.le_total k l.length with h | h
  · rw [Nat.min_eq_left h]
  · rw [Nat.min_eq_right h, List.take_of_length_le (Nat.le_refl _), List.take_of_length_le h]
theorem ev_listed (o : Bool) (a b c : Int) (lasts : List Nat) (hl : lasts.length ≤ 1000) : LiR o lasts (φ_law_listed [(true, encPu a b c), (o, encNs lasts)]) := by
  refine fnS_post (LiR o lasts) rfl (by decide) ?_
  unfold b_law_listed
  obtain ⟨a1, b1, c1, m, m0, m1, e1⟩ := ev_spend false a b c ((lasts.length : Nat) + 1) (by omega) (by omega)
  obtain ⟨a2, b2, c2, w, w0, w1, e2⟩ := ev_spend false a1 b1 c1 2 (by decide) (by decide)
  obtain ⟨M, rfl⟩ : ∃ M : Nat, m = (M : Int) := ⟨m.toNat, by omega⟩
  have cu := cutU_pre (fun k : Nat => U.int (k : Nat)) lasts M
  have l1 : min M lasts.length ≤ 16777216 := by omega
  have l2 : lasts.length + min M lasts.length ≤ 16777216 := by omega
  have l3 : min M lasts.length + lasts.length ≤ 16777216 := by omega
  have : w = 0 ∨ w = 1 := by omega
  rcases this with rfl | rfl
  · simp [-List.map_take, e1, cu, e2, l1, l2, l3, outS_eq, prL, List.range_succ]
    exact ⟨a2, b2, c2, lasts ++ lasts.take M, fun k => by
      rw [List.mem_append]
      exact ⟨fun h => h.elim id List.mem_of_mem_take, .inl⟩, by simp; omega, by simp [encNs]⟩
  · simp [-List.map_take, e1, cu, e2, l1, l2, l3, outS_eq, prL, List.range_succ]
    exact ⟨a2, b2, c2, lasts.take M ++ lasts.reverse, fun k => by
      rw [List.mem_append, List.mem_reverse]
      exact ⟨fun h => h.elim List.mem_of_mem_take id, .inr⟩, by simp; omega, by simp [encNs]⟩
theorem RawOk.pok {ws : List Str} {most : Nat} {plan : List Row} {lasts fin : List Nat} (h : RawOk ws most plan lasts) (hw : ∀ x ∈ ws, NmS x) (hl : ws.length < 64) (hm : most ≤ 1000) (hf : ∀ k, k ∈ fin ↔ k ∈ lasts) (hfl : fin.length ≤ 2 * lasts.length) : POk plan fin := by
  have h1 := h.n1
  have h2 := h.ll
  refine ⟨h.n0, by omega, fun r hr => (h.rows r hr).nd, fun r hr p hp => ⟨(hw _ ((h.rows r hr).ks p hp).1).nm, ((h.rows r hr).ks p hp).2⟩, fun r hr => ?_, fun k hk => h.ls k ((hf k).mp hk), by omega⟩
  have := (h.rows r hr).len
  omega
end VS
set_option linter.all false
set_option maxRecDepth 100000
namespace VS
open PySem L2
/-! ### shape_right -/
theorem pair_get {α : Type} {R : α → α → Prop} : ∀ {l : List α}, l.Pairwise R → ∀ {i j : Nat} {a b : α}, i < j → l[i]? = some a → l[j]? = some b → R a b
  | [], _, i, j, a, b, _, h, _ => by simp at h
  | x :: l, hp, i, j, a, b, hij, h1, h2 => by
    rw [List.pairwise_cons] at hp
    cases j with
    | zero => omega
    | succ j =>
      rw [List.getElem?_cons_succ] at h2
      cases i with
      | zero =>
        simp only [List.getElem?_cons_zero, Option.some.injEq] at h1
        subst h1
        exact hp.1 b (List.mem_of_getElem? h2)
      | succ i =>
        rw [List.getElem?_cons_succ] at h1
        exact pair_get hp.2 (by omega) h1 h2
theorem asc_fins (told : List Bool) : (finsOf told).Pairwise (· < ·) := by
  unfold finsOf
  rw [List.pairwise_map]
  refine List.Pairwise.sublist List.filter_sublist ?_
  have : ∀ (l : List Bool) (n : Nat), (l.zipIdx n).Pairwise fun a b => a.2 < b.2 := by
    intro l
    induction l with
    | nil => intro n; exact .nil
    | cons x l ih =>
      intro n
      rw [List.zipIdx_cons, List.pairwise_cons]
      exact ⟨fun p hp => by have := (List.mem_zipIdx hp).1; dsimp only; omega, ih (n + 1)⟩
  exact this told 0
theorem sort_asc {ks : List Nat} (h : ks.Pairwise (· < ·)) : sortI (dedI (ks.map fun k : Nat => (k : Int))) = ks.map fun k : Nat => (k : Int) := by
  have hd : dedI (ks.map fun k : Nat => (k : Int)) = ks.map fun k : Nat => (k : Int) := by
    induction ks with
    | nil => rfl
    | cons x ks ih =>
      rw [List.pairwise_cons] at h
      rw [List.map_cons, dedI, if_neg, ih h.2]
      intro z
      obtain ⟨y, hy, e⟩ := List.mem_map.mp z
      have := h.1 y hy
      omega
  rw [hd]
  exact (sortI_unique (.refl _) (by rw [List.pairwise_map]; exact h.imp fun {a b} q => by omega)).symm
theorem sSS_asc {ks : List Nat} (h : ks.Pairwise (· < ·)) (hl : ks.length < 4095) : sSS (ks.map fun k : Nat => U.int (k : Nat)) = some (ks.map fun k : Nat => U.int (k : Nat)) := by
  have e : (ks.map fun k : Nat => U.int (k : Nat)) = (ks.map fun k : Nat => (k : Int)).map U.int := by rw [List.map_map]; rfl
  rw [e, sSS_int (by simpa using hl), sort_asc h]
theorem fins_len {told : List Bool} : (finsOf told).length ≤ told.length := by
  unfold finsOf
  rw [List.length_map]
  have := List.length_filter_le (fun p : Bool × Nat => p.1) told.zipIdx
  rwa [List.length_zipIdx] at this
theorem ev_shape_right (o o2 : Bool) (T : List Row) (told : List Bool) (hc : KN.Canon ltS T (KN.mkf told)) (tl : told.length = T.length) (hl : T.length ≤ 1000) (hr : ∀ r ∈ T, r.length ≤ 1000) :
    φ_law_shape_right [(o, encT T), (o2, encNs (finsOf told))] = .ok (false, .bl true) [some (false, encT T), some (false, encNs (finsOf told))] := by
  refine fnS_post (fun z => z = .ok (false, .bl true) [some (false, encT T), some (false, encNs (finsOf told))]) rfl (by decide) ?_
  unfold b_law_shape_right
  have fl := fins_len (told := told)
  have ss := sSS_asc (asc_fins told) (by omega)
  have eq0 := sEq_ints (neg := true) (a := finsOf told) (b := finsOf told)
  have lm : lim62 (T.length : Nat) = true := lim62_ok (by omega) (by omega)
  have hn := hc.asc.nd srtS
  have part3 : ∀ (κ : Ks) (z3 z5 : Sl), (∀ (z3 z4 z5 z6 z7 : Sl), κ.N [some (false, encT T), some (o2, encNs (finsOf told)), some (true, encNs (List.range T.length)), z3, z4, z5, z6, z7, none]) →
      (forL (tgN 4) (mIf (mTst (mBin sLtI (mSl 4) (mR (mF (mCB sLenU (mRc (mSl 2) mRn))))))
 (mFor (mItA (mF (mBin sIx (mSl 0) (mR (mF (mBin sIx (mSl 2) (mSl 4))))))) (tgT 2 (tgsC (tgN 6) (tgsC (tgN 7) tgs0)))
 (mIf (mTst (mBin sNotIn (mSl 7) (mSl 2)))
 (mDrp (mF (mMu isL sApp 2 (mVc (mN 7) mVn))))
 MS.nop))
 MS.nop) none [] ((List.range T.length).map fun k : Nat => U.int (k : Nat)) [some (false, encT T), some (o2, encNs (finsOf told)), some (true, encNs [0]), z3, none, z5, none, none, none]).post κ := by
    intro κ z3 z5 hκ
    obtain ⟨I, hI⟩ : ∃ I : List Nat → En → Prop, ∀ done e, I done e ↔ ∃ (ord : List Nat) (z3 z4 z5 z6 z7 : Sl), KN.Bf T done.length ord ∧
      e = [some (false, encT T), some (o2, encNs (finsOf told)), some (true, encNs ord), z3, z4, z5, z6, z7, none] := ⟨_, fun _ _ => Iff.rfl⟩
    refine post_forL (List.range T.length) (fun k : Nat => U.int (k : Nat)) rfl I ((hI _ _).mpr ⟨[0], z3, none, z5, none, none, KN.Bf.init hc.fit, rfl⟩) ?_ ?_
    · intro done k rest e hms hin
      obtain ⟨ord, z3, z4, z5, z6, z7, bf, rfl⟩ := (hI _ _).mp hin
      obtain ⟨hk, hkn⟩ := range_at hms
      subst hk
      have ol := bf.len
      have le := bf.le
      have lt : done.length < ord.length := by
        rcases Nat.lt_or_ge done.length ord.length with q | q
        · exact q
        · have e1 := bf.done q
          rw [hc.ord] at e1
          have := congrArg List.length e1
          simp at this
          omega
      have hr0 : ord[done.length]? = some (ord[done.length]) := List.getElem?_eq_getElem lt
      generalize hsv : ord[done.length] = s at hr0
      have sl := bf.lt s (List.mem_of_getElem? hr0)
      have rg := row_eq sl
      have e1 : atI (T.map encRw) (s : Int) = some (encRw (KN.row T s)) := atI_row rg
      have e2 : atI (ord.map fun k : Nat => U.int (k : Nat)) (done.length : Int) = some (.int (s : Nat)) := atI_at hr0
      simp only [turn]
      simp [-List.map_map, e1, e2, lt]
      obtain ⟨J, hJ⟩ : ∃ J : Row → En → Prop, ∀ d e, J d e ↔ ∃ (z6 z7 : Sl), 
        e = [some (false, encT T), some (o2, encNs (finsOf told)), some (true, encNs (KN.adds ord d)), z3, some (false, .int (done.length : Nat)), z5, z6, z7, none] := ⟨_, fun _ _ => Iff.rfl⟩
      refine post_forL (KN.row T s) encP2 rfl J ((hJ _ _).mpr ⟨z6, z7, rfl⟩) ?_ ?_
      · intro d x rest2 e hms2 hin
        obtain ⟨z6, z7, rfl⟩ := (hJ _ _).mp hin
        obtain ⟨ev, af⟩ := x
        have ln : (KN.adds ord d).length ≤ T.length := by
          refine KM.nodup_lt (KN.adds_nodup bf.nd) fun y hy => ?_
          rcases KN.mem_adds.mp hy with q | ⟨p, hp, rfl⟩
          · exact bf.lt y q
          · exact hc.fit.2 s p (by rw [hms2]; exact List.mem_append_left _ hp)
        generalize ho : KN.adds ord d = o1 at ln
        have l2 : o1.length < 16777216 := by omega
        have ni := sNotIn_il (x := af) (c := o1) inU_ii
        by_cases q : af ∈ o1
        · simp [turn, ni, q]
          refine (hJ _ _).mpr ⟨some (false, .str ev), some (false, .int (af : Nat)), ?_⟩
          rw [KN.adds_snoc, ho]
          unfold KN.add1
          rw [if_pos q]
        · simp [turn, ni, q, l2]
          refine (hJ _ _).mpr ⟨some (false, .str ev), some (false, .int (af : Nat)), ?_⟩
          rw [KN.adds_snoc, ho]
          unfold KN.add1
          rw [if_neg q]
          simp [encNs]
      · intro e he
        obtain ⟨z6, z7, rfl⟩ := (hJ _ _).mp he
        have bf2 := bf.step hc.fit hn hr0
        exact (hI _ _).mpr ⟨_, z3, some (false, .int (done.length : Nat)), z5, z6, z7, by simpa using bf2, rfl⟩
    · intro e he
      obtain ⟨ord, z3, z4, z5, z6, z7, bf, rfl⟩ := (hI _ _).mp he
      rw [List.length_range] at bf
      have e1 := bf.done bf.len
      rw [hc.ord] at e1
      subst e1
      exact hκ z3 z4 z5 z6 z7
  have part2 : ∀ (κ : Ks), (∀ (z3 z5 : Sl), κ.N [some (false, encT T), some (o2, encNs (finsOf told)), some (true, encNs [0]), z3, none, z5, none, none, none]) →
      (forL (tgN 3) ((mIf (mTn (mTst (mIsi "list" (mSl 3))))
 (mRet (mO (mC (.bl false))))
 MS.nop).seq
 (mFor (mRg1 (mF (mCB sLenU (mRc (mSl 3) mRn)))) (tgN 5)
 (mIf (mTo (mTn (mTst (mIsi "tuple" (mR (mF (mBin sIx (mSl 3) (mSl 5))))))) (mTa (mTst (mBin sGtI (mSl 5) (mR (mC (.int 0))))) (mTst (mBin sGe2 (mR (mF (mBin sIx (mR (mF (mBin sIx (mSl 3) (mR (mF (mBin sSub (mSl 5) (mR (mC (.int 1))))))))) (mR (mC (.int 0)))))) (mR (mF (mBin sIx (mR (mF (mBin sIx (mSl 3) (mSl 5)))) (mR (mC (.int 0))))))))))
 (mRet (mO (mC (.bl false))))
 MS.nop))) none [] (T.map encRw) [some (false, encT T), some (o2, encNs (finsOf told)), some (true, encNs [0]), none, none, none, none, none, none]).post κ := by
    intro κ hκ
    refine post_forL T encRw rfl (fun done e => ∃ (z3 z5 : Sl), e = [some (false, encT T), some (o2, encNs (finsOf told)), some (true, encNs [0]), z3, none, z5, none, none, none]) ⟨none, none, rfl⟩ ?_ ?_
    · rintro done r rest e hms ⟨z3, z5, rfl⟩
      have hr' : r ∈ T := by rw [hms]; simp
      have rl := hr r hr'
      have lr : lim62 (r.length : Nat) = true := lim62_ok (by omega) (by omega)
      obtain ⟨s, hs⟩ := List.mem_iff_getElem?.mp hr'
      have asc : (r.map (·.1)).Pairwise ltS := by
        have := hc.asc s
        unfold KN.row at this
        rw [List.getD_eq_getElem?_getD, hs] at this
        exact this
      simp only [turn]
      simp [tyU, subT, lr]
      refine post_forL (List.range r.length) (fun k : Nat => U.int (k : Nat)) rfl (fun done e => ∃ (z5 : Sl), e = [some (false, encT T), some (o2, encNs (finsOf told)), some (true, encNs [0]), some (false, encRw r), none, z5, none, none, none]) ⟨z5, rfl⟩ ?_ ?_
      · rintro d k rest2 e hms2 ⟨z5, rfl⟩
        obtain ⟨hk, hkn⟩ := range_at hms2
        clear hk
        have g1 : r[k]? = some r[k] := List.getElem?_eq_getElem hkn
        have e1 : atI (r.map encP2) (k : Int) = some (encP2 r[k]) := atI_at g1
        cases k with
        | zero =>
          simp only [turn]
          have e1' : r[0]? = some r[0] := g1
          simp [-List.map_map, tyU, subT, e1']
        | succ j =>
          have g2 : r[j]? = some (r[j]'(by omega)) := List.getElem?_eq_getElem (by omega)
          have e2 : atI (r.map encP2) (((j + 1 : Nat) : Int) - 1) = some (encP2 (r[j]'(by omega))) := by
            have : ((j + 1 : Nat) : Int) - 1 = (j : Int) := by omega
            rw [this]
            exact atI_at g2
          have lt : ltS (r[j]'(by omega)).1 r[j + 1].1 := pair_get asc (i := j) (j := j + 1) (by omega) (by rw [List.getElem?_map, g2]; rfl) (by rw [List.getElem?_map, g1]; rfl)
          have lt2 : (r[j]'(by omega)).1.cps.toList < r[j + 1].1.cps.toList := lt
          have kp : (0 : Int) < ((j + 1 : Nat) : Int) := by omega
          generalize ((j + 1 : Nat) : Int) = kk at e1 e2 kp
          simp only [turn]
          simp [-List.map_map, tyU, subT, e1, e2, kp, lt2]
      · rintro e ⟨z5, rfl⟩
        exact ⟨_, _, rfl⟩
    · rintro e ⟨z3, z5, rfl⟩
      exact hκ z3 z5
  have lr1 : rgOk 0 (T.length : Nat) = true := rgOk_iff.mpr ⟨by omega, by omega, by omega, by omega⟩
  have rg : rgU 0 (T.length : Nat) = (List.range T.length).map fun k : Nat => U.int (k : Nat) := by
    unfold rgU
    simp
  have eq1 := sEq_ints (neg := false) (a := List.range T.length) (b := List.range T.length)
  have fin : ∀ k ∈ finsOf told, k < T.length := fun k hk => by
    rw [mem_finsOf] at hk
    unfold KN.mkf at hk
    rw [List.getD_eq_getElem?_getD] at hk
    rcases Nat.lt_or_ge k told.length with q | q
    · omega
    · rw [List.getElem?_eq_none q] at hk; cases hk
  have lc : ∀ z3 z4 z5 z6 z7 : Sl, lcR (tgN 8) (M.ret true) (mF (mChn sLeI sLtI (mR (mC (.int 0))) (mSl 8) (mR (mF (mCB sLenU (mRc (mSl 0) mRn)))))) [8] ⟨(finsOf told).map fun k : Nat => U.int (k : Nat), [], none⟩ [some (false, encT T), some (false, encNs (finsOf told)), some (true, encNs (List.range T.length)), z3, z4, z5, z6, z7, none] = .ok (true, .lst ((finsOf told).map fun _ => U.bl true)) [some (false, encT T), some (false, encNs (finsOf told)), some (true, encNs (List.range T.length)), z3, z4, z5, z6, z7, none] :=
    fun z3 z4 z5 z6 z7 => lc_eq (finsOf told) (fun k : Nat => U.int (k : Nat)) (fun k => U.bl true) rfl rfl (by rw [sl_eq]; omega) (by rw [clr_nt]; simp) (by
        intro k hk
        have := fin k hk
        simp [item, this])
  have sa := sAll_map (xs := finsOf told) (f := fun _ : Nat => true)
  cases o
  all_goals
    cases o2
    all_goals
      simp [tyU, subT, ss, eq0]
      refine part2 _ ?_
      intro z3 z5
      simp [lm]
      refine part3 _ z3 z5 ?_
      intro z3 z4 z5 z6 z7
      simp [-List.map_const', lr1, rg, eq1, lc, sa, outS_eq, prL, List.range_succ]
end VS
set_option linter.all false
set_option maxRecDepth 100000
namespace VS
open PySem L2
theorem LET_lt : ∀ c ∈ ("abcdefghijklmnopqrstuvwxyz" : Str).cps.toList, c < 1114112 := by decide +kernel
theorem isNm_ok {x : Str} (h : isNm x = true) : PyData.strOk x = true := by
  unfold isNm at h
  rw [Bool.and_eq_true, List.all_eq_true] at h
  unfold PyData.strOk
  rw [← Array.all_toList, List.all_eq_true]
  intro c hc
  have := h.2 c hc
  rw [decide_eq_true_eq] at this
  have := LET_lt c this
  simpa using this
theorem dat_strs {xs : List Str} (h : ∀ x ∈ xs, isNm x = true) : dat 1 (.lst (xs.map .str)) = true := by
  show List.all _ _ = true
  rw [List.all_eq_true]
  intro u hu
  obtain ⟨k, hk, rfl⟩ := List.mem_map.mp hu
  exact isNm_ok (h k hk)
theorem sEq_strs {neg : Bool} {a b : List Str} (ha : ∀ x ∈ a, isNm x = true) (hb : ∀ x ∈ b, isNm x = true) : sEq neg (.lst (a.map .str)) (.lst (b.map .str)) = some (false, .bl (if neg then !decide (a = b) else decide (a = b))) := by
  rw [sEq_ll (n := 1) (by decide) (dat_strs ha) (dat_strs hb)]
  have : ((a.map U.str) = (b.map U.str)) ↔ a = b := ⟨strs_inj, fun h => by rw [h]⟩
  simp only [this]
theorem sEq_bb {neg : Bool} {b c : Bool} : sEq neg (.bl b) (.bl c) = some (false, .bl (if neg then !decide (b = c) else decide (b = c))) := by
  have : (V.bl b = V.bl c) ↔ b = c := ⟨fun h => by injection h, fun h => by rw [h]⟩
  simp [sEq, scalU, flU, vOf, scal, this]
abbrev encPr (p : Nat × Nat) : U := .tup [.int (p.1 : Nat), .int (p.2 : Nat)]
theorem encPr_inj {p q : Nat × Nat} (h : encPr p = encPr q) : p = q := by
  obtain ⟨p1, p2⟩ := p
  obtain ⟨q1, q2⟩ := q
  simp only [encPr, U.tup.injEq, List.cons.injEq, U.int.injEq, and_true] at h
  rw [Int.ofNat.inj h.1, Int.ofNat.inj h.2]
theorem dat_pr (p : Nat × Nat) : dat 1 (encPr p) = true := rfl
theorem sNotIn_pr {p : Nat × Nat} {ps : List (Nat × Nat)} : sNotIn2 (encPr p) (.lst (ps.map encPr)) = some (false, .bl (!decide (p ∈ ps))) := by
  rw [sNotIn2_dat (n := 1) (by decide) (dat_pr p) (fun w hw => by obtain ⟨q, _, rfl⟩ := List.mem_map.mp hw; exact dat_pr q)]
  have : (encPr p ∈ ps.map encPr) ↔ p ∈ ps := by
    rw [List.mem_map]
    exact ⟨fun ⟨q, hq, e⟩ => encPr_inj e ▸ hq, fun h => ⟨p, h, rfl⟩⟩
  simp only [this]
theorem prs_len {ps : List (Nat × Nat)} {N M : Nat} (nd : ps.Nodup) (h : ∀ p ∈ ps, p.1 < N ∧ p.2 < M) : ps.length ≤ N * M := by
  have := KM.nodup_len nd (ys := (List.range N).flatMap fun a => (List.range M).map fun b => (a, b)) fun p hp => by
    rw [List.mem_flatMap]
    exact ⟨p.1, List.mem_range.mpr (h p hp).1, List.mem_map.mpr ⟨p.2, List.mem_range.mpr (h p hp).2, rfl⟩⟩
  refine Nat.le_trans this (Nat.le_of_eq ?_)
  rw [List.length_flatMap]
  simp only [List.length_map, List.length_range]
  rw [List.map_const', List.sum_replicate_nat, List.length_range]
theorem sortS_sorted {xs : List Str} (h : xs.Pairwise ltS) : sortS xs = xs := by
  refine (sortS_unique (.refl _) (h.imp fun {a b} q => ?_)).symm
  rw [ltS_iff] at q
  have := leS_total a b
  simpa [q] using this
theorem sortS_keys {r : Row} : sortS (r.map (·.1)) = (sortN r).map (·.1) := by
  refine (sortS_unique ((sortN_perm r).map (·.1)) ?_).symm
  rw [List.pairwise_map]
  exact sortN_pair r
/-! ### alike -/
structure PsOk (t : KN.Tb Str) (m : Nat → Bool) (T : KN.Tb Str) (M : Nat → Bool) (N : Nat) (ps : List (Nat × Nat)) : Prop where
  nd : ps.Nodup
  ok : ∀ p ∈ ps, p.1 < N ∧ p.2 < T.length ∧ KN.Eqv t m T M p.1 p.2
theorem PsOk.add {t : KN.Tb Str} {m : Nat → Bool} {T : KN.Tb Str} {M : Nat → Bool} {N : Nat} {ps : List (Nat × Nat)} (h : PsOk t m T M N ps) {p : Nat × Nat} (hp : p ∉ ps) (k : p.1 < N ∧ p.2 < T.length ∧ KN.Eqv t m T M p.1 p.2) : PsOk t m T M N (ps ++ [p]) := by
  refine ⟨?_, fun q hq => ?_⟩
  · rw [List.nodup_append]
    exact ⟨h.nd, by simp, fun a ha b hb e => hp (by rw [List.mem_singleton] at hb; rw [← hb, ← e]; exact ha)⟩
  · rcases List.mem_append.mp hq with hq | hq
    · exact h.ok q hq
    · rw [List.mem_singleton.mp hq]; exact k
theorem tOf_lk {plan : List Row} {fin : List Nat} (h : POk plan fin) {s s' : Nat} {e : Str} {r : Row} (hr : plan[s]? = some r) (q : KN.nxt (tOf plan) s e = some s') : KM.lk r e = some s' := by
  have := KN.nxt_mem q
  rw [tOf_row hr, mem_sortN] at this
  exact lk_of (h.nd r (List.mem_of_getElem? hr)) this
theorem ev_alike (o0 o1 o2 o3 : Bool) (plan : List Row) (lasts fin : List Nat) (T : List Row) (told : List Bool) (h : POk plan fin) (hm : ∀ k, k ∈ fin ↔ k ∈ lasts) (L : Least (tOf plan) (mOf fin) T told) (hl : plan.length ≤ 1000) (hr : ∀ r ∈ T, r.length < 64) :
    φ_law_alike [(o0, encDs plan), (o1, encNs lasts), (o2, encT T), (o3, encNs (finsOf told))] = .ok (false, .bl true) [some (o0, encDs plan), some (o1, encNs lasts), some (o2, encT T), some (o3, encNs (finsOf told))] := by
  refine fnS_post (fun z => z = .ok (false, .bl true) [some (o0, encDs plan), some (o1, encNs lasts), some (o2, encT T), some (o3, encNs (finsOf told))]) rfl (by decide) ?_
  unfold b_law_alike
  have tl : (tOf plan).length = plan.length := by unfold tOf; rw [List.length_map]
  have Tl : T.length ≤ 1000 := by have := L.le; omega
  have nT := L.can.asc.nd srtS
  have hN : plan.length * T.length ≤ 1000000 := Nat.le_trans (Nat.mul_le_mul hl Tl) (by decide)
  simp
  obtain ⟨I, hI⟩ : ∃ I : Nat → En → Prop, ∀ n e, I n e ↔ ∃ (k : Nat) (ps : List (Nat × Nat)) (z6 z7 z8 z9 : Sl), n + k = plan.length * T.length ∧ k ≤ ps.length ∧ PsOk (tOf plan) (mOf fin) T (KN.mkf told) plan.length ps ∧
    e = [some (o0, encDs plan), some (o1, encNs lasts), some (o2, encT T), some (o3, encNs (finsOf told)), some (true, .lst (ps.map encPr)), some (false, .int (k : Nat)), z6, z7, z8, z9] := ⟨_, fun _ _ => Iff.rfl⟩
  refine post_mWhl I (plan.length * T.length) ((hI _ _).mpr ⟨0, [(0, 0)], none, none, none, none, by omega, by simp, ⟨by simp, fun p hp => by
    rw [List.mem_singleton.mp hp]
    exact ⟨h.n0, L.can.fit.1, L.eqv⟩⟩, rfl⟩) ?_
  intro n e hin
  obtain ⟨k, ps, z6, z7, z8, z9, hk0, hkl, pok, rfl⟩ := (hI _ _).mp hin
  have pl := prs_len pok.nd fun p hp => ⟨(pok.ok p hp).1, (pok.ok p hp).2.1⟩
  unfold wturn
  simp
  split
  · rename_i hk
    have hp0 : ps[k]? = some ps[k] := List.getElem?_eq_getElem hk
    generalize hpv : ps[k] = p at hp0
    obtain ⟨a, b⟩ := p
    obtain ⟨q1, q2, q3⟩ := pok.ok _ (List.mem_of_getElem? hp0)
    have e1 : atI (ps.map encPr) (k : Int) = some (encPr (a, b)) := atI_at hp0
    have ga : plan[a]? = some plan[a] := List.getElem?_eq_getElem q1
    generalize hra : plan[a] = ra at ga
    have ram := List.mem_of_getElem? ga
    have gb := row_eq q2
    have rbm := List.mem_of_getElem? gb
    have e2 : atI (plan.map fun r => U.dct (encD r)) (a : Int) = some (.dct (encD ra)) := atI_at ga
    have e3 : atI (T.map encRw) (b : Int) = some (encRw (KN.row T b)) := atI_row gb
    have dp := sDict2_rw (nT b)
    have nm := q3.names srtS h.asc L.can.asc
    rw [tOf_row ga] at nm
    have s1 : sSorted2 [.dct (encD (KN.row T b))] = some (true, .lst (((KN.row T b).map (·.1)).map .str)) := by
      rw [show ((KN.row T b).map (·.1)) = sortS ((KN.row T b).map (·.1)) from (sortS_sorted (L.can.asc b)).symm]
      exact orN_of (sSorted_d (hr _ rbm))
    have s2 : sSorted2 [.dct (encD ra)] = some (true, .lst (((KN.row T b).map (·.1)).map .str)) := by
      rw [← nm, ← sortS_keys]
      exact orN_of (sSorted_d (h.rl ra ram))
    have nmok : ∀ x ∈ (KN.row T b).map (·.1), isNm x = true := fun x hx => by
      rw [← nm, ← sortS_keys, mem_sortS] at hx
      obtain ⟨p, hp, rfl⟩ := List.mem_map.mp hx
      exact (h.nm ra ram p hp).1
    have es := sEq_strs (neg := true) nmok nmok
    have i1 : sIn2 (.int (a : Nat)) (encNs lasts) = some (false, .bl (decide (a ∈ lasts))) := orS_of sIn_il
    have i2 : sIn2 (.int (b : Nat)) (encNs (finsOf told)) = some (false, .bl (decide (b ∈ finsOf told))) := orS_of sIn_il
    have mk : decide (a ∈ lasts) = decide (b ∈ finsOf told) := by
      have m1 := q3.mark
      unfold mOf at m1
      have m2 : (a ∈ lasts) ↔ a ∈ fin := (hm a).symm
      have m3 : (b ∈ finsOf told) ↔ KN.mkf told b = true := mem_finsOf
      by_cases z : a ∈ fin
      · rw [decide_eq_true z] at m1
        rw [decide_eq_true (m2.mpr z), decide_eq_true (m3.mpr m1.symm)]
      · rw [decide_eq_false z] at m1
        rw [decide_eq_false (fun y => z (m2.mp y)), decide_eq_false (fun y => by rw [m3.mp y] at m1; cases m1)]
    have em := sEq_bb (neg := true) (b := decide (a ∈ lasts)) (c := decide (b ∈ finsOf told))
    rw [mk] at em i1
    have l6 : k + 1 ≤ 1000001 := by omega
    simp [-List.map_map, e1, e2, e3, dp, s1, s2, es, i1, i2, em, srcA_d]
    obtain ⟨J, hJ⟩ : ∃ J : List Str → En → Prop, ∀ d e, J d e ↔ ∃ (ps' : List (Nat × Nat)) (z7 : Sl), ps.length ≤ ps'.length ∧ PsOk (tOf plan) (mOf fin) T (KN.mkf told) plan.length ps' ∧
      e = [some (o0, encDs plan), some (o1, encNs lasts), some (o2, encT T), some (o3, encNs (finsOf told)), some (true, .lst (ps'.map encPr)), some (false, .int (k : Nat)), some (false, .dct (encD (KN.row T b))), z7, some (false, .int (a : Nat)), some (false, .int (b : Nat))] := ⟨_, fun _ _ => Iff.rfl⟩
    refine post_forL ((KN.row T b).map (·.1)) U.str rfl J ((hJ _ _).mpr ⟨ps, z7, Nat.le_refl _, pok, rfl⟩) ?_ ?_
    · intro d x rest e hms hin
      obtain ⟨ps', z7, hle, pok', rfl⟩ := (hJ _ _).mp hin
      have hx : x ∈ (KN.row T b).map (·.1) := by rw [hms]; simp
      obtain ⟨⟨x', b'⟩, hb', e⟩ := List.mem_map.mp hx
      dsimp only at e
      subst e
      have nb := KN.nxt_of nT hb'
      obtain ⟨a', na, ea⟩ := q3.symm.sm nb
      have la := tOf_lk h ga na
      have lb := lk_of (nT b) hb'
      dsimp only at lb
      have a'l : a' < plan.length := by
        have := h.fit.2 a _ (KN.nxt_mem na)
        rw [tl] at this
        exact this
      have b'l := L.can.fit.2 b _ hb'
      have pl' := prs_len pok'.nd fun p hp => ⟨(pok'.ok p hp).1, (pok'.ok p hp).2.1⟩
      have l7 : ps'.length < 16777216 := by omega
      have ni := sNotIn_pr (p := (a', b')) (ps := ps')
      unfold encPr at ni
      dsimp only at ni
      by_cases q : (a', b') ∈ ps'
      · simp only [turn]
        simp [-List.map_map, e2, la, lb, ni, q]
        exact (hJ _ _).mpr ⟨ps', some (false, .str x'), hle, pok', rfl⟩
      · simp only [turn]
        simp [-List.map_map, e2, la, lb, ni, q, l7]
        exact (hJ _ _).mpr ⟨ps' ++ [(a', b')], some (false, .str x'), by simp; omega, pok'.add q ⟨a'l, b'l, ea.symm⟩, by simp⟩
    · intro e he
      obtain ⟨ps', z7, hle, pok', rfl⟩ := (hJ _ _).mp he
      simp
      exact ⟨n - 1, by omega, (hI _ _).mpr ⟨k + 1, ps', some (false, .dct (encD (KN.row T b))), z7, some (false, .int (a : Nat)), some (false, .int (b : Nat)), by omega, by omega, pok', by simp⟩⟩
  · simp [outS_eq, prL, List.range_succ]
end VS
set_option linter.all false
set_option maxRecDepth 100000
namespace VS
open PySem L2
/-! ### apart -/
abbrev encAp (D : List (Nat × Nat)) : List (U × U) := D.map fun p => (encPr p, .bl true)
theorem dfind_ap {D : List (Nat × Nat)} {p : Nat × Nat} : dfind (encAp D) (encPr p) = if p ∈ D then some (.bl true) else none := by
  induction D with
  | nil => rfl
  | cons x o ih =>
    rw [encAp, List.map_cons, dfind_cons]
    by_cases h : x = p
    · subst h; simp
    · rw [if_neg fun z => h (encPr_inj z)]
      have e : (p ∈ x :: o) ↔ p ∈ o := by simp [Ne.symm h]
      simp only [e]
      exact ih
theorem okD_ap {D : List (Nat × Nat)} {p : Nat × Nat} : okD (encAp D) (encPr p) = true := by
  unfold okD
  rw [Bool.or_eq_true]
  right
  rw [Bool.and_eq_true]
  refine ⟨rfl, ?_⟩
  rw [List.all_eq_true]
  intro q hq
  obtain ⟨x, _, rfl⟩ := List.mem_map.mp hq
  rfl
theorem dset_ap {D : List (Nat × Nat)} {p : Nat × Nat} (h : p ∉ D) : dset (encAp D) (encPr p) (.bl true) = encAp (D ++ [p]) := by
  rw [dset_new (by rw [dfind_ap, if_neg h])]
  simp [encAp]
theorem sIn_ap {D : List (Nat × Nat)} {p : Nat × Nat} : sIn2 (encPr p) (.dct (encAp D)) = some (false, .bl (decide (p ∈ D))) := by
  refine orS_of ?_
  rw [sIn_d, if_pos okD_ap, dfind_ap]
  by_cases h : p ∈ D <;> simp [h]
theorem sNotIn_ap {D : List (Nat × Nat)} {p : Nat × Nat} : sNotIn2 (encPr p) (.dct (encAp D)) = some (false, .bl (!decide (p ∈ D))) := by
  refine orS_of ?_
  rw [sNotIn_d, if_pos okD_ap, dfind_ap]
  by_cases h : p ∈ D <;> simp [h]
abbrev nmsU (r : Row) : U := .lst (r.map fun p => U.str p.1)
theorem nms_eq (r : Row) : nmsU r = .lst ((r.map (·.1)).map .str) := by rw [List.map_map]; rfl
theorem sEq_nms {neg : Bool} {a b : Row} (ha : ∀ p ∈ a, isNm p.1 = true) (hb : ∀ p ∈ b, isNm p.1 = true) : sEq neg (nmsU a) (nmsU b) = some (false, .bl (if neg then !decide (a.map (·.1) = b.map (·.1)) else decide (a.map (·.1) = b.map (·.1)))) := by
  rw [nms_eq, nms_eq]
  exact sEq_strs (fun x hx => by obtain ⟨p, hp, rfl⟩ := List.mem_map.mp hx; exact ha p hp) (fun x hx => by obtain ⟨p, hp, rfl⟩ := List.mem_map.mp hx; exact hb p hp)
theorem dat_prs (ps : List (Nat × Nat)) : dat 2 (.lst (ps.map encPr)) = true := by
  show List.all _ _ = true
  rw [List.all_eq_true]
  intro u hu
  obtain ⟨k, _, rfl⟩ := List.mem_map.mp hu
  rfl
theorem sEq_prs0 {ps : List (Nat × Nat)} : sEq true (.lst (ps.map encPr)) (.lst []) = some (false, .bl (!decide (ps = []))) := by
  rw [sEq_ll (n := 2) (by decide) (dat_prs ps) rfl]
  have : (ps.map encPr = []) ↔ ps = [] := by simp
  simp only [this]
  rfl
theorem ev_apart (o0 o1 : Bool) (T : List Row) (told : List Bool) (hc : KN.Canon ltS T (KN.mkf told)) (hl : T.length ≤ 1000) (nm : ∀ r ∈ T, ∀ p ∈ r, isNm p.1 = true) (hr : ∀ r ∈ T, r.length < 64) :
    φ_law_apart [(o0, encT T), (o1, encNs (finsOf told))] = .ok (false, .bl true) [some (o0, encT T), some (o1, encNs (finsOf told))] := by
  refine fnS_post (fun z => z = .ok (false, .bl true) [some (o0, encT T), some (o1, encNs (finsOf told))]) rfl (by decide) ?_
  unfold b_law_apart
  have lm : lim62 (T.length : Nat) = true := lim62_ok (by omega) (by omega)
  have hn := hc.asc.nd srtS
  have nn : T.length * T.length ≤ 1000000 := Nat.mul_le_mul hl hl
  have part1 : ∀ (κ : Ks), (∀ (D : List (Nat × Nat)) (z4 z6 z7 : Sl), KN.Ap T (KN.mkf told) D → KN.Bas T (KN.mkf told) D → κ.N [some (o0, encT T), some (o1, encNs (finsOf told)), some (false, .int (T.length : Nat)), some (true, .dct (encAp D)), z4, none, z6, z7, none, none, none, none, none, none]) →
      (forL (tgN 4) (mFor (mRg1 (mN 2)) (tgN 6)
 ((mAsg 7 (mLc (mItA (mF (mTup (mVc (mN 4) (mVc (mN 6) mVn))))) (tgN 8) (M.ret true) (mF (mLc (mItA (mF (mBin sIx (mSl 0) (mSl 8)))) (tgT 2 (tgsC (tgN 10) (tgsC (tgN 11) tgs0))) (M.ret true) (mN 10) [10, 11])) [8])).seq
 (mIf (mTo (mTst (mBin (sEq true) (mR (mF (mBin sIn2 (mSl 4) (mSl 1)))) (mR (mF (mBin sIn2 (mSl 6) (mSl 1)))))) (mTst (mBin (sEq true) (mR (mF (mBin sIx (mSl 7) (mR (mC (.int 0)))))) (mR (mF (mBin sIx (mSl 7) (mR (mC (.int 1)))))))))
 (mSto 3 (mF (mTup (mVc (mN 4) (mVc (mN 6) mVn)))) (mC (.bl true)))
 MS.nop))) none [] ((List.range T.length).map fun k : Nat => U.int (k : Nat)) [some (o0, encT T), some (o1, encNs (finsOf told)), some (false, .int (T.length : Nat)), some (true, .dct []), none, none, none, none, none, none, none, none, none, none]).post κ := by
    intro κ hκ
    obtain ⟨I, hI⟩ : ∃ I : List Nat → En → Prop, ∀ done e, I done e ↔ ∃ (D : List (Nat × Nat)) (z4 z6 z7 : Sl), KN.Ap T (KN.mkf told) D ∧ (∀ p ∈ D, p.1 < done.length) ∧ (∀ a b, a < done.length → b < T.length → (a, b) ∉ D → KN.Lo T (KN.mkf told) a b) ∧
      e = [some (o0, encT T), some (o1, encNs (finsOf told)), some (false, .int (T.length : Nat)), some (true, .dct (encAp D)), z4, none, z6, z7, none, none, none, none, none, none] := ⟨_, fun _ _ => Iff.rfl⟩
    refine post_forL (List.range T.length) (fun k : Nat => U.int (k : Nat)) rfl I ((hI _ _).mpr ⟨[], none, none, none, ⟨by simp, by simp⟩, by simp, fun a b h => by simp at h, rfl⟩) ?_ ?_
    · intro done a rest e hms hin
      obtain ⟨D, z4, z6, z7, ap, lo1, lo2, rfl⟩ := (hI _ _).mp hin
      obtain ⟨hk, al⟩ := range_at hms
      subst hk
      simp only [turn]
      simp [lm]
      obtain ⟨J, hJ⟩ : ∃ J : List Nat → En → Prop, ∀ d e, J d e ↔ ∃ (D : List (Nat × Nat)) (z6 z7 : Sl), KN.Ap T (KN.mkf told) D ∧ (∀ p ∈ D, p.1 < done.length ∨ p.1 = done.length ∧ p.2 < d.length) ∧ (∀ a b, a < done.length → b < T.length → (a, b) ∉ D → KN.Lo T (KN.mkf told) a b) ∧ (∀ b, b < d.length → (done.length, b) ∉ D → KN.Lo T (KN.mkf told) done.length b) ∧
        e = [some (o0, encT T), some (o1, encNs (finsOf told)), some (false, .int (T.length : Nat)), some (true, .dct (encAp D)), some (false, .int (done.length : Nat)), none, z6, z7, none, none, none, none, none, none] := ⟨_, fun _ _ => Iff.rfl⟩
      refine post_forL (List.range T.length) (fun k : Nat => U.int (k : Nat)) rfl J ((hJ _ _).mpr ⟨D, z6, z7, ap, fun p hp => .inl (lo1 p hp), lo2, fun b h => by simp at h, rfl⟩) ?_ ?_
      · intro d b rest2 e hms2 hin
        obtain ⟨D, z6, z7, ap, lo1, lo2, lo3, rfl⟩ := (hJ _ _).mp hin
        obtain ⟨hk2, bl⟩ := range_at hms2
        subst hk2
        have ga := row_eq al
        have gb := row_eq bl
        have ram := List.mem_of_getElem? ga
        have rbm := List.mem_of_getElem? gb
        have lcn : ∀ s, s < T.length → ∀ z7, lcR (tgT 2 (tgsC (tgN 10) (tgsC (tgN 11) tgs0))) (M.ret true) (mN 10) [10, 11] ⟨(KN.row T s).map encP2, [], none⟩ [some (o0, encT T), some (o1, encNs (finsOf told)), some (false, .int (T.length : Nat)), some (true, .dct (encAp D)), some (false, .int (done.length : Nat)), none, some (false, .int (d.length : Nat)), z7, some (false, .int (s : Nat)), none, none, none, none, none] = .ok (true, nmsU (KN.row T s)) [some (o0, encT T), some (o1, encNs (finsOf told)), some (false, .int (T.length : Nat)), some (true, .dct (encAp D)), some (false, .int (done.length : Nat)), none, some (false, .int (d.length : Nat)), z7, some (false, .int (s : Nat)), none, none, none, none, none] := fun s hs z7 =>
          lc_eq (KN.row T s) encP2 (fun p => .str p.1) rfl rfl (by have := hr _ (List.mem_of_getElem? (row_eq hs)); rw [sl_eq]; omega) (by rw [clr_nt]; simp) (by
            intro p hp
            simp [item])
        have lc2 := lc_eq (t := tgN 8) (te := mF (mLc (mItA (mF (mBin sIx (mSl 0) (mSl 8)))) (tgT 2 (tgsC (tgN 10) (tgsC (tgN 11) tgs0))) (M.ret true) (mN 10) [10, 11])) (vs := [8]) (s := ⟨[.int (done.length : Nat), .int (d.length : Nat)], [], none⟩)
          (e := [some (o0, encT T), some (o1, encNs (finsOf told)), some (false, .int (T.length : Nat)), some (true, .dct (encAp D)), some (false, .int (done.length : Nat)), none, some (false, .int (d.length : Nat)), z7, none, none, none, none, none, none])
          [done.length, d.length] (fun k : Nat => U.int (k : Nat)) (fun s => nmsU (KN.row T s)) rfl rfl (by rw [sl_eq]; show 2 ≤ _; decide) (by rw [clr_nt]; simp) (by
            intro s hs
            have hsl : s < T.length := by
              simp at hs
              rcases hs with rfl | rfl
              · exact al
              · exact bl
            have e1 : atI (T.map encRw) (s : Int) = some (encRw (KN.row T s)) := atI_row (row_eq hsl)
            simp [-List.map_map, item, e1, lcn s hsl])
        have i1 : sIn2 (.int (done.length : Nat)) (encNs (finsOf told)) = some (false, .bl (decide (done.length ∈ finsOf told))) := orS_of sIn_il
        have i2 : sIn2 (.int (d.length : Nat)) (encNs (finsOf told)) = some (false, .bl (decide (d.length ∈ finsOf told))) := orS_of sIn_il
        have em := sEq_bb (neg := true) (b := decide (done.length ∈ finsOf told)) (c := decide (d.length ∈ finsOf told))
        have mk : (decide (done.length ∈ finsOf told) = decide (d.length ∈ finsOf told)) ↔ KN.mkf told done.length = KN.mkf told d.length := by
          have m1 := mem_finsOf (told := told) (k := done.length)
          have m2 := mem_finsOf (told := told) (k := d.length)
          simp only [m1, m2]
          simp
        have en := sEq_nms (neg := true) (nm _ ram) (nm _ rbm)
        have nD : (done.length, d.length) ∉ D := fun h => by
          rcases lo1 _ h with q | q
          · exact absurd q (Nat.lt_irrefl _)
          · exact absurd q.2 (Nat.lt_irrefl _)
        have dl := prs_len ap.nd fun p hp => ⟨(ap.ok p hp).1, (ap.ok p hp).2.1⟩
        have l7 : D.length < 16777216 := by omega
        have ok := okD_ap (D := D) (p := (done.length, d.length))
        have ds := dset_ap nD
        unfold encPr at ok ds
        dsimp only at ok ds
        have a0 : atI [nmsU (KN.row T done.length), nmsU (KN.row T d.length)] 0 = some (nmsU (KN.row T done.length)) := rfl
        have a1 : atI [nmsU (KN.row T done.length), nmsU (KN.row T d.length)] 1 = some (nmsU (KN.row T d.length)) := rfl
        simp only [List.map_cons, List.map_nil] at lc2
        generalize nmsU (KN.row T done.length) = ua at *
        generalize nmsU (KN.row T d.length) = ub at *
        by_cases q : KN.Lo T (KN.mkf told) done.length d.length
        · have q1 := mk.mpr q.1
          have q2 := q.2
          rw [q1] at em i1
          simp only [turn]
          simp [-List.map_map, srcA, lc2, i1, i2, em, a0, a1, en, q2]
          refine (hJ _ _).mpr ⟨D, some (false, .int (d.length : Nat)), some (true, .lst [ua, ub]), ap, fun p hp => ?_, lo2, fun b hb hnb => ?_, rfl⟩
          · have := lo1 p hp
            simp
            omega
          · simp at hb
            rcases Nat.lt_or_ge b d.length with y | y
            · exact lo3 b y hnb
            · have : b = d.length := by omega
              rw [this]; exact q
        · have fin : ∀ LU : List (U × U), LU = encAp (D ++ [(done.length, d.length)]) → J (d ++ [d.length]) [some (o0, encT T), some (o1, encNs (finsOf told)), some (false, .int (T.length : Nat)), some (true, .dct LU), some (false, .int (done.length : Nat)), none, some (false, .int (d.length : Nat)), some (true, .lst [ua, ub]), none, none, none, none, none, none] := by
            intro LU hLU
            subst hLU
            refine (hJ _ _).mpr ⟨D ++ [(done.length, d.length)], some (false, .int (d.length : Nat)), some (true, .lst [ua, ub]), ap.add al bl nD (fun E => q ⟨E.mark, E.names srtS hc.asc hc.asc⟩), fun p hp => ?_, fun a b ha hb hm => lo2 a b ha hb fun z => hm (List.mem_append_left _ z), fun b hb hnb => ?_, rfl⟩
            · rcases List.mem_append.mp hp with hp | hp
              · have := lo1 p hp
                simp
                omega
              · rw [List.mem_singleton.mp hp]
                right
                simp
            · simp at hb
              rcases Nat.lt_or_ge b d.length with y | y
              · exact lo3 b y fun z => hnb (List.mem_append_left _ z)
              · have : b = d.length := by omega
                subst this
                exact absurd (List.mem_append_right _ (List.mem_singleton.mpr rfl)) hnb
          by_cases q1 : KN.mkf told done.length = KN.mkf told d.length
          · have q2 : ¬ ((KN.row T done.length).map (·.1) = (KN.row T d.length).map (·.1)) := fun z => q ⟨q1, z⟩
            have q3 := mk.mpr q1
            rw [q3] at em i1
            simp only [turn]
            simp [-List.map_map, srcA, lc2, i1, i2, em, a0, a1, en, q2, ok, ds, l7]
            exact fin _ (by simp)
          · have q3 : ¬ (decide (done.length ∈ finsOf told) = decide (d.length ∈ finsOf told)) := fun z => q1 (mk.mp z)
            generalize decide (done.length ∈ finsOf told) = c1 at *
            generalize decide (d.length ∈ finsOf told) = c2 at *
            simp only [turn]
            simp [-List.map_map, srcA, lc2, i1, i2, em, q3, ok, ds, l7]
            exact fin _ (by simp)
      · intro e he
        obtain ⟨D, z6, z7, ap, lo1, lo2, lo3, rfl⟩ := (hJ _ _).mp he
        rw [List.length_range] at lo1 lo3
        refine (hI _ _).mpr ⟨D, some (false, .int (done.length : Nat)), z6, z7, ap, fun p hp => ?_, fun a b ha hb hm => ?_, rfl⟩
        · have := lo1 p hp
          simp
          omega
        · simp at ha
          rcases Nat.lt_or_ge a done.length with y | y
          · exact lo2 a b y hb hm
          · have : a = done.length := by omega
            subst this
            exact lo3 b hb hm
    · intro e he
      obtain ⟨D, z4, z6, z7, ap, lo1, lo2, rfl⟩ := (hI _ _).mp he
      rw [List.length_range] at lo2
      exact hκ D z4 z6 z7 ap lo2
  simp [lm]
  refine part1 _ ?_
  intro D z4 z6 z7 ap bas
  simp
  obtain ⟨I, hI⟩ : ∃ I : Nat → En → Prop, ∀ n e, I n e ↔ ∃ (D : List (Nat × Nat)) (mny : Int) (z4 z6 z7 z9 : Sl), (n : Int) + mny = (T.length * T.length : Nat) ∧ mny ≤ D.length ∧ KN.Ap T (KN.mkf told) D ∧ KN.Bas T (KN.mkf told) D ∧ (mny = D.length → KN.Stab T D) ∧
    e = [some (o0, encT T), some (o1, encNs (finsOf told)), some (false, .int (T.length : Nat)), some (true, .dct (encAp D)), z4, some (false, .int mny), z6, z7, none, z9, none, none, none, none] := ⟨_, fun _ _ => Iff.rfl⟩
  refine post_mWhl I (T.length * T.length + 1) ((hI _ _).mpr ⟨D, -1, z4, z6, z7, none, by omega, by omega, ap, bas, fun h => by omega, rfl⟩) ?_
  clear ap bas z4 z6 z7 D
  intro n e hin
  obtain ⟨D, mny, z4, z6, z7, z9, hn1, hn2, ap, bas, stb, rfl⟩ := (hI _ _).mp hin
  have dl := prs_len ap.nd fun p hp => ⟨(ap.ok p hp).1, (ap.ok p hp).2.1⟩
  unfold wturn
  by_cases q : mny = (D.length : Int)
  · have fl := ap.len srtS hc bas (stb q)
    have lsq : ((T.length : Int) * (T.length : Int) - (T.length : Int)) = (D.length : Int) := by
      have : ((D.length + T.length : Nat) : Int) = ((T.length * T.length : Nat) : Int) := by rw [fl]
      rw [Int.natCast_add, Int.natCast_mul] at this
      omega
    have ml := sMul_l (i := (T.length : Int)) (j := (T.length : Int)) (by omega) (by omega)
    have e2 : sEq2 (.int (D.length : Nat)) (.int (D.length : Nat)) = some (false, .bl true) := by
      rw [sEq2, orS_of (z := (false, .bl true)) (by simp)]
    simp [q, ml, lsq, e2, outS_eq, prL, List.range_succ]
  · simp [q, lm]
    obtain ⟨O, hO⟩ : ∃ O : List Nat → En → Prop, ∀ done e, O done e ↔ ∃ (D' : List (Nat × Nat)) (z4 z6 z9 : Sl), KN.Ap T (KN.mkf told) D' ∧ KN.Bas T (KN.mkf told) D' ∧ D.length ≤ D'.length ∧ (D'.length = D.length → D' = D ∧ ∀ a b, a < done.length → b < T.length → (a, b) ∉ D → ¬ KN.Hit T D a b) ∧
      e = [some (o0, encT T), some (o1, encNs (finsOf told)), some (false, .int (T.length : Nat)), some (true, .dct (encAp D')), z4, some (false, .int (D.length : Nat)), z6, z7, none, z9, none, none, none, none] := ⟨_, fun _ _ => Iff.rfl⟩
    refine post_forL (List.range T.length) (fun k : Nat => U.int (k : Nat)) rfl O ((hO _ _).mpr ⟨D, z4, z6, z9, ap, bas, Nat.le_refl _, fun _ => ⟨rfl, fun a b h => by simp at h⟩, rfl⟩) ?_ ?_
    · intro done a rest e hms hin
      obtain ⟨D', z4, z6, z9, ap', bas', dle, st', rfl⟩ := (hO _ _).mp hin
      obtain ⟨hk, al⟩ := range_at hms
      subst hk
      simp only [turn]
      simp [lm]
      obtain ⟨J, hJ⟩ : ∃ J : List Nat → En → Prop, ∀ d e, J d e ↔ ∃ (D' : List (Nat × Nat)) (z6 z9 : Sl), KN.Ap T (KN.mkf told) D' ∧ KN.Bas T (KN.mkf told) D' ∧ D.length ≤ D'.length ∧ (D'.length = D.length → D' = D ∧ (∀ a b, a < done.length → b < T.length → (a, b) ∉ D → ¬ KN.Hit T D a b) ∧ ∀ b, b < d.length → (done.length, b) ∉ D → ¬ KN.Hit T D done.length b) ∧
        e = [some (o0, encT T), some (o1, encNs (finsOf told)), some (false, .int (T.length : Nat)), some (true, .dct (encAp D')), some (false, .int (done.length : Nat)), some (false, .int (D.length : Nat)), z6, z7, none, z9, none, none, none, none] := ⟨_, fun _ _ => Iff.rfl⟩
      refine post_forL (List.range T.length) (fun k : Nat => U.int (k : Nat)) rfl J ((hJ _ _).mpr ⟨D', z6, z9, ap', bas', dle, fun h => ⟨(st' h).1, (st' h).2, fun b h => by simp at h⟩, rfl⟩) ?_ ?_
      · intro d b rest2 e hms2 hin
        obtain ⟨D', z6, z9, ap', bas', dle, st', rfl⟩ := (hJ _ _).mp hin
        obtain ⟨hk2, bl⟩ := range_at hms2
        subst hk2
        have ga := row_eq al
        have gb := row_eq bl
        have ram := List.mem_of_getElem? ga
        have rbm := List.mem_of_getElem? gb
        have e1 : atI (T.map encRw) (done.length : Int) = some (encRw (KN.row T done.length)) := atI_row ga
        have e2 : atI (T.map encRw) (d.length : Int) = some (encRw (KN.row T d.length)) := atI_row gb
        have ni := sNotIn_ap (p := (done.length, d.length)) (D := D')
        have dl' := prs_len ap'.nd fun p hp => ⟨(ap'.ok p hp).1, (ap'.ok p hp).2.1⟩
        have l7 : D'.length < 16777216 := by omega
        have ok := okD_ap (D := D') (p := (done.length, d.length))
        unfold encPr at ni ok
        dsimp only at ni ok
        by_cases m : (done.length, d.length) ∈ D'
        · simp only [turn]
          simp [-List.map_map, ni, m]
          refine (hJ _ _).mpr ⟨D', some (false, .int (d.length : Nat)), z9, ap', bas', dle, fun h => ?_, rfl⟩
          obtain ⟨h1, h2, h3⟩ := st' h
          refine ⟨h1, h2, fun b hb hm => ?_⟩
          simp at hb
          rcases Nat.lt_or_ge b d.length with y | y
          · exact h3 b y hm
          · have : b = d.length := by omega
            rw [this] at hm
            rw [h1] at m
            exact absurd m hm
        · have lo := bas' _ _ al bl m
          have ds := dset_ap m
          unfold encPr at ds
          dsimp only at ds
          have rl := hr _ ram
          have ll : (KN.row T done.length).length = (KN.row T d.length).length := by simpa using congrArg List.length lo.2
          have lr : lim62 ((KN.row T done.length).length : Nat) = true := lim62_ok (by omega) (by omega)
          have lc1 := lc_eq (t := tgN 12) (te := mF (mTup (mVc (mF (mBin sIx (mR (mF (mBin sIx (mR (mF (mBin sIx (mSl 0) (mSl 4)))) (mSl 12)))) (mR (mC (.int 1))))) (mVc (mF (mBin sIx (mR (mF (mBin sIx (mR (mF (mBin sIx (mSl 0) (mSl 6)))) (mSl 12)))) (mR (mC (.int 1))))) mVn)))) (vs := [12]) (s := ⟨(List.range (KN.row T done.length).length).map fun k : Nat => U.int (k : Nat), [], none⟩)
            (e := [some (o0, encT T), some (o1, encNs (finsOf told)), some (false, .int (T.length : Nat)), some (true, .dct (encAp D')), some (false, .int (done.length : Nat)), some (false, .int (D.length : Nat)), some (false, .int (d.length : Nat)), z7, none, z9, none, none, none, none])
            (List.range (KN.row T done.length).length) (fun k : Nat => U.int (k : Nat)) (fun k => encPr (KN.sn (KN.row T done.length) k, KN.sn (KN.row T d.length) k)) rfl rfl (by rw [sl_eq]; simp; omega) (by rw [clr_nt]; simp) (by
              intro k hk
              have hk := List.mem_range.mp hk
              have g1 := KN.sn_at hk
              have g2 := KN.sn_at (r := KN.row T d.length) (k := k) (by omega)
              have e3 : atI ((KN.row T done.length).map encP2) (k : Int) = some (encP2 (((KN.row T done.length)[k]'hk).1, KN.sn (KN.row T done.length) k)) := atI_at g1
              have e4 : atI ((KN.row T d.length).map encP2) (k : Int) = some (encP2 (((KN.row T d.length)[k]'(by omega)).1, KN.sn (KN.row T d.length) k)) := atI_at g2
              simp [-List.map_map, item, e1, e2, e3, e4])
          have sp : ((List.range (KN.row T done.length).length).map fun k => encPr (KN.sn (KN.row T done.length) k, KN.sn (KN.row T d.length) k)) = (KN.stp (KN.row T done.length) (KN.row T d.length)).map encPr := by
            unfold KN.stp
            rw [List.map_map]
            rfl
          rw [sp] at lc1
          have sl : (KN.stp (KN.row T done.length) (KN.row T d.length)).length = (KN.row T done.length).length := by simp [KN.stp]
          generalize hps : KN.stp (KN.row T done.length) (KN.row T d.length) = ps at *
          have lc2 := lcF_eqG (t := tgN 13) (tt := mTst (mBin sIn2 (mSl 13) (mSl 3))) (te := mN 13) (vs := [13]) (s := ⟨ps.map encPr, [], none⟩)
            (e := [some (o0, encT T), some (o1, encNs (finsOf told)), some (false, .int (T.length : Nat)), some (true, .dct (encAp D')), some (false, .int (done.length : Nat)), some (false, .int (D.length : Nat)), some (false, .int (d.length : Nat)), z7, none, some (false, .lst (ps.map encPr)), none, none, none, none])
            ps encPr (fun p => decide (p ∈ D')) encPr (by simp [gOK]) rfl (by rw [sl_eq]; omega) (by rw [clr_nt]; simp) (by
              intro p hp
              have i := sIn_ap (p := p) (D := D')
              by_cases z : p ∈ D'
              · simp [itemF, i, z]
              · simp [itemF, i, z])
          have es := sEq_prs0 (ps := ps.filter fun p => decide (p ∈ D'))
          by_cases hit : KN.Hit T D' done.length d.length
          · have f0 : ¬ (ps.filter (fun p => decide (p ∈ D')) = []) := by
              obtain ⟨p, hp, hd⟩ := hit
              rw [hps] at hp
              exact List.ne_nil_of_mem (List.mem_filter.mpr ⟨hp, by simpa using hd⟩)
            generalize ps.filter (fun p => decide (p ∈ D')) = fs at *
            simp only [turn]
            simp [-List.map_map, srcA, ni, m, e1, lr, lc1, lc2, es, f0, ok, ds, l7]
            have fin : ∀ LU : List (U × U), LU = encAp (D' ++ [(done.length, d.length)]) → J (d ++ [d.length]) [some (o0, encT T), some (o1, encNs (finsOf told)), some (false, .int (T.length : Nat)), some (true, .dct LU), some (false, .int (done.length : Nat)), some (false, .int (D.length : Nat)), some (false, .int (d.length : Nat)), z7, none, some (false, .lst (ps.map encPr)), none, none, none, none] := by
              intro LU hLU
              subst hLU
              refine (hJ _ _).mpr ⟨D' ++ [(done.length, d.length)], some (false, .int (d.length : Nat)), some (false, .lst (ps.map encPr)), ap'.add al bl m (ap'.hit hn lo hit), fun a b ha hb hm => bas' a b ha hb fun z => hm (List.mem_append_left _ z), by simp; omega, fun h => ?_, rfl⟩
              simp at h
              omega
            exact fin _ (by simp)
          · have f0 : ps.filter (fun p => decide (p ∈ D')) = [] := by
              rw [List.filter_eq_nil_iff]
              intro p hp z
              exact hit ⟨p, by rw [hps]; exact hp, by simpa using z⟩
            generalize ps.filter (fun p => decide (p ∈ D')) = fs at *
            simp only [turn]
            simp [-List.map_map, srcA, ni, m, e1, lr, lc1, lc2, es, f0, ok, ds, l7]
            refine (hJ _ _).mpr ⟨D', some (false, .int (d.length : Nat)), some (false, .lst (ps.map encPr)), ap', bas', dle, fun h => ?_, rfl⟩
            obtain ⟨h1, h2, h3⟩ := st' h
            refine ⟨h1, h2, fun b hb hm => ?_⟩
            simp at hb
            rcases Nat.lt_or_ge b d.length with y | y
            · exact h3 b y hm
            · have : b = d.length := by omega
              rw [this, ← h1]
              exact hit
      · intro e he
        obtain ⟨D', z6, z9, ap', bas', dle, st', rfl⟩ := (hJ _ _).mp he
        rw [List.length_range] at st'
        refine (hO _ _).mpr ⟨D', some (false, .int (done.length : Nat)), z6, z9, ap', bas', dle, fun h => ?_, rfl⟩
        obtain ⟨h1, h2, h3⟩ := st' h
        refine ⟨h1, fun a b ha hb hm => ?_⟩
        simp at ha
        rcases Nat.lt_or_ge a done.length with y | y
        · exact h2 a b y hb hm
        · have : a = done.length := by omega
          subst this
          exact h3 b hb hm
    · intro e he
      obtain ⟨D', z4, z6, z9, ap', bas', dle, st', rfl⟩ := (hO _ _).mp he
      rw [List.length_range] at st'
      refine ⟨T.length * T.length - D.length, by omega, (hI _ _).mpr ⟨D', D.length, z4, z6, z7, z9, by omega, by omega, ap', bas', fun h => ?_, rfl⟩⟩
      obtain ⟨h1, h2⟩ := st' (by omega)
      subst h1
      exact h2
end VS
set_option linter.all false
set_option maxRecDepth 100000
namespace VS
open PySem L2
theorem sMx_1 {n : Nat} : ∃ N : Nat, N ≤ 20 ∧ sMx [.int 1, .int (if ((n : Nat) : Int) < 20 then ((n : Nat) : Int) else 20)] = some (false, .int (N : Nat)) := by
  refine ⟨max 1 (min 20 n), by omega, ?_⟩
  have : sMx [.int 1, .int (if ((n : Nat) : Int) < 20 then ((n : Nat) : Int) else 20)] = some (false, .int (if 1 < (if ((n : Nat) : Int) < 20 then ((n : Nat) : Int) else 20) then (if ((n : Nat) : Int) < 20 then ((n : Nat) : Int) else 20) else 1)) := rfl
  rw [this]
  congr 3
  split <;> split <;> omega
theorem pure_law (ns : List Int) (h : ns.length ≤ 63) : ∃ outs, φ_law [(false, .scr ns)] = .ok (false, .bl true) outs := by
  refine fnS_post (fun r => ∃ outs, r = .ok (false, .bl true) outs) (b := b_law) rfl (by decide) ?_
  show (b_law [some (false, .scr ns), none, none, none, none, none, none, none, none]).post _
  unfold b_law
  obtain ⟨N, hN, eN⟩ := sMx_1 (n := ns.length)
  have lN : lim62 (N : Nat) = true := lim62_ok (by omega) (by omega)
  simp [eN, lN]
  refine post_forL (List.range N) (fun k : Nat => U.int (k : Nat)) rfl (fun _ e => ∃ z1 z2 z3 z4 z5 z6 z7 z8 : Sl, e = [some (false, .scr ns), z1, z2, z3, z4, z5, z6, z7, z8]) ⟨_, _, _, _, _, _, _, _, rfl⟩ ?_ ?_
  · rintro done k rest e hms ⟨z1, z2, z3, z4, z5, z6, z7, z8, rfl⟩
    obtain ⟨a0, b0, c0, e0⟩ := ev_purse false ns k
    obtain ⟨a1, b1, c1, m, m0, m1, e1⟩ := ev_spend false a0 b0 c0 5 (by decide) (by decide)
    obtain ⟨M, rfl⟩ : ∃ M : Nat, m = (M : Int) := ⟨m.toNat, by omega⟩
    obtain ⟨a2, b2, c2, ws, wl, wn, e2⟩ := ev_names a1 b1 c1 (1 + M) (by omega) (by omega)
    have c1M : ((1 + M : Nat) : Int) = 1 + (M : Int) := by omega
    rw [c1M] at e2
    obtain ⟨most, hm0, hm1, hm⟩ : ∃ most : Nat, 0 < most ∧ most ≤ 20 ∧ (if k = 0 then (20 : Int) else 6) = (most : Int) := by
      by_cases q : k = 0
      · exact ⟨20, by decide, by decide, by rw [if_pos q]; rfl⟩
      · exact ⟨6, by decide, by decide, by rw [if_neg q]; rfl⟩
    obtain ⟨a3, b3, c3, plan, lasts, rok, e3⟩ := ev_raw true a2 b2 c2 ws most (by omega) hm0 (by omega)
    have r1 := rok.n1
    have r2 := rok.ll
    have e4 := ev_copied false plan (by omega)
    obtain ⟨a4, b4, c4, fin, fm, fl, e5⟩ := ev_listed false a3 b3 c3 lasts (by omega)
    have pok := rok.pok wn (by omega) (by omega) fm fl
    obtain ⟨T, told, L, e6⟩ := ev_Machine_init false false plan fin pok
    have tl : (tOf plan).length = plan.length := by unfold tOf; rw [List.length_map]
    have Tl : T.length ≤ 20 := by have := L.le; omega
    have tol := L.tl
    have sub : ∀ r ∈ T, ∃ r' ∈ plan, r.map (·.1) = (sortN r').map (·.1) := fun r hr => by
      obtain ⟨r', hr', q⟩ := L.sub r hr
      unfold tOf at hr'
      obtain ⟨r2, hr2, rfl⟩ := List.mem_map.mp hr'
      exact ⟨r2, hr2, q⟩
    have Tr : ∀ r ∈ T, r.length < 64 := fun r hr => by
      obtain ⟨r', hr', q⟩ := sub r hr
      have := congrArg List.length q
      simp only [List.length_map, sortN_len] at this
      have := pok.rl r' hr'
      omega
    have Tn : ∀ r ∈ T, ∀ p ∈ r, isNm p.1 = true := fun r hr p hp => by
      obtain ⟨r', hr', q⟩ := sub r hr
      have : p.1 ∈ (sortN r').map (·.1) := by rw [← q]; exact List.mem_map.mpr ⟨p, hp, rfl⟩
      obtain ⟨p', hp', e⟩ := List.mem_map.mp this
      rw [← e]
      exact (pok.nm r' hr' p' (mem_sortN.mp hp')).1
    have e7 := ev_Machine_states false T told (by omega) (fun r hr => by have := Tr r hr; omega)
    have e8 := ev_Machine_finals false T told (by omega)
    have e9 := ev_Machine_len false T told
    have e7' := ev_Machine_states true T told (by omega) (fun r hr => by have := Tr r hr; omega)
    have e8' := ev_Machine_finals true T told (by omega)
    have e9' := ev_Machine_len true T told
    have e10 := ev_shape_right true true T told L.can tol (by omega) (fun r hr => by have := Tr r hr; omega)
    have e11 := ev_alike false false false false plan lasts fin T told pok fm L (by omega) Tr
    have e12 := ev_apart false false T told L.can (by omega) Tn Tr
    obtain ⟨fs, hfs⟩ : ∃ fs, encM T told = .ins "Machine" fs := ⟨_, rfl⟩
    rw [hfs] at e6 e7 e8 e9 e7' e8' e9'
    have lr : ∀ e : En, lenR (.ok (false, .int (T.length : Nat)) e) = .ok (false, .int (T.length : Nat)) e := fun e => by
      have : lim62 (T.length : Nat) = true := lim62_ok (by omega) (by omega)
      simp [lenR, this, cdec_iff]
    simp only [turn]
    by_cases q : k = 0
    · rw [if_pos q] at hm
      subst q
      simp only [Int.natCast_zero] at e0
      have hm20 : most = 20 := by omega
      subst hm20
      have e3' := e3
      simp only [show ((20 : Nat) : Int) = 20 from rfl] at e3'
      simp [-List.map_map, e0, e1, e2, e3', e4, e5, e6, e7, e8, e9, e7', e8', e9', e10, e11, e12, lr]
      done
    · rw [if_neg q] at hm
      have hm6 : most = 6 := by omega
      subst hm6
      have e3' := e3
      simp only [show ((6 : Nat) : Int) = 6 from rfl] at e3'
      simp [-List.map_map, e0, e1, e2, q, e3', e4, e5, e6, e7, e8, e9, e7', e8', e9', e10, e11, e12, lr]
      done
  · rintro e ⟨z1, z2, z3, z4, z5, z6, z7, z8, rfl⟩
    simp
end VS
set_option Elab.async false
set_option linter.all false
set_option maxRecDepth 100000
set_option maxHeartbeats 0
namespace VS
open PySem PySem.Spec PyProof.Rows L2
def d_law_purse : VH.DefH := ⟨fun K => He.ga K "_law_purse", "_law_purse", "_law_purse", defArgs st_law_purse, defBody st_law_purse, defScope st_law_purse, [], []⟩
def d_law_spend : VH.DefH := ⟨fun K => He.ga K "_law_spend", "_law_spend", "_law_spend", defArgs st_law_spend, defBody st_law_spend, defScope st_law_spend, [], []⟩
def d_law_names : VH.DefH := ⟨fun K => He.ga K "_law_names", "_law_names", "_law_names", defArgs st_law_names, defBody st_law_names, defScope st_law_names, [], []⟩
def d_law_raw : VH.DefH := ⟨fun K => He.ga K "_law_raw", "_law_raw", "_law_raw", defArgs st_law_raw, defBody st_law_raw, defScope st_law_raw, [], []⟩
def d_is_name : VH.DefH := ⟨fun K => He.ga K "is_name", "is_name", "is_name", defArgs st_is_name, defBody st_is_name, defScope st_is_name, [], []⟩
def d_check_steps : VH.DefH := ⟨fun K => He.ga K "check_steps", "check_steps", "check_steps", defArgs st_check_steps, defBody st_check_steps, defScope st_check_steps, [], []⟩
def d_check_machine : VH.DefH := ⟨fun K => He.ga K "check_machine", "check_machine", "check_machine", defArgs st_check_machine, defBody st_check_machine, defScope st_check_machine, [], []⟩
def d_first_reached : VH.DefH := ⟨fun K => He.ga K "first_reached", "first_reached", "first_reached", defArgs st_first_reached, defBody st_first_reached, defScope st_first_reached, [], []⟩
def d_kinds_of : VH.DefH := ⟨fun K => He.ga K "kinds_of", "kinds_of", "kinds_of", defArgs st_kinds_of, defBody st_kinds_of, defScope st_kinds_of, [], []⟩
def d_least_table : VH.DefH := ⟨fun K => He.ga K "least_table", "least_table", "least_table", defArgs st_least_table, defBody st_least_table, defScope st_least_table, [], []⟩
def d_Machine___init__ : VH.DefH := ⟨fun K => He.ma K (He.ga K "Machine") "__init__", "__init__", "Machine.__init__", defArgs st_Machine___init__, defBody st_Machine___init__, defScope st_Machine___init__, [], []⟩
def d_law_copied : VH.DefH := ⟨fun K => He.ga K "_law_copied", "_law_copied", "_law_copied", defArgs st_law_copied, defBody st_law_copied, defScope st_law_copied, [], []⟩
def d_law_listed : VH.DefH := ⟨fun K => He.ga K "_law_listed", "_law_listed", "_law_listed", defArgs st_law_listed, defBody st_law_listed, defScope st_law_listed, [], []⟩
def d_Machine_finals : VH.DefH := ⟨fun K => VH.pg K (He.ga K "Machine") "finals", "finals", "Machine.finals", defArgs st_Machine_finals, defBody st_Machine_finals, defScope st_Machine_finals, [], []⟩
def d_Machine_states : VH.DefH := ⟨fun K => VH.pg K (He.ga K "Machine") "states", "states", "Machine.states", defArgs st_Machine_states, defBody st_Machine_states, defScope st_Machine_states, [], []⟩
def d_law_shape_right : VH.DefH := ⟨fun K => He.ga K "_law_shape_right", "_law_shape_right", "_law_shape_right", defArgs st_law_shape_right, defBody st_law_shape_right, defScope st_law_shape_right, [], []⟩
def d_Machine___len__ : VH.DefH := ⟨fun K => He.ma K (He.ga K "Machine") "__len__", "__len__", "Machine.__len__", defArgs st_Machine___len__, defBody st_Machine___len__, defScope st_Machine___len__, [], []⟩
def d_law_apart : VH.DefH := ⟨fun K => He.ga K "_law_apart", "_law_apart", "_law_apart", defArgs st_law_apart, defBody st_law_apart, defScope st_law_apart, [], []⟩
def d_law_alike : VH.DefH := ⟨fun K => He.ga K "_law_alike", "_law_alike", "_law_alike", defArgs st_law_alike, defBody st_law_alike, defScope st_law_alike, [], []⟩
def d_law : VH.DefH := ⟨fun K => He.ga K "law", "law", "law", defArgs st_law, defBody st_law, defScope st_law, [], []⟩
def fnD : List VH.DefH := [d_law_purse, d_law_spend, d_law_names, d_law_raw, d_is_name, d_check_steps, d_check_machine, d_first_reached, d_kinds_of, d_least_table, d_Machine___init__, d_law_copied, d_law_listed, d_Machine_finals, d_Machine_states, d_law_shape_right, d_Machine___len__, d_law_apart, d_law_alike, d_law]
def faD : List VH.FaH := [VH.faF (.glo "_law_purse"), VH.faF (.glo "_law_spend"), VH.faF (.glo "_law_names"), VH.faF (.glo "_law_raw"), VH.faF (.glo "is_name"), VH.faF (.glo "check_steps"), VH.faF (.glo "check_machine"), VH.faF (.glo "first_reached"), VH.faF (.glo "kinds_of"), VH.faF (.glo "least_table"), VH.faF (.glo "Machine"), VH.faF (.mkr "Machine"), VH.faF (.glo "_law_copied"), VH.faF (.glo "_law_listed"), VH.propF "Machine" "finals", VH.propF "Machine" "states", VH.faF (.glo "_law_shape_right"), VH.faF (.meth "Machine" "__len__"), VH.faF (.glo "_law_apart"), VH.faF (.glo "_law_alike"), VH.faF (.glo "law"), VH.faF (.cls "Machine"), VH.faF (.str "LETTERS" "abcdefghijklmnopqrstuvwxyz"), VH.faF (.int "LONGEST" 8), VH.faF (.free "abs"), VH.faF (.free "all"), VH.faF (.free "dict"), VH.faF (.free "enumerate"), VH.faF (.free "int"), VH.faF (.free "isinstance"), VH.faF (.free "len"), VH.faF (.free "list"), VH.faF (.free "max"), VH.faF (.free "min"), VH.faF (.free "range"), VH.faF (.free "set"), VH.faF (.free "sorted"), VH.faF (.free "tuple"), VH.faF (.noat "Machine" "held_finals"), VH.faF (.noat "Machine" "held_rows")]
abbrev rwD : PySem.W.OpenRow := PySem.W.OpenLaw.row PySem.Challenge.rw_seenbars_k04_whole_least_states
abbrev hkD : PySem.W.Hook := VH.hookH 6 faD fnD
def obD (s : PySem.W.SharedT) : He.AlD := VH.obsHG 6 faD fnD (HandSHeadRun.getT s)
theorem obD_eq (s : PySem.W.SharedT) : obD s = hkD.obs s.abs := VH.obsHG_eq (HandSHeadRun.getT_eq s)
theorem runD (w : World) : HandSHeadRun.RunEq rwD (PySem.W.view rwD.prog [32]) hkD obD 3000 ["_wall", "GateError", "InvalidName", "InvalidStep", "InvalidFinal", "LETTERS", "LONGEST", "is_name", "check_steps", "check_machine", "first_reached", "kinds_of", "least_table", "Machine", "next_state", "state_behind", "row_of", "pair_steps", "reached_pairs", "joined", "_law_purse", "_law_spend", "_law_names", "_law_raw", "_law_copied", "_law_listed", "_law_shape_right", "_law_alike", "_law_apart"] w := by
  intro os
  kernel_rfl
theorem factsD {P : Program} {w : World} {K : PySem.W.Frag} {h : Heap} {mg : Str → Option Value} {f : Addr} (X : K.In h) (G : h.Ns mainGlobals mg) (hfa : mg ("law" : Str) = some (.ref f)) (c : VH.SaysH faD fnD K) :
    ∃ fd : FuncData, (∀ (s : Shared) (v : Value), BindsTo s fd ⟨[v], []⟩ [("_law_script", v)]) ∧ ∀ base : Heap, FnOk P w K mg base CX0 6 f fd ["_law_script"] (spL ⟨P, w, K, mg⟩ 1 φ_law) := by
  obtain ⟨fd_law_purse, D_law_purse⟩ := c.def_ 0 (d := d_law_purse) rfl
  obtain ⟨fd_law_spend, D_law_spend⟩ := c.def_ 1 (d := d_law_spend) rfl
  obtain ⟨fd_law_names, D_law_names⟩ := c.def_ 2 (d := d_law_names) rfl
  obtain ⟨fd_law_raw, D_law_raw⟩ := c.def_ 3 (d := d_law_raw) rfl
  obtain ⟨fd_is_name, D_is_name⟩ := c.def_ 4 (d := d_is_name) rfl
  obtain ⟨fd_check_steps, D_check_steps⟩ := c.def_ 5 (d := d_check_steps) rfl
  obtain ⟨fd_check_machine, D_check_machine⟩ := c.def_ 6 (d := d_check_machine) rfl
  obtain ⟨fd_first_reached, D_first_reached⟩ := c.def_ 7 (d := d_first_reached) rfl
  obtain ⟨fd_kinds_of, D_kinds_of⟩ := c.def_ 8 (d := d_kinds_of) rfl
  obtain ⟨fd_least_table, D_least_table⟩ := c.def_ 9 (d := d_least_table) rfl
  obtain ⟨fd_Machine___init__, D_Machine___init__⟩ := c.def_ 10 (d := d_Machine___init__) rfl
  obtain ⟨fd_law_copied, D_law_copied⟩ := c.def_ 11 (d := d_law_copied) rfl
  obtain ⟨fd_law_listed, D_law_listed⟩ := c.def_ 12 (d := d_law_listed) rfl
  obtain ⟨fd_Machine_finals, D_Machine_finals⟩ := c.def_ 13 (d := d_Machine_finals) rfl
  obtain ⟨fd_Machine_states, D_Machine_states⟩ := c.def_ 14 (d := d_Machine_states) rfl
  obtain ⟨fd_law_shape_right, D_law_shape_right⟩ := c.def_ 15 (d := d_law_shape_right) rfl
  obtain ⟨fd_Machine___len__, D_Machine___len__⟩ := c.def_ 16 (d := d_Machine___len__) rfl
  obtain ⟨fd_law_apart, D_law_apart⟩ := c.def_ 17 (d := d_law_apart) rfl
  obtain ⟨fd_law_alike, D_law_alike⟩ := c.def_ 18 (d := d_law_alike) rfl
  obtain ⟨fd_law, D_law⟩ := c.def_ 19 (d := d_law) rfl
  have fr : Fr K mg (He.ga K "Machine") := { cl_Machine := ⟨(He.glo_ok X G (c.fact 10 (f := VH.faF (.glo "Machine")) rfl)), (He.cls_ok (c.fact 21 (f := VH.faF (.cls "Machine")) rfl))⟩, k_LETTERS := (He.str_ok X G (c.fact 22 (f := VH.faF (.str "LETTERS" "abcdefghijklmnopqrstuvwxyz")) rfl)), k_LONGEST := (He.int_ok X G (c.fact 23 (f := VH.faF (.int "LONGEST" 8)) rfl)), f_abs := (He.free_ok X G (c.fact 24 (f := VH.faF (.free "abs")) rfl)), f_all := (He.free_ok X G (c.fact 25 (f := VH.faF (.free "all")) rfl)), f_dict := (He.free_ok X G (c.fact 26 (f := VH.faF (.free "dict")) rfl)), f_enumerate := (He.free_ok X G (c.fact 27 (f := VH.faF (.free "enumerate")) rfl)), f_int := (He.free_ok X G (c.fact 28 (f := VH.faF (.free "int")) rfl)), f_isinstance := (He.free_ok X G (c.fact 29 (f := VH.faF (.free "isinstance")) rfl)), f_len := (He.free_ok X G (c.fact 30 (f := VH.faF (.free "len")) rfl)), f_list := (He.free_ok X G (c.fact 31 (f := VH.faF (.free "list")) rfl)), f_max := (He.free_ok X G (c.fact 32 (f := VH.faF (.free "max")) rfl)), f_min := (He.free_ok X G (c.fact 33 (f := VH.faF (.free "min")) rfl)), f_range := (He.free_ok X G (c.fact 34 (f := VH.faF (.free "range")) rfl)), f_set := (He.free_ok X G (c.fact 35 (f := VH.faF (.free "set")) rfl)), f_sorted := (He.free_ok X G (c.fact 36 (f := VH.faF (.free "sorted")) rfl)), f_tuple := (He.free_ok X G (c.fact 37 (f := VH.faF (.free "tuple")) rfl)), na_Machine_held_finals := (He.noat_ok (c.fact 38 (f := VH.faF (.noat "Machine" "held_finals")) rfl)), na_Machine_held_rows := (He.noat_ok (c.fact 39 (f := VH.faF (.noat "Machine" "held_rows")) rfl)) }
  have e := hfa.symm.trans (He.glo_ok X G (c.fact 20 (f := VH.faF (.glo "law")) rfl))
  cases e
  have b := FunD.bindsA (ps := ["_law_script"]) D_law fun _ _ _ _ _ _ us hl => match us, hl with | [_], _ => rfl
  refine ⟨_, fun s v => b s [v] rfl, fun base => ?_⟩
  have F_law_purse := ok_law_purse (P := P) (w := w) (base := base) fr (He.glo_ok X G (c.fact 0 (f := VH.faF (.glo "_law_purse")) rfl)) D_law_purse
  have F_law_spend := ok_law_spend (P := P) (w := w) (base := base) fr (He.glo_ok X G (c.fact 1 (f := VH.faF (.glo "_law_spend")) rfl)) D_law_spend
  have F_law_names := ok_law_names (P := P) (w := w) (base := base) fr (He.glo_ok X G (c.fact 2 (f := VH.faF (.glo "_law_names")) rfl)) D_law_names F_law_spend
  have F_law_raw := ok_law_raw (P := P) (w := w) (base := base) fr (He.glo_ok X G (c.fact 3 (f := VH.faF (.glo "_law_raw")) rfl)) D_law_raw F_law_spend
  have F_is_name := ok_is_name (P := P) (w := w) (base := base) fr (He.glo_ok X G (c.fact 4 (f := VH.faF (.glo "is_name")) rfl)) D_is_name
  have F_check_steps := ok_check_steps (P := P) (w := w) (base := base) fr (He.glo_ok X G (c.fact 5 (f := VH.faF (.glo "check_steps")) rfl)) D_check_steps F_is_name
  have F_check_machine := ok_check_machine (P := P) (w := w) (base := base) fr (He.glo_ok X G (c.fact 6 (f := VH.faF (.glo "check_machine")) rfl)) D_check_machine F_check_steps
  have F_first_reached := ok_first_reached (P := P) (w := w) (base := base) fr (He.glo_ok X G (c.fact 7 (f := VH.faF (.glo "first_reached")) rfl)) D_first_reached
  have F_kinds_of := ok_kinds_of (P := P) (w := w) (base := base) fr (He.glo_ok X G (c.fact 8 (f := VH.faF (.glo "kinds_of")) rfl)) D_kinds_of F_first_reached
  have F_least_table := ok_least_table (P := P) (w := w) (base := base) fr (He.glo_ok X G (c.fact 9 (f := VH.faF (.glo "least_table")) rfl)) D_least_table F_kinds_of F_first_reached
  have F_Machine___init__ := ok_Machine___init__ (P := P) (w := w) (base := base) fr (He.glo_ok X G (c.fact 10 (f := VH.faF (.glo "Machine")) rfl)) (He.mkr_ok (c.fact 11 (f := VH.faF (.mkr "Machine")) rfl)) D_Machine___init__ F_check_machine F_least_table
  have F_law_copied := ok_law_copied (P := P) (w := w) (base := base) fr (He.glo_ok X G (c.fact 12 (f := VH.faF (.glo "_law_copied")) rfl)) D_law_copied
  have F_law_listed := ok_law_listed (P := P) (w := w) (base := base) fr (He.glo_ok X G (c.fact 13 (f := VH.faF (.glo "_law_listed")) rfl)) D_law_listed F_law_spend
  have F_Machine_finals := ok_Machine_finals (P := P) (w := w) (base := base) fr (VH.prop_ok (c.fact 14 (f := VH.propF "Machine" "finals") rfl)) D_Machine_finals
  have F_Machine_states := ok_Machine_states (P := P) (w := w) (base := base) fr (VH.prop_ok (c.fact 15 (f := VH.propF "Machine" "states") rfl)) D_Machine_states
  have F_law_shape_right := ok_law_shape_right (P := P) (w := w) (base := base) fr (He.glo_ok X G (c.fact 16 (f := VH.faF (.glo "_law_shape_right")) rfl)) D_law_shape_right
  have F_Machine___len__ := ok_Machine___len__ (P := P) (w := w) (base := base) fr (He.meth_ok (c.fact 17 (f := VH.faF (.meth "Machine" "__len__")) rfl)) D_Machine___len__
  have F_law_apart := ok_law_apart (P := P) (w := w) (base := base) fr (He.glo_ok X G (c.fact 18 (f := VH.faF (.glo "_law_apart")) rfl)) D_law_apart
  have F_law_alike := ok_law_alike (P := P) (w := w) (base := base) fr (He.glo_ok X G (c.fact 19 (f := VH.faF (.glo "_law_alike")) rfl)) D_law_alike
  exact ok_law (P := P) (w := w) (base := base) fr D_law F_law_purse F_law_names F_law_spend F_law_raw F_Machine___init__ F_law_copied F_law_listed F_Machine_finals F_Machine_states F_law_shape_right F_Machine___len__ F_law_apart F_law_alike
theorem law_sp {P : Program} {w : World} {K : PySem.W.Frag} {mg : Str → Option Value} {H : Hp} {a : Addr} {ns : List Int} {outs : En} (hS : SqL K H a (ns.map V.int)) (h : φ_law [(false, .scr ns)] = .ok (false, .bl true) outs) :
    spV ⟨P, w, K, mg⟩ 1 φ_law [.ref a] H (fun v _ => v = .bl true) fun _ _ _ => False := by
  refine ⟨rfl, H, [(false, .scr ns)], ⟨Same.refl H, rfl, fun i u q => ?_, fun i u q => ?_, fun i j u w a q => ?_⟩, ?_⟩
  · cases i with
    | zero => cases q; exact ⟨_, rfl, by simp only [rep]; exact ⟨a, rfl, hS⟩⟩
    | succ i => cases q
  · cases i with
    | zero => cases q
    | succ i => cases q
  · cases i with
    | zero => cases q
    | succ i => cases q
  · rw [h]
    intro v B' H' g r
    have r : rep ⟨P, w, K, mg⟩ B' (.bl true) v := r
    simpa only [rep] using r
end VS
open PySem PySem.W PySem.Calls PyProof.Rows
theorem PySem.Challenge.cw_seenbars_k04_whole_least_states_holds : PySem.Challenge.rw_seenbars_k04_whole_least_states.Holds := by
  w_on; o_law
  refine HandSHeadRun.head_any (r := OpenLaw.row PySem.Challenge.rw_seenbars_k04_whole_least_states) (q := view (OpenLaw.row PySem.Challenge.rw_seenbars_k04_whole_least_states).prog [32]) (H := VS.hkD) (ob := VS.obD) (M := 3000) (loose := ["_wall", "GateError", "InvalidName", "InvalidStep", "InvalidFinal", "LETTERS", "LONGEST", "is_name", "check_steps", "check_machine", "first_reached", "kinds_of", "least_table", "Machine", "next_state", "state_behind", "row_of", "pair_steps", "reached_pairs", "joined", "_law_purse", "_law_spend", "_law_names", "_law_raw", "_law_copied", "_law_listed", "_law_shape_right", "_law_alike", "_law_apart"]) (d := HandSHeadRun.topDef (OpenLaw.row PySem.Challenge.rw_seenbars_k04_whole_least_states).prog 32) (kwd := []) VS.obD_eq
    (by kernel_rfl) (fun s => by kernel_rfl) VS.runD (by kernel_rfl) (by kernel_rfl) (by kernel_rfl) (by rfl) (by first | assumption | decide +kernel) (by decide +kernel) ⟨rfl, rfl, rfl, rfl, rfl, by decide +kernel⟩ ?hw ?hc
  case hw => w_witness2
  case hc =>
    refine L2.walk_ofE (l := PySem.Challenge.rw_seenbars_k04_whole_least_states) (n := 63) (k := 6) (x := "_law_script") (CX := L2.CX0) rfl (by decide) (by kernel_rfl) ⟨rfl, by decide, by decide⟩ ?F (fun _ _ _ _ z => z)
    intro w mg fa h Y G hmg0
    obtain ⟨K, KX, c⟩ := Y
    have hmg : mg ("law" : PySem.Str) = some (.ref fa) := by
      have e : (HandSHeadRun.topDef (OpenLaw.row PySem.Challenge.rw_seenbars_k04_whole_least_states).prog 32).name = ("law" : PySem.Str) := by kernel_rfl
      rw [← e]
      exact hmg0
    obtain ⟨fd, hb, hF⟩ := VS.factsD (P := (PySem.Challenge.rw_seenbars_k04_whole_least_states).prog) (w := w) KX G hmg c
    exact ⟨K, fd, VS.spL ⟨(PySem.Challenge.rw_seenbars_k04_whole_least_states).prog, w, K, mg⟩ 1 VS.φ_law, KX, hb, fun H a ns hl _ hS => (VS.pure_law ns hl).elim fun outs h => VS.law_sp hS h, fun base _ _ => hF base⟩
