import PyProof.Rows.All
import Wide.All
import OpenK.AllK
import Wide.FinOn
import HandS.ForMost
import HandS.ForExc
import KE.KeyNested
import HandS.Wide
import HandS.Style
import HandS.Star
import HandS.IsInst
import HandS.More
import HandS.Defaults
import HandS.Iter
import HandS.Dict
import HandS.ReCall
import HandS.TupSets
import HandS.SetFor
import HandS.Text
import HandS.SetBool
import HandS.TupLen
import HandS.SlotsOwn
import HandS.Property
import HandS.SortRule
import HandS.ListItems
import HandS.Deep
import HandS.TupAny
import KE.KDictDisplayH
import KE.KEqNest
import HandS.HeadHook2
import HandS.DictComp
import HandS.DictTup
import HandS.Comp
import HandS.Conv
import HandS.SortInts
import KE.GoesEnum
import KE.KRevSl
import PyProof.InstNe
import OpenK.KMore
import HandS.ExcInit
import HandS.ExcField
import HandS.ExcIs
import KE.KExcIs
import KE.KIsAll
import PyProof.NeKinds
import KE.KDictPairs
import HandS.NoneIn
import HandS.Finally
import KE.KDictSum
import HandS.Head0
import HandS.Head1
import HandS.Head2
import HandS.HeadEnd
import HandS.HeadHook1
import PySem.Challenge.RW_seenbars_k19_errors_of_keepers
set_option Elab.async false
set_option linter.all false
set_option maxRecDepth 100000
namespace VS
open PySem L2
inductive U where
  | non | bl (b : Bool) | int (i : Int) | str (x : Str)
  | tup (us : List U) | lst (us : List U) | dct (kvs : List (U × U)) | set (us : List U)
  | ins (c : Str) (fs : List (Str × U))
  | scr (ns : List Int)
  | xc (c : Str) (u : U)
  | tpd (us : List U)
  | adr (a : Addr)
  deriving Inhabited
structure Ga where
  P : Program
  w : World
  K : PySem.W.Frag
  mg : Str → Option Value
def nk : U → NestedKey
  | .bl b => .num (if b then 1 else 0)
  | .int i => .num i
  | .str x => .text x
  | .tup us => .tup (nks us)
  | _ => .none
where nks : List U → List NestedKey
  | [] => []
  | u :: r => nk u :: nks r
def hashU (w : World) (u : U) : Int := (nk u).hash w
structure Xe where
  k : Addr
  h : Int
  v : V
def XeIs (x : Xe) (e : DictEntry) : Prop := e.hash = x.h ∧ e.key = .ref x.k ∧ RelV x.v e.val
def DXs (d : Addr) (xs : List Xe) (h : Heap) : Prop :=
  (xs ≠ [] ∧ xs.length ≤ sizeLine) ∧ (d == sysModules) = false ∧ ∃ o es ep, h.get? d = some o ∧ o.ExactDict ∧ o.data = .dict es ep ∧ Paired XeIs xs es.toList
def DX (d : Addr) (xs : List Xe) : HO := .ext (DXs d xs)
def isK1 : U → Bool
  | .int _ => true
  | .str _ => true
  | _ => false
def kd (p : U → Bool) : Nat → U → Bool
  | 0, .tup _ => false
  | n + 1, .tup us => us.all (kd p n)
  | _, u => p u
def lfA : U → Bool
  | .non => true
  | .bl _ => true
  | .int _ => true
  | .str _ => true
  | _ => false
def lfI : U → Bool
  | .non => true
  | .int _ => true
  | .str _ => true
  | _ => false
def lfB : U → Bool
  | .non => true
  | .bl _ => true
  | .str _ => true
  | _ => false
def isKx : U → Bool
  | .tup us => us.all (kd lfA 7)
  | _ => false
def cmpU (a b : U) : Bool := (kd lfI 8 a && kd lfI 8 b) || (kd lfB 8 a && kd lfB 8 b)
def fzO (o : Obj) : HO → HO
  | .dK es => .frz o (.dK es)
  | .ext φ => .frz o (.ext φ)
  | h => h
def XOs (a C d : Addr) (h : Heap) : Prop := ∃ o fs, h.get? a = some o ∧ o.cls = .ref C ∧ o.dict = some d ∧ o.data = .fields fs
def XO (a C d : Addr) : HO := .ext (XOs a C d)
mutual
def rep (Γ : Ga) (B : Hp) : U → V → Prop
  | .non, v => v = .non
  | .bl b, v => v = .bl b
  | .int i, v => v = .int i
  | .str x, v => v = .str x
  | .tup us, v => ∃ a vs, v = .ref a ∧ SqT Γ.K B a vs ∧ reps Γ B us vs
  | .lst us, v => ∃ a vs, v = .ref a ∧ B a = some (.lst vs) ∧ reps Γ B us vs
  | .scr ns, v => ∃ a, v = .ref a ∧ SqL Γ.K B a (ns.map V.int)
  | .dct kvs, v => ∃ a, v = .ref a ∧ ((∃ o es, B a = some (.frz o (.dK es)) ∧ repd Γ B kvs es) ∨ ∃ o xs, B a = some (.frz o (DX a xs)) ∧ repx Γ B kvs xs)
  | .set us, v => False
  | .xc c u, v => ∃ a C d w, v = .ref a ∧ Γ.mg c = some (.ref C) ∧ B a = some (XO a C d) ∧ B d = some (.xd [("value", w)]) ∧ rep Γ B u w
  | .adr a, v => v = .ref a
  | .tpd us, v => ∃ a o vs, v = .ref a ∧ o.dict = none ∧ B a = some (.frz o (.tup vs)) ∧ reps Γ B us vs
  | .ins c fs, v => ∃ a C dx gs, v = .ref a ∧ Γ.mg c = some (.ref C) ∧ B a = some (.ins C dx gs) ∧ repf Γ B fs gs
def reps (Γ : Ga) (B : Hp) : List U → List V → Prop
  | [], vs => vs = []
  | u :: us, vs => ∃ v r, vs = v :: r ∧ rep Γ B u v ∧ reps Γ B us r
def repd (Γ : Ga) (B : Hp) : List (U × U) → List (Key × V) → Prop
  | [], vs => vs = []
  | (k, u) :: us, vs => ∃ l v r, vs = (l, v) :: r ∧ rep Γ B k (kV l) ∧ rep Γ B u v ∧ repd Γ B us r
def repx (Γ : Ga) (B : Hp) : List (U × U) → List Xe → Prop
  | [], vs => vs = []
  | (k, u) :: us, vs => ∃ a v r, vs = ⟨a, hashU Γ.w k, v⟩ :: r ∧ (isKx k = true ∧ ∀ p ∈ us, p.1 ≠ k ∧ cmpU p.1 k = true) ∧ rep Γ B k (.ref a) ∧ rep Γ B u v ∧ repx Γ B us r
def repf (Γ : Ga) (B : Hp) : List (Str × U) → List (Str × V) → Prop
  | [], vs => vs = []
  | (k, u) :: us, vs => ∃ v r, vs = (k, v) :: r ∧ rep Γ B u v ∧ repf Γ B us r
end
theorem sqL_same {K : PySem.W.Frag} {B B' : Hp} {a : Addr} {xs : List V} (h : Same B B') (s : SqL K B a xs) : SqL K B' a xs := h.seq s
theorem sqT_same {K : PySem.W.Frag} {B B' : Hp} {a : Addr} {xs : List V} (e : Same B B') (s : SqT K B a xs) : SqT K B' a xs := by
  rcases s with (h | ⟨o, h⟩) | h
  · exact .inl (.inl (e _ _ h))
  · exact .inl (.inr ⟨o, e _ _ h⟩)
  · exact .inr h
mutual
theorem rep.mono {Γ : Ga} {B B' : Hp} (h : Same B B') : ∀ {u : U} {v : V}, rep Γ B u v → rep Γ B' u v
  | .non, _, r => r
  | .bl _, _, r => r
  | .int _, _, r => r
  | .str _, _, r => r
  | .tup us, v, r => by
    simp only [rep] at r ⊢
    obtain ⟨a, vs, e, s, q⟩ := r
    exact ⟨a, vs, e, sqT_same h s, reps.mono h q⟩
  | .lst us, v, r => by
    simp only [rep] at r ⊢
    obtain ⟨a, vs, e, s, q⟩ := r
    exact ⟨a, vs, e, h _ _ s, reps.mono h q⟩
  | .scr ns, v, r => by
    simp only [rep] at r ⊢
    obtain ⟨a, e, s⟩ := r
    exact ⟨a, e, sqL_same h s⟩
  | .dct kvs, v, r => by
    simp only [rep] at r ⊢
    obtain ⟨a, e, s⟩ := r
    refine ⟨a, e, ?_⟩
    rcases s with ⟨o, es, s, q⟩ | ⟨o, es, s, q⟩
    · exact .inl ⟨o, es, h _ _ s, repd.mono h q⟩
    · exact .inr ⟨o, es, h _ _ s, repx.mono h q⟩
  | .set us, v, r => by simp only [rep] at r
  | .xc c u, v, r => by
    simp only [rep] at r ⊢
    obtain ⟨a, C, d, w, e, m, s, t, q⟩ := r
    exact ⟨a, C, d, w, e, m, h _ _ s, h _ _ t, rep.mono h q⟩
  | .adr _, _, r => r
  | .tpd us, v, r => by
    simp only [rep] at r ⊢
    obtain ⟨a, o, vs, e, z, s, q⟩ := r
    exact ⟨a, o, vs, e, z, h _ _ s, reps.mono h q⟩
  | .ins c fs, v, r => by
    simp only [rep] at r ⊢
    obtain ⟨a, C, dx, gs, e, m, s, q⟩ := r
    exact ⟨a, C, dx, gs, e, m, h _ _ s, repf.mono h q⟩
theorem reps.mono {Γ : Ga} {B B' : Hp} (h : Same B B') : ∀ {us : List U} {vs : List V}, reps Γ B us vs → reps Γ B' us vs
  | [], _, r => r
  | u :: us, vs, r => by
    simp only [reps] at r ⊢
    obtain ⟨v, t, e, r1, r2⟩ := r
    exact ⟨v, t, e, rep.mono h r1, reps.mono h r2⟩
theorem repd.mono {Γ : Ga} {B B' : Hp} (h : Same B B') : ∀ {us : List (U × U)} {vs : List (Key × V)}, repd Γ B us vs → repd Γ B' us vs
  | [], _, r => r
  | (k, u) :: us, vs, r => by
    simp only [repd] at r ⊢
    obtain ⟨l, v, t, e, r0, r1, r2⟩ := r
    exact ⟨l, v, t, e, rep.mono h r0, rep.mono h r1, repd.mono h r2⟩
theorem repx.mono {Γ : Ga} {B B' : Hp} (h : Same B B') : ∀ {us : List (U × U)} {vs : List Xe}, repx Γ B us vs → repx Γ B' us vs
  | [], _, r => r
  | (k, u) :: us, vs, r => by
    simp only [repx] at r ⊢
    obtain ⟨l, v, t, e, z, r0, r1, r2⟩ := r
    exact ⟨l, v, t, e, z, rep.mono h r0, rep.mono h r1, repx.mono h r2⟩
theorem repf.mono {Γ : Ga} {B B' : Hp} (h : Same B B') : ∀ {us : List (Str × U)} {vs : List (Str × V)}, repf Γ B us vs → repf Γ B' us vs
  | [], _, r => r
  | (k, u) :: us, vs, r => by
    simp only [repf] at r ⊢
    obtain ⟨v, t, e, r1, r2⟩ := r
    exact ⟨v, t, e, rep.mono h r1, repf.mono h r2⟩
end
def nod (Γ : Ga) (B : Hp) (a : Addr) : U → HO → Prop
  | .lst us, ho => ∃ vs, ho = .lst vs ∧ reps Γ B us vs
  | .dct kvs, ho => (∃ es, ho = .dK es ∧ repd Γ B kvs es) ∨ ∃ xs, ho = DX a xs ∧ repx Γ B kvs xs
  | .ins c fs, ho => ∃ C dx gs, ho = .ins C dx gs ∧ Γ.mg c = some (.ref C) ∧ repf Γ B fs gs
  | _, _ => False
theorem nod.mono {Γ : Ga} {B B' : Hp} {a : Addr} (h : Same B B') : ∀ {u : U} {ho : HO}, nod Γ B a u ho → nod Γ B' a u ho
  | .lst us, _, ⟨vs, e, r⟩ => ⟨vs, e, r.mono h⟩
  | .dct kvs, _, .inl ⟨es, e, r⟩ => .inl ⟨es, e, r.mono h⟩
  | .dct kvs, _, .inr ⟨es, e, r⟩ => .inr ⟨es, e, r.mono h⟩
  | .ins c fs, _, ⟨C, dx, gs, e, m, r⟩ => ⟨C, dx, gs, e, m, r.mono h⟩
theorem nod.rep {Γ : Ga} {B : Hp} {a : Addr} {od : Obj} : ∀ {u : U} {ho : HO}, nod Γ B a u ho → B a = some (fzO od ho) → rep Γ B u (.ref a)
  | .lst us, _, ⟨vs, e, r⟩, h => by
    simp only [VS.rep]
    subst e
    exact ⟨a, vs, rfl, h, r⟩
  | .dct kvs, _, .inl ⟨es, e, r⟩, h => by
    simp only [VS.rep]
    subst e
    exact ⟨a, rfl, .inl ⟨od, es, h, r⟩⟩
  | .dct kvs, _, .inr ⟨es, e, r⟩, h => by
    simp only [VS.rep]
    subst e
    exact ⟨a, rfl, .inr ⟨od, es, h, r⟩⟩
  | .ins c fs, _, ⟨C, dx, gs, e, m, r⟩, h => by
    simp only [VS.rep]
    subst e
    exact ⟨a, C, dx, gs, rfl, m, h, r⟩
theorem nod.mut {Γ : Ga} {B : Hp} {a : Addr} : ∀ {u : U} {ho : HO}, nod Γ B a u ho → Mut (some ho)
  | .lst us, _, ⟨vs, e, r⟩ => by subst e; trivial
  | .dct kvs, _, .inl ⟨es, e, r⟩ => by subst e; trivial
  | .dct kvs, _, .inr ⟨es, e, r⟩ => by subst e; trivial
  | .ins c fs, _, ⟨C, dx, gs, e, m, r⟩ => by subst e; trivial
abbrev Sl := Option (Bool × U)
abbrev En := List Sl
def own (e : En) (σ : St) (a : Addr) : Prop := ∃ (i : Nat) (u : U), e[i]? = some (some (true, u)) ∧ σ[i]? = some (some (.ref a))
structure SR (Γ : Ga) (B H : Hp) (e : En) (σ : St) : Prop where
  bh : Same B H
  ln : e.length = σ.length
  vl : ∀ (i : Nat) (u : U), e[i]? = some (some (false, u)) → ∃ v, σ[i]? = some (some v) ∧ rep Γ B u v
  ow : ∀ (i : Nat) (u : U), e[i]? = some (some (true, u)) → ∃ a ho, σ[i]? = some (some (.ref a)) ∧ H a = some ho ∧ nod Γ B a u ho ∧ B a = none
  ds : ∀ (i j : Nat) (u w : U) (a : Addr), e[i]? = some (some (true, u)) → e[j]? = some (some (true, w)) → σ[i]? = some (some (.ref a)) → σ[j]? = some (some (.ref a)) → i = j
structure Stp (B H : Hp) (F : Addr → Prop) (B' H' : Hp) : Prop where
  bb : Same B B'
  fr : ∀ a o, H a = some o → ¬ F a → H' a = some o
  nb : ∀ a o, H a = some o → ¬ F a → B a = none → B' a = none
structure Go (Γ : Ga) (B H : Hp) (e : En) (σ : St) (B' H' : Hp) (e' : En) (σ' : St) : Prop where
  st : Stp B H (own e σ) B' H'
  sr : SR Γ B' H' e' σ'
  sub : ∀ a, own e' σ' a → own e σ a ∨ H a = none
theorem SR.own_some {Γ : Ga} {B H : Hp} {e : En} {σ : St} (s : SR Γ B H e σ) {a : Addr} (h : own e σ a) : (∃ o, H a = some o) ∧ B a = none := by
  obtain ⟨i, u, h1, h2⟩ := h
  obtain ⟨b, ho, h3, h4, _, h6⟩ := s.ow i u h1
  rw [h2] at h3
  cases h3
  exact ⟨⟨ho, h4⟩, h6⟩
theorem Go.refl {Γ : Ga} {B H : Hp} {e : En} {σ : St} (s : SR Γ B H e σ) : Go Γ B H e σ B H e σ :=
  ⟨⟨Same.refl _, fun _ _ h _ => h, fun _ _ _ _ h => h⟩, s, fun _ h => .inl h⟩
theorem Go.trans {Γ : Ga} {B H B1 H1 B2 H2 : Hp} {e e1 e2 : En} {σ σ1 σ2 : St} (g : Go Γ B H e σ B1 H1 e1 σ1) (k : Go Γ B1 H1 e1 σ1 B2 H2 e2 σ2) : Go Γ B H e σ B2 H2 e2 σ2 := by
  have no : ∀ a o, H a = some o → ¬ own e σ a → ¬ own e1 σ1 a := fun a o h n z => by
    rcases g.sub a z with q | q
    · exact n q
    · rw [h] at q; cases q
  refine ⟨⟨g.st.bb.trans k.st.bb, fun a o h n => k.st.fr a o (g.st.fr a o h n) (no a o h n), fun a o h n b => k.st.nb a o (g.st.fr a o h n) (no a o h n) (g.st.nb a o h n b)⟩, k.sr, fun a z => ?_⟩
  rcases k.sub a z with q | q
  · exact g.sub a q
  · by_cases o : own e σ a
    · exact .inl o
    · right
      cases h : H a with
      | none => rfl
      | some x => rw [g.st.fr a x h o] at q; cases q
inductive R (α : Type) where
  | ok (a : α) (e : En)
  | exc (c : Str) (u : U) (e : En)
  | bad
abbrev M (α : Type) := En → R α
def M.ret {α : Type} (a : α) : M α := fun e => .ok a e
def M.bd {α β : Type} (m : M α) (k : α → M β) : M β := fun e => match m e with
  | .ok a e' => k a e'
  | .exc c u e' => .exc c u e'
  | .bad => .bad
abbrev WXX := Value → Option Addr → St → Hp → Prop
def exrep (Γ : Ga) (S : Addr → Prop) (B H : Hp) (c : Str) (u : U) (cls : Value) (d : Option Addr) : Prop :=
  ∃ C a v, cls = .ref C ∧ Γ.mg c = some (.ref C) ∧ d = some a ∧ H a = some (.xd [("value", v)]) ∧ rep Γ B u v ∧ S a ∧ B a = none
theorem exrep.mono {Γ : Ga} {S S' : Addr → Prop} {B H : Hp} {c : Str} {u : U} {cls : Value} {d : Option Addr} (hs : ∀ x, S x → S' x) (h : exrep Γ S B H c u cls d) : exrep Γ S' B H c u cls d := by
  obtain ⟨C, a, v, h1, h2, h3, h4, h5, h6, h7⟩ := h
  exact ⟨C, a, v, h1, h2, h3, h4, h5, hs a h6, h7⟩
structure Rl (α β : Type) where
  r : α → β → (Addr → Prop) → Hp → Hp → En → St → Prop
  mono : ∀ {a b S S' B H e σ}, (∀ x, S x → S' x) → r a b S B H e σ → r a b S' B H e σ
def may (H : Hp) (e : En) (σ : St) (a : Addr) : Prop := own e σ a ∨ H a = none
theorem Go.may {Γ : Ga} {B H B1 H1 : Hp} {e e1 : En} {σ σ1 : St} (g : Go Γ B H e σ B1 H1 e1 σ1) : ∀ x, VS.may H1 e1 σ1 x → VS.may H e σ x := fun a z => by
  rcases z with q | q
  · exact g.sub a q
  · by_cases o : own e σ a
    · exact .inl o
    · right
      cases h : H a with
      | none => rfl
      | some x => rw [g.st.fr a x h o] at q; cases q
def tAt {α β : Type} (Γ : Ga) (W : WXX) (rl : Rl α β) (m : M α) (B H : Hp) (e : En) (σ : St) (Q : β → Hp → Prop) : Prop := match m e with
  | .ok a e' => ∀ b B' H', Go Γ B H e σ B' H' e' σ → rl.r a b (may H e σ) B' H' e' σ → Q b H'
  | .exc c u e' => ∀ cls d B' H', Go Γ B H e σ B' H' e' σ → exrep Γ (may H e σ) B' H' c u cls d → W cls d σ H'
  | .bad => False
def tG {α β : Type} (Γ : Ga) (W : WXX) (rl : Rl α β) (m : M α) : St → Hp → (β → Hp → Prop) → Prop := fun σ H Q => ∃ B e, SR Γ B H e σ ∧ tAt Γ W rl m B H e σ Q
theorem tAt.mono {α β : Type} {Γ : Ga} {W : WXX} {rl : Rl α β} {m : M α} {B H : Hp} {e : En} {σ : St} {Q Q' : β → Hp → Prop} (h : tAt Γ W rl m B H e σ Q) (k : ∀ b H', Q b H' → Q' b H') : tAt Γ W rl m B H e σ Q' := by
  unfold tAt at *
  cases q : m e with
  | bad => rw [q] at h; exact h
  | exc c u e' => rw [q] at h; exact h
  | ok a e' => rw [q] at h; exact fun b B' H' g r => k _ _ (h b B' H' g r)
theorem tAt.bd {α β γ δ : Type} {Γ : Ga} {W : WXX} {rl : Rl α β} {rl2 : Rl γ δ} {m : M α} {k : α → M γ} {B H : Hp} {e : En} {σ : St} {Q : δ → Hp → Prop} (h : tAt Γ W rl2 (m.bd k) B H e σ Q) :
    tAt Γ W rl m B H e σ fun b H1 => ∃ B1 e1 a, Go Γ B H e σ B1 H1 e1 σ ∧ rl.r a b (may H e σ) B1 H1 e1 σ ∧ tAt Γ W rl2 (k a) B1 H1 e1 σ Q := by
  unfold tAt M.bd at *
  cases q : m e with
  | bad => rw [q] at h; exact h
  | exc c u e' => rw [q] at h; exact h
  | ok a e' =>
    rw [q] at h
    refine fun b B' H' g r => ⟨B', e', a, g, r, ?_⟩
    dsimp only at h
    cases q2 : k a e' with
    | bad => rw [q2] at h; exact h
    | exc c u e2 => rw [q2] at h; exact fun cls d B2 H2 g2 x => h cls d B2 H2 (g.trans g2) (x.mono g.may)
    | ok c e2 => rw [q2] at h; exact fun b B2 H2 g2 x => h b B2 H2 (g.trans g2) (rl2.mono g.may x)
end VS
set_option Elab.async false
set_option linter.all false
set_option maxRecDepth 100000
namespace VS
open PySem L2
def ga (X : Cx) : Ga := ⟨X.prog, X.w, X.K, X.mg⟩
inductive Od where
  | sl (i : Nat)
  | vl (u : U)
def rdO (e : En) : Od → Option U
  | .sl i => match e[i]? with
    | some (some (_, u)) => some u
    | _ => none
  | .vl u => some u
def rlV (Γ : Ga) : Rl U V := ⟨fun u v _ B _ _ _ => rep Γ B u v, fun _ h => h⟩
def rlR (Γ : Ga) : Rl Od V := ⟨fun od v _ B _ e σ => match od with
  | .sl i => σ[i]? = some (some v)
  | .vl u => rep Γ B u v, fun _ h => h⟩
def Fresh (Γ : Ga) (S : Addr → Prop) (B H : Hp) (e : En) (σ : St) (u : U) (v : V) : Prop :=
  ∃ a ho, v = .ref a ∧ H a = some ho ∧ nod Γ B a u ho ∧ B a = none ∧ ¬ own e σ a ∧ S a
def rlO (Γ : Ga) : Rl (Bool × U) V := ⟨fun r v S B H e σ => match r with
  | (false, u) => rep Γ B u v
  | (true, u) => Fresh Γ S B H e σ u v, fun {r v S S' B H e σ} hs h => by
    obtain ⟨o, u⟩ := r
    cases o with
    | false => exact h
    | true =>
      obtain ⟨a, ho, h1, h2, h3, h4, h5, h6⟩ := h
      exact ⟨a, ho, h1, h2, h3, h4, h5, hs a h6⟩⟩
def rlB : Rl Bool Bool := ⟨fun a b _ _ _ _ _ => a = b, fun _ h => h⟩
def rlVs (Γ : Ga) : Rl (List U) (List V) := ⟨fun us vs _ B _ _ _ => reps Γ B us vs, fun _ h => h⟩
def Vw (Γ : Ga) (B H : Hp) (u : U) (v : V) : Prop := rep Γ B u v ∨ ∃ a ho, v = .ref a ∧ H a = some ho ∧ nod Γ B a u ho
section
variable {Γ : Ga} {B H : Hp} {e : En} {σ : St} {v : V}
theorem rlR.vw {od : Od} {S : Addr → Prop} {u : U} (s : SR Γ B H e σ) (h : (rlR Γ).r od v S B H e σ) (q : rdO e od = some u) : Vw Γ B H u v := by
  cases od with
  | vl w =>
    injection q with q
    subst q
    exact .inl h
  | sl i =>
    have h1 : σ[i]? = some (some v) := h
    unfold rdO at q
    dsimp only at q
    split at q
    · rename_i o w h2
      injection q with q
      subst q
      cases o with
      | false =>
        obtain ⟨v', h3, h4⟩ := s.vl i w h2
        rw [h1] at h3
        cases h3
        exact .inl h4
      | true =>
        obtain ⟨a, ho, h3, h4, h5, h6⟩ := s.ow i w h2
        rw [h1] at h3
        cases h3
        exact .inr ⟨a, ho, rfl, h4, h5⟩
    · cases q
theorem rlR.keep {od : Od} {S S' : Addr → Prop} {B' H' : Hp} {e' : En} (h : (rlR Γ).r od v S B H e σ) (g : Go Γ B H e σ B' H' e' σ) : (rlR Γ).r od v S' B' H' e' σ := by
  cases od with
  | vl w => exact rep.mono g.st.bb h
  | sl i => exact h
theorem Vw.int {i : Int} (h : Vw Γ B H (.int i) v) : v = .int i := by
  rcases h with h | ⟨a, ho, _, _, h⟩
  · simpa only [rep] using h
  · exact h.elim
theorem Vw.bl {i : Bool} (h : Vw Γ B H (.bl i) v) : v = .bl i := by
  rcases h with h | ⟨a, ho, _, _, h⟩
  · simpa only [rep] using h
  · exact h.elim
theorem Vw.str {i : Str} (h : Vw Γ B H (.str i) v) : v = .str i := by
  rcases h with h | ⟨a, ho, _, _, h⟩
  · simpa only [rep] using h
  · exact h.elim
theorem Vw.non (h : Vw Γ B H .non v) : v = .non := by
  rcases h with h | ⟨a, ho, _, _, h⟩
  · simpa only [rep] using h
  · exact h.elim
theorem Vw.lst {us : List U} (s : Same B H) (h : Vw Γ B H (.lst us) v) : ∃ a vs, v = .ref a ∧ H a = some (.lst vs) ∧ reps Γ B us vs := by
  rcases h with h | ⟨a, ho, e, h, vs, e2, r⟩
  · simp only [rep] at h
    obtain ⟨a, vs, e, q, r⟩ := h
    exact ⟨a, vs, e, s _ _ q, r⟩
  · subst e2
    exact ⟨a, vs, e, h, r⟩
theorem Vw.scr {ns : List Int} (s : Same B H) (h : Vw Γ B H (.scr ns) v) : ∃ a, v = .ref a ∧ SqL Γ.K H a (ns.map V.int) := by
  rcases h with h | ⟨a, ho, e, h, n⟩
  · simp only [rep] at h
    obtain ⟨a, e, q⟩ := h
    exact ⟨a, e, sqL_same s q⟩
  · exact n.elim
theorem Vw.tup {us : List U} (s : Same B H) (h : Vw Γ B H (.tup us) v) : ∃ a vs, v = .ref a ∧ SqT Γ.K H a vs ∧ reps Γ B us vs := by
  rcases h with h | ⟨a, ho, e, h, n⟩
  · simp only [rep] at h
    obtain ⟨a, vs, e, q, r⟩ := h
    exact ⟨a, vs, e, sqT_same s q, r⟩
  · exact n.elim
theorem Vw.dct {kvs : List (U × U)} (s : Same B H) (h : Vw Γ B H (.dct kvs) v) : ∃ a, v = .ref a ∧ ((∃ es, Rd H a (.dK es) ∧ repd Γ B kvs es) ∨ ∃ xs, Rd H a (DX a xs) ∧ repx Γ B kvs xs) := by
  rcases h with h | ⟨a, ho, e, h, n⟩
  · simp only [rep] at h
    obtain ⟨a, e, q⟩ := h
    refine ⟨a, e, ?_⟩
    rcases q with ⟨o, es, q, r⟩ | ⟨o, es, q, r⟩
    · exact .inl ⟨es, .inr ⟨o, s _ _ q⟩, r⟩
    · exact .inr ⟨es, .inr ⟨o, s _ _ q⟩, r⟩
  · refine ⟨a, e, ?_⟩
    rcases n with ⟨es, q, r⟩ | ⟨es, q, r⟩
    · subst q
      exact .inl ⟨es, .inl h, r⟩
    · subst q
      exact .inr ⟨es, .inl h, r⟩
theorem Vw.ins {c : Str} {fs : List (Str × U)} (s : Same B H) (h : Vw Γ B H (.ins c fs) v) : ∃ a C dx gs, v = .ref a ∧ Γ.mg c = some (.ref C) ∧ H a = some (.ins C dx gs) ∧ repf Γ B fs gs := by
  rcases h with h | ⟨a, ho, e, h, C, dx, gs, e2, m, r⟩
  · simp only [rep] at h
    obtain ⟨a, C, dx, gs, e, m, q, r⟩ := h
    exact ⟨a, C, dx, gs, e, m, s _ _ q, r⟩
  · subst e2
    exact ⟨a, C, dx, gs, e, m, h, r⟩
theorem reps.length : ∀ {us : List U} {vs : List V}, reps Γ B us vs → us.length = vs.length
  | [], _, h => by simp only [reps] at h; subst h; rfl
  | u :: us, _, h => by
    simp only [reps] at h
    obtain ⟨v, r, e, _, q⟩ := h
    subst e
    simp [reps.length q]
theorem reps.get : ∀ {us : List U} {vs : List V} {i : Nat} {u : U}, reps Γ B us vs → us[i]? = some u → ∃ v, vs[i]? = some v ∧ rep Γ B u v
  | [], _, _, _, _, h => by simp at h
  | u :: us, _, i, w, h, q => by
    simp only [reps] at h
    obtain ⟨v, r, e, r1, r2⟩ := h
    subst e
    cases i with
    | zero =>
      simp at q
      subst q
      exact ⟨v, rfl, r1⟩
    | succ i => simpa using reps.get (i := i) r2 (by simpa using q)
theorem reps.append : ∀ {us us' : List U} {vs vs' : List V}, reps Γ B us vs → reps Γ B us' vs' → reps Γ B (us ++ us') (vs ++ vs')
  | [], _, _, _, h, k => by simp only [reps] at h; subst h; exact k
  | u :: us, _, _, _, h, k => by
    simp only [reps] at h
    obtain ⟨v, r, e, r1, r2⟩ := h
    subst e
    simp only [List.cons_append, reps]
    exact ⟨v, _, rfl, r1, reps.append r2 k⟩
theorem reps.snoc {us : List U} {vs : List V} {u : U} {v : V} (h : reps Γ B us vs) (k : rep Γ B u v) : reps Γ B (us ++ [u]) (vs ++ [v]) := h.append (by simp only [reps]; exact ⟨v, [], rfl, k, rfl⟩)
theorem reps.cons' {us : List U} {vs : List V} {u : U} {v : V} (k : rep Γ B u v) (h : reps Γ B us vs) : reps Γ B (u :: us) (v :: vs) := by simp only [reps]; exact ⟨v, vs, rfl, k, h⟩
theorem reps.nil' : reps Γ B [] [] := by simp only [reps]
theorem reps.drop : ∀ (n : Nat) {us : List U} {vs : List V}, reps Γ B us vs → reps Γ B (us.drop n) (vs.drop n)
  | 0, _, _, h => h
  | n + 1, [], _, h => by simp only [reps] at h; subst h; simp [reps]
  | n + 1, u :: us, _, h => by
    simp only [reps] at h
    obtain ⟨v, r, e, r1, r2⟩ := h
    subst e
    exact reps.drop n r2
theorem reps.take : ∀ (n : Nat) {us : List U} {vs : List V}, reps Γ B us vs → reps Γ B (us.take n) (vs.take n)
  | 0, _, _, h => by simp [reps]
  | n + 1, [], _, h => by simp only [reps] at h; subst h; simp [reps]
  | n + 1, u :: us, _, h => by
    simp only [reps] at h
    obtain ⟨v, r, e, r1, r2⟩ := h
    subst e
    simp only [List.take_succ_cons, reps]
    exact ⟨v, _, rfl, r1, reps.take n r2⟩
theorem reps.reverse : ∀ {us : List U} {vs : List V}, reps Γ B us vs → reps Γ B us.reverse vs.reverse
  | [], _, h => by simp only [reps] at h; subst h; simp [reps]
  | u :: us, _, h => by
    simp only [reps] at h
    obtain ⟨v, r, e, r1, r2⟩ := h
    subst e
    rw [List.reverse_cons, List.reverse_cons]
    exact reps.snoc (reps.reverse r2) r1
theorem reps.set : ∀ (i : Nat) {us : List U} {vs : List V} {u : U} {v : V}, reps Γ B us vs → rep Γ B u v → reps Γ B (us.set i u) (vs.set i v)
  | _, [], _, _, _, h, k => by simp only [reps] at h; subst h; simp [reps]
  | 0, _ :: us, _, u, v, h, k => by
    simp only [reps] at h
    obtain ⟨v', r, e, r1, r2⟩ := h
    subst e
    simp only [List.set_cons_zero, reps]
    exact ⟨v, r, rfl, k, r2⟩
  | i + 1, _ :: us, _, u, v, h, k => by
    simp only [reps] at h
    obtain ⟨v', r, e, r1, r2⟩ := h
    subst e
    simp only [List.set_cons_succ, reps]
    exact ⟨v', _, rfl, r1, reps.set i r2 k⟩
theorem reps.nat (ns : List Int) : ∀ {vs : List V}, reps Γ B (ns.map U.int) vs ↔ vs = ns.map V.int := by
  induction ns with
  | nil => intro vs; simp [reps]
  | cons n ns ih =>
    intro vs
    simp only [List.map_cons, reps, rep, ih]
    constructor
    · rintro ⟨v, r, rfl, rfl, rfl⟩; rfl
    · rintro rfl; exact ⟨_, _, rfl, rfl, rfl⟩
theorem reps.strs (ns : List Str) : ∀ {vs : List V}, reps Γ B (ns.map U.str) vs ↔ vs = ns.map V.str := by
  induction ns with
  | nil => intro vs; simp [reps]
  | cons n ns ih =>
    intro vs
    simp only [List.map_cons, reps, rep, ih]
    constructor
    · rintro ⟨v, r, rfl, rfl, rfl⟩; rfl
    · rintro rfl; exact ⟨_, _, rfl, rfl, rfl⟩
theorem reps.bls (ns : List Bool) : ∀ {vs : List V}, reps Γ B (ns.map U.bl) vs ↔ vs = ns.map V.bl := by
  induction ns with
  | nil => intro vs; simp [reps]
  | cons n ns ih =>
    intro vs
    simp only [List.map_cons, reps, rep, ih]
    constructor
    · rintro ⟨v, r, rfl, rfl, rfl⟩; rfl
    · rintro rfl; exact ⟨_, _, rfl, rfl, rfl⟩
theorem SR.none_of (s : SR Γ B H e σ) {p : Addr} (h : H p = none) : B p = none := s.bh.free h
theorem SR.not_own (s : SR Γ B H e σ) {p : Addr} (h : H p = none) : ¬ own e σ p := fun z => by
  obtain ⟨⟨o, q⟩, _⟩ := s.own_some z
  rw [h] at q; cases q
theorem same_upd {H : Hp} {p : Addr} {o : HO} (h : H p = none) : Same H (upd H p o) := fun a u q => by rw [upd_ne (ne_of_none q h)]; exact q
theorem same_upd2 {B H : Hp} {p : Addr} {o : HO} (s : Same B H) (h : B p = none) : Same B (upd H p o) := fun a u q => by
  rw [upd_ne (ne_of_none q h)]; exact s _ _ q
theorem Go.alloc (s : SR Γ B H e σ) {p : Addr} {o : HO} (h : H p = none) : Go Γ B H e σ B (upd H p o) e σ := by
  refine ⟨⟨Same.refl _, fun a u q _ => ?_, fun a u q _ b => b⟩, ⟨s.bh.trans (same_upd h), s.ln, s.vl, fun i u q => ?_, s.ds⟩, fun a z => .inl z⟩
  · rw [upd_ne (ne_of_none q h)]; exact q
  · obtain ⟨a, ho, h1, h2, h3, h4⟩ := s.ow i u q
    exact ⟨a, ho, h1, by rw [upd_ne (ne_of_none h2 h)]; exact h2, h3, h4⟩
theorem Go.allocB (s : SR Γ B H e σ) {p : Addr} {o : HO} (h : H p = none) : Go Γ B H e σ (upd B p o) (upd H p o) e σ := by
  have bp := s.none_of h
  refine ⟨⟨same_upd bp, fun a u q _ => ?_, fun a u q _ b => ?_⟩, ⟨fun a u q => ?_, s.ln, fun i u q => ?_, fun i u q => ?_, s.ds⟩, fun a z => .inl z⟩
  · rw [upd_ne (ne_of_none q h)]; exact q
  · rw [upd_ne (ne_of_none q h)]; exact b
  · by_cases z : a = p
    · subst z; rw [upd_same] at q ⊢; exact q
    · rw [upd_ne z] at q ⊢; exact s.bh _ _ q
  · obtain ⟨v, h1, h2⟩ := s.vl i u q
    exact ⟨v, h1, h2.mono (same_upd bp)⟩
  · obtain ⟨a, ho, h1, h2, h3, h4⟩ := s.ow i u q
    have n := ne_of_none h2 h
    exact ⟨a, ho, h1, by rw [upd_ne n]; exact h2, h3.mono (same_upd bp), by rw [upd_ne n]; exact h4⟩
theorem same_upd3 {B H : Hp} {p : Addr} {o : HO} (s : Same B H) : Same (upd B p o) (upd H p o) := fun a u q => by
  by_cases z : a = p
  · subst z; rw [upd_same] at q ⊢; exact q
  · rw [upd_ne z] at q ⊢; exact s _ _ q
theorem Go.stayNew (s : SR Γ B H e σ) {p : Addr} {o : HO} (h : H p = some o) (n : ¬ own e σ p) (bp : B p = none) {B0 H0 : Hp} {e0 : En} {σ0 : St} (g : Go Γ B0 H0 e0 σ0 B H e σ) (m : VS.may H0 e0 σ0 p) (o' : HO) :
    Go Γ B0 H0 e0 σ0 (upd B p o') (upd H p o') e σ := by
  have np : ∀ a u, H0 a = some u → ¬ own e0 σ0 a → a ≠ p := fun a u q z w => by
    subst w
    rcases m with m | m
    · exact z m
    · rw [q] at m; cases m
  refine ⟨⟨g.st.bb.trans (same_upd bp), fun a u q z => ?_, fun a u q z b => ?_⟩, ⟨same_upd3 s.bh, s.ln, fun i u q => ?_, fun i u q => ?_, s.ds⟩, g.sub⟩
  · rw [upd_ne (np a u q z)]
    exact g.st.fr a u q z
  · rw [upd_ne (np a u q z)]
    exact g.st.nb a u q z b
  · obtain ⟨v, h1, h2⟩ := s.vl i u q
    exact ⟨v, h1, h2.mono (same_upd bp)⟩
  · obtain ⟨a, ho, h1, h2, h3, h4⟩ := s.ow i u q
    have na : a ≠ p := fun w => n ⟨i, u, q, by rw [h1, w]⟩
    exact ⟨a, ho, h1, by rw [upd_ne na]; exact h2, h3.mono (same_upd bp), by rw [upd_ne na]; exact h4⟩
theorem own_set_false {i : Nat} {u : U} {a : Addr} (h : own (e.set i (some (false, u))) σ a) : own e σ a := by
  obtain ⟨j, w, h1, h2⟩ := h
  rw [List.getElem?_set] at h1
  split at h1
  · split at h1
    · cases h1
    · cases h1
  · exact ⟨j, w, h1, h2⟩
theorem Go.freeze (s : SR Γ B H e σ) {i : Nat} {u : U} {a : Addr} {o : HO} {od : Obj} (q : e[i]? = some (some (true, u))) (ea : σ[i]? = some (some (.ref a))) (h : H a = some o) (n : nod Γ B a u o) (bp : B a = none) :
    Go Γ B H e σ (upd B a (fzO od o)) (upd H a (fzO od o)) (e.set i (some (false, u))) σ := by
  have np : ∀ b w, H b = some w → ¬ own e σ b → b ≠ a := fun b w hb nb z => nb (by subst z; exact ⟨i, u, q, ea⟩)
  refine ⟨⟨same_upd bp, fun b w hb nb => by rw [upd_ne (np b w hb nb)]; exact hb, fun b w hb nb b0 => by rw [upd_ne (np b w hb nb)]; exact b0⟩, ⟨same_upd3 s.bh, by simp [s.ln], fun j w hj => ?_, fun j w hj => ?_, fun j k w x b hj hk s1 s2 => ?_⟩, fun b z => .inl (own_set_false z)⟩
  · rw [List.getElem?_set] at hj
    split at hj
    · rename_i ij
      subst ij
      split at hj
      · injection hj with hj
        injection hj with hj
        injection hj with _ hj
        subst hj
        exact ⟨_, ea, (n.mono (same_upd bp)).rep upd_same⟩
      · cases hj
    · obtain ⟨v, h1, h2⟩ := s.vl j w hj
      exact ⟨v, h1, h2.mono (same_upd bp)⟩
  · rw [List.getElem?_set] at hj
    split at hj
    · split at hj
      · cases hj
      · cases hj
    · rename_i ij
      obtain ⟨b, ho, h1, h2, h3, h4⟩ := s.ow j w hj
      have nb : b ≠ a := fun z => ij (s.ds i j u w a q hj ea (by rw [h1, z]))
      exact ⟨b, ho, h1, by rw [upd_ne nb]; exact h2, h3.mono (same_upd bp), by rw [upd_ne nb]; exact h4⟩
  · have hj' : e[j]? = some (some (true, w)) := by
      rw [List.getElem?_set] at hj
      split at hj
      · split at hj <;> cases hj
      · exact hj
    have hk' : e[k]? = some (some (true, x)) := by
      rw [List.getElem?_set] at hk
      split at hk
      · split at hk <;> cases hk
      · exact hk
    exact s.ds j k w x b hj' hk' s1 s2
end
section
variable {X : Cx} {W : WXX} {ex : Expr}
theorem PEimp {t t' : TE} (h : PE X ex t) (k : ∀ σ H Q, t' σ H Q → t σ H Q) : PE X ex t' := ⟨fun pins s σ H Q I q => h.run pins s σ H Q I (k σ H Q q)⟩
theorem PTimp {t t' : TT} (h : PT X ex t) (k : ∀ σ H Q, t' σ H Q → t σ H Q) : PT X ex t' := ⟨fun pins s σ H Q I q => h.run pins s σ H Q I (k σ H Q q)⟩
theorem PWimp {t t' : TT} (h : PW X ex t) (k : ∀ σ H Q, t' σ H Q → t σ H Q) : PW X ex t' := ⟨fun wh pins s σ H Q I q => h.run wh pins s σ H Q I (k σ H Q q)⟩
abbrev PV (X : Cx) (W : WXX) (ex : Expr) (m : M U) : Prop := PE X ex (tG (ga X) W (rlV (ga X)) m)
abbrev PR (X : Cx) (W : WXX) (ex : Expr) (m : M Od) : Prop := PE X ex (tG (ga X) W (rlR (ga X)) m)
abbrev PO (X : Cx) (W : WXX) (ex : Expr) (m : M (Bool × U)) : Prop := PE X ex (tG (ga X) W (rlO (ga X)) m)
abbrev PTB (X : Cx) (W : WXX) (ex : Expr) (m : M Bool) : Prop := PT X ex (tG (ga X) W rlB m)
abbrev PVs (X : Cx) (W : WXX) (exs : List Expr) (m : M (List U)) : Prop := PA X exs (tG (ga X) W (rlVs (ga X)) m)
theorem PEfz {t : TE} (h : PE X ex t) : PE X ex (fun σ H Q => t σ H fun x H' => Q x H' ∨ ∃ d ho, H' d = some ho ∧ Mut (some ho) ∧ ∀ od, Q x (upd H' d (fzO od ho))) := by
  refine ⟨fun pins s σ H Q I q => thn (h.run pins s σ H _ I q) fun v s1 ⟨x, H1, I1, r, q1⟩ => ?_⟩
  rcases q1 with q1 | ⟨d, ho, hd, mu, q1⟩
  · exact ⟨x, H1, I1, r, q1⟩
  · by_cases hk : (∃ es, ho = .dK es) ∨ ∃ φ, ho = .ext φ
    · rcases hk with ⟨es, rfl⟩ | ⟨φ, rfl⟩
      · obtain ⟨od, I2⟩ := I1.lock hd mu
        exact ⟨x, _, I2, r, q1 od⟩
      · obtain ⟨od, I2⟩ := I1.lock hd mu
        exact ⟨x, _, I2, r, q1 od⟩
    · obtain ⟨od, _⟩ := I1.lock hd mu
      have e1 : fzO od ho = ho := by
        cases ho <;> first | rfl | exact absurd (.inl ⟨_, rfl⟩) hk | exact absurd (.inr ⟨_, rfl⟩) hk
      have e2 : upd H1 d ho = H1 := by
        funext b
        by_cases z : b = d
        · subst z; rw [upd_same, hd]
        · rw [upd_ne z]
      have q2 := q1 od
      rw [e1, e2] at q2
      exact ⟨x, H1, I1, r, q2⟩
def mF (m : M (Bool × U)) : M U := m.bd fun r => .ret r.2
theorem pv_of {m : M (Bool × U)} (h : PO X W ex m) : PV X W ex (mF m) := by
  refine PEimp (PEfz h) fun σ H Q ⟨B, e, s, q⟩ => ⟨B, e, s, ?_⟩
  unfold mF tAt M.bd at *
  cases z : m e with
  | bad => rw [z] at q; exact q
  | exc c u e' => rw [z] at q; exact q
  | ok r e' =>
    rw [z] at q
    intro b B' H' g r'
    obtain ⟨o, u⟩ := r
    dsimp only [M.ret] at q
    cases o with
    | false => exact .inl (q b B' H' g r')
    | true =>
      obtain ⟨a, ho, e1, h1, n, b0, no, mz⟩ := r'
      subst e1
      exact .inr ⟨a, ho, h1, n.mut, fun od => q _ _ _ (Go.stayNew g.sr h1 no b0 g mz _) ((n.mono (same_upd b0)).rep upd_same)⟩
def mR (m : M U) : M Od := m.bd fun u => .ret (.vl u)
theorem pr_of {m : M U} (h : PV X W ex m) : PR X W ex (mR m) := by
  refine PEimp h fun σ H Q ⟨B, e, s, q⟩ => ⟨B, e, s, ?_⟩
  unfold mR tAt M.bd at *
  cases z : m e with
  | bad => rw [z] at q; exact q
  | exc c u e' => rw [z] at q; exact q
  | ok r e' =>
    rw [z] at q
    intro b B' H' g r'
    exact q b B' H' g r'
def mO (m : M U) : M (Bool × U) := m.bd fun u => .ret (false, u)
theorem po_of {m : M U} (h : PV X W ex m) : PO X W ex (mO m) := by
  refine PEimp h fun σ H Q ⟨B, e, s, q⟩ => ⟨B, e, s, ?_⟩
  unfold mO tAt M.bd at *
  cases z : m e with
  | bad => rw [z] at q; exact q
  | exc c u e' => rw [z] at q; exact q
  | ok r e' =>
    rw [z] at q
    intro b B' H' g r'
    exact q b B' H' g r'
theorem fin_val {Γ : Ga} {B H : Hp} {e : En} {σ : St} {Q : VK} {u : U} {v : V} (s : SR Γ B H e σ) (h : tAt Γ W (rlO Γ) (M.ret (false, u)) B H e σ Q) (r : rep Γ B u v) : Q v H := h v B H (Go.refl s) r
theorem fin_new {Γ : Ga} {B H : Hp} {e : En} {σ : St} {Q : VK} {u : U} {ho : Addr → HO} (s : SR Γ B H e σ) (h : tAt Γ W (rlO Γ) (M.ret (true, u)) B H e σ Q) (n : ∀ p, nod Γ B p u (ho p)) : ∀ p, H p = none → Q (.ref p) (upd H p (ho p)) := fun p hp =>
  h _ B _ (Go.alloc s hp) ⟨p, ho p, rfl, upd_same, n p, s.none_of hp, s.not_own hp, .inr hp⟩
theorem fin_tup {Γ : Ga} {B H : Hp} {e : En} {σ : St} {Q : VK} {us : List U} {vs : List V} (s : SR Γ B H e σ) (h : tAt Γ W (rlO Γ) (M.ret (false, .tup us)) B H e σ Q) (r : reps Γ B us vs) : ∀ p, H p = none → Q (.ref p) (upd H p (.tup vs)) := fun p hp =>
  h _ _ _ (Go.allocB s hp) (by
    show rep Γ _ (.tup us) (.ref p)
    simp only [rep]
    exact ⟨p, vs, rfl, SqT.of upd_same, r.mono (same_upd (s.none_of hp))⟩)
def mSl (i : Nat) : M Od := fun e => match e[i]? with
  | some (some _) => .ok (.sl i) e
  | _ => .bad
theorem pr_name {i : Nat} {x : Str} {pos : Pos} (hN : X.N[i]? = some x) (hv : Vis X.env.scope x) (hd : (x == ("__debug__" : Str)) = false := by decide) (hcd : (x == ("__classdict__" : Str)) = false := by decide) : PR X W (.Name x pos) (mSl i) := by
  refine PEimp (pe_var hN hv hd hcd) fun σ H Q ⟨B, e, s, q⟩ => ?_
  unfold mSl tAt at q
  dsimp only at q
  cases z : e[i]? with
  | none => rw [z] at q; exact q.elim
  | some r =>
    rw [z] at q
    cases r with
    | none => exact q.elim
    | some r =>
      obtain ⟨o, u⟩ := r
      cases o with
      | false =>
        obtain ⟨v, h1, h2⟩ := s.vl i u z
        exact ⟨v, h1, q v B H (Go.refl s) h1⟩
      | true =>
        obtain ⟨a, ho, h1, h2⟩ := s.ow i u z
        exact ⟨_, h1, q _ B H (Go.refl s) h1⟩
def frz : Od → M U
  | .vl u => .ret u
  | .sl i => fun e => match e[i]? with
    | some (some (false, u)) => .ok u e
    | some (some (true, u)) => .ok u (e.set i (some (false, u)))
    | _ => .bad
theorem frz_ok {Γ : Ga} {B H : Hp} {e : En} {σ : St} {Q : VK} {od : Od} {v : V} {S : Addr → Prop} (s : SR Γ B H e σ) (r : (rlR Γ).r od v S B H e σ) (h : tAt Γ W (rlV Γ) (frz od) B H e σ Q) : Q v H ∨ ∃ d ho, H d = some ho ∧ Mut (some ho) ∧ ∀ od, Q v (upd H d (fzO od ho)) := by
  cases od with
  | vl u => exact .inl (h v B H (Go.refl s) r)
  | sl i =>
    have h1 : σ[i]? = some (some v) := r
    unfold tAt frz at h
    dsimp only at h
    cases h2 : e[i]? with
    | none => rw [h2] at h; exact h.elim
    | some r =>
      rw [h2] at h
      cases r with
      | none => exact h.elim
      | some r =>
        obtain ⟨o, u⟩ := r
        cases o with
        | false =>
          obtain ⟨v', h3, h4⟩ := s.vl i u h2
          rw [h1] at h3; cases h3
          exact .inl (h v B H (Go.refl s) h4)
        | true =>
          obtain ⟨a, ho, h3, h4, h5, h6⟩ := s.ow i u h2
          rw [h1] at h3; cases h3
          exact .inr ⟨a, ho, h4, h5.mut, fun od => h _ _ _ (Go.freeze s h2 h1 h4 h5 h6) ((h5.mono (same_upd h6)).rep upd_same)⟩
def mN (i : Nat) : M U := (mSl i).bd frz
theorem pv_name {i : Nat} {x : Str} {pos : Pos} (hN : X.N[i]? = some x) (hv : Vis X.env.scope x) (hd : (x == ("__debug__" : Str)) = false := by decide) (hcd : (x == ("__classdict__" : Str)) = false := by decide) : PV X W (.Name x pos) (mN i) := by
  have h : PE X (.Name x pos) (tG (ga X) W (rlR (ga X)) (mSl i)) := pr_name hN hv hd hcd
  refine PEimp (PEfz h) fun σ H Q ⟨B, e, s, q⟩ => ⟨B, e, s, ?_⟩
  refine (tAt.bd q).mono fun v H1 ⟨B1, e1, od, g, r, q1⟩ => frz_ok g.sr r q1
def mC (u : U) : M U := .ret u
theorem pv_const {v : V} {u : U} (h : PE X ex (tC v)) (r : ∀ B, rep (ga X) B u v) : PV X W ex (mC u) := PEimp h fun σ H Q ⟨B, e, s, q⟩ => q v B H (Go.refl s) (r B)
theorem pv_int {i j pos} : PV X W (.Constant (.int i) j pos) (mC (.int i)) := pv_const pe_int fun B => by simp only [rep]
theorem pv_bl {i j pos} : PV X W (.Constant (.bool i) j pos) (mC (.bl i)) := pv_const pe_bl fun B => by simp only [rep]
theorem pv_non {j pos} : PV X W (.Constant .none j pos) (mC .non) := pv_const pe_non fun B => by simp only [rep]
theorem pv_str {i j pos} : PV X W (.Constant (.str i) j pos) (mC (.str i)) := pv_const pe_str fun B => by simp only [rep]
end
end VS
set_option Elab.async false
set_option linter.all false
set_option maxRecDepth 100000
namespace VS
open PySem L2
abbrev Op2 := U → U → Option (Bool × U)
def op2 (s : Op2) (x y : Od) : M (Bool × U) := fun e => match rdO e x, rdO e y with
  | some u, some w => match s u w with
    | some r => .ok r e
    | none => .bad
  | _, _ => .bad
def mBin (s : Op2) (ra rb : M Od) : M (Bool × U) := ra.bd fun x => rb.bd fun y => op2 s x y
structure BinOK (X : Cx) (f : Value → Value → Sem Value) (s : Op2) : Prop where
  ex : ∃ r : R2, OpR X f r ∧ ∀ {W : WXX} {B H : Hp} {e : En} {σ : St} {u w : U} {x y : V} {z : Bool × U} {Q : VK}, SR (ga X) B H e σ → s u w = some z → Vw (ga X) B H u x → Vw (ga X) B H w y →
    tAt (ga X) W (rlO (ga X)) (M.ret z) B H e σ Q → r x y H Q
def orS (s t : Op2) : Op2 := fun u w => match s u w with
  | some z => some z
  | none => t u w
theorem BinOK.or {X : Cx} {f : Value → Value → Sem Value} {s t : Op2} (h : BinOK X f s) (k : BinOK X f t) : BinOK X f (orS s t) := by
  obtain ⟨r, h1, h2⟩ := h.ex
  obtain ⟨r', k1, k2⟩ := k.ex
  refine ⟨_, h1.or k1, fun {W B H e σ u w x y z Q} sr q vx vy t' => ?_⟩
  unfold orS at q
  cases c : s u w with
  | some z' =>
    rw [c] at q
    injection q with q
    subst q
    exact .inl (h2 sr c vx vy t')
  | none =>
    rw [c] at q
    exact .inr (k2 sr q vx vy t')
section
variable {X : Cx} {W : WXX} {a b : Expr} {op : Operator} {pos : Pos} {ra rb : M Od} {s : Op2}
theorem op2_ok {Γ : Ga} {rl : Rl (Bool × U) V} {B H : Hp} {e : En} {σ : St} {x y : Od} {Q : VK} (h : tAt Γ W rl (op2 s x y) B H e σ Q) :
    ∃ u w z, rdO e x = some u ∧ rdO e y = some w ∧ s u w = some z ∧ tAt Γ W rl (M.ret z) B H e σ Q := by
  unfold tAt op2 at h
  cases h1 : rdO e x with
  | none => rw [h1] at h; exact h.elim
  | some u =>
    cases h2 : rdO e y with
    | none => rw [h1, h2] at h; exact h.elim
    | some w =>
      rw [h1, h2] at h
      dsimp only at h
      cases h3 : s u w with
      | none => rw [h3] at h; exact h.elim
      | some z =>
        rw [h3] at h
        exact ⟨u, w, z, rfl, rfl, h3, h⟩
theorem bin_core {f : Value → Value → Sem Value} (ok : BinOK X f s) {rd : R2} (hr : OpR X f rd ∧ ∀ {W : WXX} {B H : Hp} {e : En} {σ : St} {u w : U} {x y : V} {z : Bool × U} {Q : VK}, SR (ga X) B H e σ → s u w = some z → Vw (ga X) B H u x → Vw (ga X) B H w y →
    tAt (ga X) W (rlO (ga X)) (M.ret z) B H e σ Q → rd x y H Q) (σ : St) (H : Hp) (Q : VK) (h : tG (ga X) W (rlO (ga X)) (mBin s ra rb) σ H Q) :
    tOp rd (tG (ga X) W (rlR (ga X)) ra) (tG (ga X) W (rlR (ga X)) rb) σ H Q := by
  obtain ⟨B, e, sr, q⟩ := h
  refine ⟨B, e, sr, (tAt.bd q).mono fun x H1 ⟨B1, e1, od1, g1, r1, q1⟩ => ?_⟩
  refine ⟨B1, e1, g1.sr, (tAt.bd q1).mono fun y H2 ⟨B2, e2, od2, g2, r2, q2⟩ => ?_⟩
  obtain ⟨u, w, z, h1, h2, h3, h4⟩ := op2_ok q2
  exact hr.2 g2.sr h3 (rlR.vw g2.sr (rlR.keep (S' := may H1 e1 σ) r1 g2) h1) (rlR.vw g2.sr r2 h2) h4
theorem po_bin (ok : BinOK X (binaryOp op) s) (ha : PR X W a ra) (hb : PR X W b rb) : PO X W (.BinOp a op b pos) (mBin s ra rb) := by
  obtain ⟨r, h1, h2⟩ := ok.ex
  exact PEimp (pe_op h1 ha hb) fun σ H Q h => bin_core ok ⟨h1, h2⟩ σ H Q h
theorem po_cmp {op : CmpOp} (ok : BinOK X (compareOp op) s) (ha : PR X W a ra) (hb : PR X W b rb) (hm : behindInMarks op b = false) : PO X W (.Compare a [op] [b] pos) (mBin s ra rb) := by
  obtain ⟨r, h1, h2⟩ := ok.ex
  exact PEimp (pe_cmpR h1 ha hb hm) fun σ H Q h => bin_core ok ⟨h1, h2⟩ σ H Q h
def mTst (m : M (Bool × U)) : M Bool := m.bd fun r => match r.2 with
  | .bl b => .ret b
  | _ => fun _ => .bad
theorem tst_core {te : TE} {m : M (Bool × U)} (h : ∀ σ H Q, tG (ga X) W (rlO (ga X)) m σ H Q → te σ H Q) (σ : St) (H : Hp) (Q : Bool → Hp → Prop) (q : tG (ga X) W rlB (mTst m) σ H Q) : tTest te σ H Q := by
  obtain ⟨B, e, sr, q⟩ := q
  refine h σ H _ ⟨B, e, sr, (tAt.bd q).mono fun x H1 ⟨B1, e1, r, g1, r1, q1⟩ => ?_⟩
  obtain ⟨o, u⟩ := r
  cases u with
  | bl k =>
    cases o with
    | false =>
      have r1' : rep (ga X) B1 (.bl k) x := r1
      simp only [rep] at r1'
      exact ⟨k, r1', q1 k B1 H1 (Go.refl g1.sr) rfl⟩
    | true =>
      obtain ⟨_, _, _, _, n, _⟩ := r1
      exact n.elim
  | _ => exact False.elim q1
theorem pt_cmp' {op : CmpOp} (ok : BinOK X (compareOp op) s) (ha : PR X W a ra) (hb : PR X W b rb) (hm : behindInMarks op b = false) : PTB X W (.Compare a [op] [b] pos) (mTst (mBin s ra rb)) := by
  obtain ⟨r, h1, h2⟩ := ok.ex
  exact PTimp (pt_cmpR h1 ha hb hm) fun σ H Q h => tst_core (fun σ H Q h => bin_core ok ⟨h1, h2⟩ σ H Q h) σ H Q h
end
section
variable {X : Cx}
theorem binI {f : Value → Value → Sem Value} {C : Int → Int → Prop} {g : Int → Int → U} {gV : Int → Int → V} {s : Op2} (h : OpR X f (rI C gV)) (hg : ∀ i j B, rep (ga X) B (g i j) (gV i j))
    (hs : ∀ u w z, s u w = some z → ∃ i j, u = .int i ∧ w = .int j ∧ C i j ∧ z = (false, g i j)) : BinOK X f s := by
  refine ⟨_, h, fun {W B H e σ u w x y z Q} sr q vx vy t => ?_⟩
  obtain ⟨i, j, rfl, rfl, c, rfl⟩ := hs u w z q
  exact ⟨i, j, vx.int, vy.int, c, fin_val sr t (hg i j B)⟩
theorem rI0_rI {f : Value → Value → Sem Value} {g : Int → Int → V} (h : OpR X f (rI0 g)) : OpR X f (rI (fun _ _ => True) g) := by
  intro pins s σ H x y v u Q I rx ry q
  obtain ⟨i, j, h1, h2, _, q⟩ := q
  exact h pins s σ H x y v u Q I rx ry ⟨i, j, h1, h2, q⟩
def iiS (g : Int → Int → U) : Op2 := fun u w => match u, w with
  | .int i, .int j => some (false, g i j)
  | _, _ => none
theorem iiS_spec {g : Int → Int → U} : ∀ u w z, iiS g u w = some z → ∃ i j, u = .int i ∧ w = .int j ∧ True ∧ z = (false, g i j) := by
  intro u w z h
  unfold iiS at h
  split at h
  · injection h with h
    exact ⟨_, _, rfl, rfl, trivial, h.symm⟩
  · cases h
def iiC (c : Int → Int → Bool) (g : Int → Int → U) : Op2 := fun u w => match u, w with
  | .int i, .int j => if c i j then some (false, g i j) else none
  | _, _ => none
theorem iiC_spec {c : Int → Int → Bool} {C : Int → Int → Prop} {g : Int → Int → U} (hc : ∀ i j, c i j = true → C i j) : ∀ u w z, iiC c g u w = some z → ∃ i j, u = .int i ∧ w = .int j ∧ C i j ∧ z = (false, g i j) := by
  intro u w z h
  unfold iiC at h
  split at h
  · split at h
    · rename_i h1
      injection h with h
      exact ⟨_, _, rfl, rfl, hc _ _ h1, h.symm⟩
    · cases h
  · cases h
theorem rep_int {B : Hp} (i : Int) : rep (ga X) B (.int i) (.int i) := by simp only [rep]
theorem rep_bl {B : Hp} (i : Bool) : rep (ga X) B (.bl i) (.bl i) := by simp only [rep]
theorem rep_str {B : Hp} (i : Str) : rep (ga X) B (.str i) (.str i) := by simp only [rep]
def sAddI : Op2 := iiS fun i j => .int (i + j)
def sSub : Op2 := iiS fun i j => .int (i - j)
set_option exponentiation.threshold 100001 in
def wideB : Nat := 2 ^ 100000
def lowB : Int := 2 ^ 64
noncomputable def cdec (p : Prop) : Bool := @decide p (Classical.propDecidable p)
theorem cdec_iff {p : Prop} : (cdec p = true) = p := by
  unfold cdec
  exact propext (@decide_eq_true_iff p (Classical.propDecidable p))
noncomputable def mulOk (i j : Int) : Bool := (cdec (-lowB < i) && cdec (i < lowB)) || (cdec (-lowB < j) && cdec (j < lowB)) || (cdec (i.natAbs < wideB) && cdec (j.natAbs < wideB))
noncomputable def sMulI : Op2 := iiC mulOk fun i j => .int (i * j)
noncomputable def divOk (_ j : Int) : Bool := cdec (j ≠ 0) && cdec (j.natAbs < 1073741824)
noncomputable def sDiv : Op2 := iiC divOk fun i j => .int (i.fdiv j)
noncomputable def sMod : Op2 := iiC (fun _ j => cdec (j ≠ 0)) fun i j => .int (i.fmod j)
noncomputable def powOk (i j : Int) : Bool := cdec (0 ≤ j) && cdec (j ≤ 1000000) && cdec (i.natAbs < 2 ^ 64)
noncomputable def sPow : Op2 := iiC powOk fun i j => .int (i ^ j.toNat)
theorem ok_addI : BinOK X (binaryOp .Add) sAddI := binI (rI0_rI op_add) (fun i j B => rep_int _) iiS_spec
theorem ok_sub : BinOK X (binaryOp .Sub) sSub := binI (rI0_rI op_sub) (fun i j B => rep_int _) iiS_spec
def CMul2 (i j : Int) : Prop := CMul i j ∨ CMulW i j
theorem op_mul2 : OpR X (binaryOp .Mult) (rI CMul2 fun i j => .int (i * j)) := by
  intro pins s σ H x y v u Q I rx ry q
  obtain ⟨i, j, h1, h2, c, q⟩ := q
  rcases c with c | c
  · exact op_mul pins s σ H x y v u Q I rx ry ⟨i, j, h1, h2, c, q⟩
  · exact op_mulW pins s σ H x y v u Q I rx ry ⟨i, j, h1, h2, c, q⟩
theorem mulOk_spec : ∀ i j, mulOk i j = true → CMul2 i j := by
  intro i j h
  unfold mulOk at h
  simp only [Bool.or_eq_true, Bool.and_eq_true, decide_eq_true_eq, cdec_iff] at h
  rcases h with (h | h) | h
  · exact .inl (.inl h)
  · exact .inl (.inr h)
  · exact .inr (wide_mul (a := 100000) (b := 100000) h.1 h.2 (by decide) (by decide) (by decide))
theorem ok_mulI : BinOK X (binaryOp .Mult) sMulI := binI op_mul2 (fun i j B => rep_int _) (iiC_spec mulOk_spec)
theorem ok_div : BinOK X (binaryOp .FloorDiv) sDiv := binI op_fdivN (fun i j B => rep_int _) (iiC_spec fun i j h => by
  unfold divOk at h
  simp only [Bool.and_eq_true, decide_eq_true_eq, cdec_iff] at h
  exact h)
theorem ok_mod : BinOK X (binaryOp .Mod) sMod := binI op_modN (fun i j B => rep_int _) (iiC_spec fun i j h => by rw [cdec_iff] at h; exact h)
theorem ok_pow : BinOK X (binaryOp .Pow) sPow := binI op_pow (fun i j B => rep_int _) (iiC_spec fun i j h => by
  unfold powOk at h
  simp only [Bool.and_eq_true, decide_eq_true_eq, cdec_iff] at h
  exact ⟨h.1.1, h.1.2, h.2⟩)
def sAddS : Op2 := fun u w => match u, w with
  | .str x, .str y => if x.length + y.length ≤ sizeLine then some (false, .str (x ++ y)) else none
  | _, _ => none
theorem ok_addS : BinOK X (binaryOp .Add) sAddS := by
  refine ⟨_, op_add_str, fun {W B H e σ u w x y z Q} sr q vx vy t => ?_⟩
  unfold sAddS at q
  split at q
  · split at q
    · rename_i i j hz
      injection q with q
      subst q
      exact ⟨i, j, vx.str, vy.str, hz, fin_val sr t (rep_str _)⟩
    · cases q
  · cases q
def sAddL : Op2 := fun u w => match u, w with
  | .lst xs, .lst ys => if xs.length + ys.length ≤ sizeLine then some (true, .lst (xs ++ ys)) else none
  | _, _ => none
theorem ok_addL : BinOK X (binaryOp .Add) sAddL := by
  refine ⟨_, op_cat, fun {W B H e σ u w x y z Q} sr q vx vy t => ?_⟩
  unfold sAddL at q
  split at q
  · split at q
    · rename_i xs ys hz
      injection q with q
      subst q
      obtain ⟨a, vs, e1, h1, r1⟩ := vx.lst sr.bh
      obtain ⟨b, ws, e2, h2, r2⟩ := vy.lst sr.bh
      refine ⟨a, b, vs, ws, e1, e2, h1, h2, by rw [← r1.length, ← r2.length]; exact hz, ?_⟩
      exact fin_new (ho := fun _ => .lst (vs ++ ws)) sr t fun p => ⟨_, rfl, r1.append r2⟩
    · cases q
  · cases q
def repL (n : Nat) (xs : List U) : List U := (List.replicate n xs).flatten
theorem reps.rep {Γ : Ga} {B : Hp} {xs : List U} {vs : List V} (h : reps Γ B xs vs) : ∀ n : Nat, reps Γ B (repL n xs) (List.replicate n vs).flatten
  | 0 => by simp [repL, reps]
  | n + 1 => by
    unfold repL
    rw [List.replicate_succ, List.flatten_cons, List.replicate_succ, List.flatten_cons]
    exact h.append (reps.rep h n)
noncomputable def lim63 (k : Int) : Bool := cdec (-(2 ^ 63) ≤ k) && cdec (k < 2 ^ 63)
noncomputable def sMulL : Op2 := fun u w => match u, w with
  | .lst xs, .int k => if lim63 k && decide (xs.length * k.toNat ≤ sizeLine) then some (true, .lst (repL k.toNat xs)) else none
  | _, _ => none
theorem ok_mulL : BinOK X (binaryOp .Mult) sMulL := by
  refine ⟨_, op_rep, fun {W B H e σ u w x y z Q} sr q vx vy t => ?_⟩
  unfold sMulL lim63 at q
  split at q
  · split at q
    · rename_i xs k hz
      injection q with q
      subst q
      simp only [Bool.and_eq_true, decide_eq_true_eq, cdec_iff] at hz
      obtain ⟨a, vs, e1, h1, r1⟩ := vx.lst sr.bh
      refine ⟨a, k, vs, e1, vy.int, h1, hz.1.1, hz.1.2, by rw [← r1.length]; exact hz.2, ?_⟩
      exact fin_new (ho := fun _ => .lst _) sr t fun p => ⟨_, rfl, r1.rep k.toNat⟩
    · cases q
  · cases q
def repS (n : Nat) (x : Str) : Str := ⟨(List.replicate n x.cps.toList).flatten.toArray⟩
theorem fold_rep (a : Array Nat) : ∀ (n : Nat) (acc : Array Nat), ((List.replicate n a).foldl (· ++ ·) acc).toList = acc.toList ++ (List.replicate n a.toList).flatten
  | 0, acc => by simp
  | n + 1, acc => by
    rw [List.replicate_succ, List.foldl_cons, fold_rep a n, List.replicate_succ, List.flatten_cons]
    simp
theorem repS_eq (n : Nat) (x : Str) : (⟨(List.replicate n x.cps).foldl (· ++ ·) #[]⟩ : Str) = repS n x := by
  unfold repS
  congr 1
  apply Array.ext'
  rw [fold_rep]
  simp
theorem repS_len (n : Nat) (x : Str) : (repS n x).length = n * x.length := by
  unfold repS Str.length
  simp [List.length_flatten]
noncomputable def sMulS : Op2 := fun u w => match u, w with
  | .str x, .int k => if lim63 k && decide (x.length * k.toNat ≤ 1000000) then some (false, .str (repS k.toNat x)) else none
  | _, _ => none
theorem op_mulS : OpR X (binaryOp .Mult) (fun x y H Q => ∃ z k, x = .str z ∧ y = .int k ∧ -(2 ^ 63) ≤ k ∧ k < 2 ^ 63 ∧ z.length * k.toNat ≤ 1000000 ∧ Q (.str (repS k.toNat z)) H) := by
  intro pins s σ H x y v u Q I rx ry h
  obtain ⟨z, k, rfl, rfl, h1, h2, h3, q⟩ := h
  obtain ⟨t, rfl⟩ := rx
  obtain ⟨t', rfl⟩ := ry
  refine PySem.P.mul_str ?_ (fun h4 h5 h6 => ?_) (fun h4 h5 => ?_) ?_
  · rw [decide_eq_false (by omega), decide_eq_false (by omega)]; rfl
  · have hk : 0 < k := by omega
    have e : ((z.length : Int) * k) ≤ 1000000 := by
      have : ((z.length * k.toNat : Nat) : Int) ≤ 1000000 := by omega
      rw [Int.natCast_mul, Int.toNat_of_nonneg (by omega)] at this
      exact this
    have h7 : (z.length : Int) ≤ (2 ^ 63 - 1) / k := by
      rw [Int.le_ediv_iff_mul_le hk]
      omega
    omega
  · unfold Builtin.Str.tooLong
    have : (1000000 : Nat) < sizeLine := by decide
    exact decide_eq_false (by omega)
  · have hle : sizeLine = 16777216 := by decide
    by_cases k1 : k < 1
    · rw [if_pos k1]
      have e : k.toNat = 0 := by omega
      rw [e] at q
      refine ⟨by decide, ⟨.str _, H, I.tok _, ⟨_, rfl⟩, q⟩⟩
    · rw [if_neg k1]
      by_cases k2 : (k == 1 || z.length == 0) = true
      · rw [if_pos k2]
        have e : repS k.toNat z = z := by
          simp only [Bool.or_eq_true, beq_iff_eq] at k2
          rcases k2 with k2 | k2
          · subst k2
            unfold repS
            simp
          · unfold repS
            have : z.cps.toList = [] := by
              have h : z.cps.size = 0 := k2
              simpa using h
            rw [this]
            have : z = ⟨#[]⟩ := by
              obtain ⟨c⟩ := z
              congr 1
              apply Array.ext'
              simpa using this
            rw [this]
            simp
        rw [e] at q
        exact ⟨.str _, H, I, ⟨_, rfl⟩, q⟩
      · rw [if_neg k2, repS_eq]
        refine ⟨?_, ⟨.str _, H, I.tok _, ⟨_, rfl⟩, q⟩⟩
        rw [repS_len, hle, Nat.mul_comm]
        omega
theorem ok_mulS : BinOK X (binaryOp .Mult) sMulS := by
  refine ⟨_, op_mulS, fun {W B H e σ u w x y z Q} sr q vx vy t => ?_⟩
  unfold sMulS lim63 at q
  split at q
  · split at q
    · rename_i xs k hz
      injection q with q
      subst q
      simp only [Bool.and_eq_true, decide_eq_true_eq, cdec_iff] at hz
      exact ⟨xs, k, vx.str, vy.int, hz.1.1, hz.1.2, hz.2, fin_val sr t (rep_str _)⟩
    · cases q
  · cases q
end
section
variable {X : Cx}
def sLtI : Op2 := iiS fun i j => .bl (decide (i < j))
def sLeI : Op2 := iiS fun i j => .bl (decide (i ≤ j))
def sGtI : Op2 := iiS fun i j => .bl (decide (j < i))
def sGeI : Op2 := iiS fun i j => .bl (decide (j ≤ i))
theorem ok_ltI : BinOK X (compareOp .Lt) sLtI := binI (rI0_rI op_lt) (fun i j B => rep_bl _) iiS_spec
theorem ok_leI : BinOK X (compareOp .LtE) sLeI := binI (rI0_rI op_le) (fun i j B => rep_bl _) iiS_spec
theorem ok_gtI : BinOK X (compareOp .Gt) sGtI := binI (rI0_rI op_gt) (fun i j B => rep_bl _) iiS_spec
theorem ok_geI : BinOK X (compareOp .GtE) sGeI := binI (rI0_rI op_ge) (fun i j B => rep_bl _) iiS_spec
mutual
def toD : U → PyData
  | .non => .none
  | .bl b => .bool b
  | .int i => .int i
  | .str x => .str x
  | .tup us => .tuple (toDs us)
  | .tpd us => .tuple (toDs us)
  | .lst us => .list (toDs us)
  | .scr ns => .list (ns.map .int)
  | _ => .dict []
def toDs : List U → List PyData
  | [] => []
  | u :: us => toD u :: toDs us
end
theorem dpAll_ints {K : PySem.W.Frag} {H : Hp} : ∀ ns : List Int, DpAll K H (ns.map V.int) (ns.map PyData.int)
  | [] => .nil
  | n :: ns => .cons (.int n) (dpAll_ints ns)
mutual
theorem rep.dp {Γ : Ga} {B : Hp} : ∀ {u : U} {v : V}, rep Γ B u v → (toD u).canLay0 = true → Dp Γ.K B v (toD u)
  | .non, _, r, _ => by simp only [rep] at r; subst r; exact .non
  | .bl _, _, r, _ => by simp only [rep] at r; subst r; exact .bl _
  | .int _, _, r, _ => by simp only [rep] at r; subst r; exact .int _
  | .str _, _, r, _ => by simp only [rep] at r; subst r; exact .str _
  | .tup us, _, r, h => by
    simp only [rep] at r
    obtain ⟨a, vs, e, s, q⟩ := r
    subst e
    simp only [toD, PyData.canLay0] at h ⊢
    exact .tup s (reps.dp q h)
  | .lst us, _, r, h => by
    simp only [rep] at r
    obtain ⟨a, vs, e, s, q⟩ := r
    subst e
    simp only [toD, PyData.canLay0] at h ⊢
    exact .lst (SqL.of s) (reps.dp q h)
  | .scr ns, _, r, h => by
    simp only [rep] at r
    obtain ⟨a, e, s⟩ := r
    subst e
    exact .lst s (dpAll_ints ns)
  | .tpd us, _, r, h => by
    simp only [rep] at r
    obtain ⟨a, o, vs, e, _, s, q⟩ := r
    subst e
    simp only [toD, PyData.canLay0] at h ⊢
    exact .tup (.inl (.inr ⟨o, s⟩)) (reps.dp q h)
  | .xc _ _, _, _, h => by simp [toD, PyData.canLay0] at h
  | .dct _, _, _, h => by simp [toD, PyData.canLay0] at h
  | .set _, _, _, h => by simp [toD, PyData.canLay0] at h
  | .ins _ _, _, _, h => by simp [toD, PyData.canLay0] at h
  | .adr _, _, _, h => by simp [toD, PyData.canLay0] at h
theorem reps.dp {Γ : Ga} {B : Hp} : ∀ {us : List U} {vs : List V}, reps Γ B us vs → PyData.canLayAll0 (toDs us) = true → DpAll Γ.K B vs (toDs us)
  | [], _, r, _ => by simp only [reps] at r; subst r; exact .nil
  | u :: us, _, r, h => by
    simp only [reps] at r
    obtain ⟨v, t, e, r1, r2⟩ := r
    subst e
    simp only [toDs, PyData.canLayAll0, Bool.and_eq_true] at h ⊢
    exact .cons (rep.dp r1 h.1) (reps.dp r2 h.2)
end
mutual
theorem Dp.same {K : PySem.W.Frag} {B H : Hp} (s : Same B H) : ∀ {v : V} {d : PyData}, Dp K B v d → Dp K H v d
  | _, _, .non => .non
  | _, _, .bl _ => .bl _
  | _, _, .int _ => .int _
  | _, _, .str _ => .str _
  | _, _, .lst h q => .lst (sqL_same s h) (DpAll.same s q)
  | _, _, .tup h q => .tup (sqT_same s h) (DpAll.same s q)
theorem DpAll.same {K : PySem.W.Frag} {B H : Hp} (s : Same B H) : ∀ {v : List V} {d : List PyData}, DpAll K B v d → DpAll K H v d
  | _, _, .nil => .nil
  | _, _, .cons h q => .cons (Dp.same s h) (DpAll.same s q)
end
theorem Vw.dp {Γ : Ga} {B H : Hp} {u : U} {v : V} (s : Same B H) (h : Vw Γ B H u v) (k : (toD u).canLay0 = true) : Dp Γ.K H v (toD u) := by
  rcases h with h | ⟨a, ho, e, h, n⟩
  · exact Dp.same s (h.dp k)
  · subst e
    cases u with
    | lst us =>
      obtain ⟨vs, e, r⟩ := n
      subst e
      simp only [toD, PyData.canLay0] at k ⊢
      exact .lst (SqL.of h) (DpAll.same s (r.dp k))
    | dct kvs => simp [toD, PyData.canLay0] at k
    | ins c fs => simp [toD, PyData.canLay0] at k
    | _ => exact n.elim
def shp (u : U) : Bool := SeqAt.shaped (toD u)
theorem shp_lay {u : U} (h : shp u = true) : (toD u).canLay0 = true := SeqAt.canLay_of_shaped h
def flU : U → Bool
  | .non => true
  | .bl _ => true
  | .int _ => true
  | .str _ => true
  | _ => false
def vOf : U → V
  | .non => .non
  | .bl b => .bl b
  | .int i => .int i
  | .str x => .str x
  | _ => .non
theorem Vw.fl {Γ : Ga} {B H : Hp} {u : U} {v : V} (h : Vw Γ B H u v) (k : flU u = true) : v = vOf u := by
  cases u with
  | non => exact h.non
  | bl b => exact h.bl
  | int b => exact h.int
  | str b => exact h.str
  | _ => cases k
theorem flV_vOf {u : U} (k : flU u = true) : flatV (vOf u) = true := by
  cases u <;> first | rfl | cases k
theorem reps.fl {Γ : Ga} {B : Hp} : ∀ {us : List U} {vs : List V}, reps Γ B us vs → us.all flU = true → vs = us.map vOf
  | [], _, r, _ => by simp only [reps] at r; subst r; rfl
  | u :: us, _, r, h => by
    simp only [reps] at r
    obtain ⟨v, t, e, r1, r2⟩ := r
    subst e
    simp only [List.all_cons, Bool.and_eq_true] at h
    rw [Vw.fl (H := B) (.inl r1) h.1, reps.fl r2 h.2]
    rfl
def scalU (u w : U) : Bool := flU u && flU w && scal (vOf u) (vOf w)
def sEq (neg : Bool) : Op2 := fun u w =>
  if scalU u w then some (false, .bl (if neg then !decide (vOf u = vOf w) else decide (vOf u = vOf w)))
  else if shp u && shp w then some (false, .bl (if neg then !(toD u).eqv (toD w) else (toD u).eqv (toD w)))
  else none
theorem ok_eq (hu : X.A.units + 64 < cLine) : BinOK X (compareOp .Eq) (sEq false) := by
  refine ⟨_, OpR.or op_eq (op_eqD hu), fun {W B H e σ u w x y z Q} sr q vx vy t => ?_⟩
  unfold sEq at q
  split at q
  · rename_i h
    injection q with q
    subst q
    unfold scalU at h
    simp only [Bool.and_eq_true] at h
    have ex := vx.fl h.1.1
    have ey := vy.fl h.1.2
    subst ex ey
    exact .inl ⟨h.2, fin_val sr t (rep_bl _)⟩
  · split at q
    · rename_i h
      injection q with q
      subst q
      simp only [Bool.and_eq_true] at h
      exact .inr ⟨_, _, vx.dp sr.bh (shp_lay h.1), vy.dp sr.bh (shp_lay h.2), h.1, h.2, fin_val sr t (rep_bl _)⟩
    · cases q
theorem ok_ne (hu : X.A.units + 64 < cLine) : BinOK X (compareOp .NotEq) (sEq true) := by
  refine ⟨_, OpR.or op_ne (op_neD hu), fun {W B H e σ u w x y z Q} sr q vx vy t => ?_⟩
  unfold sEq at q
  split at q
  · rename_i h
    injection q with q
    subst q
    unfold scalU at h
    simp only [Bool.and_eq_true] at h
    have ex := vx.fl h.1.1
    have ey := vy.fl h.1.2
    subst ex ey
    exact .inl ⟨h.2, fin_val sr t (rep_bl _)⟩
  · split at q
    · rename_i h
      injection q with q
      subst q
      simp only [Bool.and_eq_true] at h
      exact .inr ⟨_, _, vx.dp sr.bh (shp_lay h.1), vy.dp sr.bh (shp_lay h.2), h.1, h.2, fin_val sr t (rep_bl _)⟩
    · cases q
def nonU : U → Bool
  | .non => true
  | _ => false
def sIsN (neg : Bool) : Op2 := fun u w => match w with
  | .non => some (false, .bl (if neg then !nonU u else nonU u))
  | _ => none
theorem Vw.non_iff {Γ : Ga} {B H : Hp} {u : U} {v : V} (h : Vw Γ B H u v) : decide (v = .non) = nonU u := by
  cases u with
  | non => rw [h.non]; rfl
  | bl b => rw [h.bl]; rfl
  | int b => rw [h.int]; rfl
  | str b => rw [h.str]; rfl
  | adr b =>
    rcases h with h | ⟨a, ho, e, h, n⟩
    · simp only [rep] at h
      subst h; rfl
    · exact n.elim
  | set us =>
    rcases h with h | ⟨a, ho, e, h, n⟩
    · simp only [rep] at h
    · exact n.elim
  | xc c u =>
    rcases h with h | ⟨a, ho, e, h, n⟩
    · simp only [rep] at h
      obtain ⟨a, _, _, _, e, _⟩ := h
      subst e; rfl
    · exact n.elim
  | tpd us =>
    rcases h with h | ⟨a, ho, e, h, n⟩
    · simp only [rep] at h
      obtain ⟨a, _, _, e, _⟩ := h
      subst e; rfl
    · exact n.elim
  | tup us =>
    rcases h with h | ⟨a, ho, e, h, n⟩
    · simp only [rep] at h
      obtain ⟨a, _, e, _⟩ := h
      subst e; rfl
    · exact n.elim
  | lst us =>
    rcases h with h | ⟨a, ho, e, h, n⟩
    · simp only [rep] at h
      obtain ⟨a, _, e, _⟩ := h
      subst e; rfl
    · subst e; rfl
  | scr us =>
    rcases h with h | ⟨a, ho, e, h, n⟩
    · simp only [rep] at h
      obtain ⟨a, e, _⟩ := h
      subst e; rfl
    · exact n.elim
  | dct us =>
    rcases h with h | ⟨a, ho, e, h, n⟩
    · simp only [rep] at h
      obtain ⟨a, e, _⟩ := h
      subst e; rfl
    · subst e; rfl
  | ins c us =>
    rcases h with h | ⟨a, ho, e, h, n⟩
    · simp only [rep] at h
      obtain ⟨a, _, _, _, e, _⟩ := h
      subst e; rfl
    · subst e; rfl
theorem ok_isN : BinOK X (compareOp .Is) (sIsN false) := by
  refine ⟨_, op_isN, fun {W B H e σ u w x y z Q} sr q vx vy t => ?_⟩
  unfold sIsN at q
  split at q
  · injection q with q
    subst q
    refine ⟨vy.non, ?_⟩
    rw [vx.non_iff]
    exact fin_val sr t (rep_bl _)
  · cases q
def inU (u : U) (ws : List U) : Bool := ws.any fun w => eqV (vOf w) (vOf u)
def sInF (neg : Bool) : Op2 := fun u w => match w with
  | .lst ws => if flU u && ws.all flU then some (false, .bl (if neg then !inU u ws else inU u ws)) else none
  | .tup ws => if flU u && ws.all flU then some (false, .bl (if neg then !inU u ws else inU u ws)) else none
  | _ => none
theorem inV_vOf (u : U) (ws : List U) : inV (vOf u) (ws.map vOf) = inU u ws := by
  unfold inV inU
  rw [List.any_map]
  rfl
theorem all_flV {ws : List U} (h : ws.all flU = true) : (ws.map vOf).all flatV = true := by
  rw [List.all_map]
  rw [List.all_eq_true] at h ⊢
  exact fun x hx => flV_vOf (h x hx)
theorem ok_inF0 {neg : Bool} {op : CmpOp} (h0 : OpR X (compareOp op) (rIn X.K neg)) : BinOK X (compareOp op) (sInF neg) := by
  refine ⟨_, h0, fun {W B H e σ u w x y z Q} sr q vx vy t => ?_⟩
  unfold sInF at q
  split at q
  · split at q
    · rename_i h
      injection q with q
      subst q
      simp only [Bool.and_eq_true] at h
      obtain ⟨a, vs, e1, h1, r1⟩ := vy.lst sr.bh
      have := r1.fl h.2
      subst this
      have ex := vx.fl h.1
      subst ex
      refine ⟨a, _, e1, .inl (SqL.of h1), flV_vOf h.1, all_flV h.2, ?_⟩
      rw [inV_vOf]
      exact fin_val sr t (rep_bl _)
    · cases q
  · split at q
    · rename_i h
      injection q with q
      subst q
      simp only [Bool.and_eq_true] at h
      obtain ⟨a, vs, e1, h1, r1⟩ := vy.tup sr.bh
      have := r1.fl h.2
      subst this
      have ex := vx.fl h.1
      subst ex
      refine ⟨a, _, e1, .inr h1, flV_vOf h.1, all_flV h.2, ?_⟩
      rw [inV_vOf]
      exact fin_val sr t (rep_bl _)
    · cases q
  · cases q
theorem ok_inF : BinOK X (compareOp .In) (sInF false) := ok_inF0 op_in_seq
theorem ok_notInF : BinOK X (compareOp .NotIn) (sInF true) := ok_inF0 op_notIn_seq
end
end VS
set_option Elab.async false
set_option linter.all false
set_option maxRecDepth 100000
namespace VS
open PySem L2
def leS (x y : Str) : Bool := decide (x.cps.toList ≤ y.cps.toList)
theorem leS_trans (a b c : Str) (h : leS a b = true) (k : leS b c = true) : leS a c = true := by
  unfold leS at *
  simp only [decide_eq_true_eq] at *
  exact List.le_trans h k
theorem leS_total (a b : Str) : (leS a b || leS b a) = true := by
  unfold leS
  simp only [Bool.or_eq_true, decide_eq_true_eq]
  exact List.le_total _ _
theorem str_ext {a b : Str} (h : a.cps.toList = b.cps.toList) : a = b := by
  obtain ⟨x⟩ := a
  obtain ⟨y⟩ := b
  congr 1
  exact Array.ext' h
theorem leS_anti (a b : Str) (h : leS a b = true) (k : leS b a = true) : a = b := by
  unfold leS at *
  simp only [decide_eq_true_eq] at *
  exact str_ext (List.le_antisymm h k)
def sortS (xs : List Str) : List Str := xs.mergeSort leS
theorem ltCps_leS {x y : Str} (h : PySem.Spec.ltCps y.cps.toList x.cps.toList = false) : leS x y = true := by
  rw [PyProof.Rows.ltCps_eq] at h
  unfold leS
  simp only [decide_eq_false_iff_not, decide_eq_true_eq] at *
  exact List.not_lt.mp h
theorem rising_pair : ∀ {r : List Str} {p : Str}, PyProof.Rows.risingS p r = true → (p :: r).Pairwise (fun a b => leS a b = true)
  | [], p, _ => by simp
  | x :: r, p, h => by
    simp only [PyProof.Rows.risingS, Bool.and_eq_true, Bool.not_eq_true'] at h
    have ih := rising_pair h.2
    refine List.pairwise_cons.mpr ⟨fun y hy => ?_, ih⟩
    have px := ltCps_leS h.1
    rcases List.mem_cons.mp hy with rfl | hy
    · exact px
    · exact leS_trans _ _ _ px ((List.pairwise_cons.mp ih).1 y hy)
theorem sortedS_pair {r : List Str} (h : PyProof.Rows.sortedS r = true) : r.Pairwise (fun a b => leS a b = true) := by
  cases r with
  | nil => exact .nil
  | cons x r => exact rising_pair h
theorem sortS_pair (xs : List Str) : (sortS xs).Pairwise (fun a b => leS a b = true) := List.pairwise_mergeSort leS_trans leS_total xs
theorem sortS_unique {xs ys : List Str} (p : ys.Perm xs) (h : ys.Pairwise (fun a b => leS a b = true)) : ys = sortS xs :=
  List.Perm.eq_of_pairwise (fun a b _ _ => leS_anti a b) h (sortS_pair xs) (p.trans (List.mergeSort_perm xs leS).symm)
def sortI (xs : List Int) : List Int := xs.mergeSort fun a b => decide (a ≤ b)
theorem sortI_pair (xs : List Int) : (sortI xs).Pairwise (fun a b => a ≤ b) := by
  have := List.pairwise_mergeSort (le := fun a b : Int => decide (a ≤ b)) (fun a b c h k => by simp only [decide_eq_true_eq] at *; omega) (fun a b => by simp only [Bool.or_eq_true, decide_eq_true_eq]; omega) xs
  exact this.imp fun h => of_decide_eq_true h
theorem sortI_unique {xs ys : List Int} (p : ys.Perm xs) (h : ys.Pairwise (fun a b => a ≤ b)) : ys = sortI xs :=
  List.Perm.eq_of_pairwise (fun a b _ _ h k => Int.le_antisymm h k) h (sortI_pair xs) (p.trans (List.mergeSort_perm xs _).symm)
section
variable {X : Cx} {W : WXX} {a b ex : Expr} {es : List Expr} {pos : Pos}
def mVn : M (List U) := .ret []
def mVc (ma : M U) (mr : M (List U)) : M (List U) := ma.bd fun u => mr.bd fun us => .ret (u :: us)
theorem pvs_nil : PVs X W [] mVn := ⟨fun pos pins s σ H Q I ⟨B, e, sr, q⟩ => (pa_nil (X := X)).run pos pins s σ H Q I (q [] B H (Go.refl sr) (reps.nil' (Γ := ga X) (B := B)))⟩
theorem PAimp {t t' : TA} (h : PA X es t) (k : ∀ σ H Q, t' σ H Q → t σ H Q) : PA X es t' := ⟨fun pos pins s σ H Q I q => h.run pos pins s σ H Q I (k σ H Q q)⟩
theorem pvs_cons {ma : M U} {mr : M (List U)} (ha : PV X W ex ma) (hr : PVs X W es mr) (hs : starEach (ex :: es) X.env = (false, eval ex X.env) :: starEach es X.env := by rfl) : PVs X W (ex :: es) (mVc ma mr) := by
  refine PAimp (pa_cons ha hr hs) fun σ H Q ⟨B, e, sr, q⟩ => ⟨B, e, sr, (tAt.bd q).mono fun x H1 ⟨B1, e1, u, g1, r1, q1⟩ => ?_⟩
  refine ⟨B1, e1, g1.sr, (tAt.bd q1).mono fun xs H2 ⟨B2, e2, us, g2, r2, q2⟩ => ?_⟩
  exact q2 _ B2 H2 (Go.refl g2.sr) (reps.cons' (rep.mono g2.st.bb r1) r2)
theorem rep_tpd {Γ : Ga} {B : Hp} {us : List U} {v : V} (h : rep Γ B (.tpd us) v) : rep Γ B (.tup us) v := by
  simp only [rep] at h ⊢
  obtain ⟨a, o, vs, rfl, _, h2, r⟩ := h
  exact ⟨a, vs, rfl, .inl (.inr ⟨o, h2⟩), r⟩
def mLst (m : M (List U)) : M (Bool × U) := m.bd fun us => if us.length ≤ sizeLine then .ret (true, .lst us) else fun _ => .bad
def mTup (m : M (List U)) : M (Bool × U) := m.bd fun us => if us.length ≤ sizeLine then .ret (false, .tup us) else fun _ => .bad
theorem po_lst {m : M (List U)} (h : PVs X W es m) : PO X W (.List es pos) (mLst m) := by
  refine PEimp (pe_lst h) fun σ H Q ⟨B, e, sr, q⟩ => ⟨B, e, sr, (tAt.bd q).mono fun xs H1 ⟨B1, e1, us, g1, r1, q1⟩ => ?_⟩
  split at q1
  · rename_i hz
    refine ⟨by rw [← reps.length r1]; exact hz, fin_new (ho := fun _ => .lst xs) g1.sr q1 fun p => ⟨_, rfl, r1⟩⟩
  · exact q1.elim
theorem po_tup {m : M (List U)} {k : Nat} (h : PVs X W es m) : PO X W (.Tuple es k pos) (mTup m) := by
  refine PEimp (pe_tup h) fun σ H Q ⟨B, e, sr, q⟩ => ⟨B, e, sr, (tAt.bd q).mono fun xs H1 ⟨B1, e1, us, g1, r1, q1⟩ => ?_⟩
  split at q1
  · rename_i hz
    exact ⟨by rw [← reps.length r1]; exact hz, fin_tup g1.sr q1 r1⟩
  · exact q1.elim
def mDn : M (Bool × U) := .ret (true, .dct [])
theorem po_dn : PO X W (.Dict [] [] pos) mDn := PEimp pe_dnewK fun σ H Q ⟨B, e, sr, q⟩ => fin_new (ho := fun _ => .dK []) sr q fun p => .inl ⟨[], rfl, by simp only [repd]⟩
structure IxOK (X : Cx) (s : Op2) : Prop where
  ex : ∃ r : R2, IxR X r ∧ ∀ {W : WXX} {B H : Hp} {e : En} {σ : St} {u w : U} {x y : V} {z : Bool × U} {Q : VK}, SR (ga X) B H e σ → s u w = some z → Vw (ga X) B H u x → Vw (ga X) B H w y →
    tAt (ga X) W (rlO (ga X)) (M.ret z) B H e σ Q → r x y H Q
theorem IxOK.or {s t : Op2} (h : IxOK X s) (k : IxOK X t) : IxOK X (orS s t) := by
  obtain ⟨r, h1, h2⟩ := h.ex
  obtain ⟨r', k1, k2⟩ := k.ex
  refine ⟨_, h1.or k1, fun {W B H e σ u w x y z Q} sr q vx vy t' => ?_⟩
  unfold orS at q
  cases c : s u w with
  | some z' =>
    rw [c] at q
    injection q with q
    subst q
    exact .inl (h2 sr c vx vy t')
  | none =>
    rw [c] at q
    exact .inr (k2 sr q vx vy t')
theorem op2_core {s : Op2} {rd : R2} {ra rb : M Od} (hr : ∀ {W : WXX} {B H : Hp} {e : En} {σ : St} {u w : U} {x y : V} {z : Bool × U} {Q : VK}, SR (ga X) B H e σ → s u w = some z → Vw (ga X) B H u x → Vw (ga X) B H w y →
    tAt (ga X) W (rlO (ga X)) (M.ret z) B H e σ Q → rd x y H Q) (σ : St) (H : Hp) (Q : VK) (h : tG (ga X) W (rlO (ga X)) (mBin s ra rb) σ H Q) :
    tOp rd (tG (ga X) W (rlR (ga X)) ra) (tG (ga X) W (rlR (ga X)) rb) σ H Q := by
  obtain ⟨B, e, sr, q⟩ := h
  refine ⟨B, e, sr, (tAt.bd q).mono fun x H1 ⟨B1, e1, od1, g1, r1, q1⟩ => ?_⟩
  refine ⟨B1, e1, g1.sr, (tAt.bd q1).mono fun y H2 ⟨B2, e2, od2, g2, r2, q2⟩ => ?_⟩
  obtain ⟨u, w, z, h1, h2, h3, h4⟩ := op2_ok q2
  exact hr g2.sr h3 (rlR.vw g2.sr (rlR.keep (S' := may H1 e1 σ) r1 g2) h1) (rlR.vw g2.sr r2 h2) h4
theorem po_ix {s : Op2} {ra rb : M Od} (ok : IxOK X s) (ha : PR X W a ra) (hb : PR X W b rb) (hs : PlainIx b) : PO X W (.Subscript a b pos) (mBin s ra rb) := by
  obtain ⟨r, h1, h2⟩ := ok.ex
  exact PEimp (pe_ix h1 ha hb hs) fun σ H Q h => op2_core h2 σ H Q h
theorem atI_rep {Γ : Ga} {B : Hp} {us : List U} {vs : List V} {i : Int} {u : U} (r : reps Γ B us vs) (h : atI us i = some u) : ∃ v, atI vs i = some v ∧ rep Γ B u v := by
  unfold atI at *
  rw [← r.length]
  cases k : ixN us.length i with
  | none => rw [k] at h; cases h
  | some j => rw [k] at h; exact r.get h
def sIxL : Op2 := fun u w => match u, w with
  | .lst us, .int i => (atI us i).map fun x => (false, x)
  | .scr ns, .int i => (atI ns i).map fun x => (false, .int x)
  | _, _ => none
theorem ok_ixL : IxOK X sIxL := by
  refine ⟨_, ix_list, fun {W B H e σ u w x y z Q} sr q vx vy t => ?_⟩
  unfold sIxL at q
  split at q
  · rename_i us i
    obtain ⟨u, hu, rfl⟩ := Option.map_eq_some_iff.mp q
    obtain ⟨a, vs, e1, h1, r1⟩ := vx.lst sr.bh
    obtain ⟨v, hv, rv⟩ := atI_rep r1 hu
    exact ⟨a, vs, i, v, e1, vy.int, SqL.of h1, hv, fin_val sr t rv⟩
  · rename_i ns i
    obtain ⟨u, hu, rfl⟩ := Option.map_eq_some_iff.mp q
    obtain ⟨a, e1, h1⟩ := vx.scr sr.bh
    refine ⟨a, _, i, .int u, e1, vy.int, h1, ?_, fin_val sr t (rep_int _)⟩
    unfold atI at *
    rw [List.length_map]
    cases k : ixN ns.length i with
    | none => rw [k] at hu; cases hu
    | some j =>
      rw [k] at hu
      have hu' : ns[j]? = some u := hu
      show (ns.map V.int)[j]? = _
      rw [List.getElem?_map, hu']
      rfl
  · cases q
def sIxT : Op2 := fun u w => match u, w with
  | .tup us, .int i => (atI us i).map fun x => (false, x)
  | _, _ => none
theorem ok_ixT : IxOK X sIxT := by
  refine ⟨_, ix_tup, fun {W B H e σ u w x y z Q} sr q vx vy t => ?_⟩
  unfold sIxT at q
  split at q
  · rename_i us i
    obtain ⟨u, hu, rfl⟩ := Option.map_eq_some_iff.mp q
    obtain ⟨a, vs, e1, h1, r1⟩ := vx.tup sr.bh
    obtain ⟨v, hv, rv⟩ := atI_rep r1 hu
    exact ⟨a, vs, i, v, e1, vy.int, h1, hv, fin_val sr t rv⟩
  · cases q
def sIxS : Op2 := fun u w => match u, w with
  | .str x, .int i => if x.length ≤ sizeLine then (atI x.cps.toList i).map fun c => (false, .str ⟨#[c]⟩) else none
  | _, _ => none
theorem ok_ixS : IxOK X sIxS := by
  refine ⟨_, ix_str, fun {W B H e σ u w x y z Q} sr q vx vy t => ?_⟩
  unfold sIxS at q
  split at q
  · split at q
    · rename_i z0 i hz
      obtain ⟨c, hu, rfl⟩ := Option.map_eq_some_iff.mp q
      exact ⟨z0, i, c, vx.str, vy.int, hz, hu, fin_val sr t (rep_str _)⟩
    · cases q
  · cases q
abbrev Sl3 := U → Option Int → Option Int → Option (Bool × U)
structure SlOK (X : Cx) (s : Sl3) : Prop where
  ex : ∃ r : V → Option Int → Option Int → Hp → VK → Prop, SlR X r ∧ ∀ {W : WXX} {B H : Hp} {e : En} {σ : St} {u : U} {lo hi : Option Int} {x : V} {z : Bool × U} {Q : VK}, SR (ga X) B H e σ → s u lo hi = some z → Vw (ga X) B H u x →
    tAt (ga X) W (rlO (ga X)) (M.ret z) B H e σ Q → r x lo hi H Q
def orSl (s t : Sl3) : Sl3 := fun u l h => match s u l h with
  | some z => some z
  | none => t u l h
theorem SlOK.or {s t : Sl3} (h : SlOK X s) (k : SlOK X t) : SlOK X (orSl s t) := by
  obtain ⟨r, h1, h2⟩ := h.ex
  obtain ⟨r', k1, k2⟩ := k.ex
  refine ⟨_, h1.or k1, fun {W B H e σ u lo hi x z Q} sr q vx t' => ?_⟩
  unfold orSl at q
  cases c : s u lo hi with
  | some z' =>
    rw [c] at q
    injection q with q
    subst q
    exact .inl (h2 sr c vx t')
  | none =>
    rw [c] at q
    exact .inr (k2 sr q vx t')
def rlPart : Rl (Option Int) (Option Int) := ⟨fun a b _ _ _ _ _ => a = b, fun _ h => h⟩
abbrev PPart (X : Cx) (W : WXX) (ex : Option Expr) (m : M (Option Int)) : Prop := L2.PO X ex (tG (ga X) W rlPart m)
def mP0 : M (Option Int) := .ret none
def mP1 (m : M U) : M (Option Int) := m.bd fun u => match u with
  | .int i => .ret (some i)
  | _ => fun _ => .bad
theorem POimp {t t' : TO} {o : Option Expr} (h : L2.PO X o t) (k : ∀ σ H Q, t' σ H Q → t σ H Q) : L2.PO X o t' := ⟨fun pins s σ H Q I q => h.run pins s σ H Q I (k σ H Q q)⟩
theorem pp_none : PPart X W none mP0 := POimp po_none fun σ H Q ⟨B, e, sr, q⟩ => q none B H (Go.refl sr) rfl
theorem pp_some {m : M U} (h : PV X W ex m) : PPart X W (some ex) (mP1 m) := by
  refine POimp (po_some h) fun σ H Q ⟨B, e, sr, q⟩ => ⟨B, e, sr, (tAt.bd q).mono fun x H1 ⟨B1, e1, u, g1, r1, q1⟩ => ?_⟩
  cases u with
  | int i =>
    have r1' : rep (ga X) B1 (.int i) x := r1
    simp only [rep] at r1'
    exact ⟨i, r1', q1 _ B1 H1 (Go.refl g1.sr) rfl⟩
  | _ => exact False.elim q1
def mSlc (s : Sl3) (ra : M Od) (ml mh : M (Option Int)) : M (Bool × U) := ra.bd fun x => ml.bd fun l => mh.bd fun h => fun e => match rdO e x with
  | some u => match s u l h with
    | some z => .ok z e
    | none => .bad
  | none => .bad
theorem po_slc {s : Sl3} {ra : M Od} {ml mh : M (Option Int)} {lo hi : Option Expr} {p2 : Pos} (ok : SlOK X s) (ha : PR X W ex ra) (hl : PPart X W lo ml) (hh : PPart X W hi mh) : PO X W (.Subscript ex (.Slice lo hi none p2) pos) (mSlc s ra ml mh) := by
  obtain ⟨r, h1, h2⟩ := ok.ex
  refine PEimp (pe_slice h1 ha hl hh) fun σ H Q ⟨B, e, sr, q⟩ => ⟨B, e, sr, (tAt.bd q).mono fun x H1 ⟨B1, e1, od, g1, r1, q1⟩ => ?_⟩
  refine ⟨B1, e1, g1.sr, (tAt.bd q1).mono fun l H2 ⟨B2, e2, l', g2, r2, q2⟩ => ?_⟩
  refine ⟨B2, e2, g2.sr, (tAt.bd q2).mono fun h H3 ⟨B3, e3, h', g3, r3, q3⟩ => ?_⟩
  have r2' : l' = l := r2
  have r3' : h' = h := r3
  subst r2' r3'
  unfold tAt at q3
  dsimp only at q3
  cases h1' : rdO e3 od with
  | none => rw [h1'] at q3; exact q3.elim
  | some u =>
    rw [h1'] at q3
    dsimp only at q3
    cases h3 : s u l' h' with
    | none => rw [h3] at q3; exact q3.elim
    | some z =>
      rw [h3] at q3
      exact h2 (W := W) g3.sr h3 (rlR.vw g3.sr (rlR.keep (S' := may H e σ) (rlR.keep (S' := may H e σ) r1 g2) g3) h1') q3
def cutU (us : List U) (lo hi : Option Int) : List U := (us.drop (HT.sIx us.length 0 lo)).take (HT.sIx us.length us.length hi - HT.sIx us.length 0 lo)
theorem reps.cut {Γ : Ga} {B : Hp} {us : List U} {vs : List V} (r : reps Γ B us vs) (lo hi : Option Int) : reps Γ B (cutU us lo hi) (cutV vs lo hi) := by
  unfold cutU cutV
  rw [← r.length]
  exact (r.drop _).take _
def cutI (us : List Int) (lo hi : Option Int) : List Int := (us.drop (HT.sIx us.length 0 lo)).take (HT.sIx us.length us.length hi - HT.sIx us.length 0 lo)
theorem cutI_map (us : List Int) (lo hi : Option Int) : cutV (us.map V.int) lo hi = (cutI us lo hi).map V.int := by
  unfold cutV cutI
  rw [List.length_map, List.map_take, List.map_drop]
def sSlL : Sl3 := fun u lo hi => match u with
  | .lst us => some (true, .lst (cutU us lo hi))
  | .scr ns => some (true, .lst ((cutI ns lo hi).map .int))
  | _ => none
theorem ok_slL : SlOK X sSlL := by
  refine ⟨_, sl_list, fun {W B H e σ u lo hi x z Q} sr q vx t => ?_⟩
  unfold sSlL at q
  split at q
  · injection q with q
    subst q
    obtain ⟨a, vs, e1, h1, r1⟩ := vx.lst sr.bh
    exact ⟨a, vs, e1, SqL.of h1, fin_new (ho := fun _ => .lst _) sr t fun p => ⟨_, rfl, r1.cut lo hi⟩⟩
  · rename_i ns
    injection q with q
    subst q
    obtain ⟨a, e1, h1⟩ := vx.scr sr.bh
    refine ⟨a, _, e1, h1, ?_⟩
    rw [cutI_map]
    exact fin_new (ho := fun _ => .lst _) sr t fun p => ⟨_, rfl, (reps.nat _).mpr rfl⟩
  · cases q
def sSlS : Sl3 := fun u lo hi => match u with
  | .str x => if x.length ≤ sizeLine then some (false, .str (cutS x lo hi)) else none
  | _ => none
theorem ok_slS : SlOK X sSlS := by
  refine ⟨_, sl_str, fun {W B H e σ u lo hi x z Q} sr q vx t => ?_⟩
  unfold sSlS at q
  split at q
  · split at q
    · rename_i hz
      injection q with q
      subst q
      exact ⟨_, vx.str, hz, fin_val sr t (rep_str _)⟩
    · cases q
  · cases q
def rlRs (Γ : Ga) : Rl (List Od) (List V) := ⟨fun ods vs S B H e σ => Paired (fun od v => (rlR Γ).r od v S B H e σ) ods vs, fun {a b S S' B H e σ} hs h => Paired.mapP h fun od v r => (rlR Γ).mono hs r⟩
abbrev PRs (X : Cx) (W : WXX) (exs : List Expr) (m : M (List Od)) : Prop := PA X exs (tG (ga X) W (rlRs (ga X)) m)
def mRn : M (List Od) := .ret []
def mRc (ma : M Od) (mr : M (List Od)) : M (List Od) := ma.bd fun u => mr.bd fun us => .ret (u :: us)
theorem prs_nil : PRs X W [] mRn := ⟨fun pos pins s σ H Q I ⟨B, e, sr, q⟩ => (pa_nil (X := X)).run pos pins s σ H Q I (q [] B H (Go.refl sr) .nil)⟩
theorem prs_cons {ma : M Od} {mr : M (List Od)} (ha : PR X W ex ma) (hr : PRs X W es mr) (hs : starEach (ex :: es) X.env = (false, eval ex X.env) :: starEach es X.env := by rfl) : PRs X W (ex :: es) (mRc ma mr) := by
  refine PAimp (pa_cons ha hr hs) fun σ H Q ⟨B, e, sr, q⟩ => ⟨B, e, sr, (tAt.bd q).mono fun x H1 ⟨B1, e1, u, g1, r1, q1⟩ => ?_⟩
  refine ⟨B1, e1, g1.sr, (tAt.bd q1).mono fun xs H2 ⟨B2, e2, us, g2, r2, q2⟩ => ?_⟩
  exact q2 _ B2 H2 (Go.refl g2.sr) (.cons (rlR.keep r1 g2) r2)
def rdOs (e : En) : List Od → Option (List U)
  | [] => some []
  | x :: r => match rdO e x, rdOs e r with
    | some u, some us => some (u :: us)
    | _, _ => none
abbrev Vws (Γ : Ga) (B H : Hp) : List U → List V → Prop := Paired (Vw Γ B H)
theorem rdOs_vw {Γ : Ga} {B H : Hp} {e : En} {σ : St} {S : Addr → Prop} (s : SR Γ B H e σ) : ∀ {ods : List Od} {vs : List V} {us : List U}, Paired (fun od v => (rlR Γ).r od v S B H e σ) ods vs → rdOs e ods = some us → Vws Γ B H us vs
  | _, _, us, .nil, h => by
    unfold rdOs at h
    injection h with h
    subst h
    exact .nil
  | od :: ods, v :: vs, us, .cons r t, h => by
    unfold rdOs at h
    cases h1 : rdO e od with
    | none => rw [h1] at h; cases h
    | some u =>
      cases h2 : rdOs e ods with
      | none => rw [h1, h2] at h; cases h
      | some ws =>
        rw [h1, h2] at h
        injection h with h
        subst h
        exact .cons (rlR.vw s r h1) (rdOs_vw s t h2)
abbrev OpN := List U → Option (Bool × U)
structure CallOK (X : Cx) (f : Value) (s : OpN) : Prop where
  ex : ∃ r : List V → Hp → VK → Prop, CallR X f r ∧ ∀ {W : WXX} {B H : Hp} {e : En} {σ : St} {us : List U} {xs : List V} {z : Bool × U} {Q : VK}, SR (ga X) B H e σ → s us = some z → Vws (ga X) B H us xs →
    tAt (ga X) W (rlO (ga X)) (M.ret z) B H e σ Q → r xs H Q
def orN (s t : OpN) : OpN := fun us => match s us with
  | some z => some z
  | none => t us
theorem CallR.or' {f : Value} {r r' : List V → Hp → VK → Prop} (h : CallR X f r) (h' : CallR X f r') : CallR X f (fun xs H Q => r xs H Q ∨ r' xs H Q) := by
  intro pins s σ H xs us Q I rs q
  rcases q with q | q
  · exact h pins s σ H xs us Q I rs q
  · exact h' pins s σ H xs us Q I rs q
theorem CallOK.or {f : Value} {s t : OpN} (h : CallOK X f s) (k : CallOK X f t) : CallOK X f (orN s t) := by
  obtain ⟨r, h1, h2⟩ := h.ex
  obtain ⟨r', k1, k2⟩ := k.ex
  refine ⟨_, CallR.or' h1 k1, fun {W B H e σ us xs z Q} sr q vx t' => ?_⟩
  unfold orN at q
  cases c : s us with
  | some z' =>
    rw [c] at q
    injection q with q
    subst q
    exact .inl (h2 sr c vx t')
  | none =>
    rw [c] at q
    exact .inr (k2 sr q vx t')
def mCB (s : OpN) (m : M (List Od)) : M (Bool × U) := m.bd fun ods => fun e => match rdOs e ods with
  | some us => match s us with
    | some z => .ok z e
    | none => .bad
  | none => .bad
theorem cb_core {s : OpN} {m : M (List Od)} {r : List V → Hp → VK → Prop} (hr : ∀ {W : WXX} {B H : Hp} {e : En} {σ : St} {us : List U} {xs : List V} {z : Bool × U} {Q : VK}, SR (ga X) B H e σ → s us = some z → Vws (ga X) B H us xs →
    tAt (ga X) W (rlO (ga X)) (M.ret z) B H e σ Q → r xs H Q) (σ : St) (H : Hp) (Q : VK) (h : tG (ga X) W (rlO (ga X)) (mCB s m) σ H Q) : tCB r (tG (ga X) W (rlRs (ga X)) m) σ H Q := by
  obtain ⟨B, e, sr, q⟩ := h
  refine ⟨B, e, sr, (tAt.bd q).mono fun xs H1 ⟨B1, e1, ods, g1, r1, q1⟩ => ?_⟩
  unfold tAt at q1
  dsimp only at q1
  cases h1 : rdOs e1 ods with
  | none => rw [h1] at q1; exact q1.elim
  | some us =>
    rw [h1] at q1
    dsimp only at q1
    cases h3 : s us with
    | none => rw [h3] at q1; exact q1.elim
    | some z =>
      rw [h3] at q1
      exact hr (W := W) g1.sr h3 (rdOs_vw g1.sr r1 h1) q1
theorem po_callB {s : OpN} {m : M (List Od)} {id : String} {x : Str} {p : Pos} (ok : CallOK X (.builtin id) s) (hg : Gl X x) (hm : X.mg x = none) (hv : bootBuiltins x = some (.builtin id)) (ha : PRs X W (ex :: es) m) (hn : x ≠ "__name__" := by decide)
    (hdb : (x == ("__debug__" : Str)) = false := by decide) (he : starEach (ex :: es) X.env = (false, eval ex X.env) :: starEach es X.env := by rfl) (hpl : (backTo pos (starEach es X.env)).any (·.1) = false := by rfl) :
    PO X W (.Call (.Name x p) (ex :: es) [] pos) (mCB s m) := by
  obtain ⟨r, h1, h2⟩ := ok.ex
  exact PEimp (pe_callB h1 hg hm hv ha hn hdb he hpl) fun σ H Q h => cb_core h2 σ H Q h
theorem po_callTy {s : OpN} {m : M (List Od)} {T : String} {x : Str} {p : Pos} (ok : CallOK X (.type T) s) (hg : Gl X x) (hm : X.mg x = none) (hv : bootBuiltins x = some (.type T)) (ha : PRs X W (ex :: es) m) (hn : x ≠ "__name__" := by decide)
    (hdb : (x == ("__debug__" : Str)) = false := by decide) (he : starEach (ex :: es) X.env = (false, eval ex X.env) :: starEach es X.env := by rfl) (hpl : (backTo pos (starEach es X.env)).any (·.1) = false := by rfl) :
    PO X W (.Call (.Name x p) (ex :: es) [] pos) (mCB s m) := by
  obtain ⟨r, h1, h2⟩ := ok.ex
  exact PEimp (pe_callTy h1 hg hm hv ha hn hdb he hpl) fun σ H Q h => cb_core h2 σ H Q h
end
end VS
set_option Elab.async false
set_option linter.all false
set_option maxRecDepth 100000
namespace VS
open PySem L2
section
variable {X : Cx}
theorem vws1 {Γ : Ga} {B H : Hp} {u : U} {xs : List V} (h : Vws Γ B H [u] xs) : ∃ v, xs = [v] ∧ Vw Γ B H u v := by
  cases h with
  | cons r t => cases t; exact ⟨_, rfl, r⟩
theorem vws2 {Γ : Ga} {B H : Hp} {u w : U} {xs : List V} (h : Vws Γ B H [u, w] xs) : ∃ v x, xs = [v, x] ∧ Vw Γ B H u v ∧ Vw Γ B H w x := by
  cases h with
  | cons r t =>
    cases t with
    | cons r' t => cases t; exact ⟨_, _, rfl, r, r'⟩
def sLen : OpN := fun us => match us with
  | [.str x] => if x.length ≤ sizeLine then some (false, .int x.length) else none
  | [.lst ws] => some (false, .int ws.length)
  | [.tup ws] => some (false, .int ws.length)
  | [.scr ws] => some (false, .int ws.length)
  | _ => none
theorem ok_len0 : CallOK X (.builtin "len") sLen := by
  refine ⟨_, call_len, fun {W B H e σ us xs z Q} sr q vx t => ?_⟩
  unfold sLen at q
  split at q
  · split at q
    · rename_i hz
      injection q with q
      subst q
      obtain ⟨v, rfl, v1⟩ := vws1 vx
      rw [v1.str]
      exact ⟨_, _, rfl, ⟨hz, rfl⟩, fin_val sr t (rep_int _)⟩
    · cases q
  · injection q with q
    subst q
    obtain ⟨v, rfl, v1⟩ := vws1 vx
    obtain ⟨a, vs, rfl, h1, r1⟩ := v1.lst sr.bh
    exact ⟨_, _, rfl, .inl ⟨vs, SqL.of h1, r1.length⟩, fin_val sr t (rep_int _)⟩
  · injection q with q
    subst q
    obtain ⟨v, rfl, v1⟩ := vws1 vx
    obtain ⟨a, vs, rfl, h1, r1⟩ := v1.tup sr.bh
    exact ⟨_, _, rfl, .inr ⟨vs, h1, r1.length⟩, fin_val sr t (rep_int _)⟩
  · injection q with q
    subst q
    obtain ⟨v, rfl, v1⟩ := vws1 vx
    obtain ⟨a, rfl, h1⟩ := v1.scr sr.bh
    exact ⟨_, _, rfl, .inl ⟨_, h1, by rw [List.length_map]⟩, fin_val sr t (rep_int _)⟩
  · cases q
def sInt : OpN := fun us => match us with
  | [.int i] => some (false, .int i)
  | [.bl b] => some (false, .int (if b then 1 else 0))
  | _ => none
theorem ok_int : CallOK X (.type "int") sInt := by
  refine ⟨_, call_int1, fun {W B H e σ us xs z Q} sr q vx t => ?_⟩
  unfold sInt at q
  split at q
  · injection q with q
    subst q
    obtain ⟨v, rfl, v1⟩ := vws1 vx
    rw [v1.int]
    exact .inl ⟨_, rfl, fin_val sr t (rep_int _)⟩
  · injection q with q
    subst q
    obtain ⟨v, rfl, v1⟩ := vws1 vx
    rw [v1.bl]
    exact .inr ⟨_, rfl, fin_val sr t (rep_int _)⟩
  · cases q
def sMax2 : OpN := fun us => match us with
  | [.int i, .int j] => some (false, .int (if j > i then j else i))
  | _ => none
theorem ok_max2 (hc : X.calm = true) : CallOK X (.builtin "max") sMax2 := by
  refine ⟨_, call_max2 hc, fun {W B H e σ us xs z Q} sr q vx t => ?_⟩
  unfold sMax2 at q
  split at q
  · injection q with q
    subst q
    obtain ⟨v, w, rfl, v1, v2⟩ := vws2 vx
    rw [v1.int, v2.int]
    exact ⟨_, _, rfl, fin_val sr t (rep_int _)⟩
  · cases q
def sMin2 : OpN := fun us => match us with
  | [.int i, .int j] => some (false, .int (if j < i then j else i))
  | _ => none
theorem ok_min2 (hc : X.calm = true) : CallOK X (.builtin "min") sMin2 := by
  refine ⟨_, call_min2 hc, fun {W B H e σ us xs z Q} sr q vx t => ?_⟩
  unfold sMin2 at q
  split at q
  · injection q with q
    subst q
    obtain ⟨v, w, rfl, v1, v2⟩ := vws2 vx
    rw [v1.int, v2.int]
    exact ⟨_, _, rfl, fin_val sr t (rep_int _)⟩
  · cases q
def asInts : List U → Option (List Int)
  | [] => some []
  | .int i :: r => (asInts r).map (i :: ·)
  | _ => none
theorem asInts_eq : ∀ {us : List U} {ns : List Int}, asInts us = some ns → us = ns.map U.int
  | [], ns, h => by injection h with h; subst h; rfl
  | u :: us, ns, h => by
    cases u with
    | int i =>
      unfold asInts at h
      obtain ⟨r, h1, rfl⟩ := Option.map_eq_some_iff.mp h
      rw [asInts_eq h1]
      rfl
    | _ => cases h
theorem asInts_map (ns : List Int) : asInts (ns.map U.int) = some ns := by
  induction ns with
  | nil => rfl
  | cons n ns ih => rw [List.map_cons, asInts, ih]; rfl
def asStrs : List U → Option (List Str)
  | [] => some []
  | .str i :: r => (asStrs r).map (i :: ·)
  | _ => none
theorem asStrs_eq : ∀ {us : List U} {ns : List Str}, asStrs us = some ns → us = ns.map U.str
  | [], ns, h => by injection h with h; subst h; rfl
  | u :: us, ns, h => by
    cases u with
    | str i =>
      unfold asStrs at h
      obtain ⟨r, h1, rfl⟩ := Option.map_eq_some_iff.mp h
      rw [asStrs_eq h1]
      rfl
    | _ => cases h
theorem asStrs_map (ns : List Str) : asStrs (ns.map U.str) = some ns := by
  induction ns with
  | nil => rfl
  | cons n ns ih => rw [List.map_cons, asStrs, ih]; rfl
def asBls : List U → Option (List Bool)
  | [] => some []
  | .bl i :: r => (asBls r).map (i :: ·)
  | _ => none
theorem asBls_eq : ∀ {us : List U} {ns : List Bool}, asBls us = some ns → us = ns.map U.bl
  | [], ns, h => by injection h with h; subst h; rfl
  | u :: us, ns, h => by
    cases u with
    | bl i =>
      unfold asBls at h
      obtain ⟨r, h1, rfl⟩ := Option.map_eq_some_iff.mp h
      rw [asBls_eq h1]
      rfl
    | _ => cases h
theorem asBls_map (ns : List Bool) : asBls (ns.map U.bl) = some ns := by
  induction ns with
  | nil => rfl
  | cons n ns ih => rw [List.map_cons, asBls, ih]; rfl
def sAll : OpN := fun us => match us with
  | [.lst ws] => (asBls ws).map fun bs => (false, .bl (bs.all id))
  | _ => none
theorem ok_all (hc : X.calm = true) : CallOK X (.builtin "all") sAll := by
  refine ⟨_, cr_all hc, fun {W B H e σ us xs z Q} sr q vx t => ?_⟩
  unfold sAll at q
  split at q
  · obtain ⟨bs, hb, rfl⟩ := Option.map_eq_some_iff.mp q
    obtain ⟨v, rfl, v1⟩ := vws1 vx
    rw [asBls_eq hb] at v1
    obtain ⟨a, vs, rfl, h1, r1⟩ := v1.lst sr.bh
    rw [reps.bls] at r1
    subst r1
    exact ⟨a, bs, rfl, SqL.of h1, fin_val sr t (rep_bl _)⟩
  · cases q
def maxI : List Int → Int
  | [] => 0
  | [x] => x
  | x :: r => if maxI r ≤ x then x else maxI r
theorem maxI_le : ∀ (l : List Int) (x : Int), x ∈ l → x ≤ maxI l
  | [y], x, h => by
    have : x = y := by simpa using h
    subst this
    exact Int.le_refl _
  | y :: z :: r, x, h => by
    have ih := maxI_le (z :: r)
    unfold maxI
    rcases List.mem_cons.mp h with rfl | h
    · split <;> omega
    · have := ih x h
      split <;> omega
theorem maxI_unique {l : List Int} {m : Int} (h : m ∈ l) (k : ∀ y, y ∈ l → y ≤ m) : m = maxI l := by
  refine Int.le_antisymm (maxI_le l m h) ?_
  have : l ≠ [] := fun e => by subst e; cases h
  have mem : ∀ l : List Int, l ≠ [] → maxI l ∈ l := fun l => by
    induction l with
    | nil => intro h; exact absurd rfl h
    | cons y r ih =>
      intro _
      cases r with
      | nil => simp [maxI]
      | cons z r =>
        have := ih (by simp)
        unfold maxI
        split
        · simp
        · exact List.mem_cons_of_mem _ this
  exact k _ (mem l this)
def sMax1 : OpN := fun us => match us with
  | [.lst ws] => match asInts ws with
    | some (n :: ns) => some (false, .int (maxI (n :: ns)))
    | _ => none
  | _ => none
theorem ok_max1 (hc : X.calm = true) : CallOK X (.builtin "max") sMax1 := by
  refine ⟨_, cr_max hc, fun {W B H e σ us xs z Q} sr q vx t => ?_⟩
  unfold sMax1 at q
  split at q
  · split at q
    · rename_i n ns hb
      injection q with q
      subst q
      obtain ⟨v, rfl, v1⟩ := vws1 vx
      rw [asInts_eq hb] at v1
      obtain ⟨a, vs, rfl, h1, r1⟩ := v1.lst sr.bh
      rw [reps.nat] at r1
      subst r1
      refine ⟨a, n :: ns, rfl, SqL.of h1, by simp, fun m hm hk => ?_⟩
      rw [maxI_unique hm hk]
      exact fin_val sr t (rep_int _)
    · cases q
  · cases q
def sSortS : OpN := fun us => match us with
  | [.lst ws] => match asStrs ws with
    | some ns => if ns.length < 64 then some (true, .lst ((sortS ns).map .str)) else none
    | _ => none
  | _ => none
theorem ok_sortS : CallOK X (.builtin "sorted") sSortS := by
  refine ⟨_, cr_sortedS, fun {W B H e σ us xs z Q} sr q vx t => ?_⟩
  unfold sSortS at q
  split at q
  · split at q
    · rename_i ns hb
      split at q
      · rename_i hz
        injection q with q
        subst q
        obtain ⟨v, rfl, v1⟩ := vws1 vx
        rw [asStrs_eq hb] at v1
        obtain ⟨a, vs, rfl, h1, r1⟩ := v1.lst sr.bh
        rw [reps.strs] at r1
        subst r1
        refine ⟨a, ns, rfl, SqL.of h1, hz, fun ys p pm st hp => ?_⟩
        rw [sortS_unique pm (sortedS_pair st)]
        exact fin_new (ho := fun _ => .lst _) sr t (fun p => ⟨_, rfl, (reps.strs _).mpr rfl⟩) p hp
      · cases q
    · cases q
  · cases q
def sSortI : OpN := fun us => match us with
  | [.lst ws] => match asInts ws with
    | some ns => if ns.length < 64 then some (true, .lst ((sortI ns).map .int)) else none
    | _ => none
  | _ => none
theorem ok_sortI : CallOK X (.builtin "sorted") sSortI := by
  refine ⟨_, cr_sorted, fun {W B H e σ us xs z Q} sr q vx t => ?_⟩
  unfold sSortI at q
  split at q
  · split at q
    · rename_i ns hb
      split at q
      · rename_i hz
        injection q with q
        subst q
        obtain ⟨v, rfl, v1⟩ := vws1 vx
        rw [asInts_eq hb] at v1
        obtain ⟨a, vs, rfl, h1, r1⟩ := v1.lst sr.bh
        rw [reps.nat] at r1
        subst r1
        refine ⟨a, ns, rfl, SqL.of h1, hz, fun ys p pm st hp => ?_⟩
        rw [sortI_unique pm st]
        exact fin_new (ho := fun _ => .lst _) sr t (fun p => ⟨_, rfl, (reps.nat _).mpr rfl⟩) p hp
      · cases q
    · cases q
  · cases q
def sList : OpN := fun us => match us with
  | [.lst ws] => some (true, .lst ws)
  | [.tup ws] => some (true, .lst ws)
  | [.scr ns] => some (true, .lst (ns.map .int))
  | _ => none
theorem ok_list : CallOK X (.type "list") sList := by
  refine ⟨_, call_list_of, fun {W B H e σ us xs z Q} sr q vx t => ?_⟩
  unfold sList at q
  split at q
  · injection q with q
    subst q
    obtain ⟨v, rfl, v1⟩ := vws1 vx
    obtain ⟨a, vs, rfl, h1, r1⟩ := v1.lst sr.bh
    exact ⟨a, vs, rfl, .inl (SqL.of h1), fin_new (ho := fun _ => .lst _) sr t fun p => ⟨_, rfl, r1⟩⟩
  · injection q with q
    subst q
    obtain ⟨v, rfl, v1⟩ := vws1 vx
    obtain ⟨a, vs, rfl, h1, r1⟩ := v1.tup sr.bh
    exact ⟨a, vs, rfl, .inr h1, fin_new (ho := fun _ => .lst _) sr t fun p => ⟨_, rfl, r1⟩⟩
  · injection q with q
    subst q
    obtain ⟨v, rfl, v1⟩ := vws1 vx
    obtain ⟨a, rfl, h1⟩ := v1.scr sr.bh
    exact ⟨a, _, rfl, .inl h1, fin_new (ho := fun _ => .lst _) sr t fun p => ⟨_, rfl, (reps.nat _).mpr rfl⟩⟩
  · cases q
def sTuple : OpN := fun us => match us with
  | [.lst ws] => some (false, .tup ws)
  | [.tup ws] => some (false, .tup ws)
  | _ => none
theorem ok_tuple : CallOK X (.type "tuple") sTuple := by
  refine ⟨_, call_tuple_of, fun {W B H e σ us xs z Q} sr q vx t => ?_⟩
  unfold sTuple at q
  split at q
  · injection q with q
    subst q
    obtain ⟨v, rfl, v1⟩ := vws1 vx
    obtain ⟨a, vs, rfl, h1, r1⟩ := v1.lst sr.bh
    exact ⟨a, vs, rfl, .inl ⟨SqL.of h1, fin_tup sr t r1⟩⟩
  · injection q with q
    subst q
    obtain ⟨v, rfl, v1⟩ := vws1 vx
    rcases v1 with r | ⟨_, _, _, _, n⟩
    · have r' := r
      simp only [rep] at r
      obtain ⟨a, vs, rfl, h1, r1⟩ := r
      exact ⟨a, vs, rfl, .inr ⟨sqT_same sr.bh h1, fin_val sr t r'⟩⟩
    · exact n.elim
  · cases q
end
end VS
set_option Elab.async false
set_option linter.all false
set_option maxRecDepth 100000
namespace VS
open PySem L2
inductive RS where
  | nx (e : En)
  | rt (o : Bool) (u : U) (e : En)
  | bk (e : En)
  | ct (e : En)
  | exc (c : Str) (u : U) (e : En)
  | bad
abbrev MS := En → RS
def Kp (pr : Nat → Bool) (σ σ' : St) : Prop := σ'.length = σ.length ∧ ∀ i : Nat, pr i = true → σ'[i]? = σ[i]?
theorem Kp.refl {pr : Nat → Bool} {σ : St} : Kp pr σ σ := ⟨rfl, fun _ _ => rfl⟩
theorem Kp.trans {pr : Nat → Bool} {σ σ1 σ2 : St} (h : Kp pr σ σ1) (k : Kp pr σ1 σ2) : Kp pr σ σ2 := ⟨k.1.trans h.1, fun i p => (k.2 i p).trans (h.2 i p)⟩
theorem Kp.set {pr : Nat → Bool} {σ : St} {i : Nat} {x : Option V} (h : pr i = false) : Kp pr σ (σ.set i x) := ⟨List.length_set, fun j p => by
  rw [List.getElem?_set_ne]
  intro e
  subst e
  rw [h] at p
  cases p⟩
theorem Kp.sub {pr pr' : Nat → Bool} {σ σ' : St} (h : ∀ i, pr i = true → pr' i = true) (k : Kp pr' σ σ') : Kp pr σ σ' := ⟨k.1, fun i p => k.2 i (h i p)⟩
def rsP (Γ : Ga) (W : WXX) (pr : Nat → Bool) (B H : Hp) (e : En) (σ : St) (D : Ends) : RS → Prop
  | .nx e' => ∀ B' H' σ', Go Γ B H e σ B' H' e' σ' → Kp pr σ σ' → D.nx σ' H'
  | .bk e' => ∀ B' H' σ', Go Γ B H e σ B' H' e' σ' → Kp pr σ σ' → D.bk σ' H'
  | .ct e' => ∀ B' H' σ', Go Γ B H e σ B' H' e' σ' → Kp pr σ σ' → D.ct σ' H'
  | .rt o u e' => ∀ v B' H' σ', Go Γ B H e σ B' H' e' σ' → Kp pr σ σ' → (rlO Γ).r (o, u) v (may H e σ) B' H' e' σ' → D.rt v H'
  | .exc c u e' => ∀ cls d B' H' σ', Go Γ B H e σ B' H' e' σ' → Kp pr σ σ' → exrep Γ (may H e σ) B' H' c u cls d → W cls d σ' H'
  | .bad => False
def sAt (Γ : Ga) (W : WXX) (pr : Nat → Bool) (m : MS) (B H : Hp) (e : En) (σ : St) (D : Ends) : Prop := rsP Γ W pr B H e σ D (m e)
def sG (Γ : Ga) (W : WXX) (pr : Nat → Bool) (m : MS) : TS := fun D σ H => ∃ B e, SR Γ B H e σ ∧ sAt Γ W pr m B H e σ D
abbrev PSV (X : Cx) (W : WXX) (pr : Nat → Bool) (st : Stmt) (m : MS) : Prop := PS X st (sG (ga X) W pr m)
abbrev PSsV (X : Cx) (W : WXX) (pr : Nat → Bool) (st : List Stmt) (m : MS) : Prop := PSs X st (sG (ga X) W pr m)
def MS.nop : MS := fun e => .nx e
def MS.seq (m k : MS) : MS := fun e => match m e with
  | .nx e' => k e'
  | r => r
def M.bs {α : Type} (m : M α) (k : α → MS) : MS := fun e => match m e with
  | .ok a e' => k a e'
  | .exc c u e' => .exc c u e'
  | .bad => .bad
section
variable {Γ : Ga} {W : WXX} {pr : Nat → Bool} {B H B1 H1 : Hp} {e e1 : En} {σ σ1 : St} {D : Ends}
theorem rsP.later (g : Go Γ B H e σ B1 H1 e1 σ1) (kp : Kp pr σ σ1) : ∀ {r : RS}, rsP Γ W pr B H e σ D r → rsP Γ W pr B1 H1 e1 σ1 D r
  | .nx e', h => fun B' H' σ' g2 k2 => h B' H' σ' (g.trans g2) (kp.trans k2)
  | .bk e', h => fun B' H' σ' g2 k2 => h B' H' σ' (g.trans g2) (kp.trans k2)
  | .ct e', h => fun B' H' σ' g2 k2 => h B' H' σ' (g.trans g2) (kp.trans k2)
  | .rt o u e', h => fun v B' H' σ' g2 k2 r => h v B' H' σ' (g.trans g2) (kp.trans k2) ((rlO Γ).mono g.may r)
  | .exc c u e', h => fun cls d B' H' σ' g2 k2 x => h cls d B' H' σ' (g.trans g2) (kp.trans k2) (x.mono g.may)
  | .bad, h => h
theorem sAt.seq {m k : MS} (s : SR Γ B H e σ) (h : sAt Γ W pr (m.seq k) B H e σ D) : sAt Γ W pr m B H e σ { D with nx := sG Γ W pr k D } := by
  unfold sAt MS.seq at h
  unfold sAt
  cases q : m e with
  | nx e' =>
    rw [q] at h
    exact fun B' H' σ' g kp => ⟨B', e', g.sr, rsP.later g kp h⟩
  | bk e' => rw [q] at h; exact h
  | ct e' => rw [q] at h; exact h
  | rt o u e' => rw [q] at h; exact h
  | exc c u e' => rw [q] at h; exact h
  | bad => rw [q] at h; exact h
theorem sAt.bs {α β : Type} {rl : Rl α β} {m : M α} {k : α → MS} (h : sAt Γ W pr (m.bs k) B H e σ D) :
    tAt Γ W rl m B H e σ fun b H1 => ∃ B1 e1 a, Go Γ B H e σ B1 H1 e1 σ ∧ rl.r a b (may H e σ) B1 H1 e1 σ ∧ sAt Γ W pr (k a) B1 H1 e1 σ D := by
  unfold sAt M.bs at h
  unfold tAt
  cases q : m e with
  | ok a e' =>
    rw [q] at h
    exact fun b B' H' g r => ⟨B', e', a, g, r, rsP.later g Kp.refl h⟩
  | exc c u e' =>
    rw [q] at h
    exact fun cls d B' H' g x => h cls d B' H' σ g Kp.refl x
  | bad => rw [q] at h; exact h
theorem rlO.keep {r : Bool × U} {v : V} {S : Addr → Prop} {B' H' : Hp} {e' : En} (h : (rlO Γ).r r v S B H e σ) (s : SR Γ B H e σ) (g : Go Γ B H e σ B' H' e' σ) : (rlO Γ).r r v S B' H' e' σ := by
  obtain ⟨o, u⟩ := r
  cases o with
  | false => exact rep.mono g.st.bb h
  | true =>
    obtain ⟨a, ho, h1, h2, h3, h4, h5, h6⟩ := h
    refine ⟨a, ho, h1, g.st.fr a ho h2 h5, h3.mono g.st.bb, g.st.nb a ho h2 h5 h4, fun z => ?_, h6⟩
    rcases g.sub a z with q | q
    · exact h5 q
    · rw [h2] at q; cases q
theorem Go.store {i : Nat} {r : Bool × U} {v : V} (s : SR Γ B H e σ) (h : (rlO Γ).r r v S B H e σ) {B0 H0 : Hp} {e0 : En} {σ0 : St} (g : Go Γ B0 H0 e0 σ0 B H e σ) (hS : ∀ a, S a → VS.may H0 e0 σ0 a) :
    Go Γ B0 H0 e0 σ0 B H (e.set i (some r)) (σ.set i (some v)) := by
  obtain ⟨o, u⟩ := r
  have ln := s.ln
  have get : ∀ (j : Nat) (x : Bool × U), (e.set i (some (o, u)))[j]? = some (some x) → (j = i ∧ x = (o, u) ∧ i < σ.length) ∨ (j ≠ i ∧ e[j]? = some (some x)) := fun j x hj => by
    by_cases ij : i = j
    · subst ij
      rw [List.getElem?_set] at hj
      simp only [if_true] at hj
      split at hj
      · rename_i hl
        injection hj with hj
        injection hj with hj
        exact .inl ⟨rfl, hj.symm, by omega⟩
      · cases hj
    · rw [List.getElem?_set_ne ij] at hj
      exact .inr ⟨fun z => ij z.symm, hj⟩
  have sg : ∀ {j : Nat}, j ≠ i → (σ.set i (some v))[j]? = σ[j]? := fun {j} n => List.getElem?_set_ne (Ne.symm n)
  have si : i < σ.length → (σ.set i (some v))[i]? = some (some v) := fun hl => List.getElem?_set_self hl
  have fresh : ∀ a, o = true → v = .ref a → ¬ own e σ a := fun a ho hv => by
    subst ho
    obtain ⟨b, ho, h1, h2, h3, h4, h5, h6⟩ := h
    rw [hv] at h1
    cases h1
    exact h5
  refine ⟨g.st, ⟨s.bh, by simp [ln], fun j w hj => ?_, fun j w hj => ?_, fun j k w x a hj hk s1 s2 => ?_⟩, fun a z => ?_⟩
  · rcases get j _ hj with ⟨rfl, e1, hl⟩ | ⟨n, hj⟩
    · cases e1
      exact ⟨v, si hl, h⟩
    · rw [sg n]
      exact s.vl j w hj
  · rcases get j _ hj with ⟨rfl, e1, hl⟩ | ⟨n, hj⟩
    · cases e1
      obtain ⟨a, ho, h1, h2, h3, h4, h5, h6⟩ := h
      exact ⟨a, ho, by rw [si hl, h1], h2, h3, h4⟩
    · rw [sg n]
      exact s.ow j w hj
  · rcases get j _ hj with ⟨rfl, e1, hl⟩ | ⟨n, hj'⟩
    · rcases get k _ hk with ⟨rfl, e2, hl2⟩ | ⟨n2, hk'⟩
      · rfl
      · cases e1
        rw [si hl] at s1
        rw [sg n2] at s2
        injection s1 with s1
        injection s1 with s1
        exact absurd ⟨k, x, hk', s2⟩ (fresh a rfl s1)
    · rcases get k _ hk with ⟨rfl, e2, hl2⟩ | ⟨n2, hk'⟩
      · cases e2
        rw [si hl2] at s2
        rw [sg n] at s1
        injection s2 with s2
        injection s2 with s2
        exact absurd ⟨j, w, hj', s1⟩ (fresh a rfl s2)
      · rw [sg n] at s1
        rw [sg n2] at s2
        exact s.ds j k w x a hj' hk' s1 s2
  · obtain ⟨j, w, hj, hs⟩ := z
    rcases get j _ hj with ⟨rfl, e1, hl⟩ | ⟨n, hj⟩
    · cases e1
      rw [si hl] at hs
      injection hs with hs
      injection hs with hs
      obtain ⟨b, ho, h1, h2, h3, h4, h5, h6⟩ := h
      rw [hs] at h1
      cases h1
      exact hS _ h6
    · rw [sg n] at hs
      exact g.sub a ⟨j, w, hj, hs⟩
theorem Go.write {i : Nat} {u u' : U} {a : Addr} {ho : HO} (s : SR Γ B H e σ) (q : e[i]? = some (some (true, u))) (ea : σ[i]? = some (some (.ref a))) (n : nod Γ B a u' ho) :
    Go Γ B H e σ B (upd H a ho) (e.set i (some (true, u'))) σ := by
  obtain ⟨b, ho0, h1, h2, h3, h4⟩ := s.ow i u q
  rw [ea] at h1
  cases h1
  have get : ∀ (j : Nat) (x : Bool × U), (e.set i (some (true, u')))[j]? = some (some x) → (j = i ∧ x = (true, u')) ∨ (j ≠ i ∧ e[j]? = some (some x)) := fun j x hj => by
    by_cases ij : i = j
    · subst ij
      rw [List.getElem?_set] at hj
      simp only [if_true] at hj
      split at hj
      · injection hj with hj
        injection hj with hj
        exact .inl ⟨rfl, hj.symm⟩
      · cases hj
    · rw [List.getElem?_set_ne ij] at hj
      exact .inr ⟨fun z => ij z.symm, hj⟩
  have old : ∀ (j : Nat) (w : U), (e.set i (some (true, u')))[j]? = some (some (true, w)) → ∃ w', e[j]? = some (some (true, w')) := fun j w hj => by
    rcases get j _ hj with ⟨rfl, e1⟩ | ⟨_, hj⟩
    · exact ⟨u, q⟩
    · exact ⟨w, hj⟩
  refine ⟨⟨Same.refl _, fun b o hb nb => ?_, fun b o hb nb b0 => b0⟩, ⟨same_upd2 s.bh h4, by simp [s.ln], fun j w hj => ?_, fun j w hj => ?_, fun j k w x b hj hk s1 s2 => ?_⟩, fun b z => ?_⟩
  · have : b ≠ a := fun z => nb (by subst z; exact ⟨i, u, q, ea⟩)
    rw [upd_ne this]; exact hb
  · rcases get j _ hj with ⟨rfl, e1⟩ | ⟨n, hj⟩
    · cases e1
    · exact s.vl j w hj
  · rcases get j _ hj with ⟨rfl, e1⟩ | ⟨nn, hj⟩
    · cases e1
      exact ⟨a, ho, ea, upd_same, n, h4⟩
    · obtain ⟨b, ho', k1, k2, k3, k4⟩ := s.ow j w hj
      have : b ≠ a := fun z => nn (s.ds j i w u a hj q (by rw [k1, z]) ea)
      exact ⟨b, ho', k1, by rw [upd_ne this]; exact k2, k3, k4⟩
  · obtain ⟨w', hj⟩ := old j w hj
    obtain ⟨x', hk⟩ := old k x hk
    exact s.ds j k w' x' b hj hk s1 s2
  · obtain ⟨j, w, hj, hs⟩ := z
    obtain ⟨w', hj⟩ := old j w hj
    exact .inl ⟨j, w', hj, hs⟩
end
section
variable {X : Cx} {W : WXX} {pr : Nat → Bool} {st : Stmt} {sts : List Stmt} {ex : Expr} {pos : Pos}
theorem PSimp {t t' : TS} (h : PS X st t) (k : ∀ D σ H, t' D σ H → t D σ H) : PS X st t' := ⟨fun pins s σ H D I q => h.run pins s σ H D I (k D σ H q)⟩
theorem PSsimp {t t' : TS} (h : PSs X sts t) (k : ∀ D σ H, t' D σ H → t D σ H) : PSs X sts t' := ⟨fun pins s σ H D I q => h.run pins s σ H D I (k D σ H q)⟩
theorem bv_nil : PSsV X W pr [] MS.nop := PSsimp pss_nil fun D σ H ⟨B, e, sr, q⟩ => q B H σ (Go.refl sr) Kp.refl
theorem bv_cons {m k : MS} (h : PSV X W pr st m) (h2 : PSsV X W pr sts k) : PSsV X W pr (st :: sts) (m.seq k) := PSsimp (pss_cons h h2) fun D σ H ⟨B, e, sr, q⟩ => ⟨B, e, sr, sAt.seq sr q⟩
theorem bv_one {m : MS} (h : PSV X W pr st m) : PSsV X W pr [st] m := pss_one h
def mDrp (m : M U) : MS := m.bs fun _ => MS.nop
theorem sv_expr {m : M U} (h : PV X W ex m) (hs : swapsWith ex none pos.line X.env = pure false := by rfl) : PSV X W pr (.Expr ex pos) (mDrp m) :=
  PSimp (ps_expr h hs) fun D σ H ⟨B, e, sr, q⟩ => ⟨B, e, sr, (sAt.bs q).mono fun x H1 ⟨B1, e1, u, g1, r1, q1⟩ => q1 B1 H1 σ (Go.refl g1.sr) Kp.refl⟩
def mRet (m : M (Bool × U)) : MS := m.bs fun r e => .rt r.1 r.2 e
theorem sv_ret {m : M (Bool × U)} (h : PO X W ex m) : PSV X W pr (.Return (some ex) pos) (mRet m) := by
  refine PSimp (ps_ret h) fun D σ H ⟨B, e, sr, q⟩ => ⟨B, e, sr, ?_⟩
  unfold mRet sAt M.bs at q
  unfold tAt
  cases z : m e with
  | ok a e' =>
    rw [z] at q
    exact fun b B' H' g r => q b B' H' σ g Kp.refl r
  | exc c u e' =>
    rw [z] at q
    exact fun cls d B' H' g x => q cls d B' H' σ g Kp.refl x
  | bad => rw [z] at q; exact q
def mRetV (i : Nat) : MS := fun e => match e[i]? with
  | some (some (false, u)) => .rt false u e
  | some (some (true, u)) => .rt true u (e.set i none)
  | _ => .bad
theorem Go.drop {Γ : Ga} {B H : Hp} {e : En} {σ : St} {i : Nat} (s : SR Γ B H e σ) : Go Γ B H e σ B H (e.set i none) σ := by
  have old : ∀ (j : Nat) (x : Bool × U), (e.set i none)[j]? = some (some x) → e[j]? = some (some x) := fun j x hj => by
    rw [List.getElem?_set] at hj
    split at hj
    · split at hj <;> cases hj
    · exact hj
  exact ⟨⟨Same.refl _, fun _ _ h _ => h, fun _ _ _ _ h => h⟩, ⟨s.bh, by simp [s.ln], fun j w hj => s.vl j w (old j _ hj), fun j w hj => s.ow j w (old j _ hj), fun j k w x a hj hk => s.ds j k w x a (old j _ hj) (old k _ hk)⟩, fun a ⟨j, w, h1, h2⟩ => .inl ⟨j, w, old j _ h1, h2⟩⟩
theorem sv_retV {i : Nat} {x : Str} {p : Pos} (hN : X.N[i]? = some x) (hv : Vis X.env.scope x) (hd : (x == ("__debug__" : Str)) = false := by decide) (hcd : (x == ("__classdict__" : Str)) = false := by decide) : PSV X W pr (.Return (some (.Name x p)) pos) (mRetV i) := by
  refine PSimp (ps_ret (pe_var hN hv hd hcd)) fun D σ H ⟨B, e, sr, q⟩ => ?_
  unfold sAt mRetV at q
  cases z : e[i]? with
  | none => rw [z] at q; exact q.elim
  | some r =>
    rw [z] at q
    cases r with
    | none => exact q.elim
    | some r =>
      obtain ⟨o, u⟩ := r
      cases o with
      | false =>
        obtain ⟨v, h1, h2⟩ := sr.vl i u z
        exact ⟨v, h1, q v B H σ (Go.refl sr) Kp.refl h2⟩
      | true =>
        obtain ⟨a, ho, h1, h2, h3, h4⟩ := sr.ow i u z
        refine ⟨_, h1, q _ B H σ (Go.drop sr) Kp.refl ⟨a, ho, rfl, h2, h3, h4, fun w => ?_, .inl ⟨i, u, z, h1⟩⟩⟩
        obtain ⟨j, w, k1, k2⟩ := w
        rw [List.getElem?_set] at k1
        split at k1
        · split at k1 <;> cases k1
        · rename_i n
          exact n (sr.ds i j u w a z k1 h1 k2)
def sSet (i : Nat) (r : Bool × U) : MS := fun e => .nx (e.set i (some r))
def mAsg (i : Nat) (m : M (Bool × U)) : MS := m.bs fun r => sSet i r
theorem set_core {i : Nat} {te : TE} {m : M (Bool × U)} (hp : pr i = false) (h : ∀ σ H Q, tG (ga X) W (rlO (ga X)) m σ H Q → te σ H Q) (D : Ends) (σ : St) (H : Hp) (q : sG (ga X) W pr (mAsg i m) D σ H) : tAsg te (gName i) D σ H := by
  obtain ⟨B, e, sr, q⟩ := q
  refine h σ H _ ⟨B, e, sr, ?_⟩
  unfold sAt mAsg M.bs sSet at q
  unfold tAt
  cases z : m e with
  | ok a e' =>
    rw [z] at q
    exact fun b B' H' g r => q B' H' _ (Go.store g.sr r g fun _ h => h) (Kp.set hp)
  | exc c u e' =>
    rw [z] at q
    exact fun cls d B' H' g x => q cls d B' H' σ g Kp.refl x
  | bad => rw [z] at q; exact q
theorem sv_set {i : Nat} {x : Str} {p : Pos} {m : M (Bool × U)} (hN : X.N.Nodup) (hi : X.N[i]? = some x) (hx : Loc X.env.scope x) (hp : pr i = false) (h : PO X W ex m) (hs : swapsWith ex (some (.Name x p)) pos.line X.env = pure false := by rfl)
    (hf : X.fn x = true ∨ X.env.scope.names.lookup x = some .local := by first | exact .inl rfl | exact .inr rfl | assumption) : PSV X W pr (.Assign [.Name x p] ex pos) (mAsg i m) :=
  PSimp (ps_set hN hi hx h hs hf) fun D σ H q => set_core hp (fun _ _ _ h => h) D σ H q
def mIf (c : M Bool) (a b : MS) : MS := c.bs fun k => if k then a else b
theorem sv_if {c : Expr} {p q : List Stmt} {mc : M Bool} {ma mb : MS} (hc : PTB X W c mc) (ha : PSsV X W pr p ma) (hb : PSsV X W pr q mb) : PSV X W pr (.If c p q pos) (mIf mc ma mb) := by
  refine PSimp (ps_if hc ha hb) fun D σ H ⟨B, e, sr, q⟩ => ⟨B, e, sr, (sAt.bs q).mono fun k H1 ⟨B1, e1, k', g1, r1, q1⟩ => ?_⟩
  have r1' : k' = k := r1
  subst r1'
  cases k' with
  | true => exact ⟨B1, e1, g1.sr, q1⟩
  | false => exact ⟨B1, e1, g1.sr, q1⟩
end
end VS
set_option Elab.async false
set_option linter.all false
set_option maxRecDepth 100000
namespace VS
open PySem L2
abbrev MT := U → En → Option En
def gG (Γ : Ga) (pr : Nat → Bool) (t : MT) : TG := fun v σ H Q => ∃ B e u, SR Γ B H e σ ∧ rep Γ B u v ∧ match t u e with
  | some e' => ∀ B' H' σ', Go Γ B H e σ B' H' e' σ' → Kp pr σ σ' → Q σ' H'
  | none => False
abbrev PGV (X : Cx) (pr : Nat → Bool) (tg : Expr) (t : MT) : Prop := PG X tg (gG (ga X) pr t)
def tgN (i : Nat) : MT := fun u e => some (e.set i (some (false, u)))
abbrev MTs := List U → En → Option En
def tgs0 : MTs := fun us e => match us with
  | [] => some e
  | _ => none
def tgsC (t : MT) (r : MTs) : MTs := fun us e => match us with
  | u :: us => match t u e with
    | some e' => r us e'
    | none => none
  | [] => none
def tgT (n : Nat) (r : MTs) : MT := fun u e => match u with
  | .tup us => if us.length = n then r us e else none
  | _ => none
def gGs (Γ : Ga) (pr : Nat → Bool) (t : MTs) : TGs := fun vs σ H Q => ∃ B e us, SR Γ B H e σ ∧ reps Γ B us vs ∧ match t us e with
  | some e' => ∀ B' H' σ', Go Γ B H e σ B' H' e' σ' → Kp pr σ σ' → Q σ' H'
  | none => False
abbrev PGsV (X : Cx) (pr : Nat → Bool) (tgs : List Expr) (t : MTs) : Prop := PGs X tgs (gGs (ga X) pr t)
section
variable {X : Cx} {pr : Nat → Bool} {tg ex : Expr} {es : List Expr} {pos : Pos}
theorem PGimp {t t' : TG} (h : PG X tg t) (k : ∀ v σ H Q, t' v σ H Q → t v σ H Q) : PG X tg t' := ⟨fun pins s σ H v u Q I r q => h.run pins s σ H v u Q I r (k v σ H Q q)⟩
theorem PGsimp {t t' : TGs} (h : PGs X es t) (k : ∀ v σ H Q, t' v σ H Q → t v σ H Q) : PGs X es t' := ⟨fun pins s σ H v u Q I r q => h.run pins s σ H v u Q I r (k v σ H Q q)⟩
theorem tgN_ok {Γ : Ga} {B H : Hp} {e : En} {σ : St} {u : U} {v : V} {i : Nat} (sr : SR Γ B H e σ) (r : rep Γ B u v) : Go Γ B H e σ B H (e.set i (some (false, u))) (σ.set i (some v)) :=
  Go.store (S := may H e σ) sr (r := (false, u)) r (Go.refl sr) fun _ h => h
theorem gv_name {i : Nat} {x : Str} (hN : X.N.Nodup) (hi : X.N[i]? = some x) (hx : Loc X.env.scope x) (hp : pr i = false) (hf : X.fn x = true ∨ X.env.scope.names.lookup x = some .local := by first | exact .inl rfl | exact .inr rfl | assumption) : PGV X pr (.Name x pos) (tgN i) :=
  PGimp (pg_name hN hi hx hf) fun v σ H Q ⟨B, e, u, sr, r, q⟩ => q B H _ (tgN_ok sr r) (Kp.set hp)
theorem gvs_nil : PGsV X pr [] tgs0 := PGsimp pgs_nil fun vs σ H Q ⟨B, e, us, sr, r, q⟩ => by
  cases us with
  | nil =>
    simp only [reps] at r
    exact ⟨r, q B H σ (Go.refl sr) Kp.refl⟩
  | cons u us => exact q.elim
theorem gvs_cons {t : MT} {r : MTs} (h1 : PGV X pr tg t) (h2 : PGsV X pr es r) (hs : (assignEach (tg :: es) X.env).map (·.2) = assign tg X.env :: (assignEach es X.env).map (·.2) := by rfl) : PGsV X pr (tg :: es) (tgsC t r) :=
  PGsimp (pgs_cons h1 h2 hs) fun vs σ H Q ⟨B, e, us, sr, rr, q⟩ => by
    cases us with
    | nil => exact q.elim
    | cons u us =>
      simp only [reps] at rr
      obtain ⟨v, ws, rfl, r1, r2⟩ := rr
      refine ⟨v, ws, rfl, B, e, u, sr, r1, ?_⟩
      unfold tgsC at q
      dsimp only at q
      cases h : t u e with
      | none => rw [h] at q; exact q.elim
      | some e' =>
        rw [h] at q
        dsimp only at q ⊢
        intro B' H' σ' g kp
        refine ⟨B', e', us, g.sr, r2.mono g.st.bb, ?_⟩
        cases h' : r us e' with
        | none => rw [h'] at q; exact q.elim
        | some e2 =>
          rw [h'] at q
          exact fun B2 H2 σ2 g2 k2 => q B2 H2 σ2 (g.trans g2) (kp.trans k2)
theorem gv_tup {k n : Nat} {t : MTs} (hc : X.calm = true) (h : PGsV X pr es t) (hn : (assignEach es X.env).length = n := by rfl) (hst : (assignEach es X.env).findIdx? (·.1) = none := by rfl) : PGV X pr (.Tuple es k pos) (tgT n t) :=
  PGimp (pg_tup hc h hn hst) fun v σ H Q ⟨B, e, u, sr, r, q⟩ => by
    cases u with
    | tup us =>
      obtain ⟨a, vs, rfl, h1, r1⟩ := Vw.tup sr.bh (.inl r)
      unfold tgT at q
      dsimp only at q
      split at q
      · rename_i e' hq
        split at hq
        · rename_i hl
          refine ⟨a, vs, rfl, h1, by rw [← r1.length]; exact hl, B, e, us, sr, r1, ?_⟩
          rw [hq]
          exact q
        · cases hq
      · exact q.elim
    | _ => exact False.elim q
end
def Lit (B H B' H' : Hp) : Prop := (B' = B ∧ H' = H) ∨ ∃ p o, H p = none ∧ B' = upd B p o ∧ H' = upd H p o
theorem Lit.go {Γ : Ga} {B H B' H' : Hp} {e : En} {σ : St} (s : SR Γ B H e σ) (l : Lit B H B' H') : Go Γ B H e σ B' H' e σ := by
  rcases l with ⟨rfl, rfl⟩ | ⟨p, o, h, rfl, rfl⟩
  · exact Go.refl s
  · exact Go.allocB s h
def gOK (g : Option Nat) (items : List U) (e : En) : Prop := match g with
  | none => True
  | some i => e[i]? = some (some (true, .lst items))
def gP (Γ : Ga) (g : Option Nat) (items : List U) (σ : St) (B H : Hp) : Prop := match g with
  | none => True
  | some i => ∃ a ws, σ[i]? = some (some (.ref a)) ∧ H a = some (.lst ws) ∧ reps Γ B items ws
theorem gOK.p {Γ : Ga} {g : Option Nat} {items : List U} {e : En} {σ σ0 : St} {B H : Hp} (h : gOK g items e) (s : SR Γ B H e σ) (k : ∀ i, g = some i → σ[i]? = σ0[i]?) : gP Γ g items σ0 B H := by
  cases g with
  | none => trivial
  | some i =>
    obtain ⟨a, ho, h1, h2, ⟨ws, e1, r⟩, _⟩ := s.ow i _ h
    subst e1
    exact ⟨a, ws, by rw [← k i rfl]; exact h1, h2, r⟩
structure ItOK (Γ : Ga) (J : It) (items : List U) (src : List U) (g : Option Nat) (σ : St) (B0 : Hp) : Prop where
  go : ∀ (B H : Hp) (k : Nat) (u : U), Same B0 B → Same B H → gP Γ g src σ B H → items[k]? = some u → J.go k H ∧ ∀ x H', J.yld k H x H' → ∃ B', Lit B H B' H' ∧ rep Γ B' u x
  stop : ∀ (B H : Hp), Same B0 B → Same B H → gP Γ g src σ B H → J.stop items.length H
structure Src where
  items : List U
  src : List U
  g : Option Nat
def iG (Γ : Ga) (W : WXX) (m : M Src) : TI := fun σ H R => ∃ B e, SR Γ B H e σ ∧ match m e with
  | .ok s e' => ∀ J B' H', Go Γ B H e σ B' H' e' σ → ItOK Γ J s.items s.src s.g σ B' → gOK s.g s.src e' → R J H'
  | .exc c u e' => ∀ cls d B' H', Go Γ B H e σ B' H' e' σ → exrep Γ (may H e σ) B' H' c u cls d → W cls d σ H'
  | .bad => False
abbrev PIV (X : Cx) (W : WXX) (tg iter : Expr) (m : M Src) : Prop := PI X tg iter (iG (ga X) W m)
section
variable {X : Cx} {W : WXX} {tg ex : Expr} {pos : Pos}
theorem PIimp {t t' : TI} (h : PI X tg ex t) (k : ∀ σ H R, t' σ H R → t σ H R) : PI X tg ex t' := ⟨fun pins s σ H R I q => h.run pins s σ H R I (k σ H R q)⟩
theorem iG.of {β : Type} {α : Type} {rl : Rl α β} {m : M α} {k : α → M Src} {σ : St} {H : Hp} {R : It → Hp → Prop} (h : iG (ga X) W (m.bd k) σ H R) :
    tG (ga X) W rl m σ H fun b H1 => ∃ B1 e1 a, SR (ga X) B1 H1 e1 σ ∧ rl.r a b (fun _ => True) B1 H1 e1 σ ∧ match k a e1 with
      | .ok s e' => ∀ J B' H', Go (ga X) B1 H1 e1 σ B' H' e' σ → ItOK (ga X) J s.items s.src s.g σ B' → gOK s.g s.src e' → R J H'
      | .exc c u e' => ∀ cls d B' H', Go (ga X) B1 H1 e1 σ B' H' e' σ → exrep (ga X) (may H1 e1 σ) B' H' c u cls d → W cls d σ H'
      | .bad => False := by
  obtain ⟨B, e, sr, q⟩ := h
  refine ⟨B, e, sr, ?_⟩
  unfold M.bd at q
  unfold tAt
  cases z : m e with
  | bad => rw [z] at q; exact q
  | exc c u e' => rw [z] at q; exact q
  | ok a e' =>
    rw [z] at q
    dsimp only at q ⊢
    intro b B' H' g r
    refine ⟨B', e', a, g.sr, rl.mono (fun _ _ => trivial) r, ?_⟩
    cases z2 : k a e' with
    | bad => rw [z2] at q; exact q
    | exc c u e2 => rw [z2] at q; exact fun cls d B2 H2 g2 x => q cls d B2 H2 (g.trans g2) (x.mono g.may)
    | ok s e2 => rw [z2] at q; exact fun J B2 H2 g2 i x => q J B2 H2 (g.trans g2) i x
def mItN (i : Nat) : M Src := fun e => match e[i]? with
  | some (some (true, .lst us)) => .ok ⟨us, us, some i⟩ e
  | some (some (false, .lst us)) => .ok ⟨us, [], none⟩ e
  | some (some (false, .scr ns)) => .ok ⟨ns.map .int, [], none⟩ e
  | _ => .bad
def irange (lo : Int) (n : Nat) : List U := (List.range n).map fun i => .int (lo + (i : Nat))
noncomputable def lim62 (i : Int) : Bool := cdec (-(2 ^ 62) ≤ i) && cdec (i < 2 ^ 62)
noncomputable def mRg1 (m : M U) : M Src := m.bd fun u => match u with
  | .int j => if lim62 j then .ret ⟨irange 0 j.toNat, [], none⟩ else fun _ => .bad
  | _ => fun _ => .bad
theorem itr_ok {Γ : Ga} {B0 : Hp} {σ : St} {lo : Int} {n : Nat} : ItOK Γ (Itr lo n) (irange lo n) [] none σ B0 := by
  refine ⟨fun B H k u s1 s2 _ hk => ?_, fun B H s1 s2 _ => by show n ≤ _; simp [irange]⟩
  unfold irange at hk
  rw [List.getElem?_map] at hk
  by_cases hl : k < n
  · rw [List.getElem?_range hl] at hk
    cases hk
    exact ⟨hl, fun x H' ⟨e, q⟩ => ⟨B, .inl ⟨rfl, e⟩, by rw [q]; simp only [rep]⟩⟩
  · rw [List.getElem?_eq_none (by simp; omega)] at hk
    cases hk
theorem iv_range1 {m : M U} {p : Pos} (hg : Gl X "range") (hm : X.mg "range" = none) (h : PV X W ex m) (hs : starEach [ex] X.env = [(false, eval ex X.env)] := by rfl) : PIV X W tg (.Call (.Name "range" p) [ex] [] pos) (mRg1 m) := by
  refine PIimp (pi_range1 hg hm (pa_cons h pa_nil (by rw [hs]; rfl)) hs) fun σ H R q => ?_
  obtain ⟨B, e, sr, q⟩ := iG.of (rl := rlV (ga X)) q
  refine ⟨B, e, sr, q.mono fun x H1 ⟨B1, e1, u, s1, r1, q1⟩ => ?_⟩
  cases u with
  | int j =>
    have r1' : rep (ga X) B1 (.int j) x := r1
    simp only [rep] at r1'
    subst r1'
    dsimp only at q1
    split at q1
    · rename_i s e' hz
      split at hz
      · rename_i hl
        unfold lim62 at hl
        simp only [Bool.and_eq_true, decide_eq_true_eq, cdec_iff] at hl
        injection hz with h1 h2
        subst h1 h2
        exact ⟨j, rfl, hl.1, hl.2, q1 _ B1 H1 (Go.refl s1) itr_ok trivial⟩
      · cases hz
    · rename_i hz
      split at hz <;> cases hz
    · exact q1.elim
  | _ => exact False.elim q1
end
end VS
set_option Elab.async false
set_option linter.all false
set_option maxRecDepth 100000
namespace VS
open PySem L2
theorem rsP.sub {Γ : Ga} {W : WXX} {pr pr' : Nat → Bool} {B H : Hp} {e : En} {σ : St} {D : Ends} (h : ∀ i, pr i = true → pr' i = true) : ∀ {r : RS}, rsP Γ W pr B H e σ D r → rsP Γ W pr' B H e σ D r
  | .nx e', q => fun B' H' σ' g k => q B' H' σ' g (k.sub h)
  | .bk e', q => fun B' H' σ' g k => q B' H' σ' g (k.sub h)
  | .ct e', q => fun B' H' σ' g k => q B' H' σ' g (k.sub h)
  | .rt o u e', q => fun v B' H' σ' g k => q v B' H' σ' g (k.sub h)
  | .exc c u e', q => fun cls d B' H' σ' g k => q cls d B' H' σ' g (k.sub h)
  | .bad, q => q
open Classical in
noncomputable def forL (t : MT) (b : MS) (g : Option Nat) (src : List U) : List U → MS
  | [] => fun e => .nx e
  | u :: us => fun e => match t u e with
    | some e1 => match b e1 with
      | .nx e2 => if gOK g src e2 then forL t b g src us e2 else .bad
      | .ct e2 => if gOK g src e2 then forL t b g src us e2 else .bad
      | .bk e2 => .nx e2
      | .rt o u e2 => .rt o u e2
      | .exc c u e2 => .exc c u e2
      | .bad => .bad
    | none => .bad
noncomputable def mFor (m : M Src) (t : MT) (b : MS) : MS := m.bs fun s => forL t b s.g s.src s.items
def SrcIn (pr : Nat → Bool) (m : M Src) : Prop := ∀ e s e', m e = .ok s e' → ∀ i, s.g = some i → pr i = true
section
variable {X : Cx} {W : WXX} {pr pr' : Nat → Bool} {tg iter c : Expr} {body : List Stmt} {pos : Pos}
theorem sv_for {m : M Src} {t : MT} {b : MS} (hp : PassesOwn (model X.prog X.w) X.A X.env X.xe) (hc : X.calm = true) (hi : PIV X W tg iter m) (hs' : SrcIn pr' m) (hpr : ∀ i, pr i = true → pr' i = true) (hg : PGV X pr' tg t) (hb : PSsV X W pr' body b)
    (hs : ∀ x, foldedSetIterable iter X.env x = pure x := by intro _; rfl) : PSV X W pr (.For tg iter body [] pos) (mFor m t b) := by
  refine PSimp (ps_for hp hc hi hg hb hs) fun D σ H ⟨B, e, sr, q⟩ => ⟨B, e, sr, ?_⟩
  unfold sAt mFor M.bs at q
  cases z : m e with
  | bad => rw [z] at q; exact q
  | exc c u e' => rw [z] at q; exact fun cls d B' H' g x => q cls d B' H' σ g Kp.refl x
  | ok s e1 =>
    rw [z] at q
    dsimp only at q ⊢
    intro J B1 H1 g1 io g0
    have pi := hs' e s e1 z
    refine ⟨fun k m σ' H' => m = s.items.length - k ∧ k ≤ s.items.length ∧ ∃ B' e', Go (ga X) B H e σ B' H' e' σ' ∧ Same B1 B' ∧ Kp pr' σ σ' ∧ gOK s.g s.src e' ∧ rsP (ga X) W pr' B H e σ D (forL t b s.g s.src (s.items.drop k) e'),
      ⟨_, rfl, Nat.zero_le _, B1, e1, g1, Same.refl _, Kp.refl, g0, rsP.sub hpr (by simpa using q)⟩, ?_⟩
    rintro k m σ' H' ⟨rfl, hk, B', e', g', sb, kp, go, r⟩
    have gp := go.p g'.sr fun i hi => kp.2 i (pi i hi)
    by_cases hlt : k < s.items.length
    · refine .inr ?_
      have hu : s.items[k]? = some s.items[k] := by simp [hlt]
      obtain ⟨j1, j2⟩ := io.go B' H' k _ sb g'.sr.bh gp hu
      rw [List.drop_eq_getElem_cons hlt] at r
      unfold forL at r
      refine ⟨j1, fun σ2 H2 => ∃ B2 e2, Go (ga X) B H e σ B2 H2 e2 σ2 ∧ Same B1 B2 ∧ Kp pr' σ σ2 ∧ gOK s.g s.src e2 ∧ rsP (ga X) W pr' B H e σ D (forL t b s.g s.src (s.items.drop (k + 1)) e2),
        fun σ2 H2 ⟨B2, e2, h1, h2, h3, h4, h5⟩ => ⟨s.items.length - (k + 1), by omega, rfl, hlt, B2, e2, h1, h2, h3, h4, h5⟩, fun x H'' y => ?_⟩
      obtain ⟨B'', lt, rx⟩ := j2 x H'' y
      have g'' := g'.trans (lt.go g'.sr)
      refine ⟨B'', e', _, g''.sr, rx, ?_⟩
      cases h1 : t s.items[k] e' with
      | none => rw [h1] at r; exact r.elim
      | some e2 =>
        rw [h1] at r
        dsimp only at r ⊢
        intro B2 H2 σ2 g2 k2
        refine ⟨B2, e2, g2.sr, ?_⟩
        have G2 := g''.trans g2
        have K2 := kp.trans k2
        have S2 : Same B1 B2 := sb.trans ((lt.go g'.sr).st.bb.trans g2.st.bb)
        unfold sAt
        cases h2 : b e2 with
        | nx e3 =>
          rw [h2] at r
          dsimp only at r
          split at r
          · rename_i hgo
            exact fun B3 H3 σ3 g3 k3 => ⟨B3, e3, G2.trans g3, S2.trans g3.st.bb, K2.trans k3, hgo, r⟩
          · exact r.elim
        | ct e3 =>
          rw [h2] at r
          dsimp only at r
          split at r
          · rename_i hgo
            exact fun B3 H3 σ3 g3 k3 => ⟨B3, e3, G2.trans g3, S2.trans g3.st.bb, K2.trans k3, hgo, r⟩
          · exact r.elim
        | bk e3 => rw [h2] at r; exact fun B3 H3 σ3 g3 k3 => r B3 H3 σ3 (G2.trans g3) (K2.trans k3)
        | rt o u e3 => rw [h2] at r; exact fun v B3 H3 σ3 g3 k3 rr => r v B3 H3 σ3 (G2.trans g3) (K2.trans k3) ((rlO (ga X)).mono G2.may rr)
        | exc c u e3 => rw [h2] at r; exact fun cls d B3 H3 σ3 g3 k3 x => r cls d B3 H3 σ3 (G2.trans g3) (K2.trans k3) (x.mono G2.may)
        | bad => rw [h2] at r; exact r.elim
    · have ek : k = s.items.length := by omega
      subst ek
      refine .inl ⟨io.stop B' H' sb g'.sr.bh gp, ?_⟩
      rw [List.drop_length] at r
      unfold forL at r
      exact r B' H' σ' g' kp
def whlN (c : M Bool) (b : MS) : Nat → En → Option RS
  | 0, _ => none
  | n + 1, e => match c e with
    | .ok false e1 => some (.nx e1)
    | .ok true e1 => match b e1 with
      | .nx e2 => whlN c b n e2
      | .ct e2 => whlN c b n e2
      | .bk e2 => some (.nx e2)
      | .rt o u e2 => some (.rt o u e2)
      | .exc c u e2 => some (.exc c u e2)
      | .bad => some .bad
    | .exc c u e1 => some (.exc c u e1)
    | .bad => some .bad
theorem whlN_mono {c : M Bool} {b : MS} : ∀ {n : Nat} {e : En} {r : RS}, whlN c b n e = some r → whlN c b (n + 1) e = some r
  | 0, _, _, h => by cases h
  | n + 1, e, r, h => by
    unfold whlN at h ⊢
    cases z : c e with
    | bad => rw [z] at h; exact h
    | exc c u e1 => rw [z] at h; exact h
    | ok k e1 =>
      rw [z] at h
      cases k with
      | false => exact h
      | true =>
        dsimp only at h ⊢
        cases y : b e1 with
        | nx e2 => rw [y] at h; exact whlN_mono h
        | ct e2 => rw [y] at h; exact whlN_mono h
        | bk e2 => rw [y] at h; exact h
        | rt o u e2 => rw [y] at h; exact h
        | exc c u e2 => rw [y] at h; exact h
        | bad => rw [y] at h; exact h
theorem whlN_le {c : M Bool} {b : MS} {e : En} {r : RS} {n m : Nat} (h : whlN c b n e = some r) (k : n ≤ m) : whlN c b m e = some r := by
  induction k with
  | refl => exact h
  | step _ ih => exact whlN_mono ih
open Classical in
noncomputable def mWhl (c : M Bool) (b : MS) : MS := fun e => if h : ∃ n r, whlN c b n e = some r then h.choose_spec.choose else .bad
theorem mWhl_eq {c : M Bool} {b : MS} {e : En} {r : RS} {n : Nat} (h : whlN c b n e = some r) : mWhl c b e = r := by
  have ex : ∃ n r, whlN c b n e = some r := ⟨n, r, h⟩
  unfold mWhl
  rw [dif_pos ex]
  have h2 := ex.choose_spec.choose_spec
  have a := whlN_le h (Nat.le_max_left n ex.choose)
  have b := whlN_le h2 (Nat.le_max_right n ex.choose)
  rw [a] at b
  exact (Option.some.inj b).symm
theorem sv_while {mc : M Bool} {b : MS} (hp : PassesOwn (model X.prog X.w) X.A X.env X.xe) (hc : PTB X W c mc) (hb : PSsV X W pr body b) : PSV X W pr (.While c body [] pos) (mWhl mc b) := by
  refine PSimp (ps_while hp hc hb) fun D σ H ⟨B, e, sr, q⟩ => ?_
  unfold sAt mWhl at q
  split at q
  · rename_i h
    have h2 := h.choose_spec.choose_spec
    revert q h2
    generalize h.choose_spec.choose = r
    generalize h.choose = n
    intro q h2
    refine ⟨fun n σ' H' => ∃ B' e', Go (ga X) B H e σ B' H' e' σ' ∧ Kp pr σ σ' ∧ whlN mc b n e' = some r, ⟨n, B, e, Go.refl sr, Kp.refl, h2⟩, ?_⟩
    rintro n σ' H' ⟨B', e', g', kp, hn⟩
    cases n with
    | zero => cases hn
    | succ n =>
      refine ⟨B', e', g'.sr, ?_⟩
      unfold whlN at hn
      unfold tAt
      cases z : mc e' with
      | bad => rw [z] at hn; cases hn; exact q
      | exc c u e1 => rw [z] at hn; cases hn; exact fun cls d B2 H2 g2 x => q cls d B2 H2 σ' (g'.trans g2) kp (x.mono g'.may)
      | ok k e1 =>
        rw [z] at hn
        dsimp only
        intro k' B2 H2 g2 ek
        have ek : k = k' := ek
        subst ek
        have G2 := g'.trans g2
        cases k with
        | false =>
          dsimp only at hn
          cases hn
          rw [if_neg Bool.false_ne_true]
          exact q B2 H2 σ' G2 kp
        | true =>
          rw [if_pos rfl]
          dsimp only at hn
          refine ⟨fun σ3 H3 => ∃ B3 e3, Go (ga X) B H e σ B3 H3 e3 σ3 ∧ Kp pr σ σ3 ∧ whlN mc b n e3 = some r, fun σ3 H3 h => ⟨n, Nat.lt_succ_self _, h⟩, B2, e1, g2.sr, ?_⟩
          unfold sAt
          cases y : b e1 with
          | nx e3 => rw [y] at hn; exact fun B3 H3 σ3 g3 k3 => ⟨B3, e3, G2.trans g3, kp.trans k3, hn⟩
          | ct e3 => rw [y] at hn; exact fun B3 H3 σ3 g3 k3 => ⟨B3, e3, G2.trans g3, kp.trans k3, hn⟩
          | bk e3 => rw [y] at hn; cases hn; exact fun B3 H3 σ3 g3 k3 => q B3 H3 σ3 (G2.trans g3) (kp.trans k3)
          | rt o u e3 => rw [y] at hn; cases hn; exact fun v B3 H3 σ3 g3 k3 rr => q v B3 H3 σ3 (G2.trans g3) (kp.trans k3) ((rlO (ga X)).mono G2.may rr)
          | exc c u e3 => rw [y] at hn; cases hn; exact fun cls d B3 H3 σ3 g3 k3 x => q cls d B3 H3 σ3 (G2.trans g3) (kp.trans k3) (x.mono G2.may)
          | bad => rw [y] at hn; cases hn; exact q
  · exact q.elim
end
end VS
set_option Elab.async false
set_option linter.all false
set_option maxRecDepth 100000
namespace VS
open PySem L2
def wipeE (e : En) : List Nat → En
  | [] => e
  | v :: vs => (wipeE e vs).set v none
def resE (e0 e : En) : List Nat → En
  | [] => e
  | v :: vs => (resE e0 e vs).set v (match e0[v]? with
    | some (some (false, u)) => some (false, u)
    | _ => none)
theorem wipeE_len (e : En) : ∀ vs, (wipeE e vs).length = e.length
  | [] => rfl
  | v :: vs => by unfold wipeE; rw [List.length_set, wipeE_len e vs]
theorem wipeE_in {e : En} : ∀ {vs : List Nat} {i : Nat} {x : Bool × U}, (wipeE e vs)[i]? = some (some x) → e[i]? = some (some x) ∧ i ∉ vs
  | [], i, x, h => ⟨h, by simp⟩
  | v :: vs, i, x, h => by
    unfold wipeE at h
    rw [List.getElem?_set] at h
    split at h
    · split at h <;> cases h
    · rename_i n
      obtain ⟨h1, h2⟩ := wipeE_in h
      exact ⟨h1, by simp only [List.mem_cons, not_or]; exact ⟨fun z => n z.symm, h2⟩⟩
def Emp (e : En) (vs : List Nat) : Prop := ∀ (i : Nat) (x : Bool × U), e[i]? = some (some x) → i ∉ vs
theorem emp_wipe (e : En) (vs : List Nat) : Emp (wipeE e vs) vs := fun _ _ h => (wipeE_in h).2
def Ag (vs : List Nat) (σ σ' : St) : Prop := σ.length = σ'.length ∧ ∀ i : Nat, i ∉ vs → σ[i]? = σ'[i]?
theorem Ag.symm {vs : List Nat} {σ σ' : St} (h : Ag vs σ σ') : Ag vs σ' σ := ⟨h.1.symm, fun i n => (h.2 i n).symm⟩
theorem wipe_out' {σ : St} {i : Nat} : ∀ {vs : List Nat}, i ∉ vs → (wipe σ vs)[i]? = σ[i]?
  | [], _ => rfl
  | v :: vs, h => by
    unfold wipe
    simp only [List.mem_cons, not_or] at h
    rw [List.getElem?_set_ne (Ne.symm h.1), wipe_out' h.2]
theorem ag_wipe (σ : St) (vs : List Nat) : Ag vs σ (wipe σ vs) := ⟨(wipe_length σ vs).symm, fun i h => (wipe_out' h).symm⟩
theorem wipe_ag {σ σ' : St} {vs : List Nat} (h : Ag vs σ σ') : wipe σ vs = wipe σ' vs := by
  apply List.ext_getElem?
  intro i
  have nn : ∀ (τ : St) (ws : List Nat), i ∈ ws → (wipe τ ws)[i]? = if i < τ.length then some none else none := fun τ ws => by
    induction ws with
    | nil => intro h; cases h
    | cons v ws ih =>
      intro h
      unfold wipe
      rw [List.getElem?_set]
      by_cases z : v = i
      · subst z
        simp [wipe_length]
      · simp only [z, if_false]
        rcases List.mem_cons.mp h with w | w
        · exact absurd w.symm z
        · exact ih w
  by_cases m : i ∈ vs
  · rw [nn σ vs m, nn σ' vs m, h.1]
  · rw [wipe_out' m, wipe_out' m, h.2 i m]
section
variable {Γ : Ga} {B H : Hp} {e : En} {σ σ' : St} {vs : List Nat}
theorem own_ag (h : Emp e vs) (a : Ag vs σ σ') {x : Addr} (o : own e σ x) : own e σ' x := by
  obtain ⟨i, u, h1, h2⟩ := o
  exact ⟨i, u, h1, by rw [← a.2 i (h i _ h1)]; exact h2⟩
theorem SR.ag (s : SR Γ B H e σ) (h : Emp e vs) (a : Ag vs σ σ') : SR Γ B H e σ' := by
  refine ⟨s.bh, s.ln.trans a.1, fun i u q => ?_, fun i u q => ?_, fun i j u w x q1 q2 s1 s2 => ?_⟩
  · rw [← a.2 i (h i _ q)]; exact s.vl i u q
  · rw [← a.2 i (h i _ q)]; exact s.ow i u q
  · rw [← a.2 i (h i _ q1)] at s1
    rw [← a.2 j (h j _ q2)] at s2
    exact s.ds i j u w x q1 q2 s1 s2
theorem SR.wipeE (s : SR Γ B H e σ) : SR Γ B H (wipeE e vs) σ :=
  ⟨s.bh, (wipeE_len e vs).trans s.ln, fun i u q => s.vl i u (wipeE_in q).1, fun i u q => s.ow i u (wipeE_in q).1, fun i j u w x q1 q2 => s.ds i j u w x (wipeE_in q1).1 (wipeE_in q2).1⟩
theorem own_wipeE {x : Addr} (o : own (wipeE e vs) σ x) : own e σ x := by
  obtain ⟨i, u, h1, h2⟩ := o
  exact ⟨i, u, (wipeE_in h1).1, h2⟩
theorem Go.wipeE (s : SR Γ B H e σ) : Go Γ B H e σ B H (VS.wipeE e vs) σ := ⟨⟨Same.refl _, fun _ _ h _ => h, fun _ _ _ _ h => h⟩, s.wipeE, fun _ z => .inl (own_wipeE z)⟩
theorem Go.blk {B' H' : Hp} {e' : En} {τ τ' : St} (h : Emp e vs) (a : Ag vs σ τ) (g : Go Γ B H e τ B' H' e' τ') (a' : Ag vs τ τ') : Go Γ B H e σ B' H' (VS.wipeE e' vs) σ := by
  have aa : Ag vs τ' σ := ⟨a'.1.symm.trans a.1.symm, fun i n => (a'.2 i n).symm.trans (a.2 i n).symm⟩
  have e1 := emp_wipe e' vs
  refine ⟨⟨g.st.bb, fun x o hx n => g.st.fr x o hx fun z => n (own_ag h a.symm z), fun x o hx n b => g.st.nb x o hx (fun z => n (own_ag h a.symm z)) b⟩, g.sr.wipeE.ag e1 aa, fun x z => ?_⟩
  have z1 := own_wipeE (own_ag e1 aa.symm z)
  rcases g.sub x z1 with q | q
  · exact .inl (own_ag h a.symm q)
  · exact .inr q
theorem resE_get (e0 e : En) : ∀ (vs : List Nat) {i : Nat} {x : Bool × U}, (resE e0 e vs)[i]? = some (some x) → e[i]? = some (some x) ∨ (e0[i]? = some (some x) ∧ x.1 = false)
  | [], i, x, h => .inl h
  | v :: vs, i, x, h => by
    unfold resE at h
    rw [List.getElem?_set] at h
    split at h
    · rename_i z
      subst z
      split at h
      · split at h
        · rename_i u q
          cases h
          exact .inr ⟨q, rfl⟩
        · cases h
      · cases h
    · exact resE_get e0 e vs h
theorem resE_len (e0 e : En) : ∀ vs, (resE e0 e vs).length = e.length
  | [] => rfl
  | v :: vs => by unfold resE; rw [List.length_set, resE_len e0 e vs]
theorem Go.res {B0 H0 : Hp} {e0 : En} (s0 : SR Γ B0 H0 e0 σ) (g : Go Γ B0 H0 e0 σ B H e σ) : Go Γ B0 H0 e0 σ B H (resE e0 e vs) σ := by
  have own' : ∀ (i : Nat) (u : U), (resE e0 e vs)[i]? = some (some (true, u)) → e[i]? = some (some (true, u)) := fun i u q => by
    rcases resE_get e0 e vs q with q | ⟨_, q⟩
    · exact q
    · cases q
  refine ⟨g.st, ⟨g.sr.bh, (resE_len e0 e vs).trans g.sr.ln, fun i u q => ?_, fun i u q => g.sr.ow i u (own' i u q), fun i j u w x q1 q2 => g.sr.ds i j u w x (own' i u q1) (own' j w q2)⟩, fun a ⟨i, u, q, h⟩ => g.sub a ⟨i, u, own' i u q, h⟩⟩
  rcases resE_get e0 e vs q with q | ⟨q, _⟩
  · exact g.sr.vl i u q
  · obtain ⟨v, h1, h2⟩ := s0.vl i u q
    exact ⟨v, h1, h2.mono g.st.bb⟩
theorem Go.setD {B0 H0 : Hp} {e0 : En} {D : Addr} {o : HO} (g : Go Γ B0 H0 e0 σ B H e σ) (h0 : H0 D = none) (b : B D = none) (n : ¬ own e σ D) : Go Γ B0 H0 e0 σ B (upd H D o) e σ := by
  refine ⟨⟨g.st.bb, fun a u q z => ?_, fun a u q z b => g.st.nb a u q z b⟩, ⟨same_upd2 g.sr.bh b, g.sr.ln, g.sr.vl, fun i u q => ?_, g.sr.ds⟩, g.sub⟩
  · rw [upd_ne (ne_of_none q h0)]; exact g.st.fr a u q z
  · obtain ⟨a, ho, h1, h2, h3, h4⟩ := g.sr.ow i u q
    have : a ≠ D := fun z => n ⟨i, u, q, by rw [h1, z]⟩
    exact ⟨a, ho, h1, by rw [upd_ne this]; exact h2, h3, h4⟩
end
abbrev W0 : WXX := fun _ _ _ _ => False
abbrev PTsB (X : Cx) (W : WXX) (ifs : List Expr) (m : M Bool) : Prop := PTs X ifs (tG (ga X) W rlB m)
section
variable {X : Cx} {W : WXX} {c : Expr}
theorem PTsimp {t t' : TT} {cs : List Expr} (h : PTs X cs t) (k : ∀ σ H Q, t' σ H Q → t σ H Q) : PTs X cs t' := ⟨fun pins s σ H Q I q => h.run pins s σ H Q I (k σ H Q q)⟩
theorem cv_nil : PTsB X W [] (M.ret true) := PTsimp pts_nil fun σ H Q ⟨B, e, sr, q⟩ => q true B H (Go.refl sr) rfl
theorem cv_one {m : M Bool} (h : PTB X W c m) : PTsB X W [c] m := PTsimp (pts_one h) fun σ H Q q => q
end
open Classical in
noncomputable def lcL (t : MT) (tt : M Bool) (te : M U) (vs : List Nat) (g : Option Nat) (src : List U) : List U → List U → En → Option (List U × En)
  | [], acc, e => some (acc, e)
  | u :: us, acc, e => match t u e with
    | some e1 => match tt e1 with
      | .ok true e2 => match te e2 with
        | .ok y e3 => if acc.length < sizeLine ∧ gOK g src (wipeE e3 vs) then lcL t tt te vs g src us (acc ++ [y]) (wipeE e3 vs) else none
        | _ => none
      | .ok false e2 => if gOK g src (wipeE e2 vs) then lcL t tt te vs g src us acc (wipeE e2 vs) else none
      | _ => none
    | none => none
open Classical in
noncomputable def mLc (m : M Src) (t : MT) (tt : M Bool) (te : M U) (vs : List Nat) : M (Bool × U) := m.bd fun s e =>
  if gOK s.g s.src (wipeE e vs) then match lcL t tt te vs s.g s.src s.items [] (wipeE e vs) with
    | some (acc, e') => .ok (true, .lst acc) (resE e e' vs)
    | none => .bad
  else .bad
def prB (vs : List Nat) : Nat → Bool := fun i => !vs.contains i
theorem kp_ag {vs : List Nat} {τ τ' : St} (k : Kp (prB vs) τ τ') : Ag vs τ τ' := ⟨k.1.symm, fun i n => (k.2 i (by unfold prB; simpa using n)).symm⟩
section
variable {X : Cx} {W : WXX} {tg iter elt ex : Expr} {ifs : List Expr} {scope : Scope} {own' : List (Str × Nat)} {pos : Pos}
def BlkAll (X : Cx) (scope : Scope) (φ : Cx → Prop) : Prop := ∀ (s : Shared) (H : Hp) (C : Addr) (cl : List (Str × Addr)) (fp : List Addr), φ (X.blk s H scope (compEnvC scope cl C X.env) fp)
theorem lc_core' {m : M Src} {t : MT} {tt : M Bool} {te : M U} {vs : List Nat} (σ : St) (H : Hp) (Q : VK) (q : tG (ga X) W (rlO (ga X)) (mLc m t tt te vs) σ H Q) :
    tLc (iG (ga X) W m) (gG (ga X) (prB vs) t) (tG (ga X) W0 rlB tt) (tG (ga X) W0 (rlV (ga X)) te) vs σ H Q := by
  obtain ⟨B, e, sr, q⟩ := q
  refine ⟨B, e, sr, ?_⟩
  unfold tAt mLc M.bd at q
  cases z : m e with
  | bad => rw [z] at q; exact q
  | exc c u e' => rw [z] at q; exact q
  | ok s e1 =>
    rw [z] at q
    dsimp only at q ⊢
    intro J B1 H1 g1 io _ D hD
    split at q
    · rename_i a' e'' hq
      split at hq
      · rename_i hgo0
        split at hq
        · rename_i acc0 e0 hl
          injection hq with ha he
          subst ha he
          have bD : B1 D = none := g1.sr.none_of hD
          have nD : ¬ own e1 σ D := g1.sr.not_own hD
          refine ⟨fun k m H' => m = s.items.length - k ∧ k ≤ s.items.length ∧ ∃ B' e' acc vacc, Go (ga X) B1 H1 e1 σ B' H' e' σ ∧ Emp e' vs ∧ gOK s.g s.src e' ∧ H' D = some (.lst vacc) ∧ reps (ga X) B' acc vacc ∧ B' D = none ∧ ¬ own e' σ D ∧
            lcL t tt te vs s.g s.src (s.items.drop k) acc e' = some (acc0, e0), ⟨_, rfl, Nat.zero_le _, B1, wipeE e1 vs, [], [], ?_, emp_wipe _ _, hgo0, upd_same, reps.nil', bD, fun w => nD (own_wipeE w), by simpa using hl⟩, ?_⟩
          · exact Go.setD (Go.wipeE g1.sr) hD bD fun w => nD (own_wipeE w)
          · rintro k m H' ⟨rfl, hk, B', e', acc, vacc, g', em, go, hHD, ra, bD', nD', hl'⟩
            have gp : gP (ga X) s.g s.src σ B' H' := go.p g'.sr fun i hi => rfl
            have sb := g'.st.bb
            by_cases hlt : k < s.items.length
            · refine .inr ?_
              have hu : s.items[k]? = some s.items[k] := by simp [hlt]
              obtain ⟨j1, j2⟩ := io.go B' H' k _ sb g'.sr.bh gp hu
              rw [List.drop_eq_getElem_cons hlt] at hl'
              unfold lcL at hl'
              refine ⟨j1, fun H2 => ∃ B2 e2 acc vacc, Go (ga X) B1 H1 e1 σ B2 H2 e2 σ ∧ Emp e2 vs ∧ gOK s.g s.src e2 ∧ H2 D = some (.lst vacc) ∧ reps (ga X) B2 acc vacc ∧ B2 D = none ∧ ¬ own e2 σ D ∧
                lcL t tt te vs s.g s.src (s.items.drop (k + 1)) acc e2 = some (acc0, e0), fun H2 ⟨B2, e2, ac, va, h1, h2, h3, h4, h5, h6, h7, h8⟩ => ⟨s.items.length - (k + 1), by omega, rfl, hlt, B2, e2, ac, va, h1, h2, h3, h4, h5, h6, h7, h8⟩, fun x H'' y => ?_⟩
              obtain ⟨B'', lt, rx⟩ := j2 x H'' y
              have gl := lt.go g'.sr
              have gw := lt.go (g'.sr.ag em (ag_wipe σ vs))
              refine ⟨B'', e', _, gw.sr, rx, ?_⟩
              cases h1 : t s.items[k] e' with
              | none => rw [h1] at hl'; cases hl'
              | some e2 =>
                rw [h1] at hl'
                dsimp only at hl' ⊢
                intro B2 H2 σ2 g2 k2
                have ag2 : Ag vs (wipe σ vs) σ2 := kp_ag k2
                · refine ⟨(wipe_ag ag2).symm.trans (wipe_ag (ag_wipe σ vs)).symm, B2, e2, g2.sr, ?_⟩
                  unfold tAt
                  cases h2 : tt e2 with
                  | bad => rw [h2] at hl'; cases hl'
                  | exc c u e3 => rw [h2] at hl'; cases hl'
                  | ok b e3 =>
                    rw [h2] at hl'
                    dsimp only
                    intro b' B3 H3 g3 eb
                    have eb : b = b' := eb
                    subst eb
                    have G3 : ∀ {B4 H4 : Hp} {e4 : En}, Go (ga X) B3 H3 e3 σ2 B4 H4 e4 σ2 → Go (ga X) B1 H1 e1 σ B4 H4 (wipeE e4 vs) σ := fun {B4 H4 e4} g4 =>
                      g'.trans (Go.blk em (ag_wipe σ vs) (((gw.trans g2).trans g3).trans g4) ag2)
                    have own4 : ∀ {B4 H4 : Hp} {e4 : En}, Go (ga X) B3 H3 e3 σ2 B4 H4 e4 σ2 → H4 D = some (.lst vacc) ∧ B4 D = none ∧ ¬ own (wipeE e4 vs) σ D := fun {B4 H4 e4} g4 => by
                      have gg := Go.blk em (ag_wipe σ vs) (((gw.trans g2).trans g3).trans g4) ag2
                      refine ⟨gg.st.fr D _ hHD nD', gg.st.nb D _ hHD nD' bD', fun w => ?_⟩
                      rcases gg.sub D w with q | q
                      · exact nD' q
                      · rw [hHD] at q; cases q
                    cases b with
                    | false =>
                      rw [if_neg Bool.false_ne_true]
                      dsimp only at hl'
                      split at hl'
                      · rename_i hgo
                        obtain ⟨o1, o2, o3⟩ := own4 (Go.refl g3.sr)
                        exact ⟨B3, wipeE e3 vs, acc, vacc, G3 (Go.refl g3.sr), emp_wipe _ _, hgo, o1, ra.mono (((gw.trans g2).trans g3).st.bb), o2, o3, hl'⟩
                      · cases hl'
                    | true =>
                      rw [if_pos rfl]
                      dsimp only at hl'
                      refine ⟨B3, e3, g3.sr, ?_⟩
                      unfold tAt
                      cases h3 : te e3 with
                      | bad => rw [h3] at hl'; cases hl'
                      | exc c u e4 => rw [h3] at hl'; cases hl'
                      | ok y e4 =>
                        rw [h3] at hl'
                        dsimp only at hl' ⊢
                        intro v B4 H4 g4 rv
                        split at hl'
                        · rename_i hgo
                          obtain ⟨o1, o2, o3⟩ := own4 g4
                          have ra4 := ra.mono ((((gw.trans g2).trans g3).trans g4).st.bb)
                          refine ⟨vacc, o1, by rw [← ra.length]; exact hgo.1, B4, wipeE e4 vs, acc ++ [y], vacc ++ [v], Go.setD (G3 g4) hD o2 o3, emp_wipe _ _, hgo.2, upd_same, ra4.snoc rv, o2, o3, hl'⟩
                        · cases hl'
            · have ek : k = s.items.length := by omega
              subst ek
              refine .inl ⟨io.stop B' H' sb g'.sr.bh gp, ?_⟩
              rw [List.drop_length] at hl'
              unfold lcL at hl'
              injection hl' with hl'
              injection hl' with ha he
              subst ha he
              refine q (.ref D) B' H' (g1.trans (Go.res g1.sr g')) ?_
              refine ⟨D, _, rfl, hHD, ⟨vacc, rfl, ra⟩, bD', fun w => ?_, ?_⟩
              · obtain ⟨i, u, w1, w2⟩ := w
                rcases resE_get e1 e' vs w1 with w1 | ⟨_, w1⟩
                · exact nD' ⟨i, u, w1, w2⟩
                · cases w1
              · exact g1.may D (.inr hD)
        · cases hq
      · cases hq
    · rename_i hq
      split at hq
      · split at hq <;> cases hq
      · cases hq
    · exact q.elim
end
end VS
set_option Elab.async false
set_option linter.all false
set_option maxRecDepth 100000
namespace VS
open PySem L2
abbrev Ar := Bool × U
inductive RF where
  | ok (r : Ar) (outs : En)
  | exc (c : Str) (u : U) (outs : En)
  | bad
abbrev Fs := List Ar → RF
abbrev enA (as : List Ar) : En := as.map some
abbrev stA (vs : List V) : St := vs.map some
def spV (Γ : Ga) (n : Nat) (φ : Fs) : Sp := fun vs H Q E => vs.length = n ∧ ∃ B as, SR Γ B H (enA as) (stA vs) ∧ match φ as with
  | .ok r outs => ∀ v B' H', Go Γ B H (enA as) (stA vs) B' H' outs (stA vs) → (rlO Γ).r r v (may H (enA as) (stA vs)) B' H' outs (stA vs) → Q v H'
  | .exc c u outs => ∀ cls d B' H', Go Γ B H (enA as) (stA vs) B' H' outs (stA vs) → exrep Γ (may H (enA as) (stA vs)) B' H' c u cls d → E cls d H'
  | .bad => False
structure FnV (P : Program) (w : World) (K : PySem.W.Frag) (mg : Str → Option Value) (base : Heap) (k : Nat) (x : Str) (n : Nat) (φ : Fs) : Prop where
  ex : ∃ f fd ps, mg x = some (.ref f) ∧ FnOk P w K mg base (L2.CX P w) k f fd ps (spV ⟨P, w, K, mg⟩ n φ) ∧ PySem.W.keepIn K (.ref f) = true ∧ Binds K fd ps []
structure Ct (X : Cx) (W : WXX) (k : Nat) : Prop where
  px : ∀ σ, PassesAt (L2.CX X.prog X.w) X σ (WE W σ)
  hc : X.calm = true
  hN : X.N.Nodup
  hr : Room k X.A
  ps : PassesOwn (model X.prog X.w) X.A X.env X.xe
  tk : Takes X W
def argOf (e : En) : Od → Option Ar
  | .sl i => match e[i]? with
    | some (some a) => some a
    | _ => none
  | .vl u => some (false, u)
def argsOf (e : En) : List Od → Option (List Ar)
  | [] => some []
  | x :: r => match argOf e x, argsOf e r with
    | some a, some as => some (a :: as)
    | _, _ => none
def ownIx (e : En) : List Od → List Nat
  | [] => []
  | .sl i :: r => match e[i]? with
    | some (some (true, _)) => i :: ownIx e r
    | _ => ownIx e r
  | .vl _ :: r => ownIx e r
def findOut (k : Nat) : List Od → En → Option Sl
  | .sl i :: ods, o :: outs => if i = k then some o else findOut k ods outs
  | .vl _ :: ods, _ :: outs => findOut k ods outs
  | _, _ => none
def updE (ods : List Od) (outs : En) : Nat → En → En
  | _, [] => []
  | k, s :: r => (match s with
    | some (true, u) => match findOut k ods outs with
      | some o => o
      | none => some (true, u)
    | s => s) :: updE ods outs (k + 1) r
theorem updE_len (ods : List Od) (outs : En) : ∀ (e : En) (k : Nat), (updE ods outs k e).length = e.length
  | [], _ => rfl
  | s :: r, k => by unfold updE; rw [List.length_cons, updE_len ods outs r, List.length_cons]
theorem updE_get (ods : List Od) (outs : En) : ∀ (e : En) (k i : Nat), (updE ods outs k e)[i]? = (e[i]?).map fun s => match s with
    | some (true, u) => match findOut (k + i) ods outs with
      | some o => o
      | none => some (true, u)
    | s => s
  | [], _, _ => by simp [updE]
  | s :: r, k, 0 => by simp [updE]
  | s :: r, k, i + 1 => by
    unfold updE
    rw [List.getElem?_cons_succ, updE_get ods outs r, List.getElem?_cons_succ]
    have : k + 1 + i = k + (i + 1) := by omega
    rw [this]
theorem findOut_at {k : Nat} : ∀ {ods : List Od} {outs : En} {o : Sl}, findOut k ods outs = some o → ∃ j : Nat, ods[j]? = some (.sl k) ∧ outs[j]? = some o
  | .sl i :: ods, x :: outs, o, h => by
    unfold findOut at h
    split at h
    · rename_i e
      subst e
      cases h
      exact ⟨0, rfl, rfl⟩
    · obtain ⟨j, h1, h2⟩ := findOut_at h
      exact ⟨j + 1, h1, h2⟩
  | .vl _ :: ods, x :: outs, o, h => by
    unfold findOut at h
    obtain ⟨j, h1, h2⟩ := findOut_at h
    exact ⟨j + 1, h1, h2⟩
  | [], _, _, h => by simp [findOut] at h
  | .sl _ :: _, [], _, h => by simp [findOut] at h
  | .vl _ :: _, [], _, h => by simp [findOut] at h
theorem findOut_none {k : Nat} : ∀ {ods : List Od} {outs : En}, findOut k ods outs = none → ods.length = outs.length → ∀ j : Nat, ods[j]? ≠ some (.sl k)
  | .sl i :: ods, x :: outs, h, l, j => by
    unfold findOut at h
    split at h
    · cases h
    · rename_i n
      cases j with
      | zero => intro q; injection q with q; injection q with q; exact n q
      | succ j => exact findOut_none h (by simpa using l) j
  | .vl _ :: ods, x :: outs, h, l, j => by
    unfold findOut at h
    cases j with
    | zero => intro q; injection q with q; cases q
    | succ j => exact findOut_none h (by simpa using l) j
  | [], _, _, l, j => by simp
  | .sl _ :: _, [], _, l, _ => by simp at l
  | .vl _ :: _, [], _, l, _ => by simp at l
section
variable {Γ : Ga} {B H : Hp} {e : En} {σ : St} {S : Addr → Prop}
theorem args_len : ∀ {ods : List Od} {as : List Ar}, argsOf e ods = some as → ods.length = as.length
  | [], as, h => by injection h with h; subst h; rfl
  | x :: r, as, h => by
    unfold argsOf at h
    cases h1 : argOf e x with
    | none => rw [h1] at h; cases h
    | some a =>
      cases h2 : argsOf e r with
      | none => rw [h1, h2] at h; cases h
      | some bs =>
        rw [h1, h2] at h
        injection h with h
        subst h
        simp [args_len h2]
theorem args_get : ∀ {ods : List Od} {as : List Ar} {j : Nat} {a : Ar}, argsOf e ods = some as → as[j]? = some a → ∃ od, ods[j]? = some od ∧ argOf e od = some a
  | [], as, j, a, h, q => by injection h with h; subst h; simp at q
  | x :: r, as, j, a, h, q => by
    unfold argsOf at h
    cases h1 : argOf e x with
    | none => rw [h1] at h; cases h
    | some b =>
      cases h2 : argsOf e r with
      | none => rw [h1, h2] at h; cases h
      | some bs =>
        rw [h1, h2] at h
        injection h with h
        subst h
        cases j with
        | zero => cases q; exact ⟨x, rfl, h1⟩
        | succ j => exact args_get (j := j) h2 q
theorem paired_get {α β : Type} {F : α → β → Prop} : ∀ {xs : List α} {ys : List β} {j : Nat} {x : α}, Paired F xs ys → xs[j]? = some x → ∃ y, ys[j]? = some y ∧ F x y
  | _, _, j, x, .nil, h => by simp at h
  | _, _, 0, x, .cons r t, h => by cases h; exact ⟨_, rfl, r⟩
  | _, _, j + 1, x, .cons r t, h => paired_get (j := j) t h
theorem paired_len {α β : Type} {F : α → β → Prop} : ∀ {xs : List α} {ys : List β}, Paired F xs ys → xs.length = ys.length
  | _, _, .nil => rfl
  | _, _, .cons r t => by simp [paired_len t]
theorem ownIx_mem {i : Nat} {u : U} (hi : e[i]? = some (some (true, u))) : ∀ {ods : List Od} {j : Nat}, ods[j]? = some (Od.sl i) → i ∈ ownIx e ods
  | [], j, h => by simp at h
  | .vl w :: ods, 0, h => by cases h
  | .sl k :: ods, 0, h => by
    cases h
    unfold ownIx
    rw [hi]
    exact List.mem_cons_self
  | .vl w :: ods, j + 1, h => by
    unfold ownIx
    exact ownIx_mem hi (ods := ods) (j := j) h
  | .sl k :: ods, j + 1, h => by
    have := ownIx_mem hi (ods := ods) (j := j) h
    unfold ownIx
    split
    · exact List.mem_cons_of_mem _ this
    · exact this
theorem ownIx_tl {ods : List Od} {od : Od} (n : (ownIx e (od :: ods)).Nodup) : (ownIx e ods).Nodup := by
  cases od with
  | vl w => exact n
  | sl k =>
    unfold ownIx at n
    split at n
    · exact (List.nodup_cons.mp n).2
    · exact n
theorem ownIx_at {i : Nat} {u : U} (hi : e[i]? = some (some (true, u))) : ∀ {ods : List Od} {j k : Nat}, (ownIx e ods).Nodup → ods[j]? = some (Od.sl i) → ods[k]? = some (Od.sl i) → j = k
  | [], j, k, _, h, _ => by simp at h
  | od :: ods, j, k, n, h1, h2 => by
    cases j with
    | zero =>
      cases k with
      | zero => rfl
      | succ k =>
        cases h1
        unfold ownIx at n
        rw [hi] at n
        exact absurd (ownIx_mem hi (j := k) h2) (List.nodup_cons.mp n).1
    | succ j =>
      cases k with
      | zero =>
        cases h2
        unfold ownIx at n
        rw [hi] at n
        exact absurd (ownIx_mem hi (j := j) h1) (List.nodup_cons.mp n).1
      | succ k => exact congrArg Nat.succ (ownIx_at (j := j) (k := k) hi (ownIx_tl n) h1 h2)
theorem args_sr (s : SR Γ B H e σ) {ods : List Od} {vs : List V} {as : List Ar} (p : Paired (fun od v => (rlR Γ).r od v S B H e σ) ods vs) (h : argsOf e ods = some as) (n : (ownIx e ods).Nodup) : SR Γ B H (enA as) (stA vs) := by
  have at_ : ∀ (j : Nat) (a : Ar), (enA as)[j]? = some (some a) → ∃ od v, ods[j]? = some od ∧ argOf e od = some a ∧ vs[j]? = some v ∧ (rlR Γ).r od v S B H e σ := fun j a q => by
    unfold enA at q
    rw [List.getElem?_map] at q
    cases z : as[j]? with
    | none => rw [z] at q; cases q
    | some b =>
      rw [z] at q
      cases q
      obtain ⟨od, h1, h2⟩ := args_get h z
      obtain ⟨v, h3, h4⟩ := paired_get p h1
      exact ⟨od, v, h1, h2, h3, h4⟩
  have st_ : ∀ {j : Nat} {v : V}, vs[j]? = some v → (stA vs)[j]? = some (some v) := fun {j v} q => by
    unfold stA
    rw [List.getElem?_map, q]
    rfl
  have own_ : ∀ (j : Nat) (u : U), (enA as)[j]? = some (some (true, u)) → ∃ i v, ods[j]? = some (.sl i) ∧ e[i]? = some (some (true, u)) ∧ vs[j]? = some v ∧ σ[i]? = some (some v) := fun j u q => by
    obtain ⟨od, v, h1, h2, h3, h4⟩ := at_ j _ q
    cases od with
    | vl w => cases h2
    | sl i =>
      unfold argOf at h2
      dsimp only at h2
      split at h2
      · rename_i a q'
        cases h2
        exact ⟨i, v, h1, q', h3, h4⟩
      · cases h2
  refine ⟨s.bh, ?_, fun j u q => ?_, fun j u q => ?_, fun j k u w a q1 q2 s1 s2 => ?_⟩
  · unfold enA stA
    rw [List.length_map, List.length_map, ← args_len h, paired_len p]
  · obtain ⟨od, v, h1, h2, h3, h4⟩ := at_ j _ q
    refine ⟨v, st_ h3, ?_⟩
    cases od with
    | vl w => cases h2; exact h4
    | sl i =>
      unfold argOf at h2
      dsimp only at h2
      split at h2
      · rename_i a q'
        cases h2
        obtain ⟨v', k1, k2⟩ := s.vl i u q'
        have h4' : σ[i]? = some (some v) := h4
        rw [h4'] at k1
        cases k1
        exact k2
      · cases h2
  · obtain ⟨i, v, h1, h2, h3, h4⟩ := own_ j u q
    obtain ⟨a, ho, k1, k2, k3, k4⟩ := s.ow i u h2
    rw [h4] at k1
    cases k1
    exact ⟨a, ho, st_ h3, k2, k3, k4⟩
  · obtain ⟨i, v, h1, h2, h3, h4⟩ := own_ j u q1
    obtain ⟨i', v', h1', h2', h3', h4'⟩ := own_ k w q2
    rw [st_ h3] at s1
    rw [st_ h3'] at s2
    cases s1
    cases s2
    have ii := s.ds i i' u w a h2 h2' h4 h4'
    subst ii
    exact ownIx_at h2 n h1 h1'
theorem args_own {ods : List Od} {vs : List V} {as : List Ar} (p : Paired (fun od v => (rlR Γ).r od v S B H e σ) ods vs) (h : argsOf e ods = some as) {a : Addr} (o : own (enA as) (stA vs) a) :
    ∃ (i : Nat) (u : U) (j : Nat), ods[j]? = some (Od.sl i) ∧ e[i]? = some (some (true, u)) ∧ σ[i]? = some (some (.ref a)) := by
  obtain ⟨j, u, q, s1⟩ := o
  unfold enA at q
  rw [List.getElem?_map] at q
  cases z : as[j]? with
  | none => rw [z] at q; cases q
  | some b =>
    rw [z] at q
    cases q
    obtain ⟨od, h1, h2⟩ := args_get h z
    obtain ⟨v, h3, h4⟩ := paired_get p h1
    unfold stA at s1
    rw [List.getElem?_map, h3] at s1
    cases s1
    cases od with
    | vl w => cases h2
    | sl i =>
      unfold argOf at h2
      dsimp only at h2
      split at h2
      · rename_i a q'
        cases h2
        exact ⟨i, u, j, h1, q', h4⟩
      · cases h2
theorem upd_get {ods : List Od} {vs : List V} {outs : En} (p : Paired (fun od v => (rlR Γ).r od v S B H e σ) ods vs) (lo : ods.length = outs.length) : ∀ (i : Nat) (x : Ar), (updE ods outs 0 e)[i]? = some (some x) → (e[i]? = some (some x) ∧ (x.1 = true → ∀ j : Nat, ods[j]? ≠ some (Od.sl i))) ∨
      ∃ (u : U) (j : Nat) (v : V), e[i]? = some (some (true, u)) ∧ ods[j]? = some (Od.sl i) ∧ outs[j]? = some (some x) ∧ vs[j]? = some v ∧ σ[i]? = some (some v) := fun i x q => by
  rw [updE_get] at q
  cases z : e[i]? with
  | none => rw [z] at q; cases q
  | some sl =>
    rw [z] at q
    simp only [Option.map_some, Nat.zero_add] at q
    injection q with q
    cases sl with
    | none => cases q
    | some a =>
      obtain ⟨o, u⟩ := a
      cases o with
      | false => cases q; exact .inl ⟨rfl, fun w => by cases w⟩
      | true =>
        dsimp only at q
        cases f : findOut i ods outs with
        | none =>
          rw [f] at q
          cases q
          exact .inl ⟨rfl, fun _ => findOut_none f lo⟩
        | some o =>
          rw [f] at q
          subst q
          obtain ⟨j, f1, f2⟩ := findOut_at f
          obtain ⟨v, h3, h4⟩ := paired_get p f1
          exact .inr ⟨u, j, v, rfl, f1, f2, h3, h4⟩
theorem call_go (s : SR Γ B H e σ) {ods : List Od} {vs : List V} {as : List Ar} (p : Paired (fun od v => (rlR Γ).r od v S B H e σ) ods vs) (h : argsOf e ods = some as) (n : (ownIx e ods).Nodup) {B' H' : Hp} {outs : En}
    (g : Go Γ B H (enA as) (stA vs) B' H' outs (stA vs)) : Go Γ B H e σ B' H' (updE ods outs 0 e) σ := by
  have lo : ods.length = outs.length := by
    rw [g.sr.ln]
    unfold stA
    rw [List.length_map, paired_len p]
  have sub0 : ∀ a, own (enA as) (stA vs) a → own e σ a := fun a o => by
    obtain ⟨i, u, j, _, h2, h3⟩ := args_own p h o
    exact ⟨i, u, h2, h3⟩
  have st_ : ∀ {j : Nat} {v : V}, vs[j]? = some v → (stA vs)[j]? = some (some v) := fun {j v} q => by
    unfold stA
    rw [List.getElem?_map, q]
    rfl
  have old : ∀ (i : Nat) (u : U), (updE ods outs 0 e)[i]? = some (some (true, u)) → ∃ w, e[i]? = some (some (true, w)) := fun i u q => by
    rcases upd_get p lo i _ q with ⟨q, _⟩ | ⟨w, _, _, q, _⟩
    · exact ⟨u, q⟩
    · exact ⟨w, q⟩
  refine ⟨⟨g.st.bb, fun a o ha na => g.st.fr a o ha fun z => na (sub0 a z), fun a o ha na b => g.st.nb a o ha (fun z => na (sub0 a z)) b⟩, ⟨g.sr.bh, (updE_len ods outs e 0).trans s.ln, fun i u q => ?_, fun i u q => ?_, fun i j u w a q1 q2 s1 s2 => ?_⟩, fun a ⟨i, u, q, s1⟩ => ?_⟩
  · rcases upd_get p lo i _ q with ⟨q, _⟩ | ⟨w, j, v, q, f1, f2, f3, f4⟩
    · obtain ⟨v, h1, h2⟩ := s.vl i u q
      exact ⟨v, h1, h2.mono g.st.bb⟩
    · obtain ⟨v', h1, h2⟩ := g.sr.vl j u f2
      rw [st_ f3] at h1
      cases h1
      exact ⟨v, f4, h2⟩
  · rcases upd_get p lo i _ q with ⟨q, nj⟩ | ⟨w, j, v, q, f1, f2, f3, f4⟩
    · obtain ⟨a, ho, h1, h2, h3, h4⟩ := s.ow i u q
      have na : ¬ own (enA as) (stA vs) a := fun z => by
        obtain ⟨i', u', j', k1, k2, k3⟩ := args_own p h z
        have := s.ds i i' u u' a q k2 h1 k3
        subst this
        exact nj rfl j' k1
      exact ⟨a, ho, h1, g.st.fr a ho h2 na, h3.mono g.st.bb, g.st.nb a ho h2 na h4⟩
    · obtain ⟨a, ho, h1, h2, h3, h4⟩ := g.sr.ow j u f2
      rw [st_ f3] at h1
      cases h1
      exact ⟨a, ho, f4, h2, h3, h4⟩
  · obtain ⟨u', q1⟩ := old i u q1
    obtain ⟨w', q2⟩ := old j w q2
    exact s.ds i j u' w' a q1 q2 s1 s2
  · obtain ⟨u', q⟩ := old i u q
    exact .inl ⟨i, u', q, s1⟩
end
def callO (n : Nat) (φ : Fs) (ods : List Od) : M (Bool × U) := fun e => match argsOf e ods with
  | some as => if ods.length = n ∧ (ownIx e ods).Nodup then match φ as with
      | .ok r outs => .ok r (updE ods outs 0 e)
      | .exc c u outs => .exc c u (updE ods outs 0 e)
      | .bad => .bad
    else .bad
  | none => .bad
def mCall (n : Nat) (φ : Fs) (m : M (List Od)) : M (Bool × U) := m.bd (callO n φ)
section
variable {X : Cx} {W : WXX} {k n : Nat} {x : Str} {φ : Fs} {ex : Expr} {es : List Expr} {p pos : Pos} {m : M (List Od)}
theorem call_core {B H : Hp} {e : En} {σ : St} {S : Addr → Prop} {ods : List Od} {vs : List V} {Q : VK} (s : SR (ga X) B H e σ) (p : Paired (fun od v => (rlR (ga X)).r od v S B H e σ) ods vs) (q : tAt (ga X) W (rlO (ga X)) (callO n φ ods) B H e σ Q) :
    spV (ga X) n φ vs H Q (WE W σ) := by
  unfold tAt callO at q
  cases h : argsOf e ods with
  | none => rw [h] at q; exact q.elim
  | some as =>
    rw [h] at q
    dsimp only at q
    split at q
    · rename_i r e' hq
      split at hq
      · rename_i nd
        obtain ⟨hn, nd⟩ := nd
        refine ⟨by rw [← paired_len p]; exact hn, B, as, args_sr s p h nd, ?_⟩
        cases z : φ as with
        | bad => rw [z] at hq; cases hq
        | exc c u outs => rw [z] at hq; cases hq
        | ok r' outs =>
          rw [z] at hq
          injection hq with h1 h2
          subst h1 h2
          intro v B' H' g rr
          have G := call_go s p h nd g
          have lo : ods.length = outs.length := by
            rw [g.sr.ln]
            unfold stA
            rw [List.length_map, paired_len p]
          refine q v B' H' G ?_
          obtain ⟨o, u⟩ := r'
          cases o with
          | false => exact rr
          | true =>
            obtain ⟨a, ho, k1, k2, k3, k4, k5, k6⟩ := rr
            have m6 : may H e σ a := by
              rcases k6 with k6 | k6
              · obtain ⟨i, u, j, _, h2, h3⟩ := args_own p h k6
                exact .inl ⟨i, u, h2, h3⟩
              · exact .inr k6
            refine ⟨a, ho, k1, k2, k3, k4, fun w => ?_, m6⟩
            obtain ⟨i, u, q1, q2⟩ := w
            rcases upd_get p lo i _ q1 with ⟨q3, nj⟩ | ⟨w, j, v', q3, f1, f2, f3, f4⟩
            · rcases k6 with k6 | k6
              · obtain ⟨i', u', j', h1, h2, h3⟩ := args_own p h k6
                have := s.ds i i' u u' a q3 h2 q2 h3
                subst this
                exact nj rfl j' h1
              · obtain ⟨a', ho', h1, h2, _⟩ := s.ow i u q3
                rw [q2] at h1
                cases h1
                rw [k6] at h2
                cases h2
            · rw [f4] at q2
              cases q2
              exact k5 ⟨j, u, f2, by unfold stA; rw [List.getElem?_map, f3]; rfl⟩
      · cases hq
    · rename_i c u e' hq
      split at hq
      · rename_i nd
        obtain ⟨hn, nd⟩ := nd
        refine ⟨by rw [← paired_len p]; exact hn, B, as, args_sr s p h nd, ?_⟩
        cases z : φ as with
        | bad => rw [z] at hq; cases hq
        | ok r' outs => rw [z] at hq; cases hq
        | exc c' u' outs =>
          rw [z] at hq
          injection hq with h1 h2 h3
          subst h1 h2 h3
          exact fun cls d B' H' g x => q cls d B' H' (call_go s p h nd g) (x.mono fun a m => by
            rcases m with m | m
            · obtain ⟨i, u, j, _, h2, h3⟩ := args_own p h m
              exact .inl ⟨i, u, h2, h3⟩
            · exact .inr m)
      · cases hq
    · exact q.elim
theorem po_call {j : Nat} (ct : Ct X W k) (F : FnV X.prog X.w X.K X.mg X.base j x n φ) (hj : j ≤ k) (hg : Gl X x) (ha : PRs X W (ex :: es) m) (hdb : (x == ("__debug__" : Str)) = false := by decide)
    (he : starEach (ex :: es) X.env = (false, eval ex X.env) :: starEach es X.env := by rfl) (hpl : (backTo pos (starEach es X.env)).any (·.1) = false := by rfl) :
    PO X W (.Call (.Name x p) (ex :: es) [] pos) (mCall n φ m) := by
  obtain ⟨f, fd, ps, hm, ok, hk, hb⟩ := F.ex
  refine PEimp (pe_callS (ok.mono hj) ct.hr hg hm hk hb (E := WE W) ct.px ha hdb he hpl) fun σ H Q ⟨B, e, sr, q⟩ => ⟨B, e, sr, ?_⟩
  exact (tAt.bd q).mono fun vs H1 ⟨B1, e1, ods, g1, r1, q1⟩ => call_core g1.sr r1 q1
end
def outS (pr : Nat → Bool) (n : Nat) (e : En) : En := (List.range n).map fun i => if pr i then (e[i]?).getD none else none
def fnS (N n : Nat) (pr : Nat → Bool) (b : MS) : Fs := fun as => if as.length = n ∧ n ≤ N then match b (enA as ++ List.replicate (N - n) none) with
  | .nx e => .ok (false, .non) (outS pr n e)
  | .rt o u e => .ok (o, u) (outS pr n e)
  | .exc c u e => .exc c u (outS pr n e)
  | _ => .bad
  else .bad
theorem outS_get {pr : Nat → Bool} {n i : Nat} {e : En} {x : Ar} (h : (outS pr n e)[i]? = some (some x)) : i < n ∧ pr i = true ∧ e[i]? = some (some x) := by
  unfold outS at h
  rw [List.getElem?_map] at h
  by_cases hi : i < n
  · rw [List.getElem?_range hi] at h
    simp only [Option.map_some] at h
    injection h with h
    split at h
    · rename_i p
      refine ⟨hi, p, ?_⟩
      cases z : e[i]? with
      | none => rw [z] at h; cases h
      | some y => rw [z] at h; exact congrArg some h
    · cases h
  · rw [List.getElem?_eq_none (by simpa using hi)] at h
    cases h
section
variable {Γ : Ga} {B H B' H' : Hp} {as : List Ar} {vs : List V} {N : List Str} {n : Nat} {pr : Nat → Bool} {e' : En} {σ' : St}
theorem ent_get {α : Type} {l : List α} {m i : Nat} {x : α} (h : (l.map some ++ List.replicate m (none : Option α))[i]? = some (some x)) : (l.map some)[i]? = some (some x) := by
  by_cases hi : i < l.length
  · rwa [List.getElem?_append_left (by simpa using hi)] at h
  · rw [List.getElem?_append_right (by simpa using hi), List.getElem?_replicate] at h
    split at h <;> cases h
theorem ent_get' {α : Type} {l : List α} {m i : Nat} {x : α} (h : (l.map some)[i]? = some (some x)) : (l.map some ++ List.replicate m (none : Option α))[i]? = some (some x) := by
  have : i < (l.map some).length := by
    rcases Nat.lt_or_ge i (l.map some).length with z | z
    · exact z
    · rw [List.getElem?_eq_none z] at h; cases h
  rw [List.getElem?_append_left this]
  exact h
theorem start_eq {m : Nat} (h : vs.length = n) : start N vs = vs.map some ++ List.replicate (N.length - n) none := by unfold L2.start; rw [h]
theorem ent_sr (s : SR Γ B H (enA as) (stA vs)) (h : vs.length = n) : SR Γ B H (enA as ++ List.replicate (N.length - n) none) (start N vs) := by
  rw [start_eq (m := 0) h]
  have ln := s.ln
  refine ⟨s.bh, by simp only [List.length_append, List.length_replicate]; have ln : (enA as).length = (vs.map some).length := ln; rw [ln], fun i u q => ?_, fun i u q => ?_, fun i j u w a q1 q2 s1 s2 => s.ds i j u w a (ent_get q1) (ent_get q2) (ent_get s1) (ent_get s2)⟩
  · obtain ⟨v, h1, h2⟩ := s.vl i u (ent_get q)
    exact ⟨v, ent_get' h1, h2⟩
  · obtain ⟨a, ho, h1, h2⟩ := s.ow i u (ent_get q)
    exact ⟨a, ho, ent_get' h1, h2⟩
theorem ent_own (h : vs.length = n) {a : Addr} : own (enA as ++ List.replicate (N.length - n) none) (start N vs) a → own (enA as) (stA vs) a := fun ⟨i, u, q, s⟩ => by
  rw [start_eq (m := 0) h] at s
  exact ⟨i, u, ent_get q, ent_get s⟩
theorem out_own (h : vs.length = n) (kp : Kp pr (start N vs) σ') {a : Addr} (o : own (outS pr n e') (stA vs) a) : own e' σ' a := by
  obtain ⟨i, u, q, s⟩ := o
  obtain ⟨h1, h2, h3⟩ := outS_get q
  refine ⟨i, u, h3, ?_⟩
  rw [kp.2 i h2, start_eq (m := 0) h]
  exact ent_get' s
theorem out_go (h : vs.length = n) (g : Go Γ B H (enA as ++ List.replicate (N.length - n) none) (start N vs) B' H' e' σ') (kp : Kp pr (start N vs) σ') : Go Γ B H (enA as) (stA vs) B' H' (outS pr n e') (stA vs) := by
  have st_ : ∀ {i : Nat} {x : Option V}, i < n → σ'[i]? = some x → pr i = true → (stA vs)[i]? = some x := fun {i x} hi q p => by
    rw [kp.2 i p, start_eq (m := 0) h, List.getElem?_append_left (by simpa [h] using hi)] at q
    exact q
  refine ⟨⟨g.st.bb, fun a o ha na => g.st.fr a o ha fun z => na (ent_own h z), fun a o ha na => g.st.nb a o ha fun z => na (ent_own h z)⟩, ⟨g.sr.bh, by unfold outS stA; simp [h], fun i u q => ?_, fun i u q => ?_, fun i j u w a q1 q2 s1 s2 => ?_⟩, fun a z => ?_⟩
  · obtain ⟨h1, h2, h3⟩ := outS_get q
    obtain ⟨v, k1, k2⟩ := g.sr.vl i u h3
    exact ⟨v, st_ h1 k1 h2, k2⟩
  · obtain ⟨h1, h2, h3⟩ := outS_get q
    obtain ⟨a, ho, k1, k2⟩ := g.sr.ow i u h3
    exact ⟨a, ho, st_ h1 k1 h2, k2⟩
  · obtain ⟨h1, h2, h3⟩ := outS_get q1
    obtain ⟨h1', h2', h3'⟩ := outS_get q2
    refine g.sr.ds i j u w a h3 h3' ?_ ?_
    · rw [kp.2 i h2, start_eq (m := 0) h]; exact ent_get' s1
    · rw [kp.2 j h2', start_eq (m := 0) h]; exact ent_get' s2
  · rcases g.sub a (out_own h kp z) with q | q
    · exact .inl (ent_own h q)
    · exact .inr q
theorem out_rl {r : Ar} {v : V} (h : vs.length = n) (kp : Kp pr (start N vs) σ') (x : (rlO Γ).r r v (may H (enA as ++ List.replicate (N.length - n) none) (start N vs)) B' H' e' σ') : (rlO Γ).r r v (may H (enA as) (stA vs)) B' H' (outS pr n e') (stA vs) := by
  obtain ⟨o, u⟩ := r
  cases o with
  | false => exact x
  | true =>
    obtain ⟨a, ho, h1, h2, h3, h4, h5, h6⟩ := x
    refine ⟨a, ho, h1, h2, h3, h4, fun z => h5 (out_own h kp z), ?_⟩
    rcases h6 with q | q
    · exact .inl (ent_own h q)
    · exact .inr q
theorem body_q {b : MS} {Q : VK} {E : XK} (hp : spV Γ n (fnS N.length n pr b) vs H Q E) : sG Γ (fun cls d _ H => E cls d H) pr b { nx := fun _ H' => Q .non H', rt := Q } (start N vs) H := by
  obtain ⟨hl, B, as, s, q⟩ := hp
  refine ⟨B, _, ent_sr s hl, ?_⟩
  unfold fnS at q
  unfold sAt
  by_cases c : as.length = n ∧ n ≤ N.length
  · rw [if_pos c] at q
    cases z : b (enA as ++ List.replicate (N.length - n) none) with
    | bad => rw [z] at q; exact q
    | bk e => rw [z] at q; exact q.elim
    | ct e => rw [z] at q; exact q.elim
    | nx e =>
      rw [z] at q
      exact fun B' H' σ' g kp => q .non B' H' (out_go hl g kp) (by show rep Γ B' .non .non; simp only [rep])
    | rt o u e =>
      rw [z] at q
      exact fun v B' H' σ' g kp r => q v B' H' (out_go hl g kp) (out_rl hl kp r)
    | exc c u e =>
      rw [z] at q
      exact fun cls d B' H' σ' g kp x => q cls d B' H' (out_go hl g kp) (x.mono fun a m => m.imp (ent_own hl) id)
  · rw [if_neg c] at q
    exact q.elim
end
abbrev WEx (E : XK) : WXX := fun cls d _ H => E cls d H
theorem fn_rule {P : Program} {w : World} {K : PySem.W.Frag} {mg : Str → Option Value} {base : Heap} {x qual : Str} {params : Arguments} {body : List Stmt} {scope : Scope} {f : Addr} {fd : FuncData} {N ps : List Str} {k : Nat} {pr : Nat → Bool} {b : MS}
    (hm : mg x = some (.ref f)) (F : FunD K x qual params body scope [] [] f fd) (S : FnScope N ps scope)
    (hb : ∀ (kV doc pm : Value) (an : Option Addr) (cdv ct : Value) (us : List Value), us.length = ps.length → bindArgs (PySem.W.fnOf x qual params body scope .none kV doc pm an cdv ct) ⟨us, []⟩ = pure (ps.zip us))
    (hbody : ∀ (cdv : Value) (A : Around) (outer : List Env) (s : Shared) (H : Hp) (E : XK), Ct (cxOf (L2.CX P w) P w K mg base N qual scope f cdv A outer s H E) (WEx E) k → PSsV (cxOf (L2.CX P w) P w K mg base N qual scope f cdv A outer s H E) (WEx E) pr body b) :
    FnV P w K mg base (k + 1) x ps.length (fnS N.length ps.length pr b) := by
  refine ⟨f, fd, ps, hm, F.ok S (fun vs H Q E h => h.1) fun cdv A outer s H vs Q E hr hp => ?_, F.kp, F.bindsN hb⟩
  have ct : Ct (cxOf (L2.CX P w) P w K mg base N qual scope f cdv A outer s H E) (WEx E) k := ⟨fun σ => passAt (takes_of rfl rfl rfl rfl) σ, rfl, S.nd, hr, passes_of rfl, takes_of rfl rfl rfl rfl⟩
  exact ⟨_, hbody cdv A outer s H E ct, body_q hp⟩
theorem Ct.blk {X : Cx} {W : WXX} {k : Nat} (c : Ct X W k) {s : Shared} {H : Hp} {scope : Scope} {ce : Env} {fp : List Addr} : Ct (X.blk s H scope ce fp) W0 k := by
  refine ⟨fun σ => fun _ _ _ _ _ _ h => ?_, c.hc, c.hN, c.hr, ?_, fun _ _ h => ?_⟩
  · obtain ⟨_, _, _, _, _, _, _, _, _, _, _, _, z⟩ := h
    exact z.elim
  · exact PassesOwn.never
  · obtain ⟨_, _, _, _, _, _, _, _, _, _, _, _, _, _, _, _, z⟩ := h
    exact z.elim
end VS
set_option Elab.async false
set_option linter.all false
set_option maxRecDepth 100000
namespace VS
open PySem L2
section
variable {X : Cx} {W : WXX} {pr : Nat → Bool} {tg iter elt ex : Expr} {ifs : List Expr} {scope : Scope} {own' : List (Str × Nat)} {pos : Pos}
theorem po_lc {m : M Src} {t : MT} {tt : M Bool} {te : M U} {vs : List Nat} (hc : X.calm = true) (hN : X.N.Nodup) (hi : PIV X W tg iter m) (ok : BlkOk X.N X.env.scope scope own') (hvs : own'.map (·.2) = vs)
    (hg : BlkAll X scope fun Y => PGV Y (prB vs) tg t) (ht : BlkAll X scope fun Y => PTs Y ifs (tG (ga X) W0 rlB tt)) (he : BlkAll X scope fun Y => PE Y elt (tG (ga X) W0 (rlV (ga X)) te))
    (hs : ∀ x, foldedSetIterable iter X.env x = pure x := by intro _; rfl) : PO X W (.ListComp elt [⟨tg, iter, ifs, 0⟩] scope pos) (mLc m t tt te vs) := by
  subst hvs
  exact PEimp (pe_lc hc hN hi ok (fun s H C cl fp => hg s H C cl fp) (fun s H C cl fp => ht s H C cl fp) (fun s H C cl fp => he s H C cl fp) hs) fun σ H Q q => lc_core' σ H Q q
theorem sv_setLc {m : M Src} {t : MT} {tt : M Bool} {te : M U} {vs : List Nat} {i : Nat} {y : Str} {py : Pos} {spos : Pos} (hc : X.calm = true) (hN : X.N.Nodup) (hy : X.N[i]? = some y) (hyl : X.env.scope.names.lookup y = some .local) (hp : pr i = false)
    (hsw : swapsWith (.ListComp elt [⟨tg, iter, ifs, 0⟩] scope pos) (some (.Name y py)) spos.line X.env = pure true) (hi : PIV X W tg iter m) (ok : BlkOk X.N X.env.scope scope own') (hvs : own'.map (·.2) = vs)
    (hg : BlkAll X scope fun Y => PGV Y (prB vs) tg t) (ht : BlkAll X scope fun Y => PTs Y ifs (tG (ga X) W0 rlB tt)) (he : BlkAll X scope fun Y => PE Y elt (tG (ga X) W0 (rlV (ga X)) te))
    (hs : ∀ x, foldedSetIterable iter X.env x = pure x := by intro _; rfl) : PSV X W pr (.Assign [.Name y py] (.ListComp elt [⟨tg, iter, ifs, 0⟩] scope pos) spos) (mAsg i (mLc m t tt te vs)) := by
  subst hvs
  exact PSimp (ps_setLc hc hN hy hyl hsw hi ok (fun s H C cl fp => hg s H C cl fp) (fun s H C cl fp => ht s H C cl fp) (fun s H C cl fp => he s H C cl fp) hs) fun D σ H q => set_core hp (fun σ H Q q => lc_core' σ H Q q) D σ H q
end
def mTn (m : M Bool) : M Bool := m.bd fun b => .ret (!b)
def mTa (m k : M Bool) : M Bool := m.bd fun b => if b then k else .ret false
def mTo (m k : M Bool) : M Bool := m.bd fun b => if b then .ret true else k
abbrev PWB (X : Cx) (W : WXX) (ex : Expr) (m : M Bool) : Prop := PW X ex (tG (ga X) W rlB m)
section
variable {X : Cx} {W : WXX} {a b c : Expr} {rest : List Expr} {pos : Pos} {m k : M Bool}
theorem pt_not' (h : PTB X W a m) : PTB X W (.UnaryOp .Not a pos) (mTn m) := PTimp (pt_not h) fun σ H Q ⟨B, e, sr, q⟩ => ⟨B, e, sr, (tAt.bd (rl := rlB) (rl2 := rlB) q).mono fun x H1 ⟨B1, e1, u, g1, r1, q1⟩ => by
  have r1 : u = x := r1
  subst r1
  exact q1 _ B1 H1 (Go.refl g1.sr) rfl⟩
theorem pwb_and1 (h : PTB X W a m) : PWB X W (.BoolOp .And [a] pos) m := pw_and1 h
theorem pwb_or1 (h : PTB X W a m) : PWB X W (.BoolOp .Or [a] pos) m := pw_or1 h
theorem pwb_and (h : PTB X W a m) (h2 : PWB X W (.BoolOp .And (b :: rest) pos) k) : PWB X W (.BoolOp .And (a :: b :: rest) pos) (mTa m k) := PWimp (pw_and h h2) fun σ H Q ⟨B, e, sr, q⟩ => ⟨B, e, sr, (tAt.bd (rl := rlB) (rl2 := rlB) q).mono fun x H1 ⟨B1, e1, u, g1, r1, q1⟩ => by
  have r1 : u = x := r1
  subst r1
  cases u with
  | true => exact ⟨B1, e1, g1.sr, q1⟩
  | false => exact q1 _ B1 H1 (Go.refl g1.sr) rfl⟩
theorem pwb_or (h : PTB X W a m) (h2 : PWB X W (.BoolOp .Or (b :: rest) pos) k) : PWB X W (.BoolOp .Or (a :: b :: rest) pos) (mTo m k) := PWimp (pw_or h h2) fun σ H Q ⟨B, e, sr, q⟩ => ⟨B, e, sr, (tAt.bd (rl := rlB) (rl2 := rlB) q).mono fun x H1 ⟨B1, e1, u, g1, r1, q1⟩ => by
  have r1 : u = x := r1
  subst r1
  cases u with
  | false => exact ⟨B1, e1, g1.sr, q1⟩
  | true => exact q1 _ B1 H1 (Go.refl g1.sr) rfl⟩
theorem pt_of (h : PWB X W a m) : PTB X W a m := h.pt
theorem pt_vb {m : M (Bool × U)} (h : PO X W a m) (he : ∀ whole, isTrue a X.env whole = (do let v ← whole; standAt a.pos; holding [v] (truthy v)) := by intro _; rfl) : PTB X W a (mTst m) := PTimp (pt_val h he) fun σ H Q q => tst_core (fun _ _ _ h => h) σ H Q q
def truU : U → Option Bool
  | .non => some false
  | .bl b => some b
  | .int i => some (i != 0)
  | .str x => if x.length ≤ sizeLine then some ((x.length : Int) != 0) else none
  | .lst us => some (!us.isEmpty)
  | .tup us => some (!us.isEmpty)
  | .scr ns => some (!ns.isEmpty)
  | _ => none
def mTru (m : M Od) : M Bool := m.bd fun od e => match rdO e od with
  | some u => match truU u with
    | some b => .ok b e
    | none => .bad
  | none => .bad
theorem reps.emp {Γ : Ga} {B : Hp} {us : List U} {vs : List V} (h : reps Γ B us vs) : us.isEmpty = vs.isEmpty := by
  cases us with
  | nil => simp only [reps] at h; subst h; rfl
  | cons u us => simp only [reps] at h; obtain ⟨v, r, e, _⟩ := h; subst e; rfl
theorem truU_ok {Γ : Ga} {B H : Hp} {u : U} {v : V} {b : Bool} (s : Same B H) (h : Vw Γ B H u v) (q : truU u = some b) : TruV Γ.K v H b := by
  cases u with
  | non => cases h.non; cases q; rfl
  | bl k => cases h.bl; cases q; rfl
  | int i => cases h.int; cases q; rfl
  | str x =>
    cases h.str
    unfold truU at q
    dsimp only at q
    split at q
    · cases q; exact ⟨by assumption, rfl⟩
    · cases q
  | lst us =>
    obtain ⟨a, vs, rfl, h1, r⟩ := h.lst s
    cases q
    exact .inl ⟨vs, SqL.of h1, by rw [r.emp]⟩
  | tup us =>
    obtain ⟨a, vs, rfl, h1, r⟩ := h.tup s
    cases q
    exact .inr (.inl ⟨vs, h1, by rw [r.emp]⟩)
  | scr ns =>
    obtain ⟨a, rfl, h1⟩ := h.scr s
    cases q
    exact .inl ⟨_, h1, by simp⟩
  | _ => cases q
theorem pt_tru {m : M Od} (h : PR X W a m) (he : ∀ whole, isTrue a X.env whole = (do let v ← whole; standAt a.pos; holding [v] (truthy v)) := by intro _; rfl) : PTB X W a (mTru m) := PTimp (pt_truth h he) fun σ H Q ⟨B, e, sr, q⟩ => ⟨B, e, sr, (tAt.bd (rl := rlR (ga X)) (rl2 := rlB) q).mono fun x H1 ⟨B1, e1, od, g1, r1, q1⟩ => by
  unfold tAt at q1
  dsimp only at q1
  cases h1 : rdO e1 od with
  | none => rw [h1] at q1; exact q1.elim
  | some u =>
    rw [h1] at q1
    dsimp only at q1
    cases h2 : truU u with
    | none => rw [h2] at q1; exact q1.elim
    | some b =>
      rw [h2] at q1
      exact ⟨b, truU_ok g1.sr.bh (rlR.vw g1.sr r1 h1) h2, q1 _ B1 H1 (Go.refl g1.sr) rfl⟩⟩
def mAnd (m k : M (Bool × U)) : M (Bool × U) := m.bd fun r => match r with
  | (false, .bl b) => if b then k else .ret (false, .bl false)
  | _ => fun _ => .bad
def mNot (m : M (Bool × U)) : M (Bool × U) := m.bd fun r => match r with
  | (false, .bl b) => .ret (false, .bl (!b))
  | _ => fun _ => .bad
theorem po_one {op : BoolOp} {m : M (Bool × U)} (h : PO X W a m) : PO X W (.BoolOp op [a] pos) m := pe_one h
theorem po_and {m k : M (Bool × U)} (h : PO X W a m) (h2 : PO X W (.BoolOp .And (b :: rest) pos) k) : PO X W (.BoolOp .And (a :: b :: rest) pos) (mAnd m k) := PEimp (pe_and h h2) fun σ H Q ⟨B, e, sr, q⟩ => ⟨B, e, sr, (tAt.bd q).mono fun x H1 ⟨B1, e1, r, g1, r1, q1⟩ => by
  obtain ⟨o, u⟩ := r
  cases o with
  | true => exact False.elim q1
  | false =>
    cases u with
    | bl k =>
      have r1 : rep (ga X) B1 (.bl k) x := r1
      simp only [rep] at r1
      subst r1
      refine ⟨k, rfl, ?_⟩
      cases k with
      | true => exact ⟨B1, e1, g1.sr, q1⟩
      | false => exact fin_val (u := .bl false) g1.sr q1 (rep_bl false)
    | _ => exact False.elim q1⟩
theorem po_not {m : M (Bool × U)} (h : PO X W a m) : PO X W (.UnaryOp .Not a pos) (mNot m) := PEimp (pe_not h) fun σ H Q ⟨B, e, sr, q⟩ => ⟨B, e, sr, (tAt.bd q).mono fun x H1 ⟨B1, e1, r, g1, r1, q1⟩ => by
  obtain ⟨o, u⟩ := r
  cases o with
  | true => exact False.elim q1
  | false =>
    cases u with
    | bl k =>
      have r1 : rep (ga X) B1 (.bl k) x := r1
      simp only [rep] at r1
      subst r1
      exact ⟨k, rfl, fin_val (u := .bl (!k)) g1.sr q1 (rep_bl (!k))⟩
    | _ => exact False.elim q1⟩
end
section
variable {X : Cx} {W : WXX} {tg ex ey : Expr} {pos : Pos}
theorem iv_name {i : Nat} {x : Str} (hN : X.N[i]? = some x) (hv : Vis X.env.scope x) (hd : (x == ("__debug__" : Str)) = false := by decide) (hcd : (x == ("__classdict__" : Str)) = false := by decide) : PIV X W tg (.Name x pos) (mItN i) := by
  refine PIimp (pi_list (pe_var hN hv hd hcd)) fun σ H R ⟨B, e, sr, q⟩ => ?_
  unfold mItN at q
  split at q
  · rename_i s e' hz
    split at hz
    · rename_i us z
      cases hz
      obtain ⟨a, ho, h1, h2, ⟨ws, e1, r⟩, h4⟩ := sr.ow i _ z
      subst e1
      refine ⟨_, h1, a, rfl, ⟨ws, SqL.of h2⟩, q _ B H (Go.refl sr) ?_ z⟩
      refine ⟨fun B H k u s1 s2 ⟨a', ws', k1, k2, k3⟩ hk => ?_, fun B H s1 s2 ⟨a', ws', k1, k2, k3⟩ => ?_⟩
      · rw [h1] at k1
        cases k1
        obtain ⟨v, hv, rv⟩ := k3.get hk
        exact ⟨⟨ws', v, SqL.of k2, hv⟩, fun x H' ⟨e, q⟩ => ⟨B, .inl ⟨rfl, e⟩, by
          have := q ws' (SqL.of k2)
          rw [hv] at this
          cases this
          exact rv⟩⟩
      · rw [h1] at k1
        cases k1
        exact ⟨ws', SqL.of k2, by rw [k3.length]; exact Nat.le_refl _⟩
    · rename_i us z
      cases hz
      obtain ⟨v, h1, h2⟩ := sr.vl i _ z
      simp only [rep] at h2
      obtain ⟨a, vs, rfl, h3, rr⟩ := h2
      refine ⟨_, h1, a, rfl, ⟨vs, SqL.of (sr.bh _ _ h3)⟩, q _ B H (Go.refl sr) ?_ trivial⟩
      refine ⟨fun B H k u s1 s2 _ hk => ?_, fun B H s1 s2 _ => ⟨vs, SqL.of (s2 _ _ (s1 _ _ h3)), by rw [rr.length]; exact Nat.le_refl _⟩⟩
      obtain ⟨v, hv, rv⟩ := rr.get hk
      exact ⟨⟨vs, v, SqL.of (s2 _ _ (s1 _ _ h3)), hv⟩, fun x H' ⟨e, q⟩ => ⟨B, .inl ⟨rfl, e⟩, by
        have := q vs (SqL.of (s2 _ _ (s1 _ _ h3)))
        rw [hv] at this
        cases this
        exact rv.mono s1⟩⟩
    · rename_i ns z
      cases hz
      obtain ⟨v, h1, h2⟩ := sr.vl i _ z
      simp only [rep] at h2
      obtain ⟨a, rfl, h3⟩ := h2
      refine ⟨_, h1, a, rfl, ⟨_, sqL_same sr.bh h3⟩, q _ B H (Go.refl sr) ?_ trivial⟩
      refine ⟨fun B H k u s1 s2 _ hk => ?_, fun B H s1 s2 _ => ⟨_, sqL_same (s1.trans s2) h3, by simp⟩⟩
      obtain ⟨n, hn, rfl⟩ : ∃ n, ns[k]? = some n ∧ u = .int n := by
        rw [List.getElem?_map] at hk
        cases z : ns[k]? with
        | none => rw [z] at hk; cases hk
        | some n => rw [z] at hk; cases hk; exact ⟨n, rfl, rfl⟩
      have hv : (ns.map V.int)[k]? = some (.int n) := by rw [List.getElem?_map, hn]; rfl
      exact ⟨⟨_, _, sqL_same (s1.trans s2) h3, hv⟩, fun x H' ⟨e, q⟩ => ⟨B, .inl ⟨rfl, e⟩, by
        have := q _ (sqL_same (s1.trans s2) h3)
        rw [hv] at this
        cases this
        exact rep_int _⟩⟩
    · cases hz
  · rename_i hz
    split at hz <;> cases hz
  · exact q.elim
def strL (x : Str) : List U := x.cps.toList.map fun c => .str ⟨#[c]⟩
def enumL (us : List U) : List U := us.zipIdx.map fun p => .tup [.int (p.2 : Nat), p.1]
theorem pv_glob {x : Str} {v : V} {w : Value} {u : U} (hg : Gl X x) (hm : X.mg x = some w) (r : RelV v w) (r2 : ∀ B, rep (ga X) B u v) (hd : (x == ("__debug__" : Str)) = false := by decide) : PV X W (.Name x pos) (mC u) := pv_const (pe_glob hg hm r hd) r2
end
end VS
set_option Elab.async false
set_option linter.all false
set_option maxRecDepth 100000
namespace VS
open PySem L2
theorem nks_map : ∀ us : List U, nk.nks us = us.map nk
  | [] => rfl
  | u :: r => by rw [nk.nks, nks_map r, List.map_cons]
theorem nk_tup {us : List U} : nk (.tup us) = .tup (us.map nk) := by rw [nk, nks_map]
theorem map_inj_mem {α β : Type} {f : α → β} : ∀ {x y : List α}, (∀ a ∈ x, ∀ b ∈ y, f a = f b → a = b) → x.map f = y.map f → x = y
  | [], [], _, _ => rfl
  | [], b :: y, _, h => by simp at h
  | a :: x, [], _, h => by simp at h
  | a :: x, b :: y, inj, h => by
    simp only [List.map_cons, List.cons.injEq] at h
    rw [inj a List.mem_cons_self b List.mem_cons_self h.1, map_inj_mem (fun a ha b hb => inj a (List.mem_cons_of_mem _ ha) b (List.mem_cons_of_mem _ hb)) h.2]
theorem kd_inj {p : U → Bool} (hp : ∀ a b, p a = true → p b = true → nk a = nk b → a = b) (ht : ∀ us, p (.tup us) = false) (hl : ∀ a us, p a = true → nk a ≠ .tup us) : ∀ (n : Nat) (a b : U), kd p n a = true → kd p n b = true → nk a = nk b → a = b := by
  have leaf : ∀ (n : Nat) (a : U), kd p n a = true → (∃ us, a = .tup us) ∨ p a = true := by
    intro n a h
    cases a <;> first | exact .inl ⟨_, rfl⟩ | (right; cases n <;> exact h)
  intro n
  induction n with
  | zero =>
    intro a b ha hb h
    rcases leaf _ _ ha with ⟨us, rfl⟩ | ha
    · simp [kd] at ha
    · rcases leaf _ _ hb with ⟨us, rfl⟩ | hb
      · simp [kd] at hb
      · exact hp a b ha hb h
  | succ n ih =>
    intro a b ha hb h
    rcases leaf _ _ ha with ⟨us, rfl⟩ | pa
    · rcases leaf _ _ hb with ⟨ws, rfl⟩ | pb
      · simp only [nk_tup, NestedKey.tup.injEq] at h
        simp only [kd, List.all_eq_true] at ha hb
        rw [map_inj_mem (fun a hm b hm' => ih a b (ha a hm) (hb b hm')) h]
      · rw [nk_tup] at h
        exact absurd h.symm (hl b _ pb)
    · rcases leaf _ _ hb with ⟨ws, rfl⟩ | pb
      · rw [nk_tup] at h
        exact absurd h (hl a _ pa)
      · exact hp a b pa pb h
theorem cmp_inj {a b : U} (h : cmpU a b = true) (e : nk a = nk b) : a = b := by
  unfold cmpU at h
  simp only [Bool.or_eq_true, Bool.and_eq_true] at h
  rcases h with ⟨h1, h2⟩ | ⟨h1, h2⟩
  · refine kd_inj (p := lfI) (fun a b ha hb e => ?_) (fun _ => rfl) (fun a us ha e => ?_) 8 a b h1 h2 e
    · cases a <;> simp only [lfI, Bool.false_eq_true] at ha <;> cases b <;> simp only [lfI, Bool.false_eq_true] at hb <;> simp_all [nk]
    · cases a <;> simp only [lfI, Bool.false_eq_true] at ha <;> simp_all [nk]
  · refine kd_inj (p := lfB) (fun a b ha hb e => ?_) (fun _ => rfl) (fun a us ha e => ?_) 8 a b h1 h2 e
    · cases a <;> simp only [lfB, Bool.false_eq_true] at ha <;> cases b <;> simp only [lfB, Bool.false_eq_true] at hb <;> simp_all [nk]
      rename_i x y
      cases x <;> cases y <;> simp_all
    · cases a <;> simp only [lfB, Bool.false_eq_true] at ha <;> simp_all [nk]
theorem cmpU_symm {a b : U} (h : cmpU a b = true) : cmpU b a = true := by
  unfold cmpU at h ⊢
  simp only [Bool.or_eq_true, Bool.and_eq_true] at h ⊢
  rcases h with ⟨h1, h2⟩ | ⟨h1, h2⟩
  · exact .inl ⟨h2, h1⟩
  · exact .inr ⟨h2, h1⟩
theorem depth_kd {p : U → Bool} : ∀ (n : Nat) (u : U), kd p n u = true → (nk u).depth ≤ n := by
  intro n
  induction n with
  | zero =>
    intro u h
    cases u <;> first | exact Nat.le_refl _ | (simp [kd] at h)
  | succ n ih =>
    intro u h
    cases u with
    | tup us =>
      simp only [kd, List.all_eq_true] at h
      rw [nk_tup, NestedKey.depth]
      have : ∀ l : List U, (∀ u ∈ l, (nk u).depth ≤ n) → NestedKey.depthAll (l.map nk) ≤ n := by
        intro l
        induction l with
        | nil => intro _; simp [NestedKey.depthAll]
        | cons x l i2 =>
          intro hl
          have h1 := hl x List.mem_cons_self
          have h2 := i2 fun u hu => hl u (List.mem_cons_of_mem _ hu)
          simp only [List.map_cons, NestedKey.depthAll]
          omega
      have := this us fun u hu => ih u (h u hu)
      omega
    | _ => exact Nat.zero_le _
end VS
set_option Elab.async false
set_option linter.all false
set_option maxRecDepth 100000
namespace VS
open PySem L2
noncomputable instance decU : DecidableEq U := fun a b => Classical.propDecidable (a = b)
def kOf : U → Key
  | .int i => .inl i
  | .str x => .inr x
  | _ => .inl 0
theorem kOf_inj {a b : U} (ha : isK1 a = true) (hb : isK1 b = true) (h : kOf a = kOf b) : a = b := by
  cases a <;> simp only [isK1, Bool.false_eq_true] at ha <;> cases b <;> simp only [isK1, Bool.false_eq_true] at hb <;> simp_all [kOf]
noncomputable def dfind (kvs : List (U × U)) (k : U) : Option U := (kvs.find? fun p => decide (p.1 = k)).map (·.2)
noncomputable def dset (kvs : List (U × U)) (k w : U) : List (U × U) := if (dfind kvs k).isSome then kvs.map (fun p => if p.1 = k then (p.1, w) else p) else kvs ++ [(k, w)]
def okD (kvs : List (U × U)) (k : U) : Bool := (isK1 k && kvs.all fun p => isK1 p.1) || (isKx k && kvs.all fun p => isKx p.1 && cmpU p.1 k)
def DN (Γ : Ga) (B H : Hp) (a : Addr) (kvs : List (U × U)) : Prop := (∃ es, Rd H a (.dK es) ∧ repd Γ B kvs es) ∨ ∃ xs, Rd H a (DX a xs) ∧ repx Γ B kvs xs
theorem dfind_nil {k : U} : dfind [] k = none := rfl
theorem dfind_cons {p : U × U} {r : List (U × U)} {k : U} : dfind (p :: r) k = if p.1 = k then some p.2 else dfind r k := by
  unfold dfind
  by_cases h : p.1 = k <;> simp [List.find?_cons, h]
def KR (Γ : Ga) (B : Hp) : U × U → Key × Value → Prop := fun p q => isK1 p.1 = true ∧ kOf p.1 = q.1 ∧ ∃ v, rep Γ B p.2 v ∧ RelV v q.2
section
variable {Γ : Ga} {B : Hp}
theorem rep_key {u : U} {l : Key} (h : rep Γ B u (kV l)) : isK1 u = true ∧ kOf u = l := by
  cases u <;> cases l <;> simp only [rep, kV] at h <;> first | (obtain ⟨_, _, h, _⟩ := h; exact absurd h (by simp)) | (obtain ⟨_, h, _⟩ := h; exact absurd h (by simp)) | (obtain ⟨_, _, _, _, h, _⟩ := h; exact absurd h (by simp)) | (injection h with h; subst h; exact ⟨rfl, rfl⟩) | exact h.elim | exact absurd h (by simp)
theorem key_rep {u : U} (h : isK1 u = true) : rep Γ B u (kV (kOf u)) := by
  cases u <;> simp only [isK1, Bool.false_eq_true] at h <;> simp only [rep, kOf, kV]
theorem repd.kr : ∀ {kvs : List (U × U)} {es : List (Key × V)} {vs : List (Key × Value)}, repd Γ B kvs es → KV es vs → Paired (KR Γ B) kvs vs
  | [], _, _, h, k => by simp only [repd] at h; subst h; cases k; exact .nil
  | (k, u) :: kvs, _, _, h, kk => by
    simp only [repd] at h
    obtain ⟨l, v, r, rfl, r1, r2, r3⟩ := h
    cases kk with
    | cons h1 t =>
      obtain ⟨h1, h2⟩ := rep_key r1
      rename_i q _ h3
      exact .cons ⟨h1, h2.trans h3.1, v, r2, h3.2⟩ (repd.kr r3 t)
theorem repd.of : ∀ {kvs : List (U × U)} {vs : List (Key × Value)}, Paired (KR Γ B) kvs vs → ∃ es, repd Γ B kvs es ∧ KV es vs
  | _, _, .nil => ⟨[], by simp [repd], .nil⟩
  | (k, u) :: kvs, (l, z) :: vs, .cons ⟨h1, h2, v, h3, h4⟩ t => by
    obtain ⟨es, q1, q2⟩ := repd.of t
    refine ⟨(l, v) :: es, ?_, .cons ⟨rfl, h4⟩ q2⟩
    simp only [repd]
    exact ⟨l, v, es, rfl, by have := key_rep (Γ := Γ) (B := B) h1; dsimp only at h2; rwa [h2] at this, h3, q1⟩
theorem KR.find {k : U} (hk : isK1 k = true) : ∀ {kvs : List (U × U)} {vs : List (Key × Value)}, Paired (KR Γ B) kvs vs → (∀ w, dfind kvs k = some w → ∃ v z, valueAt vs (kOf k) = some z ∧ rep Γ B w v ∧ RelV v z) ∧ (dfind kvs k = none → valueAt vs (kOf k) = none)
  | _, _, .nil => ⟨fun w h => by simp [dfind_nil] at h, fun _ => rfl⟩
  | p :: kvs, q :: vs, .cons ⟨h1, h2, v, h3, h4⟩ t => by
    obtain ⟨i1, i2⟩ := KR.find hk t
    rw [dfind_cons]
    have e : valueAt (q :: vs) (kOf k) = if p.1 = k then some q.2 else valueAt vs (kOf k) := by
      by_cases z : p.1 = k
      · have : q.1 = kOf k := by rw [← h2, z]
        simp [valueAt, List.find?_cons, this, z]
      · have : q.1 ≠ kOf k := fun y => z (kOf_inj h1 hk (h2.trans y))
        simp [valueAt, List.find?_cons, this, z]
    rw [e]
    by_cases z : p.1 = k
    · simp only [z, if_true]
      exact ⟨fun w h => by injection h with h; subst h; exact ⟨v, q.2, rfl, h3, h4⟩, fun h => by cases h⟩
    · simp only [z, if_false]
      exact ⟨i1, i2⟩
theorem KR.any {k : U} (hk : isK1 k = true) : ∀ {kvs : List (U × U)} {vs : List (Key × Value)}, Paired (KR Γ B) kvs vs → vs.any (fun kv => decide (kv.1 = kOf k)) = (dfind kvs k).isSome
  | _, _, .nil => rfl
  | p :: kvs, q :: vs, .cons ⟨h1, h2, v, h3, h4⟩ t => by
    rw [dfind_cons, List.any_cons, KR.any hk t]
    by_cases z : p.1 = k
    · have : q.1 = kOf k := by rw [← h2, z]
      simp [this, z]
    · have : q.1 ≠ kOf k := fun y => z (kOf_inj h1 hk (h2.trans y))
      simp [this, z]
theorem KR.repl {k w : U} {v : V} {z : Value} (hk : isK1 k = true) (rw' : rep Γ B w v) (rz : RelV v z) : ∀ {kvs : List (U × U)} {vs : List (Key × Value)}, Paired (KR Γ B) kvs vs →
    Paired (KR Γ B) (kvs.map fun p => if p.1 = k then (p.1, w) else p) (vs.map fun kv => if kv.1 = kOf k then (kv.1, z) else kv)
  | _, _, .nil => .nil
  | p :: kvs, q :: vs, .cons ⟨h1, h2, v', h3, h4⟩ t => by
    refine .cons ?_ (KR.repl hk rw' rz t)
    by_cases y : p.1 = k
    · have : q.1 = kOf k := by rw [← h2, y]
      simp only [y, this, if_true]
      exact ⟨hk, rfl, v, rw', rz⟩
    · have : q.1 ≠ kOf k := fun y' => y (kOf_inj h1 hk (h2.trans y'))
      simp only [y, this, if_false]
      exact ⟨h1, h2, v', h3, h4⟩
theorem KR.put {k w : U} {v : V} {z : Value} {kvs : List (U × U)} {vs : List (Key × Value)} (hk : isK1 k = true) (rw' : rep Γ B w v) (rz : RelV v z) (h : Paired (KR Γ B) kvs vs) : Paired (KR Γ B) (dset kvs k w) (stored vs (kOf k) z) := by
  unfold dset stored
  have e := KR.any hk h
  cases y : (dfind kvs k).isSome with
  | true =>
    rw [y] at e
    rw [if_pos rfl, if_pos e]
    exact KR.repl hk rw' rz h
  | false =>
    rw [y] at e
    rw [if_neg (by simp), if_neg (by rw [e]; simp)]
    exact h.snoc ⟨hk, rfl, v, rw', rz⟩
end
def XR (Γ : Ga) (B : Hp) : U × U → NestedKey × Addr × Value → Prop := fun p q => isKx p.1 = true ∧ nk p.1 = q.1 ∧ rep Γ B p.1 (.ref q.2.1) ∧ ∃ v, rep Γ B p.2 v ∧ RelV v q.2.2
def PW (kvs : List (U × U)) : Prop := ∀ p ∈ kvs, ∀ q ∈ kvs, p.1 ≠ q.1 → cmpU p.1 q.1 = true
theorem PW.inj {kvs : List (U × U)} (h : PW kvs) {p q : U × U} (hp : p ∈ kvs) (hq : q ∈ kvs) (e : nk p.1 = nk q.1) : p.1 = q.1 := by
  by_cases z : p.1 = q.1
  · exact z
  · exact cmp_inj (h p hp q hq z) e
section
variable {Γ : Ga} {B : Hp}
theorem XR.find {k : U} : ∀ {kvs : List (U × U)} {ys : List (NestedKey × Addr × Value)}, (∀ p ∈ kvs, cmpU p.1 k = true) → Paired (XR Γ B) kvs ys →
    (∀ w, dfind kvs k = some w → ∃ v p, atKey ys (nk k) = some p ∧ rep Γ B w v ∧ RelV v p.2) ∧ (dfind kvs k = none → atKey ys (nk k) = none)
  | _, _, _, .nil => ⟨fun w h => by simp [dfind_nil] at h, fun _ => rfl⟩
  | p :: kvs, q :: ys, hk, .cons ⟨h1, h2, h5, v, h3, h4⟩ t => by
    obtain ⟨i1, i2⟩ := XR.find (fun p hp => hk p (List.mem_cons_of_mem _ hp)) t
    have ck := hk p List.mem_cons_self
    rw [dfind_cons]
    have e : atKey (q :: ys) (nk k) = if p.1 = k then some q.2 else atKey ys (nk k) := by
      by_cases z : p.1 = k
      · have : q.1 = nk k := by rw [← h2, z]
        simp [atKey, List.find?_cons, this, z]
      · have : q.1 ≠ nk k := fun y => z (cmp_inj ck (h2.trans y))
        simp [atKey, List.find?_cons, this, z]
    rw [e]
    by_cases z : p.1 = k
    · simp only [z, if_true]
      exact ⟨fun w h => by injection h with h; subst h; exact ⟨v, q.2, rfl, h3, h4⟩, fun h => by cases h⟩
    · simp only [z, if_false]
      exact ⟨i1, i2⟩
theorem XR.repl {k w : U} {v : V} {z : Value} (kx : isKx k = true) (rw' : rep Γ B w v) (rz : RelV v z) : ∀ {kvs : List (U × U)} {ys : List (NestedKey × Addr × Value)}, (∀ p ∈ kvs, cmpU p.1 k = true) → Paired (XR Γ B) kvs ys →
    Paired (XR Γ B) (kvs.map fun p => if p.1 = k then (p.1, w) else p) (ys.map (putAt (nk k) z))
  | _, _, _, .nil => .nil
  | p :: kvs, q :: ys, hk, .cons ⟨h1, h2, h5, v', h3, h4⟩ t => by
    refine .cons ?_ (XR.repl kx rw' rz (fun p hp => hk p (List.mem_cons_of_mem _ hp)) t)
    have ck := hk p List.mem_cons_self
    unfold putAt
    by_cases y : p.1 = k
    · have : q.1 = nk k := by rw [← h2, y]
      simp only [y, this, if_true]
      exact ⟨kx, rfl, by rw [← y]; exact h5, v, rw', rz⟩
    · have : q.1 ≠ nk k := fun y' => y (cmp_inj ck (h2.trans y'))
      simp only [y, this, if_false]
      exact ⟨h1, h2, h5, v', h3, h4⟩
theorem XR.put {k w : U} {b : Addr} {v : V} {z : Value} {kvs : List (U × U)} {ys : List (NestedKey × Addr × Value)} (kx : isKx k = true) (hk : ∀ p ∈ kvs, cmpU p.1 k = true) (rk : rep Γ B k (.ref b)) (rw' : rep Γ B w v) (rz : RelV v z) (h : Paired (XR Γ B) kvs ys) :
    Paired (XR Γ B) (dset kvs k w) (storedH ys (nk k) b z) := by
  unfold dset storedH
  obtain ⟨f1, f2⟩ := XR.find hk h
  cases y : dfind kvs k with
  | some w' =>
    obtain ⟨_, p, e, _⟩ := f1 w' y
    rw [e]
    simp only [Option.isSome_some, if_true]
    exact XR.repl kx rw' rz hk h
  | none =>
    rw [f2 y]
    simp only [Option.isSome_none, Bool.false_eq_true, if_false]
    exact h.snoc ⟨kx, rfl, rk, v, rw', rz⟩
theorem PW.put {k w : U} {kvs : List (U × U)} (h : PW kvs) (hk : ∀ p ∈ kvs, cmpU p.1 k = true) : PW (dset kvs k w) := by
  unfold dset
  split
  · intro p hp q hq n
    obtain ⟨p', hp', e1⟩ := List.mem_map.mp hp
    obtain ⟨q', hq', e2⟩ := List.mem_map.mp hq
    have a1 : p.1 = p'.1 := by rw [← e1]; split <;> rfl
    have a2 : q.1 = q'.1 := by rw [← e2]; split <;> rfl
    rw [a1, a2] at n ⊢
    exact h p' hp' q' hq' n
  · intro p hp q hq n
    rw [List.mem_append, List.mem_singleton] at hp hq
    rcases hp with hp | hp
    · rcases hq with hq | hq
      · exact h p hp q hq n
      · subst hq; exact hk p hp
    · rcases hq with hq | hq
      · subst hp; exact cmpU_symm (hk q hq)
      · subst hp hq; exact absurd rfl n
theorem mkX {P : Program} : ∀ {kvs : List (U × U)} {ys : List (NestedKey × Addr × Value)}, Paired (XR Γ B) kvs ys → (ys.map (·.1)).Nodup → PW kvs →
    ∃ xs, repx Γ B kvs xs ∧ Paired XeIs xs (ys.map (entryOfKey (nestedKind P Γ.w)))
  | _, _, .nil, _, _ => ⟨[], by simp [repx], .nil⟩
  | (k, u) :: kvs, (l, b, z) :: ys, .cons ⟨h1, h2, h5, v, h3, h4⟩ t, nd, ff => by
    simp only [List.map_cons, List.nodup_cons] at nd
    obtain ⟨xs, q1, q2⟩ := mkX (P := P) t nd.2 fun p hp q hq => ff p (List.mem_cons_of_mem _ hp) q (List.mem_cons_of_mem _ hq)
    refine ⟨⟨b, hashU Γ.w k, v⟩ :: xs, ?_, .cons ⟨?_, rfl, h4⟩ q2⟩
    · simp only [repx]
      refine ⟨b, v, xs, rfl, ⟨h1, fun p hp => ?_⟩, h5, h3, q1⟩
      obtain ⟨q, hq, x1, x2, _⟩ : ∃ q ∈ ys, XR Γ B p q := by
        clear nd ff q1 q2 h1 h2 h5 h3 h4
        induction t with
        | nil => cases hp
        | cons h t ih =>
          rcases List.mem_cons.mp hp with e | hp
          · subst e; exact ⟨_, List.mem_cons_self, h⟩
          · obtain ⟨q, hq, x⟩ := ih hp; exact ⟨q, List.mem_cons_of_mem _ hq, x⟩
      have ne : p.1 ≠ k := fun e => nd.1 (List.mem_map.mpr ⟨q, hq, by rw [← x2, e]; exact h2⟩)
      exact ⟨ne, ff p (List.mem_cons_of_mem _ hp) (k, u) List.mem_cons_self ne⟩
    · show _ = hashU Γ.w k
      have h2' : nk k = l := h2
      unfold hashU
      rw [h2']
      rfl
theorem repx.all : ∀ {kvs : List (U × U)} {xs : List Xe}, repx Γ B kvs xs → (∀ p ∈ kvs, isKx p.1 = true) ∧ PW kvs ∧ (kvs.map (·.1)).Nodup
  | [], _, _ => ⟨fun p h => (by cases h), fun p h => (by cases h), by simp⟩
  | (k, u) :: kvs, _, h => by
    simp only [repx] at h
    obtain ⟨a, v, r, rfl, ⟨h1, h2⟩, _, _, h3⟩ := h
    obtain ⟨i1, i2, i3⟩ := repx.all h3
    refine ⟨fun p hp => ?_, fun p hp q hq n => ?_, ?_⟩
    · rcases List.mem_cons.mp hp with e | hp
      · subst e; exact h1
      · exact i1 p hp
    · rcases List.mem_cons.mp hp with e | hp
      · subst e
        rcases List.mem_cons.mp hq with e | hq
        · subst e; exact absurd rfl n
        · exact cmpU_symm (h2 q hq).2
      · rcases List.mem_cons.mp hq with e | hq
        · subst e; exact (h2 p hp).2
        · exact i2 p hp q hq n
    · simp only [List.map_cons, List.nodup_cons]
      refine ⟨fun hm => ?_, i3⟩
      obtain ⟨p, hp, e⟩ := List.mem_map.mp hm
      exact (h2 p hp).1 e
theorem ofX {P : Program} : ∀ {kvs : List (U × U)} {xs : List Xe} {es : List DictEntry}, repx Γ B kvs xs → Paired XeIs xs es → ∃ ys, Paired (XR Γ B) kvs ys ∧ es = ys.map (entryOfKey (nestedKind P Γ.w)) ∧ ys.map (·.1) = kvs.map fun p => nk p.1
  | [], _, _, h, p => by simp only [repx] at h; subst h; cases p; exact ⟨[], .nil, rfl, rfl⟩
  | (k, u) :: kvs, _, _, h, p => by
    simp only [repx] at h
    obtain ⟨a, v, r, rfl, ⟨h1, h2⟩, h3, h4, h5⟩ := h
    cases p with
    | cons g t =>
      rename_i d es
      obtain ⟨ys, q1, q2, q3⟩ := ofX (P := P) h5 t
      refine ⟨(nk k, a, d.val) :: ys, .cons ⟨h1, rfl, h3, v, h4, g.2.2⟩ q1, ?_, by simp [q3]⟩
      rw [List.map_cons, ← q2]
      congr 1
      obtain ⟨dh, dk, dv⟩ := d
      obtain ⟨g1, g2, g3⟩ := g
      dsimp only at *
      unfold entryOfKey
      rw [g1, g2]
      rfl
end
end VS
set_option Elab.async false
set_option linter.all false
set_option maxRecDepth 100000
namespace VS
open PySem L2
section
variable {X : Cx} {pins : List (Addr × Obj)} {σ : St} {H B : Hp} {s : Shared}
theorem rep_flat {u : U} {v : V} (h : rep (ga X) B u v) (k : isK1 u = true) : v = kV (kOf u) := by
  cases u <;> simp only [isK1, Bool.false_eq_true] at k <;> simp only [rep] at h <;> exact h
theorem keyN (I : Inv X pins σ H s) (sb : Same B H) : ∀ (n : Nat) (u : U) (v : V) (z : Value), kd lfA n u = true → Vw (ga X) B H u v → RelV v z → NestedIs s.heap (nk u) z := by
  have leaf : ∀ (u : U) (v : V) (z : Value), lfA u = true → Vw (ga X) B H u v → RelV v z → NestedIs s.heap (nk u) z := by
    intro u v z hl h r
    have hv : rep (ga X) B u v := by
      rcases h with h | ⟨a, ho, _, _, h⟩
      · exact h
      · cases u <;> first | exact h.elim | (simp [lfA] at hl)
    cases u <;> simp only [lfA, Bool.false_eq_true] at hl <;> simp only [rep] at hv <;> subst hv
    · cases r; exact .none
    · cases r; exact .bool rfl
    · obtain ⟨t, rfl⟩ := r; exact .int _ t
    · obtain ⟨t, rfl⟩ := r; exact .text _ t
  intro n
  induction n with
  | zero =>
    intro u v z hk h r
    cases u <;> first | exact leaf _ _ _ hk h r | (simp [kd] at hk)
  | succ n ih =>
    intro u v z hk h r
    cases u with
    | tup us =>
      obtain ⟨a, vs, rfl, h1, rr⟩ := h.tup sb
      cases r
      obtain ⟨its, rv, ⟨o, e1, e2, m, e3⟩, _⟩ := I.tuple h1
      rw [nk_tup]
      refine .tup e1 e2 e3 ?_
      simp only [kd, List.all_eq_true] at hk
      have key : ∀ (us : List U) (vs : List V) (its : List Value), (∀ u ∈ us, kd lfA n u = true) → reps (ga X) B us vs → Vals vs its → NestedAll s.heap (us.map nk) its := by
        intro us
        induction us with
        | nil => intro vs its _ h r; simp only [reps] at h; subst h; cases r; exact .nil
        | cons u us i2 =>
          intro vs its hh h r
          simp only [reps] at h
          obtain ⟨v, vs, rfl, r1, r2⟩ := h
          cases r with
          | cons rv rt => exact .cons (ih _ _ _ (hh u List.mem_cons_self) (.inl r1) rv) (i2 _ _ (fun u hu => hh u (List.mem_cons_of_mem _ hu)) r2 rt)
      simpa using key us vs its hk rr rv
    | _ => exact leaf _ _ _ hk h r
theorem key2 (I : Inv X pins σ H s) (sb : Same B H) {k : U} {y : V} (h : Vw (ga X) B H k y) (hk : isKx k = true) : ∃ b, y = .ref b ∧ (nestedKind X.prog X.w).is s.heap (nk k) b := by
  cases k with
  | tup us =>
    obtain ⟨a, vs, rfl, h1, r⟩ := h.tup sb
    have kk : kd lfA 8 (.tup us) = true := hk
    exact ⟨a, rfl, keyN I sb 8 _ _ _ kk h rfl, depth_kd 8 _ kk⟩
  | _ => simp [isKx] at hk
theorem kr_len {kvs : List (U × U)} {vs : List (Key × Value)} (p : Paired (KR (ga X) B) kvs vs) : kvs.length = vs.length := paired_len p
theorem dxs_empty {d : Addr} {h : Heap} (x : DXs d [] h) : False := x.1.1 rfl
theorem flatview (I : Inv X pins σ H s) {a : Addr} {kvs : List (U × U)} (d : DN (ga X) B H a kvs) (ok : ∀ p ∈ kvs, isK1 p.1 = true) :
    ∃ vs, s.heap.DictOf (mixKind X.prog X.w) a vs ∧ Paired (KR (ga X) B) kvs vs ∧ (a == sysModules) = false ∧ kvs.length ≤ sizeLine := by
  rcases d with ⟨es, e, r⟩ | ⟨xs, e, r⟩
  · obtain ⟨z, hd, vs, rel, dd⟩ := dk_rd I.hok e
    have p := r.kr rel
    exact ⟨vs, dd, p, hd, by rw [kr_len p, ← rel.length]; exact z⟩
  · obtain ⟨a1, _, _⟩ := r.all
    cases kvs with
    | nil =>
      simp only [repx] at r
      subst r
      obtain ⟨x, _, _⟩ := (show ObjOk X.prog X.w H s.heap a (DX a []) from Rd.ok e I.hok)
      exact (dxs_empty x).elim
    | cons p kvs =>
      have h1 := a1 p List.mem_cons_self
      have h2 := ok p List.mem_cons_self
      cases z : p.1 <;> rw [z] at h1 h2 <;> simp [isKx, isK1] at h1 h2
theorem xr_len {kvs : List (U × U)} {ys : List (NestedKey × Addr × Value)} (p : Paired (XR (ga X) B) kvs ys) : kvs.length = ys.length := paired_len p
theorem tupview (I : Inv X pins σ H s) (sb : Same B H) {a : Addr} {kvs : List (U × U)} (d : DN (ga X) B H a kvs) (ok : ∀ p ∈ kvs, isKx p.1 = true) :
    ∃ ys, s.heap.DictOfH (nestedKind X.prog X.w) a ys ∧ Paired (XR (ga X) B) kvs ys ∧ PW kvs ∧ (a == sysModules) = false ∧ kvs.length ≤ sizeLine := by
  rcases d with ⟨es, e, r⟩ | ⟨xs, e, r⟩
  · cases kvs with
    | nil =>
      simp only [repd] at r
      subst r
      obtain ⟨z, hd, vs, rel, dd⟩ := dk_rd I.hok e
      cases rel
      obtain ⟨o, es, ep, h1, h2, h3, h4, h5, h6⟩ := dd
      cases he : es.toList with
      | nil => exact ⟨[], ⟨o, es, ep, h1, h2, h3, by rw [he]; rfl, fun x hx => (by cases hx), by simp⟩, .nil, fun p hp => (by cases hp), hd, Nat.zero_le _⟩
      | cons c r => rw [he] at h5; cases h5
    | cons p kvs =>
      obtain ⟨p1, p2⟩ := p
      simp only [repd] at r
      obtain ⟨l, v, t, _, r1, _⟩ := r
      have h1 := (rep_key r1).1
      have h2 := ok _ List.mem_cons_self
      dsimp only at h2
      cases p1 <;> simp [isKx, isK1] at h1 h2
  · obtain ⟨a1, a2, a3⟩ := r.all
    obtain ⟨x, _, _⟩ := (show ObjOk X.prog X.w H s.heap a (DX a xs) from Rd.ok e I.hok)
    obtain ⟨⟨_, z⟩, hd, o, es, ep, h1, h2, h3, h4⟩ := x
    obtain ⟨ys, q1, q2, q3⟩ := ofX (P := X.prog) r h4
    have lx : kvs.length = xs.length := by
      rw [xr_len q1]
      have := paired_len h4
      rw [this, q2, List.length_map]
    refine ⟨ys, ⟨o, es, ep, h1, h2, h3, q2, fun y hy => ?_, ?_⟩, q1, a2, hd, by rw [lx]; exact z⟩
    · have pr : ∃ p ∈ kvs, XR (ga X) B p y := by
        clear q2 q3 h4 a1 a2 a3 r lx ok
        induction q1 with
        | nil => cases hy
        | cons h t ih =>
          rcases List.mem_cons.mp hy with e | hy
          · subst e; exact ⟨_, List.mem_cons_self, h⟩
          · obtain ⟨p, hp, x⟩ := ih hy; exact ⟨p, List.mem_cons_of_mem _ hp, x⟩
      obtain ⟨p, _, x1, x2, x3, _⟩ := pr
      obtain ⟨b, e, x4⟩ := key2 I sb (.inl x3) x1
      cases e
      rw [← x2]
      exact x4
    · rw [q3]
      have : (kvs.map fun p => nk p.1) = (kvs.map (·.1)).map nk := by rw [List.map_map]; rfl
      rw [this]
      clear q1 q2 q3 h4 lx ok r
      induction kvs with
      | nil => simp
      | cons p kvs ih =>
        simp only [List.map_cons, List.nodup_cons] at a3 ⊢
        refine ⟨fun hm => a3.1 ?_, ih (fun p hp => a1 p (List.mem_cons_of_mem _ hp)) (fun p hp q hq => a2 p (List.mem_cons_of_mem _ hp) q (List.mem_cons_of_mem _ hq)) a3.2 (by rw [List.map_map]; rfl)⟩
        obtain ⟨c, hc, e⟩ := List.mem_map.mp hm
        obtain ⟨q, hq, e2⟩ := List.mem_map.mp hc
        subst e2
        rw [← a2.inj (List.mem_cons_of_mem _ hq) List.mem_cons_self e]
        exact hc
structure DVw (X : Cx) (s : Shared) (a : Addr) (u : Value) (o : Option Value) : Prop where
  get : ∀ {E : Value → Shared → Prop} {Q : Value → Shared → Prop} {v : Value}, o = some v → (∀ t, Q v { s with toks := t }) → wpAny (model X.prog X.w) X.A (getItem (.ref a) u) Q E s
  isin : ∀ {E : Value → Shared → Prop} {Q : Value → Shared → Prop}, (∀ t, Q (.bool o.isSome) { s with toks := t }) → wpAny (model X.prog X.w) X.A (compareOp .In u (.ref a)) Q E s
  notin : ∀ {E : Value → Shared → Prop} {Q : Value → Shared → Prop}, (∀ t, Q (.bool (!o.isSome)) { s with toks := t }) → wpAny (model X.prog X.w) X.A (compareOp .NotIn u (.ref a)) Q E s
  get1 : ∀ {E : Value → Shared → Prop} {Q : Value → Shared → Prop}, (∀ t, Q (o.getD .none) { s with toks := t }) → wpAny (model X.prog X.w) X.A (call (.builtin "dict.get") [.ref a, u]) Q E s
  get2 : ∀ {E : Value → Shared → Prop} {Q : Value → Shared → Prop} (r : Value), (∀ t, Q (o.getD r) { s with toks := t }) → wpAny (model X.prog X.w) X.A (call (.builtin "dict.get") [.ref a, u, r]) Q E s
theorem okD_cases {kvs : List (U × U)} {k : U} (ok : okD kvs k = true) : (isK1 k = true ∧ ∀ p ∈ kvs, isK1 p.1 = true) ∨ (isKx k = true ∧ ∀ p ∈ kvs, isKx p.1 = true ∧ cmpU p.1 k = true) := by
  unfold okD at ok
  simp only [Bool.or_eq_true, Bool.and_eq_true, List.all_eq_true] at ok
  exact ok
theorem dvw (hu : X.A.units + 64 < cLine) (I : Inv X pins σ H s) (sb : Same B H) {a : Addr} {kvs : List (U × U)} {k : U} {y : V} {u : Value} (d : DN (ga X) B H a kvs) (hk : Vw (ga X) B H k y) (ry : RelV y u) (ok : okD kvs k = true) :
    ∃ o, DVw X s a u o ∧ (∀ w, dfind kvs k = some w → ∃ v z, o = some z ∧ rep (ga X) B w v ∧ RelV v z) ∧ (dfind kvs k = none → o = none) := by
  rcases okD_cases ok with ⟨k1, k2⟩ | ⟨k1, k2⟩
  · obtain ⟨vs, dd, p, hd, z⟩ := flatview I d k2
    have ky : (mixKind X.prog X.w).is (kOf k) u = true := by
      have : y = kV (kOf k) := by
        cases k <;> simp only [isK1, Bool.false_eq_true] at k1
        · exact hk.int
        · exact hk.str
      subst this
      exact kV_is ry
    obtain ⟨f1, f2⟩ := KR.find k1 p
    refine ⟨valueAt vs (kOf k), ⟨fun {E Q v} e h => ?_, fun {E Q} h => ?_, fun {E Q} h => ?_, fun {E Q} h => ?_, fun {E Q} r h => ?_⟩, fun w hw => ?_, f2⟩
    · exact wpAny_getItem_of ky dd.mapOf e (h _)
    · exact wpAny_in_of ky hd dd.mapOf (h _)
    · exact wpAny_notIn_of ky hd dd.mapOf (h _)
    · exact call_meetsIn PySem.F.slot_dict_get dd.typeIs PySem.F.entry_dict_get (PySem.F.args_dict_get_2 _ _) (meets_dict_get (mixKind X.prog X.w) a ky hd) ⟨_, dd.mapOf, h _⟩
    · exact call_meetsIn PySem.F.slot_dict_get dd.typeIs PySem.F.entry_dict_get (PySem.F.args_dict_get_3 _ _ _) (meets_dict_get_default (mixKind X.prog X.w) a ky hd r) ⟨_, dd.mapOf, h _⟩
    · obtain ⟨v, z, e, q⟩ := f1 w hw
      exact ⟨v, z, e, q⟩
  · have kc : ∀ p ∈ kvs, cmpU p.1 k = true := fun p hp => (k2 p hp).2
    obtain ⟨ys, dd, p, pw, hd, z⟩ := tupview I sb d fun p hp => (k2 p hp).1
    obtain ⟨b, e, ky⟩ := key2 I sb hk k1
    subst e
    cases ry
    have room : (nestedKind X.prog X.w).room X.A.in1 := by show X.A.units + 1 + 8 < cLine; omega
    obtain ⟨f1, f2⟩ := XR.find kc p
    refine ⟨(atKey ys (nk k)).map (·.2), ⟨fun {E Q v} e h => ?_, fun {E Q} h => ?_, fun {E Q} h => ?_, fun {E Q} h => ?_, fun {E Q} r h => ?_⟩, fun w hw => ?_, fun hn => ?_⟩
    · obtain ⟨p, hp, e⟩ := Option.map_eq_some_iff.mp e
      subst e
      exact wpAny_getItem_heap room ky dd hp (h _)
    · refine wpAny_in_heap room ky hd dd ?_
      rw [Option.isSome_map] at h
      exact h _
    · refine PyProof.Rows.wpAny_notIn_heap room ky hd dd ?_
      rw [Option.isSome_map] at h
      exact h _
    · exact call_meetsIn PySem.F.slot_dict_get dd.typeIs PySem.F.entry_dict_get (PySem.F.args_dict_get_2 _ _) (meetsH_dict_get (nestedKind X.prog X.w) a b hd) ⟨room, _, ys, ky, dd, h _⟩
    · exact call_meetsIn PySem.F.slot_dict_get dd.typeIs PySem.F.entry_dict_get (PySem.F.args_dict_get_3 _ _ _) (meetsH_dict_get_default (nestedKind X.prog X.w) a b hd r) ⟨room, _, ys, ky, dd, h _⟩
    · obtain ⟨v, q, e, q2⟩ := f1 w hw
      exact ⟨v, q.2, by rw [e]; rfl, q2⟩
    · rw [f2 hn]; rfl
theorem dput (hu : X.A.units + 64 < cLine) (I : Inv X pins σ H s) (sb : Same B H) {a : Addr} {kvs : List (U × U)} {k w : U} {y v : V} {u r : Value} {E : Value → Shared → Prop} {Q : Unit → Shared → Prop} (d : DN (ga X) B H a kvs) (mu : Mut (H a)) (hb : B a = none) (hk : Vw (ga X) B H k y)
    (hk2 : isKx k = true → rep (ga X) B k y) (ry : RelV y u) (ok : okD kvs k = true) (hw : rep (ga X) B w v) (rv : RelV v r) (hl : kvs.length < sizeLine)
    (h : ∀ ho s', nod (ga X) B a (.dct (dset kvs k w)) ho → Inv X pins σ (upd H a ho) s' → Q () s') : wpAny (model X.prog X.w) X.A (setItem (.ref a) u r) Q E s := by
  have ln : (dset kvs k w).length ≤ sizeLine := by
    unfold dset
    split
    · rw [List.length_map]; omega
    · rw [List.length_append]; simp; omega
  rcases okD_cases ok with ⟨k1, k2⟩ | ⟨k1, k2⟩
  · obtain ⟨vs, dd, p, hd, z⟩ := flatview I d k2
    have ky : (mixKind X.prog X.w).is (kOf k) u = true := by
      have : y = kV (kOf k) := by
        cases k <;> simp only [isK1, Bool.false_eq_true] at k1
        · exact hk.int
        · exact hk.str
      subst this
      exact kV_is ry
    have pp := KR.put k1 hw rv p
    obtain ⟨es, q1, q2⟩ := repd.of pp
    refine wpAny_setItem_pairs (hsz := by rw [← kr_len p]; exact z) ky dd fun h' dd' hs => h (.dK es) _ (.inl ⟨es, rfl, q1⟩) ?_
    have he : ∃ q, h'.get? a = some q := let ⟨q, _, _, hq, _⟩ := dd'; ⟨q, hq⟩
    refine d_write I mu hs he (dk_new ?_ hd q2 dd')
    rw [q2.length, ← kr_len pp]
    exact ln
  · have kc : ∀ p ∈ kvs, cmpU p.1 k = true := fun p hp => (k2 p hp).2
    obtain ⟨ys, dd, p, pw, hd, z⟩ := tupview I sb d fun p hp => (k2 p hp).1
    obtain ⟨b, e, ky⟩ := key2 I sb hk k1
    subst e
    cases ry
    have room : (nestedKind X.prog X.w).room X.A.in1 := by show X.A.units + 1 + 8 < cLine; omega
    have pp := XR.put k1 kc (hk2 k1) hw rv p
    refine wpAny_setItem_heap (hsz := by rw [← xr_len p]; exact z) room ky dd fun h' dd' hs => ?_
    obtain ⟨o, es, ep, hq, h2, h3, h4, h6, h5⟩ := dd'
    obtain ⟨xs, q1, q2⟩ := mkX (P := X.prog) pp h5 (pw.put kc)
    have ll : xs.length = (dset kvs k w).length := by
      have := paired_len q2
      rw [this, List.length_map, ← xr_len pp]
    have nn : dset kvs k w ≠ [] := by
      unfold dset
      split
      · rename_i hf
        intro e
        have e2 : kvs = [] := by simpa using e
        subst e2
        simp [dfind_nil] at hf
      · simp
    have nx : xs ≠ [] := fun e => nn (List.eq_nil_of_length_eq_zero (by rw [← ll, e]; rfl))
    refine h (DX a xs) _ (.inr ⟨xs, rfl, q1⟩) (d_write I mu hs ⟨o, hq⟩ ⟨⟨⟨nx, by rw [ll]; exact ln⟩, hd, o, es, ep, hq, h2, h3, by rw [h4]; exact q2⟩, ⟨o, hq⟩, fun h1 h2' x k => ?_⟩)
    obtain ⟨x1, x2, o', es', ep', x3, x4⟩ := x
    exact ⟨x1, x2, o', es', ep', k _ x3, x4⟩
end
end VS
set_option Elab.async false
set_option linter.all false
set_option maxRecDepth 100000
namespace VS
open PySem L2
theorem Vw.dn {Γ : Ga} {B H : Hp} {kvs : List (U × U)} {v : V} (s : Same B H) (h : Vw Γ B H (.dct kvs) v) : ∃ a, v = .ref a ∧ DN Γ B H a kvs := by
  obtain ⟨a, e, h⟩ := h.dct s
  exact ⟨a, e, h⟩
section
variable {X : Cx}
def rIxD (Γ : Ga) : R2 := fun x y H Q => ∃ B kvs k w a, Same B H ∧ x = .ref a ∧ DN Γ B H a kvs ∧ Vw Γ B H k y ∧ okD kvs k = true ∧ dfind kvs k = some w ∧ ∀ v, rep Γ B w v → Q v H
theorem DN.typeIs {pins : List (Addr × Obj)} {σ : St} {H B : Hp} {s : Shared} (I : Inv X pins σ H s) {a : Addr} {kvs : List (U × U)} (d : DN (ga X) B H a kvs) : s.TypeIs (.ref a) "dict" ∧ ∀ b, Value.ref a = .ref b → ∃ ob, s.heap.get? b = some ob ∧ ob.dict = none := by
  rcases d with ⟨es, e, _⟩ | ⟨xs, e, _⟩
  · obtain ⟨_, _, vs, _, o, es, ep, h1, h2, _⟩ := dk_rd I.hok e
    exact ⟨⟨o, h1, h2.1⟩, fun b e => by cases e; exact ⟨o, h1, h2.2.1⟩⟩
  · obtain ⟨⟨_, _, o, es, ep, h1, h2, _⟩, _, _⟩ := (show ObjOk X.prog X.w H s.heap a (DX a xs) from Rd.ok e I.hok)
    exact ⟨⟨o, h1, h2.1⟩, fun b e => by cases e; exact ⟨o, h1, h2.2.1⟩⟩
theorem ix_dict (hu : X.A.units + 64 < cLine) : IxR X (rIxD (ga X)) := by
  intro value slice pins s σ H x y v u Q I rx ry h hs
  obtain ⟨B, kvs, k, w, a, sb, rfl, d, vk, ok, hf, q⟩ := h
  cases rx
  obtain ⟨o, dv, f1, f2⟩ := dvw hu I sb d vk ry ok
  obtain ⟨v', z, e, r1, r2⟩ := f1 w hf
  exact PyProof.Rows.subscriptTail_builtinR (x := z) (d.typeIs I).1 PySem.F.slot_dict_getitem.lookup (dv.get (Q := fun r s' => r = z ∧ EP X pins σ Q r s') e fun t => ⟨rfl, v', H, I.tok t, r2, q v' r1⟩) hs
noncomputable def sIxD : Op2 := fun u w => match u with
  | .dct kvs => if okD kvs w then (dfind kvs w).map fun x => (false, x) else none
  | _ => none
theorem ok_ixD (hu : X.A.units + 64 < cLine) : IxOK X sIxD := by
  refine ⟨_, ix_dict hu, fun {W B H e σ u w x y z Q} sr q vx vy t => ?_⟩
  unfold sIxD at q
  split at q
  · split at q
    · rename_i kvs ok
      obtain ⟨u, hu, rfl⟩ := Option.map_eq_some_iff.mp q
      obtain ⟨a, e1, d⟩ := vx.dn sr.bh
      exact ⟨B, kvs, w, u, a, sr.bh, e1, d, vy, ok, hu, fun v r => fin_val sr t r⟩
    · cases q
  · cases q
def rInD (Γ : Ga) (neg : Bool) : R2 := fun y x H Q => ∃ B kvs k a, Same B H ∧ x = .ref a ∧ DN Γ B H a kvs ∧ Vw Γ B H k y ∧ okD kvs k = true ∧ Q (.bl ((dfind kvs k).isSome != neg)) H
theorem op_inD (hu : X.A.units + 64 < cLine) : OpR X (compareOp .In) (rInD (ga X) false) := by
  intro pins s σ H y x u v Q I ry rx h
  obtain ⟨B, kvs, k, a, sb, rfl, d, vk, ok, q⟩ := h
  cases rx
  obtain ⟨o, dv, f1, f2⟩ := dvw hu I sb d vk ry ok
  have e : o.isSome = (dfind kvs k).isSome := by
    cases z : dfind kvs k with
    | none => rw [f2 z]; rfl
    | some w => obtain ⟨_, _, e, _⟩ := f1 w z; rw [e]; rfl
  refine dv.isin fun t => ⟨.bl o.isSome, H, I.tok t, rfl, ?_⟩
  rw [e]
  simpa using q
theorem op_notInD (hu : X.A.units + 64 < cLine) : OpR X (compareOp .NotIn) (rInD (ga X) true) := by
  intro pins s σ H y x u v Q I ry rx h
  obtain ⟨B, kvs, k, a, sb, rfl, d, vk, ok, q⟩ := h
  cases rx
  obtain ⟨o, dv, f1, f2⟩ := dvw hu I sb d vk ry ok
  have e : o.isSome = (dfind kvs k).isSome := by
    cases z : dfind kvs k with
    | none => rw [f2 z]; rfl
    | some w => obtain ⟨_, _, e, _⟩ := f1 w z; rw [e]; rfl
  refine dv.notin fun t => ⟨.bl (!o.isSome), H, I.tok t, rfl, ?_⟩
  rw [e]
  simpa using q
noncomputable def sInD (neg : Bool) : Op2 := fun u w => match w with
  | .dct kvs => if okD kvs u then some (false, .bl ((dfind kvs u).isSome != neg)) else none
  | _ => none
theorem inD_core {neg : Bool} {W : WXX} {B H : Hp} {e : En} {σ : St} {u w : U} {x y : V} {z : Bool × U} {Q : VK} (sr : SR (ga X) B H e σ) (q : sInD neg u w = some z) (vx : Vw (ga X) B H u x) (vy : Vw (ga X) B H w y) (t : tAt (ga X) W (rlO (ga X)) (M.ret z) B H e σ Q) :
    rInD (ga X) neg x y H Q := by
  unfold sInD at q
  split at q
  · split at q
    · rename_i kvs ok
      cases q
      obtain ⟨a, e1, d⟩ := vy.dn sr.bh
      exact ⟨B, kvs, u, a, sr.bh, e1, d, vx, ok, fin_val sr t (rep_bl _)⟩
    · cases q
  · cases q
theorem ok_inD (hu : X.A.units + 64 < cLine) : BinOK X (compareOp .In) (sInD false) := ⟨_, op_inD hu, inD_core⟩
theorem ok_notInD (hu : X.A.units + 64 < cLine) : BinOK X (compareOp .NotIn) (sInD true) := ⟨_, op_notInD hu, inD_core⟩
structure MrOK (X : Cx) (T id : String) (isT : U → Bool) (s : U → List U → Option (Bool × U)) : Prop where
  ex : ∃ (ty : V → Hp → Prop) (r : V → List V → Hp → VK → Prop), TyOk X T ty ∧ MtR X id r ∧ (∀ {B H : Hp} {u : U} {x : V}, Same B H → isT u = true → Vw (ga X) B H u x → ty x H) ∧
    ∀ {W : WXX} {B H : Hp} {e : En} {σ : St} {u : U} {us : List U} {x : V} {xs : List V} {z : Bool × U} {Q : VK}, SR (ga X) B H e σ → s u us = some z → Vw (ga X) B H u x → reps (ga X) B us xs → tAt (ga X) W (rlO (ga X)) (M.ret z) B H e σ Q → r x xs H Q
def mMr (isT : U → Bool) (s : U → List U → Option (Bool × U)) (mo : M Od) (ma : M (List U)) : M (Bool × U) := mo.bd fun od e => match rdO e od with
  | some u => if isT u then (ma.bd fun us e => match rdO e od with
      | some u => match s u us with
        | some r => .ok r e
        | none => .bad
      | none => .bad) e else .bad
  | none => .bad
end
section
variable {X : Cx} {W : WXX} {o ex : Expr} {es : List Expr} {name : Str} {apos cpos : Pos} {T id : String} {isT : U → Bool}
theorem po_mr {s : U → List U → Option (Bool × U)} {mo : M Od} {ma : M (List U)} (ok : MrOK X T id isT s) (pa : PlainAttrs T) (slot : Slot T name id) (hty : typeOf (.builtin id) = pure (.type "method_descriptor")) (ho : PR X W o mo) (ha : PVs X W (ex :: es) ma)
    (hbase : attributeBase o name X.env (eval o X.env) = eval o X.env := by rfl)
    (hfew : ((backTo cpos (starEach (ex :: es) X.env)).all (fun x => !x.1) && (backToKw cpos (keywordEach [] X.env)).all (fun x => x.1.isSome)
      && decide ((ex :: es).length + ([] : List Keyword).length + (if ([] : List Keyword).isEmpty then 0 else 1) < 30)) = true := by rfl)
    (hline : (apos.endLine == cpos.line) = true := by rfl) (hs : starEach (ex :: es) X.env = (false, eval ex X.env) :: starEach es X.env := by rfl) (hplain : (backTo cpos (starEach es X.env)).any (·.1) = false := by rfl) :
    PO X W (.Call (.Attribute o name apos) (ex :: es) [] cpos) (mMr isT s mo ma) := by
  obtain ⟨ty, r, h1, h2, h3, h4⟩ := ok.ex
  refine PEimp (pe_mG h1 pa slot hty h2 ho ha hbase hfew hline hs hplain) fun σ H Q ⟨B, e, sr, q⟩ => ⟨B, e, sr, (tAt.bd q).mono fun x H1 ⟨B1, e1, od, g1, r1, q1⟩ => ?_⟩
  unfold tAt at q1
  dsimp only at q1
  cases z1 : rdO e1 od with
  | none => rw [z1] at q1; exact q1.elim
  | some u =>
    rw [z1] at q1
    dsimp only at q1
    by_cases c : isT u = true
    · rw [if_pos c] at q1
      refine ⟨h3 g1.sr.bh c (rlR.vw g1.sr r1 z1), B1, e1, g1.sr, (tAt.bd q1).mono fun xs H2 ⟨B2, e2, us, g2, r2, q2⟩ => ?_⟩
      unfold tAt at q2
      dsimp only at q2
      cases z2 : rdO e2 od with
      | none => rw [z2] at q2; exact q2.elim
      | some u2 =>
        rw [z2] at q2
        dsimp only at q2
        cases z3 : s u2 us with
        | none => rw [z3] at q2; exact q2.elim
        | some z =>
          rw [z3] at q2
          exact h4 (W := W) g2.sr z3 (rlR.vw (S := fun _ => True) g2.sr (rlR.keep r1 g2) z2) r2 q2
    · rw [if_neg c] at q1
      exact q1.elim
end
def isD : U → Bool
  | .dct _ => true
  | _ => false
def isL : U → Bool
  | .lst _ => true
  | .scr _ => true
  | _ => false
def isS : U → Bool
  | .str _ => true
  | _ => false
def tyD (Γ : Ga) (x : V) (H : Hp) : Prop := ∃ B kvs a, x = .ref a ∧ DN Γ B H a kvs
section
variable {X : Cx}
theorem ty_dict : TyOk X "dict" (tyD (ga X)) := by
  intro pins σ H s x v I r ty
  obtain ⟨B, kvs, a, rfl, d⟩ := ty
  cases r
  obtain ⟨h1, h2⟩ := d.typeIs I
  exact ⟨h1, fun b e => h2 b e⟩
theorem ty_tyV {T : String} : TyOk X T (tyV X.K T) := fun pins σ H s x v I r ty => tyV_is I r ty
theorem isD_ty {B H : Hp} {u : U} {x : V} (sb : Same B H) (h : isD u = true) (v : Vw (ga X) B H u x) : tyD (ga X) x H := by
  cases u with
  | dct kvs =>
    obtain ⟨a, e, d⟩ := v.dn sb
    exact ⟨B, kvs, a, e, d⟩
  | _ => simp [isD] at h
theorem isL_ty {B H : Hp} {u : U} {x : V} (sb : Same B H) (h : isL u = true) (v : Vw (ga X) B H u x) : tyV X.K "list" x H := by
  cases u with
  | lst us =>
    obtain ⟨a, vs, rfl, h1, _⟩ := v.lst sb
    exact .inl ⟨rfl, vs, SqL.of h1⟩
  | scr ns =>
    obtain ⟨a, rfl, h1⟩ := v.scr sb
    exact .inl ⟨rfl, _, h1⟩
  | _ => simp [isL] at h
theorem isS_ty {B H : Hp} {u : U} {x : V} (h : isS u = true) (v : Vw (ga X) B H u x) : tyV X.K "str" x H := by
  cases u with
  | str z => rw [v.str]; rfl
  | _ => simp [isS] at h
def rGetD (Γ : Ga) : V → List V → Hp → VK → Prop := fun x xs H Q => ∃ B kvs k y a, Same B H ∧ x = .ref a ∧ DN Γ B H a kvs ∧ Vw Γ B H k y ∧ okD kvs k = true ∧ ((xs = [y] ∧ match dfind kvs k with
  | some w => ∀ v, rep Γ B w v → Q v H
  | none => Q .non H) ∨ ∃ d, xs = [y, d] ∧ match dfind kvs k with
  | some w => ∀ v, rep Γ B w v → Q v H
  | none => Q d H)
theorem mt_getD (hu : X.A.units + 64 < cLine) : MtR X "dict.get" (rGetD (ga X)) := by
  intro pins s σ H x xs v us Q I rx rxs h
  obtain ⟨B, kvs, k, y, a, sb, rfl, d, vk, ok, h⟩ := h
  cases rx
  rcases h with ⟨rfl, q⟩ | ⟨dd, rfl, q⟩
  · cases rxs with
    | cons ry rt =>
      cases rt
      obtain ⟨o, dv, f1, f2⟩ := dvw hu I sb d vk ry ok
      refine dv.get1 fun t => ?_
      cases z : dfind kvs k with
      | none =>
        rw [f2 z]
        rw [z] at q
        exact ⟨.non, H, I.tok t, rfl, q⟩
      | some w =>
        rw [z] at q
        obtain ⟨v', z', e, r1, r2⟩ := f1 w z
        rw [e]
        exact ⟨v', H, I.tok t, r2, q v' r1⟩
  · obtain ⟨u1, u2, rfl, ry, rd⟩ := vals2 rxs
    obtain ⟨o, dv, f1, f2⟩ := dvw hu I sb d vk ry ok
    refine dv.get2 u2 fun t => ?_
    cases z : dfind kvs k with
    | none =>
      rw [f2 z]
      rw [z] at q
      exact ⟨dd, H, I.tok t, rd, q⟩
    | some w =>
      rw [z] at q
      obtain ⟨v', z', e, r1, r2⟩ := f1 w z
      rw [e]
      exact ⟨v', H, I.tok t, r2, q v' r1⟩
noncomputable def sGetD : U → List U → Option (Bool × U) := fun u us => match u with
  | .dct kvs => match us with
    | [k] => if okD kvs k then some (false, (dfind kvs k).getD .non) else none
    | [k, d] => if okD kvs k then some (false, (dfind kvs k).getD d) else none
    | _ => none
  | _ => none
theorem ok_getD (hu : X.A.units + 64 < cLine) : MrOK X "dict" "dict.get" isD sGetD := by
  refine ⟨_, _, ty_dict, mt_getD hu, isD_ty, fun {W B H e σ u us x xs z Q} sr q vx rs t => ?_⟩
  unfold sGetD at q
  split at q
  · rename_i kvs
    obtain ⟨a, e1, d⟩ := vx.dn sr.bh
    split at q
    · rename_i k
      split at q
      · rename_i ok
        cases q
        simp only [reps] at rs
        obtain ⟨y, r, rfl, ry, rfl⟩ := rs
        refine ⟨B, kvs, k, y, a, sr.bh, e1, d, .inl ry, ok, .inl ⟨rfl, ?_⟩⟩
        cases z : dfind kvs k with
        | none => rw [z] at t; exact fin_val sr t (by simp only [Option.getD_none, rep])
        | some w => rw [z] at t; exact fun v rv => fin_val sr t rv
      · cases q
    · rename_i k dd
      split at q
      · rename_i ok
        cases q
        simp only [reps] at rs
        obtain ⟨y, r, rfl, ry, y2, r2, rfl, ry2, rfl⟩ := rs
        refine ⟨B, kvs, k, y, a, sr.bh, e1, d, .inl ry, ok, .inr ⟨y2, rfl, ?_⟩⟩
        cases z : dfind kvs k with
        | none => rw [z] at t; exact fin_val sr t ry2
        | some w => rw [z] at t; exact fun v rv => fin_val sr t rv
      · cases q
    · cases q
  · cases q
structure MuOK (X : Cx) (T id : String) (isT : U → Bool) (s : U → List U → Option (U × U)) : Prop where
  ex : ∃ (ty : V → Hp → Prop) (r : V → List V → Hp → VK → Prop), TyOk X T ty ∧ MtR X id r ∧ (∀ {B H : Hp} {u : U} {x : V}, Same B H → isT u = true → Vw (ga X) B H u x → ty x H) ∧
    ∀ {B H : Hp} {u u' res : U} {us : List U} {a : Addr} {ho : HO} {xs : List V} {Q : VK}, Same B H → B a = none → H a = some ho → nod (ga X) B a u ho → s u us = some (u', res) → reps (ga X) B us xs →
      (∀ ho' v, nod (ga X) B a u' ho' → rep (ga X) B res v → Q v (upd H a ho')) → r (.ref a) xs H Q
def mMu (isT : U → Bool) (s : U → List U → Option (U × U)) (i : Nat) (ma : M (List U)) : M (Bool × U) := fun e => match e[i]? with
  | some (some (true, u)) => if isT u then (ma.bd fun us e => match e[i]? with
      | some (some (true, u)) => match s u us with
        | some (u', r) => .ok (false, r) (e.set i (some (true, u')))
        | none => .bad
      | _ => .bad) e else .bad
  | _ => .bad
end
section
variable {X : Cx} {W : WXX} {ex : Expr} {es : List Expr} {name : Str} {apos cpos npos : Pos} {T id : String} {isT : U → Bool}
theorem mu_core {s : U → List U → Option (U × U)} {i : Nat} {r : V → List V → Hp → VK → Prop} (h4 : ∀ {B H : Hp} {u u' res : U} {us : List U} {a : Addr} {ho : HO} {xs : List V} {Q : VK}, Same B H → B a = none → H a = some ho → nod (ga X) B a u ho → s u us = some (u', res) → reps (ga X) B us xs →
      (∀ ho' v, nod (ga X) B a u' ho' → rep (ga X) B res v → Q v (upd H a ho')) → r (.ref a) xs H Q) {B H : Hp} {e : En} {σ : St} {a : Addr} {us : List U} {xs : List V} {Q : VK} (sr : SR (ga X) B H e σ) (ea : σ[i]? = some (some (.ref a))) (rs : reps (ga X) B us xs)
    (q : tAt (ga X) W (rlO (ga X)) (fun e => match e[i]? with
      | some (some (true, u)) => match s u us with
        | some (u', r) => .ok (false, r) (e.set i (some (true, u')))
        | none => .bad
      | _ => .bad) B H e σ Q) : r (.ref a) xs H Q := by
  unfold tAt at q
  dsimp only at q
  split at q
  · rename_i z e' hq
    split at hq
    · rename_i u hu
      split at hq
      · rename_i u' res hs
        cases hq
        obtain ⟨b, ho, k1, k2, k3, k4⟩ := sr.ow i u hu
        rw [ea] at k1
        cases k1
        exact h4 sr.bh k4 k2 k3 hs rs fun ho' v n rv => q v B _ (Go.write sr hu ea n) rv
      · cases hq
    · cases hq
  · rename_i hq
    split at hq
    · split at hq <;> cases hq
    · cases hq
  · exact q.elim
theorem po_mu {s : U → List U → Option (U × U)} {i : Nat} {x : Str} {ma : M (List U)} (ok : MuOK X T id isT s) (pa : PlainAttrs T) (slot : Slot T name id) (hty : typeOf (.builtin id) = pure (.type "method_descriptor")) (hN : X.N[i]? = some x) (hv : Vis X.env.scope x) (ha : PVs X W (ex :: es) ma)
    (hd : (x == ("__debug__" : Str)) = false := by decide) (hcd : (x == ("__classdict__" : Str)) = false := by decide)
    (hbase : attributeBase (.Name x npos) name X.env (eval (.Name x npos) X.env) = eval (.Name x npos) X.env := by rfl)
    (hfew : ((backTo cpos (starEach (ex :: es) X.env)).all (fun x => !x.1) && (backToKw cpos (keywordEach [] X.env)).all (fun x => x.1.isSome)
      && decide ((ex :: es).length + ([] : List Keyword).length + (if ([] : List Keyword).isEmpty then 0 else 1) < 30)) = true := by rfl)
    (hline : (apos.endLine == cpos.line) = true := by rfl) (hs : starEach (ex :: es) X.env = (false, eval ex X.env) :: starEach es X.env := by rfl) (hplain : (backTo cpos (starEach es X.env)).any (·.1) = false := by rfl) :
    PO X W (.Call (.Attribute (.Name x npos) name apos) (ex :: es) [] cpos) (mMu isT s i ma) := by
  obtain ⟨ty, r, h1, h2, h3, h4⟩ := ok.ex
  refine PEimp (pe_mG h1 pa slot hty h2 (pe_var hN hv hd hcd) ha hbase hfew hline hs hplain) fun σ H Q ⟨B, e, sr, q⟩ => ?_
  unfold tAt mMu at q
  cases z : e[i]? with
  | none => rw [z] at q; exact q.elim
  | some w =>
    rw [z] at q
    cases w with
    | none => exact q.elim
    | some w =>
      obtain ⟨o, u⟩ := w
      cases o with
      | false => exact q.elim
      | true =>
        dsimp only at q
        by_cases c : isT u = true
        · rw [if_pos c] at q
          obtain ⟨a, ho, k1, k2, k3, k4⟩ := sr.ow i u z
          refine ⟨_, k1, h3 sr.bh c (.inr ⟨a, ho, rfl, k2, k3⟩), B, e, sr, (tAt.bd q).mono fun xs H2 ⟨B2, e2, us, g2, r2, q2⟩ => ?_⟩
          exact mu_core (W := W) h4 g2.sr k1 r2 q2
        · rw [if_neg c] at q
          exact q.elim
end
section
variable {X : Cx}
theorem nod_lst {Γ : Ga} {B : Hp} {a : Addr} {us : List U} {ho : HO} (h : nod Γ B a (.lst us) ho) : ∃ vs, ho = .lst vs ∧ reps Γ B us vs := h
def sApp : U → List U → Option (U × U) := fun u us => match u, us with
  | .lst l, [w] => if l.length < sizeLine then some (.lst (l ++ [w]), .non) else none
  | _, _ => none
theorem ok_append : MuOK X "list" "list.append" isL sApp := by
  refine ⟨_, _, ty_tyV, mt_append, isL_ty, fun {B H u u' res us a ho xs Q} sb bn ha hn hs rs k => ?_⟩
  unfold sApp at hs
  split at hs
  · split at hs
    · rename_i l w hl
      cases hs
      obtain ⟨vs, rfl, r⟩ := nod_lst hn
      simp only [reps] at rs
      obtain ⟨y, t, rfl, ry, rfl⟩ := rs
      exact ⟨a, vs, y, rfl, rfl, ha, by rw [← r.length]; exact hl, k _ _ ⟨_, rfl, r.snoc ry⟩ (by simp only [rep])⟩
    · cases hs
  · cases hs
end
section
variable {X : Cx}
def rSetD (Γ : Ga) : TSet := fun o i v H Q => ∃ B kvs k w a, Same B H ∧ o = .ref a ∧ DN Γ B H a kvs ∧ Mut (H a) ∧ B a = none ∧ rep Γ B k i ∧ okD kvs k = true ∧ rep Γ B w v ∧ kvs.length < sizeLine ∧ ∀ ho, nod Γ B a (.dct (dset kvs k w)) ho → Q (upd H a ho)
theorem set_dict (hu : X.A.units + 64 < cLine) : PSet X (rSetD (ga X)) := by
  intro pins s σ H o i v ov iv u Q I ro ri rv h
  obtain ⟨B, kvs, k, w, a, sb, rfl, d, mu, hb, rk, ok, rw', hl, q⟩ := h
  cases ro
  exact dput hu I sb d mu hb (.inl rk) (fun _ => rk) ri ok rw' rv hl fun ho s' n I' => ⟨_, I', q ho n⟩
theorem PSet.or {t t' : TSet} (h : PSet X t) (h' : PSet X t') : PSet X (fun o i v H Q => t o i v H Q ∨ t' o i v H Q) := by
  intro pins s σ H o i v ov iv u Q I ro ri rv q
  rcases q with q | q
  · exact h pins s σ H o i v ov iv u Q I ro ri rv q
  · exact h' pins s σ H o i v ov iv u Q I ro ri rv q
noncomputable def sSto : U → U → U → Option U := fun u k w => match u with
  | .lst l => match k with
    | .int i => (ixN l.length i).map fun j => .lst (l.set j w)
    | _ => none
  | .dct kvs => if okD kvs k ∧ kvs.length < sizeLine then some (.dct (dset kvs k w)) else none
  | _ => none
noncomputable def mSto (i : Nat) (mk : M U) (mv : M U) : MS := mv.bs fun w e => match e[i]? with
  | some (some (true, _)) => (mk.bs fun k e => match e[i]? with
      | some (some (true, u)) => match sSto u k w with
        | some u' => .nx (e.set i (some (true, u')))
        | none => .bad
      | _ => .bad) e
  | _ => .bad
variable {W : WXX} {pr : Nat → Bool} {kx vx : Expr} {npos spos pos : Pos}
theorem sto_core {B H : Hp} {e : En} {σ : St} {a : Addr} {i : Nat} {k w : U} {y v : V} {D : Ends} (sr : SR (ga X) B H e σ) (ea : σ[i]? = some (some (.ref a))) (rk : rep (ga X) B k y) (rv : rep (ga X) B w v)
    (q : sAt (ga X) W pr (fun e => match e[i]? with
      | some (some (true, u)) => match sSto u k w with
        | some u' => .nx (e.set i (some (true, u')))
        | none => .bad
      | _ => .bad) B H e σ D) : rSetL (.ref a) y v H (fun H' => D.nx σ H') ∨ rSetD (ga X) (.ref a) y v H (fun H' => D.nx σ H') := by
  unfold sAt at q
  dsimp only at q
  cases z : e[i]? with
  | none => rw [z] at q; exact q.elim
  | some s1 =>
    rw [z] at q
    cases s1 with
    | none => exact q.elim
    | some s1 =>
      obtain ⟨o, u⟩ := s1
      cases o with
      | false => exact q.elim
      | true =>
        dsimp only at q
        obtain ⟨b, ho, k1, k2, k3, k4⟩ := sr.ow i u z
        rw [ea] at k1
        cases k1
        cases u with
        | lst l =>
          cases k with
          | int j =>
            unfold sSto at q
            dsimp only at q
            cases z2 : ixN l.length j with
            | none => rw [z2] at q; exact q.elim
            | some n =>
              rw [z2] at q
              obtain ⟨vs, rfl, r⟩ := nod_lst k3
              simp only [rep] at rk
              exact .inl ⟨a, vs, j, n, rfl, rk, k2, by rw [← r.length]; exact z2, q B _ σ (Go.write sr z ea ⟨_, rfl, r.set n rv⟩) Kp.refl⟩
          | _ => exact False.elim q
        | dct kvs =>
          unfold sSto at q
          dsimp only at q
          by_cases c : okD kvs k = true ∧ kvs.length < sizeLine
          · rw [if_pos c] at q
            have mu : Mut (H a) := by
              rw [k2]
              rcases k3 with ⟨es, rfl, _⟩ | ⟨xs, rfl, _⟩ <;> trivial
            have dn : DN (ga X) B H a kvs := by
              rcases k3 with ⟨es, rfl, r⟩ | ⟨xs, rfl, r⟩
              · exact .inl ⟨es, .inl k2, r⟩
              · exact .inr ⟨xs, (.inl k2), r⟩
            exact .inr ⟨B, kvs, k, w, a, sr.bh, rfl, dn, mu, k4, rk, c.1, rv, c.2, fun ho n => q B _ σ (Go.write sr z ea n) Kp.refl⟩
          · rw [if_neg c] at q
            exact q.elim
        | _ => exact False.elim q
theorem sv_sto {i : Nat} {x : Str} {mk mv : M U} (hu : X.A.units + 64 < cLine) (hN : X.N[i]? = some x) (hvs : Vis X.env.scope x) (hk : PV X W kx mk) (hv : PV X W vx mv) (hd : (x == ("__debug__" : Str)) = false := by decide) (hcd : (x == ("__classdict__" : Str)) = false := by decide)
    (ha : ∀ v, assign (.Subscript (.Name x npos) kx spos) X.env v = (do
      let ov ← holding [v] (eval (.Name x npos) X.env)
      let iv ← holding [v, ov] (eval kx X.env)
      standAt spos
      holding [v, ov, iv] (setItem ov iv v)
      release [v, ov, iv] []) := by intro _; rfl)
    (hs : swapsWithSole [.Subscript (.Name x npos) kx spos] vx pos.line X.env = pure false := by rfl) (hw : swappedStores [.Subscript (.Name x npos) kx spos] vx X.env = pure none := by rfl)
    (h1 : (assignEach [.Subscript (.Name x npos) kx spos] X.env).map (·.2) = [assign (.Subscript (.Name x npos) kx spos) X.env] := by rfl) :
    PSV X W pr (.Assign [.Subscript (.Name x npos) kx spos] vx pos) (mSto i mk mv) := by
  refine PSimp (ps_asg hv (pg_sub (pe_var hN hvs hd hcd) hk (PSet.or set_list (set_dict hu)) ha) hs hw h1) fun D σ H ⟨B, e, sr, q⟩ => ⟨B, e, sr, (sAt.bs q).mono fun v H1 ⟨B1, e1, w, g1, r1, q1⟩ => ?_⟩
  unfold sAt at q1
  dsimp only at q1
  cases z : e1[i]? with
  | none => rw [z] at q1; exact q1.elim
  | some s1 =>
    rw [z] at q1
    cases s1 with
    | none => exact q1.elim
    | some s1 =>
      obtain ⟨o, u⟩ := s1
      cases o with
      | false => exact q1.elim
      | true =>
        obtain ⟨a, ho, k1, _⟩ := g1.sr.ow i u z
        refine ⟨_, k1, B1, e1, g1.sr, (sAt.bs (rl := rlV (ga X)) q1).mono fun y H2 ⟨B2, e2, k, g2, r2, q2⟩ => ?_⟩
        exact sto_core g2.sr k1 r2 (rep.mono g2.st.bb r1) q2
end
end VS
set_option Elab.async false
set_option linter.all false
set_option maxRecDepth 100000
namespace VSet
open PySem PyProof.Rows L2
theorem Paired.perm {α β : Type} {F : α → β → Prop} {l1 l2 : List α} (p : l1.Perm l2) : ∀ {ks : List β}, Paired F l2 ks → ∃ ks', ks'.Perm ks ∧ Paired F l1 ks' := by
  induction p with
  | nil => intro ks h; exact ⟨ks, .refl _, h⟩
  | cons x _ ih =>
    intro ks h
    cases h with
    | cons h1 t =>
      obtain ⟨ks', q1, q2⟩ := ih t
      exact ⟨_ :: ks', q1.cons _, .cons h1 q2⟩
  | swap x y l =>
    intro ks h
    cases h with
    | cons h1 t =>
      cases t with
      | cons h2 t => exact ⟨_, .swap _ _ _, .cons h2 (.cons h1 t)⟩
  | trans _ _ ih1 ih2 =>
    intro ks h
    obtain ⟨k1, q1, q2⟩ := ih2 h
    obtain ⟨k2, q3, q4⟩ := ih1 q2
    exact ⟨k2, q3.trans q1, q4⟩
section
variable {P : Program} {w : World} {K : Type} [DecidableEq K] (knd : KeyKind P w K)
def EG (e : Int × Value) (k : K) : Prop := knd.is k e.2 = true ∧ e.1 = knd.hash k ∧ e.2.scannable = true
def SG (h : Heap) (a : Addr) (ks : List K) : Prop :=
  ∃ o es ep t, h.get? a = some o ∧ o.ExactSet ∧ o.data = .set es ep t ∧ Paired (EG knd) es.toList ks ∧ ks.Nodup ∧ es.size < scanBound ∧ t.fits es.size = true ∧ Ris t.place.toList ∧ (w.params.followText "set-order" = true ∨ t.led = true)
variable {knd}
theorem plen {α β : Type} {F : α → β → Prop} : ∀ {xs : List α} {ys : List β}, Paired F xs ys → xs.length = ys.length
  | _, _, .nil => rfl
  | _, _, .cons r t => by simp [plen t]
theorem pmem {α β : Type} {F : α → β → Prop} {x : α} : ∀ {xs : List α} {ys : List β}, Paired F xs ys → x ∈ xs → ∃ y ∈ ys, F x y
  | _, _, .nil, h => by cases h
  | _, _, .cons r t, h => by
    rcases List.mem_cons.mp h with e | h
    · subst e; exact ⟨_, List.mem_cons_self, r⟩
    · obtain ⟨y, hy, f⟩ := pmem t h; exact ⟨y, List.mem_cons_of_mem _ hy, f⟩
theorem pmem' {α β : Type} {F : α → β → Prop} {y : β} : ∀ {xs : List α} {ys : List β}, Paired F xs ys → y ∈ ys → ∃ x ∈ xs, F x y
  | _, _, .nil, h => by cases h
  | _, _, .cons r t, h => by
    rcases List.mem_cons.mp h with e | h
    · subst e; exact ⟨_, List.mem_cons_self, r⟩
    · obtain ⟨y, hy, f⟩ := pmem' t h; exact ⟨y, List.mem_cons_of_mem _ hy, f⟩
theorem SG.at {h h' : Heap} {a : Addr} {ks : List K} (R : SG knd h a ks) (k : ∀ o, h.get? a = some o → h'.get? a = some o) : SG knd h' a ks := by
  obtain ⟨o, es, ep, t, ho, r⟩ := R
  exact ⟨o, es, ep, t, k o ho, r⟩
theorem eg_elems {es : List (Int × Value)} {ks : List K} (p : Paired (EG knd) es ks) : ElemsOf knd es := fun e he => by
  obtain ⟨k, _, h1, h2, h3⟩ := pmem p he
  exact ⟨⟨k, h1, h2⟩, h3⟩
theorem SG.typeIs {s : Shared} {a : Addr} {ks : List K} (R : SG knd s.heap a ks) : s.TypeIs (.ref a) "set" := by
  obtain ⟨o, es, ep, t, ho, hex, _⟩ := R
  exact ⟨o, ho, hex.1⟩
variable {A : Around} {E : Value → Shared → Prop} {s : Shared} {a : Addr} {ks : List K}
theorem sg_tail {g : Bool → Sem Unit} (hg : ∀ (b : Bool) (s₁ : Shared) (Q' : Unit → Shared → Prop), Q' () s₁ → wpAny (model P w) A (g b) Q' E s₁)
    {o : Obj} {es : Array (Int × Value)} {ep : Nat} {t : SetTable} (ho : s.heap.get? a = some o) (hex : o.ExactSet) (hd : o.data = .set es ep t)
    {es1 : Array (Int × Value)} {t2 : SetTable} {ks1 : List K} (p1 : Paired (EG knd) es1.toList ks1) (nd1 : ks1.Nodup)
    (hb1 : es1.size < scanBound) (hf2 : t2.fits es1.size = true) (hr : Ris t2.place.toList) (hl : w.params.followText "set-order" = true ∨ t2.led = true) {wasDummy : Bool} {R : Option Bool → Shared → Prop}
    (hR : ∀ h' ks2, Heap.SameBut a s.heap h' → ks2.Perm ks1 → SG knd h' a ks2 → R (some true) { s with heap := h' }) :
    wpAny (model P w) A (do
        storeSet a es1 t2
        if (!wasDummy && t2.tooFull) = true then do
            g (relayAll t2 es1 (SetTable.grown es1.size)).2.2
            storeSet a (relayAll t2 es1 (SetTable.grown es1.size)).1 (relayAll t2 es1 (SetTable.grown es1.size)).2.1
            pure (some true)
          else pure (some true)) R E s := by
  refine wpAny_bind (wpAny_storeSet_of ho hd ?_ (fits_of_scanBound hb1))
  have ho1 := L2.store_at (es' := es1) (t' := t2) ho hd
  have sb1 := Heap.SameBut.update s.heap a (Obj.putSet es1 t2)
  split
  · have pm := relayAll_perm t2 es1 (SetTable.grown es1.size)
    have hf3 := relayAll_fits t2 es1 (SetTable.grown es1.size)
    have hr3 := L2.relayAll_ris t2 es1 (SetTable.grown es1.size)
    have hl3 := L2.relayAll_led t2 es1 (SetTable.grown es1.size)
    generalize relayAll t2 es1 (SetTable.grown es1.size) = Z at pm hf3 hr3 hl3 ⊢
    obtain ⟨es2, t3, gave⟩ := Z
    dsimp only at pm hf3 hr3 hl3 ⊢
    have hsz : es2.size = es1.size := by rw [← Array.length_toList, pm.length_eq, Array.length_toList]
    have hb2 : es2.size < scanBound := by rw [hsz]; exact hb1
    obtain ⟨ks2, q1, q2⟩ := Paired.perm pm p1
    refine wpAny_bind (hg _ _ _ ?_)
    refine wpAny_bind (wpAny_storeSet_of ho1 rfl ?_ (fits_of_scanBound hb2))
    have ho2 := L2.store_at (es' := es2) (t' := t3) ho1 rfl
    exact wpAny_pure (hR _ ks2 (sb1.trans (Heap.SameBut.update _ a _)) q1 ⟨_, es2, _, t3, ho2, hex, rfl, q2, q1.nodup_iff.mpr nd1, hb2, hf3, hr3, hl.imp id fun z => by rw [hl3]; exact z⟩)
  · exact wpAny_pure (hR _ ks1 sb1 (.refl _) ⟨_, es1, _, t2, ho1, hex, rfl, p1, nd1, hb1, hf2, hr, hl⟩)
def Add (ks : List K) (k : K) (ks' : List K) : Prop := (k ∈ ks ∧ ks' = ks) ∨ (k ∉ ks ∧ ks'.Perm (k :: ks))
theorem sg_add {k : K} {x : Value} {Q : Bool → Shared → Prop} (R : SG knd s.heap a ks) (hkey : knd.is k x = true) (hsc : x.scannable = true) (room : ks.length + 1 < scanBound)
    (hQ : ∀ b h' ks', Heap.SameBut a s.heap h' → Add ks k ks' → SG knd h' a ks' → Q b { s with heap := h' }) :
    wpAny (model P w) A (setAddHashed a x (knd.hash k)) Q E s := by
  obtain ⟨o, es, ep, t, ho, hex, hd, pp, nd, hb, hf, hr, hl⟩ := R
  have hel : ElemsOf knd es.toList := eg_elems pp
  have hn : es.size = ks.length := by rw [← Array.length_toList]; exact plen pp
  unfold setAddHashed setAddHashedIn
  refine wpAny_holding (wpAny_bind (wpAny_setState_of ho hd hf ?_))
  dsimp only
  rw [byScan_of hsc hb hel]
  simp only [↓reduceIte]
  unfold setAddByScan
  refine wpAny_bind ?_
  refine wpAny_bind (wpAny_rule ?_)
  refine wpAny_bind (wpAny_setScan_of hkey ho hd hf hel ?_)
  cases hfi : List.findIdx? (fun e => knd.is k e.2) es.toList with
  | some j =>
    dsimp only
    obtain ⟨hj, pj, _⟩ := List.findIdx?_eq_some_iff_getElem.mp hfi
    have hk : k ∈ ks := by
      obtain ⟨k', h1, h2, _⟩ := pmem pp (List.getElem_mem hj)
      have := knd.inj _ _ _ pj h2
      rw [this]
      exact h1
    exact wpAny_pure (wpAny_pure (hQ _ s.heap ks (Heap.SameBut.refl a s.heap) (.inl ⟨hk, rfl⟩) ⟨o, es, ep, t, ho, hex, hd, pp, nd, hb, hf, hr, hl⟩))
  | none =>
    dsimp only
    have hnk : k ∉ ks := fun z => by
      obtain ⟨e, he, q, _⟩ := pmem' pp z
      have c := List.findIdx?_eq_none_iff.mp hfi e he
      rw [q] at c
      cases c
    have hgw : ∀ (b : Bool) {s₁ : Shared} {Q' : Unit → Shared → Prop}, Q' () s₁ → wpAny (model P w) A (match b with | true => rule "set.scan.the-table-gave-way" | false => pure ()) Q' E s₁ :=
      fun b s₁ Q' q => by cases b <;> first | exact wpAny_pure q | exact wpAny_rule q
    have pm := layNew_perm t es (knd.hash k) x
    have hf1 := layNew_fits t es (knd.hash k) x
    have hr1 := L2.layNew_ris t es (knd.hash k) x hr
    have hl1 := L2.layNew_led t es (knd.hash k) x
    generalize layNew t es (knd.hash k) x = Z at pm hf1 hr1 hl1 ⊢
    obtain ⟨es1, t1, wasDummy, gave⟩ := Z
    dsimp only at pm hf1 hr1 hl1 ⊢
    rw [Array.toList_push] at pm
    have pc : es1.toList.Perm ((knd.hash k, x) :: es.toList) := pm.trans (List.perm_append_singleton _ _)
    obtain ⟨ks1, q1, q2⟩ := Paired.perm pc (.cons (F := EG knd) (b := k) ⟨hkey, rfl, hsc⟩ pp)
    have nd1 : ks1.Nodup := q1.nodup_iff.mpr (List.nodup_cons.mpr ⟨hnk, nd⟩)
    have hsz : es1.size = ks.length + 1 := by rw [← Array.length_toList, pc.length_eq, List.length_cons, Array.length_toList, hn]
    have hb1 : es1.size < scanBound := by rw [hsz]; exact room
    have hled : w.params.followText "set-order" = true ∨ t1.led = true := hl.imp id fun z => by rw [hl1]; exact z
    refine wpAny_bind (hgw _ ?_)
    split
    · refine wpAny_bind ?_
      rw [hashByValue_scannable 8 hsc]
      refine wpAny_pure ?_
      refine sg_tail ?_ ho hex hd q2 nd1 hb1 ?_ ?_ ?_ ?_
      · intro b s₁ Q' q; cases b <;> first | exact wpAny_pure q | exact wpAny_rule q
      · first | (split <;> first | exact hf1 | exact SetTable.fits_plain_off hf1) | exact hf1
      · first | (split <;> exact hr1) | exact hr1
      · first | (split <;> exact hled) | exact hled
      · intro h' ks2 sb p r; dsimp only; exact wpAny_pure (hQ _ h' ks2 sb (.inr ⟨hnk, p.trans q1⟩) r)
    · refine wpAny_bind (wpAny_pure ?_)
      simp only [↓reduceIte]
      refine sg_tail ?_ ho hex hd q2 nd1 hb1 hf1 hr1 hled ?_
      · intro b s₁ Q' q; cases b <;> first | exact wpAny_pure q | exact wpAny_rule q
      · intro h' ks2 sb p r; dsimp only; exact wpAny_pure (hQ _ h' ks2 sb (.inr ⟨hnk, p.trans q1⟩) r)
theorem sg_fresh {h : Heap} {a : Addr} (ho : h.get? a = some { cls := .type "set", dict := none, data := .set #[] 0 (.fresh 0 0 (!w.params.followText "set-order")) }) : SG knd h a [] :=
  ⟨_, #[], 0, _, ho, ⟨rfl, rfl, rfl⟩, rfl, .nil, by simp, by decide, by rfl, List.Pairwise.nil, by
    show _ ∨ (!w.params.followText "set-order") = true
    cases w.params.followText "set-order"
    · exact .inr rfl
    · exact .inl rfl⟩
inductive Adds : List K → List K → List K → Prop
  | nil (ks : List K) : Adds ks [] ks
  | cons {ks ks1 ks2 : List K} {k : K} {r : List K} : Add ks k ks1 → Adds ks1 r ks2 → Adds ks (k :: r) ks2
theorem Add.mem {ks ks' : List K} {k : K} (h : Add ks k ks') (y : K) : y ∈ ks' ↔ y = k ∨ y ∈ ks := by
  rcases h with ⟨h1, rfl⟩ | ⟨h1, h2⟩
  · exact ⟨.inr, fun z => z.elim (fun e => e ▸ h1) id⟩
  · rw [h2.mem_iff, List.mem_cons]
theorem Add.len {ks ks' : List K} {k : K} (h : Add ks k ks') : ks'.length ≤ ks.length + 1 := by
  rcases h with ⟨h1, rfl⟩ | ⟨h1, h2⟩
  · omega
  · rw [h2.length_eq]; simp
theorem Adds.mem {ks ks' r : List K} (h : Adds ks r ks') (y : K) : y ∈ ks' ↔ y ∈ ks ∨ y ∈ r := by
  induction h with
  | nil ks => simp
  | cons h1 _ ih =>
    rw [ih, h1.mem, List.mem_cons]
    constructor
    · rintro ((h | h) | h)
      · exact .inr (.inl h)
      · exact .inl h
      · exact .inr (.inr h)
    · rintro (h | h | h)
      · exact .inl (.inr h)
      · exact .inl (.inl h)
      · exact .inr h
theorem nodup_len {α : Type} : ∀ {xs ys : List α}, xs.Nodup → (∀ x ∈ xs, x ∈ ys) → xs.length ≤ ys.length
  | [], _, _, _ => Nat.zero_le _
  | x :: xs, ys, hn, hs => by
    obtain ⟨l1, l2, rfl⟩ := List.append_of_mem (hs x List.mem_cons_self)
    obtain ⟨nx, hn⟩ := List.nodup_cons.mp hn
    have := nodup_len (xs := xs) (ys := l1 ++ l2) hn fun y hy => by
      have h := hs y (List.mem_cons_of_mem _ hy)
      rw [List.mem_append, List.mem_cons] at h
      rw [List.mem_append]
      rcases h with h | h | h
      · exact .inl h
      · exact absurd (h ▸ hy) nx
      · exact .inr h
    rw [List.length_append] at this
    simp only [List.length_cons, List.length_append]
    omega
abbrev KeyVs (knd : KeyKind P w K) : List Value → List K → Prop := Paired fun v k => knd.is k v = true ∧ v.scannable = true
theorem sg_update {I : Addr} {fp wr : List Addr} {G : Array GenState → Array GenState → Prop} {n : Nat} {Pv : Nat → Value → Prop} {St : Nat → Shared → Prop} {R : Result → Shared → Prop}
    (W : WalksS P w A.in1 I fp wr G n Pv St) (S : Addr) (hSf : S ∉ fp) (xs : List K) (hn : n = xs.length) (hfew : ∀ l : List K, l.Nodup → (∀ y ∈ l, y ∈ xs) → l.length + 1 < scanBound) (hval : ∀ i v, Pv i v → ∃ k, xs[i]? = some k ∧ knd.is k v = true ∧ v.scannable = true)
    (h0 : Heap) (hS0 : h0.get? S = none) (hw0 : ∀ b ∈ wr, h0.get? b = none) :
    ∀ (k i : Nat) (s : Shared) (ks : List K), n - i = k → i ≤ n → (∀ y ∈ ks, y ∈ xs) → St i s → (∀ b o, h0.get? b = some o → s.heap.get? b = some o) → SG knd s.heap S ks →
      (∀ s' ks', Moved (S :: wr) G s s' → SG knd s'.heap S ks' → Adds ks (xs.drop i) ks' → (∀ b o, h0.get? b = some o → s'.heap.get? b = some o) → R (.ok (.ret .none)) s') →
      codeAny (model P w) A (.builtin "set.update.loop" ⟨[.ref S, .ref I], []⟩) R s := by
  have hSw : S ∉ wr := fun h => hSf (W.sub _ h)
  have hsub : ∀ b ∈ wr, b ∈ S :: wr := fun b hb => List.mem_cons_of_mem _ hb
  have keepM : ∀ {s s' : Shared}, Moved wr G s s' → (∀ b o, h0.get? b = some o → s.heap.get? b = some o) → ∀ b o, h0.get? b = some o → s'.heap.get? b = some o := fun hm hkp b o e =>
    hm.heap b o (fun hb => by rw [hw0 b hb] at e; cases e) (hkp b o e)
  intro k
  induction k with
  | zero =>
    intro i s ks hk' hi hle hst hkp hS hR
    have hin : i = n := by omega
    subst hin
    refine codeAny_builtin PyProof.Rows.F.entry_set_update_loop ?_
    rw [Around.under_plainId PyProof.Rows.F.plain_set_update_loop _]
    show wpAny _ A.in1 (pyNext (.ref I) >>= _) _ _ s
    refine wpAny_bind (W.done s _ _ hst fun s' hm => ?_)
    show wpAny _ A.in1 (ret Value.none) _ _ s'
    refine wpAny_pure (hR s' ks (hm.mono hsub) (hS.at fun o e => hm.heap S o hSw e) ?_ (keepM hm hkp))
    rw [hn, List.drop_length]
    exact .nil _
  | succ k ih =>
    intro i s ks hk' hi hle hst hkp hS hR
    have hlt : i < n := by omega
    refine codeAny_builtin PyProof.Rows.F.entry_set_update_loop ?_
    rw [Around.under_plainId PyProof.Rows.F.plain_set_update_loop _]
    show wpAny _ A.in1 (pyNext (.ref I) >>= _) _ _ s
    refine wpAny_bind (W.item i s _ _ hlt hst fun v s' hP hst' hm => ?_)
    obtain ⟨x, hx, hxi, hxs⟩ := hval i v hP
    have hkp' := keepM hm hkp
    have hS' : SG knd s'.heap S ks := hS.at fun o e => hm.heap S o hSw e
    show wpAny _ A.in1 (holding [v] (setAdd S v) >>= _) _ _ s'
    refine wpAny_bind (wpAny_holding ?_)
    unfold setAdd
    refine wpAny_holding ?_
    refine wpAny_bind (knd.pyHash hxi ?_)
    refine sg_add (s := { s' with toks := s'.toks + 1 }) hS' hxi hxs (hfew ks (by obtain ⟨_, _, _, _, _, _, _, _, nd, _⟩ := hS'; exact nd) hle) fun b h' ks' hsb ad hS2 => ?_
    have hkp2 : ∀ b o, h0.get? b = some o → h'.get? b = some o := fun b o e => (hsb.2 b (fun z => by rw [z, hS0] at e; cases e)).trans (hkp' b o e)
    refine wpAny_pure ⟨plainId_quiet PyProof.Rows.F.plain_set_update_loop _, ih (i + 1) _ ks' (by omega) hlt (fun y hy => ((ad.mem y).mp hy).elim (fun e => e ▸ List.mem_of_getElem? hx) (hle y)) (W.frame _ s' _ _ hst' (Nat.le_add_right _ _) fun b hb o e => ?_) hkp2 hS2 fun s'' ks2 hm'' hS'' ads hkp'' => ?_⟩
    · rw [hsb.2 b (fun h : b = S => hSf (by rw [← h]; exact hb))]; exact e
    · refine hR s'' ks2 (Moved.trans W.gtrans ((hm.mono hsub).then_heap (Nat.le_add_right _ _) fun b o hb e => ?_) hm'') hS'' ?_ hkp''
      · rw [hsb.2 b (fun h : b = S => hb (by rw [h]; exact List.mem_cons_self))]; exact e
      · have hlt' : i < xs.length := by omega
        rw [List.drop_eq_getElem_cons hlt']
        have : xs[i] = x := by
          rw [List.getElem?_eq_getElem hlt'] at hx
          exact Option.some.inj hx
        rw [this]
        exact .cons ad ads
end
end VSet
set_option Elab.async false
set_option linter.all false
set_option maxRecDepth 100000
set_option maxHeartbeats 3200000
namespace VSet
open PySem PyProof.Rows L2
theorem at_of {α β : Type} {F : α → β → Prop} : ∀ {xs : List α} {ys : List β}, Paired F xs ys → ∀ (i : Nat) (x : α), xs[i]? = some x → ∃ y, ys[i]? = some y ∧ F x y
  | _, _, .nil, i, x, h => by simp at h
  | _, _, .cons r t, 0, x, h => by cases h; exact ⟨_, rfl, r⟩
  | _, _, .cons r t, i + 1, x, h => at_of t i x (by simpa using h)
section
variable {P : Program} {w : World} {K : Type} [DecidableEq K] {knd : KeyKind P w K} {A : Around} {E : Value → Shared → Prop} {s : Shared} {a : Addr} {ks : List K}
theorem map_vals : ∀ {es : List (Int × Value)} {ks : List K}, Paired (EG knd) es ks → Paired (fun v k => knd.is k v = true) (es.map (·.2)) ks
  | _, _, .nil => .nil
  | _, _, .cons h t => .cons h.1 (map_vals t)
theorem strs_of : ∀ {vs : List Value} {ss : List Str}, Paired (fun v k => (PySem.strKind P w).is k v = true) vs ss → StrsAre vs ss
  | _, _, .nil => .nil
  | v :: _, y :: _, .cons h t => by
    obtain ⟨k, e⟩ := Value.isStrOf_shape h
    subst e
    exact .cons y k (strs_of t)
theorem sorted_sg {ks : List Str} {Q : Value → Shared → Prop} (R : SG (PySem.strKind P w) s.heap a ks) (hh : A.handled = none) (h64 : ks.length < 64)
    (hQ : ∀ s' p (out : Array Value) (c : Nat) (ns : List Str), (∀ b o, s.heap.get? b = some o → s'.heap.get? b = some o) → s'.gens = s.gens → s'.os = s.os → s.heap.objs.size ≤ p →
      s'.heap.get? p = some (seqObj "list" out c) → StrsAre out.toList ns → sortedS ns = true → ns.Perm ks → Q (.ref p) s') :
    wpAny (model P w) A (call (.builtin "sorted") [.ref a]) Q E s := by
  obtain ⟨o, es, ep, t, ho, hex, hd, pp, nd, hb, hf, hr, hl⟩ := R
  have hn : es.size = ks.length := by rw [← Array.length_toList]; exact plen pp
  refine Calls.call_function_entry kind_sorted plain_sorted entry_sorted (args_sorted1 _) ?_
  unfold Builtin.«sorted»
  refine wpAny_bind (m := checkCount "sorted" 1 1 _) (wpAny_pure ?_)
  refine wpAny_bind (L2.collect_set (A := A.in1) hh ⟨o, ho, hex.1, hd⟩ hf hb hr hl fun s1 vs k1 hz g1 o1 pm => ?_)
  have hvl : vs.length = ks.length := by rw [pm.length_eq, List.length_map, Array.length_toList]; exact hn
  obtain ⟨ss, q1, q2⟩ := Paired.perm pm (map_vals pp)
  have hS : StrsAre vs ss := strs_of q2
  refine wpAny_bind (wpAny_newList ?_ (by rw [hvl, sizeLine_eq]; omega))
  have hoL : (s1.heap.push (seqObj "list" vs.toArray 0)).get? s1.heap.objs.size = some (seqObj "list" vs.toArray 0) := Heap.get?_push_size _ rfl
  refine wpAny_bind (wpAny_holding (wpAny_call_entry slot_list_sort ⟨_, hoL, rfl⟩ entry_list_sort (list_sort_treeK strKind_oneLt hoL hS.keysOf (fun v₁ v₂ rest e => keyKind_strs (by rw [← e]; exact hS)) (by rw [hvl]; exact h64) fun st' hp hs => ⟨_, rfl, ?_⟩) (args_list_sort _)))
  obtain ⟨ss', h1, h2, h3⟩ := sorted_out_str hS hp hs
  obtain ⟨c, hc⟩ := sortedHeap_at (vs := vs) (out := (arrOf st').map (·.2)) hoL
  refine wpAny_pure ⟨_, rfl, hQ _ s1.heap.objs.size _ c ss' (fun b u e => ?_) g1 o1 hz hc h1 h3 (h2.trans q1)⟩
  have q := k1 b u e
  have hlt := Heap.lt_size q
  show (sortedHeap (s1.heap.push (seqObj "list" vs.toArray 0)) s1.heap.objs.size vs _).get? b = some u
  rw [sortedHeap_old (Nat.ne_of_lt hlt) (by rw [size_push']; exact Nat.lt_succ_of_lt hlt)]
  exact Heap.get?_push_of_some _ q
end
end VSet
set_option Elab.async false
set_option linter.all false
set_option maxRecDepth 100000
set_option maxHeartbeats 3200000
namespace VSet
open PySem PyProof.Rows L2
theorem at_of2 {α β : Type} {F : α → β → Prop} : ∀ {xs : List α} {ys : List β}, Paired F xs ys → ∀ (i : Nat) (x : α), xs[i]? = some x → ∃ y, ys[i]? = some y ∧ F x y
  | _, _, .nil, i, x, h => by simp at h
  | _, _, .cons r t, 0, x, h => by cases h; exact ⟨_, rfl, r⟩
  | _, _, .cons r t, i + 1, x, h => at_of t i x (by simpa using h)
section
variable {P : Program} {w : World} {K : Type} [DecidableEq K] {knd : KeyKind P w K} {A : Around} {E : Value → Shared → Prop} {s : Shared} {a : Addr} {ks : List K}
theorem set_list {l : Addr} {items : Array Value} (xs : List K) {Q : Value → Shared → Prop} (hh : A.handled = none) (hl : s.heap.IsList l items) (hit : KeyVs knd items.toList xs) (hfew : ∀ l : List K, l.Nodup → (∀ y ∈ l, y ∈ xs) → l.length + 1 < scanBound)
    (h : ∀ (h' : Heap) (tk : Nat) ks, SG knd h' s.heap.objs.size ks → Adds [] xs ks → (∀ b o, s.heap.get? b = some o → h'.get? b = some o) → Q (.ref s.heap.objs.size) { s with heap := h', toks := tk }) :
    wpAny (model P w) A (call (.type "set") [.ref l]) Q E s := by
  have hisz : items.size = xs.length := by rw [← Array.length_toList]; exact plen hit
  obtain ⟨c, tl, hmro⟩ := PySem.F.called_set.mro
  have hmade := PySem.F.called_set.made
  have hsub := PySem.F.called_set.sub
  refine wpAny_call (codeAny_of_tree ?_)
  show wpAny _ _ (callAny (.type "set") _) _ _ _
  refine wpAny_pure ⟨Code.quiet_builtin _ (by decide +kernel), codeAny_builtin PySem.F.entry_type_call ?_⟩
  rw [Around.under_plain (weight_type_call_type "set" [.ref l] []) rfl]
  have h1 := PySem.F.called_set.notType
  have h2 := PySem.F.called_set.canCreate
  have hct := PySem.F.typeCall_set_1 (.ref l)
  repeat (any_goals (first | assumption | wp_step))
  refine codeAny_mono (L2.code_set_led1 (.ref l) (E := E) (Q₁ := fun obj s₁ => obj = .ref s.heap.objs.size ∧ s₁ = { s with heap := s.heap.push { cls := .type "set", dict := none, data := .set #[] 0 (.fresh 0 0 (!w.params.followText "set-order")) } }) ⟨rfl, rfl⟩) fun r s₁ hr => ?_
  cases r with
  | error e => exact hr
  | ok fl =>
    cases fl with
    | ret obj =>
      obtain ⟨rfl, rfl⟩ := hr
      have hS : (s.heap.push { cls := .type "set", dict := none, data := .set #[] 0 (.fresh 0 0 (!w.params.followText "set-order")) }).get? s.heap.objs.size = some { cls := .type "set", dict := none, data := .set #[] 0 (.fresh 0 0 (!w.params.followText "set-order")) } := Heap.get?_push_size _ rfl
      have hT : Shared.TypeIs { s with heap := s.heap.push { cls := .type "set", dict := none, data := .set #[] 0 (.fresh 0 0 (!w.params.followText "set-order")) } } (.ref s.heap.objs.size) "set" := ⟨_, hS, rfl⟩
      have hli := PySem.F.called_set.init.lookup
      have hbi := PySem.F.called_set.init.bind (.ref s.heap.objs.size)
      repeat (any_goals (first | assumption | wp_step))
      refine codeAny_mono (codeAny_call_builtin (R := wants (fun r s₂ => r = .none ∧ ∃ h' tk ks, s₂ = { s with heap := h', toks := tk } ∧ SG knd h' s.heap.objs.size ks ∧ Adds [] xs ks ∧
          (∀ b o, s.heap.get? b = some o → h'.get? b = some o)) E) PySem.F.called_set.init.plain PySem.F.entry_set_init (check_set_init_1 hT ?_)) fun r₂ s₂ hr₂ => ?_
      · obtain ⟨ol, hol, hcl, nl, hdl⟩ := hl
        obtain ⟨ocls, odict, odata, oslots⟩ := ol
        simp only at hcl hdl
        subst hcl; subst hdl
        have hol' : (s.heap.push { cls := .type "set", dict := none, data := .set #[] 0 (.fresh 0 0 (!w.params.followText "set-order")) }).get? l = some { cls := .type "list", dict := odict, data := .seq items nl, slots := oslots } := Heap.get?_push_of_some _ hol
        have hsls := PySem.F.sub_list_set
        have hslf := PySem.F.sub_list_frozenset
        have hne : (Value.type "list" == Value.type "dict") = false := by decide
        have hl1 : (s.heap.push { cls := .type "set", dict := none, data := .set #[] 0 (.fresh 0 0 (!w.params.followText "set-order")) }).IsList l items := ⟨_, hol', rfl, nl, rfl⟩
        unfold Builtin.«set.__init__» noKeywords Builtin.Frozenset.updateFrom
        generalize hPI : pyIter = PI
        wp_walk
        subst hPI
        refine wpAny_pyIter_list hl1 ?_
        refine wpAny_bind (wpAny_runValue ?_)
        have hlS : l < s.heap.objs.size := Heap.lt_size hol
        have hh3 : A.in1.in1.in1.handled = none := by simp [hh]
        have hneI : l ≠ (s.heap.push { cls := .type "set", dict := none, data := .set #[] 0 (.fresh 0 0 (!w.params.followText "set-order")) }).objs.size := by
          rw [Heap.size_push]; exact Nat.ne_of_lt (Nat.lt_succ_of_lt hlS)
        have hSf : s.heap.objs.size ∉ [(s.heap.push { cls := .type "set", dict := none, data := .set #[] 0 (.fresh 0 0 (!w.params.followText "set-order")) }).objs.size, l] := by
          rw [Heap.size_push]; simp only [List.mem_cons, List.mem_singleton, List.not_mem_nil, or_false, not_or]
          exact ⟨Nat.ne_of_lt (Nat.lt_succ_self _), Nat.ne_of_gt hlS⟩
        have hval : ∀ (i : Nat) (v : Value), items[i]? = some v → ∃ k, xs[i]? = some k ∧ knd.is k v = true ∧ v.scannable = true := fun i v hv => at_of2 hit i v (by rw [Array.getElem?_toList]; exact hv)
        have none_of : ∀ b, s.heap.objs.size ≤ b → s.heap.get? b = none := fun b hb => by
          cases q : s.heap.get? b with
          | none => rfl
          | some o => exact absurd (Nat.lt_of_lt_of_le (Heap.lt_size q) hb) (Nat.lt_irrefl _)
        refine sg_update ((Walks.list hh3 _ l hneI items).toS) s.heap.objs.size
          hSf xs hisz hfew hval s.heap (none_of _ (Nat.le_refl _)) (fun b hb => none_of b (by
            rw [List.mem_singleton.mp hb, Heap.size_push]
            exact Nat.le_succ _)) (items.size - 0) 0 _ [] (by omega) (Nat.zero_le _) (fun y hy => by cases hy)
          ⟨⟨_, Heap.get?_push_size _ rfl, rfl, rfl⟩, (hl1.push _)⟩ (fun b o e => Heap.get?_push_of_some _ (Heap.get?_push_of_some _ e)) ?hS0 ?hR
        case hS0 =>
          exact sg_fresh (Heap.get?_push_of_some _ hS)
        case hR =>
          intro s' ks' hm hS' g' hkp
          obtain ⟨h', g2, d', tk', os'⟩ := s'
          have eg : g2 = s.gens := hm.gens
          have ed : d' = s.drawn := hm.drawn
          have eo : os' = s.os := hm.os
          subst eg; subst ed; subst eo
          show wpAny _ _ _ _ _ _
          refine wpAny_pure ?_
          show wpAny _ _ (ret Value.none) _ _ _
          exact wpAny_pure ⟨rfl, h', tk', ks', rfl, hS', by simpa using g', hkp⟩
      · cases r₂ with
        | error e => exact hr₂
        | ok fl₂ =>
          cases fl₂ with
          | ret r =>
            obtain ⟨rfl, h', tk, ks', rfl, hS', g', hk'⟩ := hr₂
            repeat (any_goals (first | assumption | wp_step))
            exact h _ _ _ hS' g' hk'
          | _ => exact hr₂.elim
    | _ => exact hr.elim
end
end VSet
set_option Elab.async false
set_option linter.all false
set_option maxRecDepth 100000
namespace VS
open PySem L2
section
variable {X : Cx} {W : WXX} {pr : Nat → Bool} {ex a b c : Expr} {es : List Expr} {pos : Pos}
def mAug (i : Nat) (m : M U) : MS := fun e => match e[i]? with
  | some (some (false, .int a)) => (m.bs fun u e => match u with
      | .int b => .nx (e.set i (some (false, .int (a + b))))
      | _ => .bad) e
  | _ => .bad
theorem sv_aug {i : Nat} {x : Str} {m : M U} {p : Pos} (hN : X.N.Nodup) (hi : X.N[i]? = some x) (hx : Loc X.env.scope x) (hp : pr i = false) (h : PV X W ex m) (hf : X.fn x = true ∨ X.env.scope.names.lookup x = some .local := by first | exact .inl rfl | exact .inr rfl | assumption) :
    PSV X W pr (.AugAssign (.Name x p) .Add ex pos) (mAug i m) := by
  refine PSimp (ps_aug hN hi hx h ip_add hf) fun D σ H ⟨B, e, sr, q⟩ => ?_
  unfold sAt mAug at q
  split at q
  · rename_i n z
    obtain ⟨v, h1, h2⟩ := sr.vl i _ z
    simp only [rep] at h2
    subst h2
    refine ⟨_, h1, B, e, sr, (sAt.bs (rl := rlV (ga X)) (show sAt (ga X) W pr (m.bs _) B H e σ D from q)).mono fun y H1 ⟨B1, e1, u, g1, r1, q1⟩ => ?_⟩
    cases u with
    | int k =>
      have r1' : rep (ga X) B1 (.int k) y := r1
      simp only [rep] at r1'
      exact ⟨n, k, rfl, r1', q1 B1 H1 _ (tgN_ok (u := .int (n + k)) g1.sr (by simp only [rep])) (Kp.set hp)⟩
    | _ => exact False.elim q1
  · exact q.elim
def mChn (s t : Op2) (ra rb rc : M Od) : M (Bool × U) := ra.bd fun x => rb.bd fun y => (op2 s x y).bd fun r => match r with
  | (false, .bl k) => if k then rc.bd fun z => op2 t y z else .ret (false, .bl false)
  | _ => fun _ => .bad
theorem chn_core {op op' : CmpOp} {s t : Op2} {ra rb rc : M Od} {r r' : R2} (hr : ∀ {W : WXX} {B H : Hp} {e : En} {σ : St} {u w : U} {x y : V} {z : Bool × U} {Q : VK}, SR (ga X) B H e σ → s u w = some z → Vw (ga X) B H u x → Vw (ga X) B H w y →
    tAt (ga X) W (rlO (ga X)) (M.ret z) B H e σ Q → r x y H Q) (hr' : ∀ {W : WXX} {B H : Hp} {e : En} {σ : St} {u w : U} {x y : V} {z : Bool × U} {Q : VK}, SR (ga X) B H e σ → t u w = some z → Vw (ga X) B H u x → Vw (ga X) B H w y →
    tAt (ga X) W (rlO (ga X)) (M.ret z) B H e σ Q → r' x y H Q) (σ : St) (H : Hp) (Q : VK) (h : tG (ga X) W (rlO (ga X)) (mChn s t ra rb rc) σ H Q) :
    tChain r r' (tG (ga X) W (rlR (ga X)) ra) (tG (ga X) W (rlR (ga X)) rb) (tG (ga X) W (rlR (ga X)) rc) σ H Q := by
  obtain ⟨B, e, sr, q⟩ := h
  refine ⟨B, e, sr, (tAt.bd q).mono fun x H1 ⟨B1, e1, od1, g1, r1, q1⟩ => ?_⟩
  refine ⟨B1, e1, g1.sr, (tAt.bd q1).mono fun y H2 ⟨B2, e2, od2, g2, r2, q2⟩ => ?_⟩
  obtain ⟨u, w, z, h1, h2, h3, h4⟩ := op2_ok (tAt.bd (rl := rlO (ga X)) q2)
  refine hr (W := W) g2.sr h3 (rlR.vw (S := fun _ => True) g2.sr (rlR.keep r1 g2) h1) (rlR.vw g2.sr r2 h2) fun v B3 H3 g3 r3 => ?_
  obtain ⟨B4, e4, z4, g4, r4, q4⟩ := h4 v B3 H3 g3 r3
  obtain ⟨o, u4⟩ := z4
  cases o with
  | true => exact False.elim q4
  | false =>
    cases u4 with
    | bl k =>
      have r4' : rep (ga X) B4 (.bl k) v := r4
      simp only [rep] at r4'
      refine ⟨k, r4', ?_⟩
      cases k with
      | false => exact fin_val (u := .bl false) g4.sr q4 (rep_bl false)
      | true =>
        refine ⟨B4, e4, g4.sr, (tAt.bd (rl := rlR (ga X)) (show tAt (ga X) W (rlO (ga X)) (rc.bd _) B4 H3 e4 σ Q from q4)).mono fun w' H5 ⟨B5, e5, od5, g5, r5, q5⟩ => ?_⟩
        obtain ⟨u5, w5, z5, k1, k2, k3, k4⟩ := op2_ok q5
        exact hr' (W := W) g5.sr k3 (rlR.vw (S := fun _ => True) g5.sr (rlR.keep (S' := fun _ => True) (rlR.keep (S' := fun _ => True) r2 g4) g5) k1) (rlR.vw g5.sr r5 k2) k4
    | _ => exact False.elim q4
theorem po_chn {op op' : CmpOp} {s t : Op2} {ra rb rc : M Od} (ok : BinOK X (compareOp op) s) (ok' : BinOK X (compareOp op') t) (ha : PR X W a ra) (hb : PR X W b rb) (hc : PR X W c rc) (hm : lastMarks [op, op'] [b, c] = false := by with_unfolding_all rfl) :
    PO X W (.Compare a [op, op'] [b, c] pos) (mChn s t ra rb rc) := by
  obtain ⟨r, h1, h2⟩ := ok.ex
  obtain ⟨r', k1, k2⟩ := ok'.ex
  exact PEimp (pe_chain h1 k1 ha hb hc hm) fun σ H Q h => chn_core (op := op) (op' := op') h2 k2 σ H Q h
theorem pt_chn {op op' : CmpOp} {s t : Op2} {ra rb rc : M Od} (ok : BinOK X (compareOp op) s) (ok' : BinOK X (compareOp op') t) (ha : PR X W a ra) (hb : PR X W b rb) (hc : PR X W c rc) (hm : lastMarks [op, op'] [b, c] = false := by with_unfolding_all rfl) :
    PTB X W (.Compare a [op, op'] [b, c] pos) (mTst (mChn s t ra rb rc)) := by
  obtain ⟨r, h1, h2⟩ := ok.ex
  obtain ⟨r', k1, k2⟩ := ok'.ex
  exact PTimp (pt_chain h1 k1 ha hb hc hm) fun σ H Q h => tst_core (fun σ H Q h => chn_core (op := op) (op' := op') h2 k2 σ H Q h) σ H Q h
def sInS (neg : Bool) : Op2 := fun u w => match u, w with
  | .str x, .str z => match x.cps.toList with
    | [c] => some (false, .bl (decide (c ∈ z.cps.toList) != neg))
    | _ => none
  | _, _ => none
theorem sInS_core {neg : Bool} {u w : U} {r : Bool × U} (q : sInS neg u w = some r) : ∃ c z, u = .str ⟨#[c]⟩ ∧ w = .str z ∧ r = (false, .bl (decide (c ∈ z.cps.toList) != neg)) := by
  unfold sInS at q
  split at q
  · split at q
    · rename_i x z _ c hc
      cases q
      refine ⟨c, z, ?_, rfl, rfl⟩
      congr 1
      exact str_ext (by simpa using hc)
    · cases q
  · cases q
theorem ok_inS : BinOK X (compareOp .In) (sInS false) := by
  refine ⟨_, op_in_sign, fun {W B H e σ u w x y z Q} sr q vx vy t => ?_⟩
  obtain ⟨c, s, rfl, rfl, rfl⟩ := sInS_core q
  exact ⟨c, s, vx.str, vy.str, fin_val sr (by simpa using t) (rep_bl _)⟩
theorem ok_notInS : BinOK X (compareOp .NotIn) (sInS true) := by
  refine ⟨_, op_notIn_sign, fun {W B H e σ u w x y z Q} sr q vx vy t => ?_⟩
  obtain ⟨c, s, rfl, rfl, rfl⟩ := sInS_core q
  exact ⟨c, s, vx.str, vy.str, fin_val sr (by simpa using t) (rep_bl _)⟩
def sJoin : U → List U → Option (Bool × U) := fun u us => match u, us with
  | .str x, [.lst ws] => match asStrs ws with
    | some ys => if (ys.map (·.length)).sum + ys.length * x.length ≤ 16777216 then some (false, .str (Txt.join x ys)) else none
    | none => none
  | _, _ => none
theorem ok_join : MrOK X "str" "str.join" isS sJoin := by
  refine ⟨_, _, ty_tyV, mt_join, fun sb h v => isS_ty h v, fun {W B H e σ u us x xs z Q} sr q vx rs t => ?_⟩
  unfold sJoin at q
  split at q
  · rename_i x0 ws
    split at q
    · rename_i ys hb
      split at q
      · rename_i hz
        cases q
        simp only [reps] at rs
        obtain ⟨y, r, rfl, ry, rfl⟩ := rs
        rw [asStrs_eq hb] at ry
        simp only [rep] at ry
        obtain ⟨p, vs, rfl, h1, r1⟩ := ry
        rw [reps.strs] at r1
        subst r1
        exact ⟨x0, p, ys, vx.str, rfl, .inl (SqL.of (sr.bh _ _ h1)), hz, fin_val sr t (by simp only [rep])⟩
      · cases q
    · cases q
  · cases q
def mDisp1 (mk mv : M U) : M (Bool × U) := mk.bd fun k => mv.bd fun w => if isK1 k then .ret (true, .dct [(k, w)]) else fun _ => .bad
theorem po_disp1 {mk mv : M U} (hk : PV X W a mk) (hv : PV X W b mv) : PO X W (.Dict [some a] [b] pos) (mDisp1 mk mv) := by
  refine PEimp (pe_disp (pps_cons hk hv pps_nil) rfl rfl (by simp) (by simp)) fun σ H Q ⟨B, e, sr, q⟩ p hp => ?_
  have g0 : Go (ga X) B H e σ B (upd H p (.dK [])) e σ := Go.alloc sr hp
  have bp := sr.none_of hp
  have np := sr.not_own hp
  refine ⟨B, e, g0.sr, ?_⟩
  unfold tAt at q
  unfold mDisp1 M.bd at q
  unfold tAt
  cases z : mk e with
  | bad => rw [z] at q; exact q
  | exc c u e' => rw [z] at q; exact fun cls d B' H' g x => q cls d B' H' (g0.trans g) (x.mono g0.may)
  | ok k e1 =>
    rw [z] at q
    dsimp only at q ⊢
    intro x B1 H1 g1 r1
    refine ⟨B1, e1, g1.sr, ?_⟩
    unfold tAt
    cases z2 : mv e1 with
    | bad => rw [z2] at q; exact q
    | exc c u e' => rw [z2] at q; exact fun cls d B' H' g x => q cls d B' H' ((g0.trans g1).trans g) (x.mono (g0.trans g1).may)
    | ok w e2 =>
      rw [z2] at q
      dsimp only at q ⊢
      intro y B2 H2 g2 r2
      have G : Go (ga X) B (upd H p (.dK [])) e σ B2 H2 e2 σ := g1.trans g2
      have hp2 : H2 p = some (.dK []) := G.st.fr p _ upd_same np
      have bp2 : B2 p = none := G.st.nb p _ upd_same np bp
      have np2 : ¬ own e2 σ p := fun z => by
        rcases G.sub p z with q | q
        · exact np q
        · rw [upd_same] at q; cases q
      by_cases c : isK1 k = true
      · rw [if_pos c] at q
        dsimp only [M.ret] at q
        have r1' : rep (ga X) B2 k x := rep.mono g2.st.bb r1
        have ek := rep_flat r1' c
        refine ⟨hp2, [(kOf k, y)], by rw [ek]; rfl, by simp, ?_⟩
        have G2 := g0.trans G
        refine q _ B2 _ (Go.setD G2 hp bp2 np2) ?_
        refine ⟨p, _, rfl, upd_same, .inl ⟨_, rfl, ?_⟩, bp2, np2, .inr hp⟩
        show repd (ga X) B2 [(k, w)] [(kOf k, y)]
        simp only [repd]
        exact ⟨kOf k, y, [], rfl, key_rep c, r2, rfl⟩
      · rw [if_neg c] at q
        exact q.elim
def sDictC : OpN := fun us => match us with
  | [.dct kvs] => if kvs.all fun p => isK1 p.1 then some (true, .dct kvs) else none
  | _ => none
def rDictC (Γ : Ga) : List V → Hp → VK → Prop := fun xs H Q => ∃ B kvs a, Same B H ∧ xs = [.ref a] ∧ DN Γ B H a kvs ∧ (∀ p ∈ kvs, isK1 p.1 = true) ∧ ∀ es p, repd Γ B kvs es → H p = none → Q (.ref p) (upd H p (.dK es))
theorem cr_dictC : CallR X (.type "dict") (rDictC (ga X)) := by
  intro pins s σ H xs us Q I r h
  obtain ⟨B, kvs, a, sb, rfl, d, ok, q⟩ := h
  rw [Vals.ref1 r]
  obtain ⟨vs, dd, p, hd, z⟩ := flatview I d ok
  obtain ⟨es, q1, q2⟩ := repd.of p
  refine kt_call_dict hd dd (by rw [← kr_len p]; exact z) fun h' dd' hs => ?_
  have hn : H s.heap.objs.size = none := I.hok.fresh (Nat.le_refl _)
  refine ⟨.ref s.heap.objs.size, _, I.laid (a := s.heap.objs.size) (o := .dK es) (t' := s.toks) (fun b q hq => ?_) (Nat.le_refl _) (dk_new (by rw [q2.length, ← kr_len p]; exact z) (beq_eq_false_iff_ne.mpr (Ne.symm (Nat.ne_of_lt I.big))) q2 dd'), rfl, q es _ q1 hn⟩
  exact (hs.2 b (Nat.ne_of_lt (Heap.lt_size hq))).trans (Heap.get?_push_of_some _ hq)
theorem ok_dictC : CallOK X (.type "dict") sDictC := by
  refine ⟨_, cr_dictC, fun {W B H e σ us xs z Q} sr q vx t => ?_⟩
  unfold sDictC at q
  split at q
  · split at q
    · rename_i kvs hk
      cases q
      obtain ⟨v, rfl, v1⟩ := vws1 vx
      obtain ⟨a, rfl, d⟩ := v1.dn sr.bh
      refine ⟨B, kvs, a, sr.bh, rfl, d, fun p hp => List.all_eq_true.mp hk p hp, fun es p r hp => ?_⟩
      exact fin_new (ho := fun _ => .dK es) sr t (fun p => .inl ⟨es, rfl, r⟩) p hp
    · cases q
  · cases q
end
end VS
set_option Elab.async false
set_option linter.all false
set_option maxRecDepth 100000
namespace VS
open PySem L2
section
variable {X : Cx} {pins : List (Addr × Obj)} {σ : St} {H B : Hp} {s : Shared}
theorem repd_keys : ∀ {kvs : List (U × U)} {es : List (Key × V)} {ns : List Str}, repd (ga X) B kvs es → asStrs (kvs.map (·.1)) = some ns → es.map (·.1) = ns.map Sum.inr
  | [], _, ns, h, k => by
    simp only [repd] at h
    subst h
    have := asStrs_eq k
    cases ns with
    | nil => rfl
    | cons a r => simp at this
  | (k, u) :: kvs, _, ns, h, q => by
    simp only [repd] at h
    obtain ⟨l, v, r, rfl, r1, r2, r3⟩ := h
    have e := asStrs_eq q
    cases ns with
    | nil => simp at e
    | cons x ns =>
      simp only [List.map_cons, List.cons.injEq] at e
      obtain ⟨e1, e2⟩ := e
      have e1' : k = .str x := e1
      subst e1'
      have := (rep_key r1).2
      rw [List.map_cons, List.map_cons, ← this]
      congr 1
      exact repd_keys r3 (by rw [e2]; exact asStrs_map ns)
def sSortD : OpN := fun us => match us with
  | [.dct kvs] => match asStrs (kvs.map (·.1)) with
    | some ns => if ns.length < 64 then some (true, .lst ((sortS ns).map .str)) else none
    | none => none
  | _ => none
def rSortD (Γ : Ga) : List V → Hp → VK → Prop := fun xs H Q => ∃ B kvs ns a, Same B H ∧ xs = [.ref a] ∧ DN Γ B H a kvs ∧ asStrs (kvs.map (·.1)) = some ns ∧ ns.length < 64 ∧ ∀ p, H p = none → Q (.ref p) (upd H p (.lst ((sortS ns).map .str)))
theorem cr_sortD (hc : X.calm = true) : CallR X (.builtin "sorted") (rSortD (ga X)) := by
  intro pins s σ H xs us Q I r h
  obtain ⟨B, kvs, ns, a, sb, rfl, d, hk, hl, q⟩ := h
  rcases d with ⟨es, e, rd⟩ | ⟨xs, e, rx⟩
  · refine call_sortedD hc pins s σ H [.ref a] us Q I r ⟨a, es, ns, rfl, e, repd_keys rd hk, hl, fun ys p pm st hp => ?_⟩
    rw [sortS_unique pm (sortedS_pair st)]
    exact q p hp
  · cases kvs with
    | cons p kvs =>
      obtain ⟨a1, _, _⟩ := rx.all
      have h1 := a1 p List.mem_cons_self
      have h2 := asStrs_eq hk
      cases ns with
      | nil => simp at h2
      | cons x ns =>
        simp only [List.map_cons, List.cons.injEq] at h2
        rw [h2.1] at h1
        simp [isKx] at h1
    | nil =>
      simp only [repx] at rx
      subst rx
      obtain ⟨x, _, _⟩ := (show ObjOk X.prog X.w H s.heap a (DX a []) from Rd.ok e I.hok)
      exact (dxs_empty x).elim
theorem ok_sortD (hc : X.calm = true) : CallOK X (.builtin "sorted") sSortD := by
  refine ⟨_, cr_sortD hc, fun {W B H e σ us xs z Q} sr q vx t => ?_⟩
  unfold sSortD at q
  split at q
  · rename_i kvs
    split at q
    · rename_i ns hk
      split at q
      · rename_i hl
        cases q
        obtain ⟨v, rfl, v1⟩ := vws1 vx
        obtain ⟨a, rfl, d⟩ := v1.dn sr.bh
        refine ⟨B, kvs, ns, a, sr.bh, rfl, d, hk, hl, fun p hp => ?_⟩
        have e : ((sortS ns).map U.str) = (sortS ns).map U.str := rfl
        exact fin_new (ho := fun _ => .lst _) sr t (fun p => ⟨_, rfl, (reps.strs _).mpr rfl⟩) p hp
      · cases q
    · cases q
  · cases q
end
def dedS : List Str → List Str
  | [] => []
  | x :: r => if x ∈ r then dedS r else x :: dedS r
theorem mem_dedS {y : Str} : ∀ {xs : List Str}, y ∈ dedS xs ↔ y ∈ xs
  | [] => by simp [dedS]
  | x :: r => by
    unfold dedS
    split
    · rename_i h
      rw [mem_dedS, List.mem_cons]
      exact ⟨.inr, fun z => z.elim (fun e => e ▸ h) id⟩
    · rw [List.mem_cons, List.mem_cons, mem_dedS]
theorem nodup_dedS : ∀ (xs : List Str), (dedS xs).Nodup
  | [] => by simp [dedS]
  | x :: r => by
    unfold dedS
    split
    · exact nodup_dedS r
    · rename_i h
      exact List.nodup_cons.mpr ⟨fun z => h (mem_dedS.mp z), nodup_dedS r⟩
theorem perm_of_mem : ∀ {a b : List Str}, a.Nodup → b.Nodup → (∀ y, y ∈ a ↔ y ∈ b) → a.Perm b
  | [], b, _, _, h => by
    cases b with
    | nil => exact .refl _
    | cons x r => have := (h x).mpr List.mem_cons_self; cases this
  | x :: a, b, ha, hb, h => by
    have hx : x ∈ b := (h x).mp List.mem_cons_self
    obtain ⟨na, ha⟩ := List.nodup_cons.mp ha
    have p := List.perm_cons_erase hx
    refine (List.Perm.cons x (perm_of_mem ha (hb.erase x) fun y => ?_)).trans p.symm
    rw [hb.mem_erase_iff]
    constructor
    · intro hy
      exact ⟨fun e => na (e ▸ hy), (h y).mp (List.mem_cons_of_mem _ hy)⟩
    · rintro ⟨n, hy⟩
      rcases List.mem_cons.mp ((h y).mpr hy) with e | z
      · exact absurd e n
      · exact z
theorem sortSet_unique {ns ks xs : List Str} (st : PyProof.Rows.sortedS ns = true) (pm : ns.Perm ks) (nd : ks.Nodup) (h : ∀ y, y ∈ ks ↔ y ∈ xs) : ns = sortS (dedS xs) :=
  sortS_unique (pm.trans (perm_of_mem nd (nodup_dedS xs) fun y => by rw [h y, mem_dedS])) (sortedS_pair st)
theorem keyVs_strs {P : Program} {w : World} : ∀ {ys : List Str} {us : List Value}, Vals (ys.map V.str) us → VSet.KeyVs (PySem.strKind P w) us ys
  | [], _, .nil => .nil
  | y :: ys, _, .cons r t => by
    obtain ⟨k, rfl⟩ := r
    exact .cons ⟨by simp [PySem.strKind, Value.isStrOf], rfl⟩ (keyVs_strs t)
section
open PyProof.Rows
variable {X : Cx} {W : WXX} {a : Expr} {p p2 q pos : Pos}
end
end VS
set_option Elab.async false
set_option linter.all false
set_option maxRecDepth 100000
namespace VS
open PySem L2
def tyU : U → Option String
  | .non => some "NoneType"
  | .bl _ => some "bool"
  | .int _ => some "int"
  | .str _ => some "str"
  | .lst _ => some "list"
  | .scr _ => some "list"
  | .tup _ => some "tuple"
  | _ => none
def subT (a b : String) : Bool := a == b || (a == "bool" && b == "int")
theorem kit_tab (K : PySem.W.Frag) : (["NoneType", "bool", "int", "str", "list", "tuple", "dict"].all fun a => ["bool", "int", "str", "list", "tuple", "dict"].all fun b => decide (PySem.W.kitOne K (.type a) (.type b) = some (subT a b))) = true := by
  rfl
theorem tyU_ok {Γ : Ga} {B H : Hp} {u : U} {v : V} {t : String} (s : Same B H) (h : Vw Γ B H u v) (q : tyU u = some t) : TyX Γ.K H v (.type t) := by
  cases u with
  | non => cases h.non; cases q; exact .base .non
  | bl k => cases h.bl; cases q; exact .base (.bl _)
  | int i => cases h.int; cases q; exact .base (.int _)
  | str x => cases h.str; cases q; exact .base (.str _)
  | lst us =>
    obtain ⟨a, vs, rfl, h1, r⟩ := h.lst s
    cases q
    exact .base (.lst h1)
  | tup us =>
    obtain ⟨a, vs, rfl, h1, r⟩ := h.tup s
    cases q
    rcases h1 with (h1 | ⟨o, h1⟩) | ⟨o, its, n, k1, k2, _⟩
    · exact .base (.tup h1)
    · exact .fTuple h1
    · exact .kTuple k1 k2
  | scr ns =>
    obtain ⟨a, rfl, h1⟩ := h.scr s
    cases q
    rcases h1 with (h1 | ⟨o, h1⟩) | ⟨o, its, n, k1, k2, _⟩
    · exact .base (.lst h1)
    · exact .base (.frz h1)
    · exact .kList k1 k2
  | _ => cases q
def mIsi (T : String) (m : M Od) : M (Bool × U) := m.bd fun od e => match rdO e od with
  | some u => match tyU u with
    | some t => .ok (false, .bl (subT t T)) e
    | none => .bad
  | none => .bad
section
variable {X : Cx} {W : WXX} {ex : Expr} {x : Str} {p pn pos : Pos}
theorem po_isi {m : M Od} {T : String} (hT : T ∈ ["bool", "int", "str", "list", "tuple", "dict"]) (hg : Gl X "isinstance") (hm : X.mg "isinstance" = none) (hg2 : Gl X x) (hm2 : X.mg x = none) (hv2 : bootBuiltins x = some (.type T)) (h : PR X W ex m)
    (hn2 : x ≠ "__name__" := by decide) (hdb2 : (x == ("__debug__" : Str)) = false := by decide)
    (he : starEach [ex, .Name x pn] X.env = (false, eval ex X.env) :: starEach [.Name x pn] X.env := by rfl) (he2 : starEach [.Name x pn] X.env = [(false, eval (.Name x pn) X.env)] := by rfl) (hpl : (backTo pos (starEach [.Name x pn] X.env)).any (·.1) = false := by rfl) :
    PO X W (.Call (.Name "isinstance" p) [ex, .Name x pn] [] pos) (mIsi T m) := by
  have hb : bootBuiltins "isinstance" = some (.builtin "isinstance") := by decide +kernel
  refine PEimp (pe_callB call_isi hg hm hb (pa_cons h (pa_cons (pe_bltn (v := .ty T) hg2 hm2 hv2 rfl hn2 hdb2) pa_nil he2) he) (by decide) (by decide) he hpl) fun σ H Q ⟨B, e, sr, q⟩ => ⟨B, e, sr, (tAt.bd q).mono fun v H1 ⟨B1, e1, od, g1, r1, q1⟩ => ?_⟩
  unfold tAt at q1
  dsimp only at q1
  cases z1 : rdO e1 od with
  | none => rw [z1] at q1; exact q1.elim
  | some u =>
    rw [z1] at q1
    dsimp only at q1
    cases z2 : tyU u with
    | none => rw [z2] at q1; exact q1.elim
    | some t =>
      rw [z2] at q1
      have ht : t ∈ ["NoneType", "bool", "int", "str", "list", "tuple", "dict"] := by cases u <;> simp only [tyU, Option.some.injEq] at z2 <;> first | (subst z2; simp) | cases z2
      have k := kit_tab X.K
      simp only [List.all_eq_true] at k
      have k' := of_decide_eq_true (k t ht T hT)
      exact ⟨v, .ty T, .type t, .type T, _, rfl, .ty T, tyU_ok g1.sr.bh (rlR.vw g1.sr r1 z1) z2, k', fin_val (W := W) g1.sr q1 (rep_bl _)⟩
end
end VS
set_option Elab.async false
set_option linter.all false
set_option maxRecDepth 100000
namespace VS
open PySem L2
def ItkX (d : Addr) (o : Obj) (xs : List Xe) : It :=
  ⟨fun i H => H d = some (.frz o (DX d xs)) ∧ i < xs.length, fun i H x H' => H' = H ∧ ∃ e, xs[i]? = some e ∧ x = .ref e.k, fun i H => H d = some (.frz o (DX d xs)) ∧ xs.length ≤ i⟩
theorem frzX {X : Cx} {pins : List (Addr × Obj)} {σ : St} {H : Hp} {s : Shared} {d : Addr} {o : Obj} {xs : List Xe} (I : Inv X pins σ H s) (h : H d = some (.frz o (DX d xs))) :
    (d == sysModules) = false ∧ s.heap.get? d = some o ∧ o.ExactDict ∧ ∃ (es : Array DictEntry) (ep : Nat), o.data = .dict es ep ∧ es.size = xs.length ∧ ∀ (i : Nat) (e : Xe), xs[i]? = some e → ∃ en : DictEntry, es[i]? = some en ∧ en.key = .ref e.k := by
  obtain ⟨hd, z, _⟩ := (show ObjOk X.prog X.w H s.heap d (.frz o (DX d xs)) from I.hok d _ h)
  obtain ⟨_, hs, o', es, ep, ho, hx, hdt, pr⟩ := z
  rw [hd] at ho
  cases ho
  refine ⟨hs, hd, hx, es, ep, hdt, ?_, fun i e q => ?_⟩
  · rw [← Array.length_toList, ← paired_len pr]
  · obtain ⟨en, h1, h2⟩ := paired_get pr q
    exact ⟨en, by rw [← Array.getElem?_toList]; exact h1, h2.2.1⟩
section
variable {P : Program} {w : World} {K : PySem.W.Frag} {tg : Expr} {d : Addr} {o : Obj} {es : Array DictEntry} {ep : Nat}
theorem turn_keysX {xs : List Xe} (it : Addr) (hod : o.data = .dict es ep) : Turn P w K tg (ItkX d o xs) [it] it (fun i h => h.IsKeyIter it d i xs.length ep) where
  mem := by simp
  obj := fun i h st b hb => by
    have e : b = it := by simpa using hb
    subst e
    obtain ⟨oi, e, c, dd⟩ := st
    exact ⟨oi, e, fun v z => by rw [dd] at z; cases z⟩
  keep := fun i h h' st k => st.at fun oi e => k it (by simp) oi e
  item := by
    intro X hP hw hK hc i pins s σ H E I hf st hg
    subst hP hw hK
    obtain ⟨hd, hi⟩ := hg
    obtain ⟨f0, f1, f2, f3, f4, f5⟩ := hf it (by simp)
    obtain ⟨hs, hgd, hx, es', ep', hdt, hsz, ent⟩ := frzX I hd
    obtain ⟨rfl, rfl⟩ := dict_ep hod hdt
    obtain ⟨e0, he0⟩ : ∃ p, xs[i]? = some p := ⟨xs[i], List.getElem?_eq_getElem hi⟩
    obtain ⟨en, hen, hkey⟩ := ent i e0 he0
    refine next_key_item st hgd hdt hsz hen fun h' st' sb => ?_
    have I1 : Inv X pins σ H { s with heap := h' } := I.turned (t' := s.toks) (fun b ob hb e => (sb.2 b hb).trans e) f0 f1 f3 f4 f5
    obtain ⟨oi, e, c, dd⟩ := id st'
    exact ⟨en.key, rfl, go_of (s := { s with heap := h' }) e c dd (by decide) ⟨.ref e0.k, H, I1, hkey, ⟨rfl, e0, he0, rfl⟩, st', fun b hb => (hf b hb).1⟩⟩
  done := by
    intro X hP hw hK hc i pins s σ H E I hf st hg
    subst hP hw hK
    obtain ⟨hd, hi⟩ := hg
    obtain ⟨f0, f1, f2, f3, f4, f5⟩ := hf it (by simp)
    obtain ⟨hs, hgd, hx, es', ep', hdt, hsz, ent⟩ := frzX I hd
    obtain ⟨rfl, rfl⟩ := dict_ep hod hdt
    exact next_key_end (I.ok.hd hc) st hgd hdt hsz hi fun h' eb => ⟨rfl, I.turned (t' := s.toks) (fun b ob hb e => eb b ob hb e) f0 f1 f3 f4 f5⟩
  self := fun A i s Q E st h => by
    refine wpAny_pyIter_slot st.typeIs F.slot_dict_keyiterator_iter (wpAny_call_entry F.slot_dict_keyiterator_iter st.typeIs F.entry_dict_keyiterator_iter ?_ (F.args_dict_keyiterator_iter_1 _))
    show wpAny _ _ (ret (.ref it)) _ _ s
    exact wpAny_pure ⟨_, rfl, "dict_keyiterator", _, st.typeIs, F.slot_dict_keyiterator_next.lookup, h⟩
end
section
variable {X : Cx} {W : WXX} {tg ex : Expr}
def iAny (K : PySem.W.Frag) (tl : TE) : TI := fun σ H R => tl σ H fun x H1 => (∃ a, x = .ref a ∧ (∃ xs, SqL K H1 a xs) ∧ R (Itl K a) H1) ∨ (∃ a, x = .ref a ∧ (∃ xs, SqT K H1 a xs) ∧ R (Itt K a) H1) ∨ (∃ z, x = .str z ∧ R (Its z) H1) ∨ (∃ d o kvs, x = .ref d ∧ H1 d = some (.frz o (.dK kvs)) ∧ R (Itk d o kvs) H1) ∨ ∃ d o xs, x = .ref d ∧ H1 d = some (.frz o (DX d xs)) ∧ R (ItkX d o xs) H1
theorem pi_any {l : Expr} {tl : TE} (hl : PE X l tl) : PI X tg l (iAny X.K tl) := by
  refine ⟨fun pins s σ H R I h => ?_⟩
  refine thn (hl.run pins s σ H _ I h) fun v s1 ⟨x, H1, I1, r1, q1⟩ => ?_
  rcases q1 with ⟨a, e, ⟨xs, hq⟩, q⟩ | ⟨a, e, ⟨xs, hq⟩, q⟩ | ⟨z, e, q⟩ | ⟨d, o, kvs, e, hd, q⟩ | ⟨d, o, xs, e, hd, q⟩
  · subst e
    cases r1
    obtain ⟨its, rv, p, hz⟩ := I1.list hq
    exact wpAny_pyIter_list p.isList (pi_one (tk := s1.toks) I1 _ (turn_list a _) ⟨_, Heap.get?_push_size _ rfl, rfl, rfl⟩ q)
  · subst e
    cases r1
    obtain ⟨its, rv, p, hz⟩ := I1.tuple hq
    exact wpAny_pyIter_tuple (show s1.heap.IsTuple a its.toArray from p) (pi_one (tk := s1.toks) I1 _ (turn_tuple a _) ⟨_, Heap.get?_push_size _ rfl, rfl, rfl⟩ q)
  · subst e
    obtain ⟨t, rfl⟩ := r1
    cases ha : z.cps.all (· < 128)
    · exact wpAny_pyIter_wide ha (pi_one (tk := s1.toks) I1 _ (turn_str _ z t "str_iterator" (.inr rfl)) ⟨_, Heap.get?_push_size _ rfl, rfl, rfl⟩ q)
    · exact wpAny_pyIter_ascii ha (pi_one (tk := s1.toks) I1 _ (turn_str _ z t "str_ascii_iterator" (.inl rfl)) ⟨_, Heap.get?_push_size _ rfl, rfl, rfl⟩ q)
  · subst e
    obtain rfl : v = Value.ref d := r1
    obtain ⟨hs, hgd, hx, es, ep, vs, hdt, hsz, kv, hm⟩ := I1.frzK hd
    refine iter_keys hs hgd hx hdt (pi_one (tk := s1.toks) I1 _ (turn_keys _ hdt) ⟨_, Heap.get?_push_size _ rfl, rfl, ?_⟩ q)
    rw [hsz] <;> rfl
  · subst e
    obtain rfl : v = Value.ref d := r1
    obtain ⟨hs, hgd, hx, es, ep, hdt, hsz, ent⟩ := frzX I1 hd
    refine iter_keys hs hgd hx hdt (pi_one (tk := s1.toks) I1 _ (turn_keysX _ hdt) ⟨_, Heap.get?_push_size _ rfl, rfl, ?_⟩ q)
    rw [hsz] <;> rfl
theorem repx_get {Γ : Ga} {B : Hp} : ∀ {kvs : List (U × U)} {es : List Xe} {i : Nat} {p : U × U}, repx Γ B kvs es → kvs[i]? = some p → ∃ e, es[i]? = some e ∧ rep Γ B p.1 (.ref e.k) ∧ rep Γ B p.2 e.v
  | [], _, i, p, _, h => by simp at h
  | (k, u) :: kvs, _, i, p, r, h => by
    simp only [repx] at r
    obtain ⟨l, v, t, rfl, _, r1, r2, r3⟩ := r
    cases i with
    | zero => cases h; exact ⟨_, rfl, r1, r2⟩
    | succ i => obtain ⟨e, h1, h2⟩ := repx_get r3 (i := i) h; exact ⟨e, h1, h2⟩
theorem repx_len {Γ : Ga} {B : Hp} : ∀ {kvs : List (U × U)} {es : List Xe}, repx Γ B kvs es → kvs.length = es.length
  | [], _, r => by simp only [repx] at r; subst r; rfl
  | (k, u) :: kvs, _, r => by
    simp only [repx] at r
    obtain ⟨l, v, t, rfl, _, _, _, r3⟩ := r
    rw [List.length_cons, List.length_cons, repx_len r3]
theorem repd_get {Γ : Ga} {B : Hp} : ∀ {kvs : List (U × U)} {es : List (Key × V)} {i : Nat} {p : U × U}, repd Γ B kvs es → kvs[i]? = some p → ∃ k v, es[i]? = some (k, v) ∧ rep Γ B p.1 (kV k) ∧ rep Γ B p.2 v
  | [], _, i, p, _, h => by simp at h
  | (k, u) :: kvs, _, i, p, r, h => by
    simp only [repd] at r
    obtain ⟨l, v, t, rfl, r1, r2, r3⟩ := r
    cases i with
    | zero => cases h; exact ⟨l, v, rfl, r1, r2⟩
    | succ i => exact repd_get (i := i) r3 h
theorem repd_len {Γ : Ga} {B : Hp} : ∀ {kvs : List (U × U)} {es : List (Key × V)}, repd Γ B kvs es → kvs.length = es.length
  | [], _, r => by simp only [repd] at r; subst r; rfl
  | (k, u) :: kvs, _, r => by
    simp only [repd] at r
    obtain ⟨l, v, t, rfl, r1, r2, r3⟩ := r
    simp [repd_len r3]
def srcA (u : U) : M Src := match u with
  | .lst us => .ret ⟨us, [], none⟩
  | .scr ns => .ret ⟨ns.map .int, [], none⟩
  | .tup us => .ret ⟨us, [], none⟩
  | .tpd us => .ret ⟨us, [], none⟩
  | .str x => .ret ⟨strL x, [], none⟩
  | .dct kvs => .ret ⟨kvs.map (·.1), [], none⟩
  | _ => fun _ => .bad
def mItA (m : M U) : M Src := m.bd srcA
theorem iv_any {m : M U} (h : PV X W ex m) : PIV X W tg ex (mItA m) := by
  refine PIimp (pi_any h) fun σ H R q => ?_
  obtain ⟨B, e, sr, q⟩ := iG.of (rl := rlV (ga X)) q
  refine ⟨B, e, sr, q.mono fun x H1 ⟨B1, e1, u, s1, r1, q1⟩ => ?_⟩
  cases u with
  | lst us =>
    have r1' : rep (ga X) B1 (.lst us) x := r1
    simp only [rep] at r1'
    obtain ⟨a, vs, rfl, h1, rr⟩ := r1'
    refine .inl ⟨a, rfl, ⟨vs, SqL.of (s1.bh _ _ h1)⟩, q1 _ B1 H1 (Go.refl s1) ?_ trivial⟩
    refine ⟨fun B H k u s1 s2 _ hk => ?_, fun B H s1 s2 _ => ⟨vs, SqL.of (s2 _ _ (s1 _ _ h1)), by rw [rr.length]; exact Nat.le_refl _⟩⟩
    obtain ⟨v, hv, rv⟩ := rr.get hk
    exact ⟨⟨vs, v, SqL.of (s2 _ _ (s1 _ _ h1)), hv⟩, fun x H' ⟨e, q⟩ => ⟨B, .inl ⟨rfl, e⟩, by
      have := q vs (SqL.of (s2 _ _ (s1 _ _ h1)))
      rw [hv] at this
      cases this
      exact rv.mono s1⟩⟩
  | scr ns =>
    have r1' : rep (ga X) B1 (.scr ns) x := r1
    simp only [rep] at r1'
    obtain ⟨a, rfl, h1⟩ := r1'
    refine .inl ⟨a, rfl, ⟨_, sqL_same s1.bh h1⟩, q1 _ B1 H1 (Go.refl s1) ?_ trivial⟩
    refine ⟨fun B H k u s1 s2 _ hk => ?_, fun B H s1 s2 _ => ⟨_, sqL_same (s1.trans s2) h1, by simp⟩⟩
    obtain ⟨n, hn, rfl⟩ : ∃ n, ns[k]? = some n ∧ u = .int n := by
      rw [List.getElem?_map] at hk
      cases z : ns[k]? with
      | none => rw [z] at hk; cases hk
      | some n => rw [z] at hk; cases hk; exact ⟨n, rfl, rfl⟩
    have hv : (ns.map V.int)[k]? = some (.int n) := by rw [List.getElem?_map, hn]; rfl
    exact ⟨⟨_, _, sqL_same (s1.trans s2) h1, hv⟩, fun x H' ⟨e, q⟩ => ⟨B, .inl ⟨rfl, e⟩, by
      have := q _ (sqL_same (s1.trans s2) h1)
      rw [hv] at this
      cases this
      exact rep_int _⟩⟩
  | tup us =>
    have r1' : rep (ga X) B1 (.tup us) x := r1
    simp only [rep] at r1'
    obtain ⟨a, vs, rfl, h1, rr⟩ := r1'
    refine .inr (.inl ⟨a, rfl, ⟨vs, sqT_same s1.bh h1⟩, q1 _ B1 H1 (Go.refl s1) ?_ trivial⟩)
    refine ⟨fun B H k u s1 s2 _ hk => ?_, fun B H s1 s2 _ => ⟨vs, sqT_same (s1.trans s2) h1, by rw [rr.length]; exact Nat.le_refl _⟩⟩
    obtain ⟨v, hv, rv⟩ := rr.get hk
    exact ⟨⟨vs, v, sqT_same (s1.trans s2) h1, hv⟩, fun x H' ⟨e, q⟩ => ⟨B, .inl ⟨rfl, e⟩, by
      have := q vs (sqT_same (s1.trans s2) h1)
      rw [hv] at this
      cases this
      exact rv.mono s1⟩⟩
  | tpd us =>
    have r1' : rep (ga X) B1 (.tup us) x := rep_tpd r1
    simp only [rep] at r1'
    obtain ⟨a, vs, rfl, h1, rr⟩ := r1'
    refine .inr (.inl ⟨a, rfl, ⟨vs, sqT_same s1.bh h1⟩, q1 _ B1 H1 (Go.refl s1) ?_ trivial⟩)
    refine ⟨fun B H k u s1 s2 _ hk => ?_, fun B H s1 s2 _ => ⟨vs, sqT_same (s1.trans s2) h1, by rw [rr.length]; exact Nat.le_refl _⟩⟩
    obtain ⟨v, hv, rv⟩ := rr.get hk
    exact ⟨⟨vs, v, sqT_same (s1.trans s2) h1, hv⟩, fun x H' ⟨e, q⟩ => ⟨B, .inl ⟨rfl, e⟩, by
      have := q vs (sqT_same (s1.trans s2) h1)
      rw [hv] at this
      cases this
      exact rv.mono s1⟩⟩
  | str t =>
    have r1' : rep (ga X) B1 (.str t) x := r1
    simp only [rep] at r1'
    subst r1'
    refine .inr (.inr (.inl ⟨t, rfl, q1 _ B1 H1 (Go.refl s1) ⟨fun B H k u s1 s2 _ hk => ?_, fun B H s1 s2 _ => ?_⟩ trivial⟩))
    · unfold strL at hk
      rw [List.getElem?_map, Array.getElem?_toList] at hk
      cases z : t.cps[k]? with
      | none => rw [z] at hk; cases hk
      | some c =>
        rw [z] at hk
        cases hk
        refine ⟨?_, fun x H' ⟨e, c', h1, h2⟩ => ⟨B, .inl ⟨rfl, e⟩, ?_⟩⟩
        · rcases Nat.lt_or_ge k t.cps.size with z' | z'
          · exact z'
          · rw [Array.getElem?_eq_none z'] at z; cases z
        · rw [z] at h1
          cases h1
          rw [h2]
          simp only [rep]
    · show t.cps.size ≤ _
      unfold strL
      simp
  | dct kvs =>
    have r1' : rep (ga X) B1 (.dct kvs) x := r1
    simp only [rep] at r1'
    obtain ⟨a, rfl, r1'⟩ := r1'
    dsimp only [srcA] at q1
    rcases r1' with ⟨o, es, hB, rr⟩ | ⟨o, xs, hB, rr⟩
    · refine .inr (.inr (.inr (.inl ⟨a, o, es, rfl, s1.bh _ _ hB, q1 _ B1 H1 (Go.refl s1) ⟨fun B H k u t1 t2 _ hk => ?_, fun B H t1 t2 _ => ⟨t2 _ _ (t1 _ _ hB), ?_⟩⟩ trivial⟩)))
      · have hk : (kvs.map (·.1))[k]? = some u := hk
        rw [List.getElem?_map] at hk
        cases z : kvs[k]? with
        | none => rw [z] at hk; cases hk
        | some p =>
          rw [z] at hk
          cases hk
          obtain ⟨l, v, e1, e2, _⟩ := repd_get rr z
          have hl : k < es.length := by
            rcases Nat.lt_or_ge k es.length with y | y
            · exact y
            · rw [List.getElem?_eq_none y] at e1; cases e1
          refine ⟨⟨t2 _ _ (t1 _ _ hB), hl⟩, fun x H' ⟨e, l', v', e3, e4⟩ => ⟨B, .inl ⟨rfl, e⟩, ?_⟩⟩
          rw [e1] at e3
          cases e3
          rw [e4]
          exact e2.mono t1
      · show es.length ≤ (kvs.map (·.1)).length
        rw [List.length_map, repd_len rr]
        exact Nat.le_refl _
    · refine .inr (.inr (.inr (.inr ⟨a, o, xs, rfl, s1.bh _ _ hB, q1 _ B1 H1 (Go.refl s1) ⟨fun B H k u t1 t2 _ hk => ?_, fun B H t1 t2 _ => ⟨t2 _ _ (t1 _ _ hB), ?_⟩⟩ trivial⟩)))
      · have hk : (kvs.map (·.1))[k]? = some u := hk
        rw [List.getElem?_map] at hk
        cases z : kvs[k]? with
        | none => rw [z] at hk; cases hk
        | some p =>
          rw [z] at hk
          cases hk
          obtain ⟨e0, e1, e2, _⟩ := repx_get rr z
          have hl : k < xs.length := by
            rcases Nat.lt_or_ge k xs.length with y | y
            · exact y
            · rw [List.getElem?_eq_none y] at e1; cases e1
          refine ⟨⟨t2 _ _ (t1 _ _ hB), hl⟩, fun x H' ⟨e, e0', e3, e4⟩ => ⟨B, .inl ⟨rfl, e⟩, ?_⟩⟩
          rw [e1] at e3
          cases e3
          rw [e4]
          exact e2.mono t1
      · show xs.length ≤ (kvs.map (·.1)).length
        rw [List.length_map, repx_len rr]
        exact Nat.le_refl _
  | _ => exact False.elim q1
end
def NoG (m : M Src) : Prop := ∀ e s e', m e = .ok s e' → s.g = none
theorem NoG.bd {m : M U} {k : U → M Src} (h : ∀ u, NoG (k u)) : NoG (m.bd k) := fun e s e' q => by
  unfold M.bd at q
  cases z : m e with
  | ok u e1 => rw [z] at q; exact h u _ _ _ q
  | exc c u e1 => rw [z] at q; cases q
  | bad => rw [z] at q; cases q
theorem NoG.ret {us src : List U} : NoG (M.ret ⟨us, src, none⟩) := fun e s e' q => by cases q; rfl
theorem NoG.bad : NoG (fun _ => .bad) := fun e s e' q => by cases q
theorem nog_any {m : M U} : NoG (mItA m) := NoG.bd fun u => by
  cases u <;> first | exact NoG.ret | exact NoG.bad | (dsimp only [srcA]; split <;> first | exact NoG.ret | exact NoG.bad)
theorem nog_rg1 {m : M U} : NoG (mRg1 m) := NoG.bd fun u => by
  cases u <;> first | exact NoG.bad | (dsimp only; split <;> first | exact NoG.ret | exact NoG.bad)
theorem NoG.src {m : M Src} (h : NoG m) {pr : Nat → Bool} : SrcIn pr m := fun e s e' q i hi => by rw [h e s e' q] at hi; cases hi
def prL (l : List Nat) : Nat → Bool := fun i => l.contains i
theorem prL_sub {l l' : List Nat} (h : (l.all fun i => l'.contains i) = true) : ∀ i, prL l i = true → prL l' i = true := fun i hi => by
  unfold prL at *
  have : i ∈ l := by simpa using hi
  exact List.all_eq_true.mp h i this
section
variable {X : Cx} {W : WXX} {pr pr' : Nat → Bool} {ex tg iter elt a b c : Expr} {es body : List Expr} {x : Str} {k n : Nat} {pos p : Pos}
theorem pr_n (i : Nat) (hN : X.N[i]? = some x := by rfl) (hv : Vis X.env.scope x := by first | exact Or.inl rfl | exact Or.inr (Or.inl rfl) | exact Or.inr (Or.inr rfl)) (hd : (x == ("__debug__" : Str)) = false := by decide) (hcd : (x == ("__classdict__" : Str)) = false := by decide) : PR X W (.Name x pos) (mSl i) := pr_name hN hv hd hcd
theorem pv_n (i : Nat) (hN : X.N[i]? = some x := by rfl) (hv : Vis X.env.scope x := by first | exact Or.inl rfl | exact Or.inr (Or.inl rfl) | exact Or.inr (Or.inr rfl)) (hd : (x == ("__debug__" : Str)) = false := by decide) (hcd : (x == ("__classdict__" : Str)) = false := by decide) : PV X W (.Name x pos) (mN i) := pv_name hN hv hd hcd
theorem gv_n (i : Nat) (ct : Ct X W k) (hN : X.N[i]? = some x := by rfl) (hx : Loc X.env.scope x := by first | exact Or.inl rfl | exact Or.inr rfl) (hp : pr i = false := by rfl) (hf : X.fn x = true ∨ X.env.scope.names.lookup x = some .local := by first | exact .inl rfl | exact .inr rfl) : PGV X pr (.Name x pos) (tgN i) := gv_name ct.hN hN hx hp hf
end
end VS
set_option Elab.async false
set_option linter.all false
set_option maxRecDepth 100000
namespace VS
open PySem L2
def lkU (f : Str) : List (Str × U) → Option U
  | [] => none
  | (g, u) :: r => if g = f then some u else lkU f r
def putU (f : Str) (u : U) : List (Str × U) → List (Str × U)
  | [] => [(f, u)]
  | (g, x) :: r => if g = f then (g, u) :: r else (g, x) :: putU f u r
section
variable {Γ : Ga} {B : Hp}
theorem repf.lk {f : Str} {u : U} : ∀ {fs : List (Str × U)} {gs : List (Str × V)}, repf Γ B fs gs → lkU f fs = some u → ∃ v, gs.lookup f = some v ∧ rep Γ B u v
  | [], _, _, h => by cases h
  | (g, w) :: fs, _, r, h => by
    simp only [repf] at r
    obtain ⟨v, t, rfl, r1, r2⟩ := r
    unfold lkU at h
    rw [List.lookup_cons]
    by_cases e : g = f
    · rw [if_pos e] at h
      cases h
      subst e
      exact ⟨v, by simp, r1⟩
    · rw [if_neg e] at h
      obtain ⟨v', h1, h2⟩ := repf.lk r2 h
      have : (f == g) = false := by simpa [beq_eq_false_iff_ne] using fun z => e z.symm
      exact ⟨v', by rw [this]; exact h1, h2⟩
theorem repf.none {f : Str} : ∀ {fs : List (Str × U)} {gs : List (Str × V)}, repf Γ B fs gs → lkU f fs = none → gs.lookup f = none
  | [], _, r, _ => by simp only [repf] at r; subst r; rfl
  | (g, w) :: fs, _, r, h => by
    simp only [repf] at r
    obtain ⟨v, t, rfl, r1, r2⟩ := r
    unfold lkU at h
    rw [List.lookup_cons]
    by_cases e : g = f
    · rw [if_pos e] at h; cases h
    · rw [if_neg e] at h
      have : (f == g) = false := by simpa [beq_eq_false_iff_ne] using fun z => e z.symm
      rw [this]
      exact repf.none r2 h
theorem repf.len : ∀ {fs : List (Str × U)} {gs : List (Str × V)}, repf Γ B fs gs → fs.length = gs.length
  | [], _, r => by simp only [repf] at r; subst r; rfl
  | (g, w) :: fs, _, r => by
    simp only [repf] at r
    obtain ⟨v, t, rfl, r1, r2⟩ := r
    simp [repf.len r2]
theorem repf.put {f : Str} {u : U} {v : V} (ru : rep Γ B u v) : ∀ {fs : List (Str × U)} {gs : List (Str × V)}, repf Γ B fs gs → repf Γ B (putU f u fs) (putF f v gs)
  | [], _, r => by simp only [repf] at r; subst r; simp only [putU, putF, repf]; exact ⟨v, [], rfl, ru, rfl⟩
  | (g, w) :: fs, _, r => by
    simp only [repf] at r
    obtain ⟨v', t, rfl, r1, r2⟩ := r
    unfold putU putF
    by_cases e : g = f
    · rw [if_pos e, if_pos e]
      simp only [repf]
      exact ⟨v, t, rfl, ru, r2⟩
    · rw [if_neg e, if_neg e]
      simp only [repf]
      exact ⟨v', _, rfl, r1, repf.put ru r2⟩
end
structure ClsV (K : PySem.W.Frag) (mg : Str → Option Value) (c : Str) (C : Addr) : Prop where
  at_ : mg c = some (.ref C)
  cl : Cls K C
section
variable {X : Cx} {W : WXX} {pr : Nat → Bool} {ex vx : Expr} {f c : Str} {pos apos spos npos : Pos} {k : Nat} {C : Addr}
def mFld (c f : Str) (m : M Od) : M U := m.bd fun od e => match rdO e od with
  | some (.ins c' fs) => if c' = c then match lkU f fs with
    | some u => .ok u e
    | none => .bad
    else .bad
  | _ => .bad
theorem pv_fld {m : M Od} (cv : ClsV X.K X.mg c C) (na : NoAttr X.K C f) (h : PR X W ex m) (hb : attributeBase ex f X.env (eval ex X.env) = eval ex X.env := by rfl) : PV X W (.Attribute ex f pos) (mFld c f m) := by
  refine PEimp (pe_fld h hb) fun σ H Q ⟨B, e, sr, q⟩ => ⟨B, e, sr, (tAt.bd q).mono fun x H1 ⟨B1, e1, od, g1, r1, q1⟩ => ?_⟩
  unfold tAt at q1
  dsimp only at q1
  cases z1 : rdO e1 od with
  | none => rw [z1] at q1; exact q1.elim
  | some u =>
    rw [z1] at q1
    cases u with
    | ins c' fs =>
      dsimp only at q1
      by_cases ec : c' = c
      · rw [if_pos ec] at q1
        subst ec
        cases z2 : lkU f fs with
        | none => rw [z2] at q1; exact q1.elim
        | some w =>
          rw [z2] at q1
          obtain ⟨a, C', dx, gs, rfl, hm, hH, rf⟩ := (rlR.vw g1.sr r1 z1).ins g1.sr.bh
          have e2 : C' = C := by
            have := hm.symm.trans cv.at_
            simpa using this
          subst e2
          obtain ⟨v, l, rv⟩ := repf.lk rf z2
          exact ⟨a, C', dx, gs, v, rfl, hH, cv.cl, na, l, q1 v B1 H1 (Go.refl g1.sr) rv⟩
      · rw [if_neg ec] at q1
        exact q1.elim
    | _ => exact False.elim q1
def mFst (c f : Str) (i : Nat) (mv : M U) : MS := mv.bs fun w e => match e[i]? with
  | some (some (true, .ins c' fs)) => if c' = c ∧ fs.length < 1000 then .nx (e.set i (some (true, .ins c' (putU f w fs)))) else .bad
  | _ => .bad
theorem sv_fst {i : Nat} {x : Str} {mv : M U} (cv : ClsV X.K X.mg c C) (na : NoAttr X.K C f) (hN : X.N[i]? = some x) (hvs : Vis X.env.scope x) (h : PV X W vx mv) (hd : (x == ("__debug__" : Str)) = false := by decide) (hcd : (x == ("__classdict__" : Str)) = false := by decide)
    (hs : swapsWith vx (some (.Attribute (.Name x npos) f apos)) pos.line X.env = pure false := by rfl) : PSV X W pr (.Assign [.Attribute (.Name x npos) f apos] vx pos) (mFst c f i mv) := by
  refine PSimp (ps_fld (pe_var hN hvs hd hcd) h hs) fun D σ H ⟨B, e, sr, q⟩ => ⟨B, e, sr, (sAt.bs q).mono fun y H1 ⟨B1, e1, w, g1, r1, q1⟩ => ?_⟩
  unfold sAt at q1
  dsimp only at q1
  cases z : e1[i]? with
  | none => rw [z] at q1; exact q1.elim
  | some s1 =>
    rw [z] at q1
    cases s1 with
    | none => exact q1.elim
    | some s1 =>
      obtain ⟨o, u⟩ := s1
      cases o with
      | false => exact q1.elim
      | true =>
        cases u with
        | ins c' fs =>
          dsimp only at q1
          by_cases ec : c' = c ∧ fs.length < 1000
          · rw [if_pos ec] at q1
            obtain ⟨ec, hl⟩ := ec
            subst ec
            obtain ⟨a, ho, h1, h2, ⟨C', dx, gs, rfl, hm, rf⟩, h4⟩ := g1.sr.ow i _ z
            have e2 : C' = C := by
              have := hm.symm.trans cv.at_
              simpa using this
            subst e2
            refine ⟨_, h1, a, C', dx, gs, rfl, h2, cv.cl, na, by rw [← rf.len]; exact hl, ?_⟩
            exact q1 B1 _ σ (Go.write (u' := .ins c' (putU f w fs)) g1.sr z h1 ⟨C', dx, _, rfl, hm, rf.put r1⟩) Kp.refl
          · rw [if_neg ec] at q1
            exact q1.elim
        | _ => exact False.elim q1
end
structure MtV (P : Program) (w : World) (K : PySem.W.Frag) (mg : Str → Option Value) (base : Heap) (k : Nat) (C : Addr) (x : Str) (n : Nat) (φ : Fs) : Prop where
  ex : ∃ f fd ps, Meth K C x f ∧ FnOk P w K mg base (L2.CX P w) k f fd ps (spV ⟨P, w, K, mg⟩ n φ) ∧ Binds K fd ps []
section
variable {X : Cx} {W : WXX} {o ex : Expr} {es : List Expr} {c x : Str} {n k j : Nat} {φ : Fs} {C : Addr} {apos pos : Pos}
end
structure MkV (P : Program) (w : World) (K : PySem.W.Frag) (mg : Str → Option Value) (base : Heap) (k : Nat) (c : Str) (n : Nat) (φ : Fs) : Prop where
  ex : ∃ C f fd ps, mg c = some (.ref C) ∧ Mk K C f ∧ FnOk P w K mg base (L2.CX P w) k f fd ps (spV ⟨P, w, K, mg⟩ n φ) ∧ Binds K fd ps []
theorem run_makeS {X : Cx} {CX : CXT} {k : Nat} {f C : Addr} {fd : FuncData} {ps : List Str} {sp : Sp} {E : XK} {pins : List (Addr × Obj)} {σ : St} {H : Hp} {s : Shared} {Q : VK} {us : List Value} {vs : List V} (M : Mk X.K C f) (F : FnOk X.prog X.w X.K X.mg X.base CX k f fd ps sp) (hr : Room (k + 1) X.A) (hb : Binds X.K fd ps [])
    (hx : PassesAt CX X σ E) (I : Inv X pins σ H s) (r : Vals vs us)
    (h : ∀ x dx, H x = none → H dx = none → dx ≠ x → sp (.ref x :: vs) (upd (upd H dx (.own x)) x (.ins C dx [])) (fun v H2 => v = .non ∧ Q (.ref x) H2) E) :
    wpAny (model X.prog X.w) X.A (call (.ref C) us) (EP X pins σ Q) X.xe s := by
  have hq := h (s.heap.objs.size + 1) s.heap.objs.size (I.hok.fresh (Nat.le_succ _)) (I.hok.fresh (Nat.le_refl _)) (Nat.ne_of_lt (Nat.lt_succ_self _))
  have J := Inv.made (C := C) I
  have rr : Vals (V.ref (s.heap.objs.size + 1) :: vs) (Value.ref (s.heap.objs.size + 1) :: us) := .cons rfl r
  have hl : (Value.ref (s.heap.objs.size + 1) :: us).length = ps.length := by
    rw [← rr.length]
    exact F.len _ _ _ _ hq
  have bt := hb _ (Value.ref (s.heap.objs.size + 1) :: us) J.kIn (by rw [List.append_nil]; exact hl)
  rw [List.append_nil] at bt
  refine wpAny_call (make_map (f := f) I.kIn M.makes M.init (beq_iff_eq.mp M.fn) (codeAny_mono (F.run _ X.stack _ _ ⟨Value.ref (s.heap.objs.size + 1) :: us, []⟩ _ _ _ E (hr.make C us []) (J.env0.make C us []) bt rr hq) fun res s' hs => ?_))
  match res, hs with
  | .error e, hs => exact hx pins _ _ e s' J hs
  | .ok (.ret u), hs =>
    obtain ⟨v, H', I3, rv, ev, q3⟩ := J.after hs
    subst ev
    exact ⟨rv, ⟨V.ref (s.heap.objs.size + 1), H', I3, rfl, q3⟩⟩
end VS
set_option Elab.async false
set_option linter.all false
set_option maxRecDepth 100000
namespace VS
open PySem L2
section
variable {Γ : Ga} {B H : Hp} {e : En} {σ : St} {S : Addr → Prop}
theorem snoc_get {α : Type} {l : List (Option α)} {s : Option α} {i : Nat} {x : α} (h : (l ++ [s])[i]? = some (some x)) : l[i]? = some (some x) ∨ (i = l.length ∧ s = some x) := by
  by_cases hi : i < l.length
  · rw [List.getElem?_append_left hi] at h
    exact .inl h
  · rw [List.getElem?_append_right (by omega)] at h
    have : i - l.length = 0 := by
      rcases Nat.eq_zero_or_pos (i - l.length) with z | z
      · exact z
      · rw [List.getElem?_eq_none (by simp; omega)] at h; cases h
    rw [this] at h
    simp only [List.getElem?_cons_zero, Option.some.injEq] at h
    exact .inr ⟨by omega, h⟩
theorem snoc_old {α : Type} {l : List (Option α)} {s : Option α} {i : Nat} {x : Option α} (h : l[i]? = some x) : (l ++ [s])[i]? = some x := by
  have : i < l.length := by
    rcases Nat.lt_or_ge i l.length with z | z
    · exact z
    · rw [List.getElem?_eq_none z] at h; cases h
  rw [List.getElem?_append_left this]
  exact h
theorem snoc_last {α : Type} {l : List (Option α)} {s : Option α} : (l ++ [s])[l.length]? = some s := by
  rw [List.getElem?_append_right (Nat.le_refl _)]; simp
theorem SR.snoc {H' : Hp} {x : Addr} {u : U} {ho : HO} (s : SR Γ B H e σ) (hk : ∀ a o, H a = some o → H' a = some o) (hx : H x = none) (h' : H' x = some ho) (n : nod Γ B x u ho) : SR Γ B H' (e ++ [some (true, u)]) (σ ++ [some (.ref x)]) := by
  have ln := s.ln
  refine ⟨s.bh.trans fun a o h => hk a o h, by simp [ln], fun i w q => ?_, fun i w q => ?_, fun i j w z a q1 q2 s1 s2 => ?_⟩
  · rcases snoc_get q with q | ⟨_, q⟩
    · obtain ⟨v, h1, h2⟩ := s.vl i w q
      exact ⟨v, snoc_old h1, h2⟩
    · cases q
  · rcases snoc_get q with q' | ⟨ei, q'⟩
    · obtain ⟨a, o, h1, h2, h3, h4⟩ := s.ow i w q'
      exact ⟨a, o, snoc_old h1, hk a o h2, h3, h4⟩
    · cases q'
      exact ⟨x, ho, by rw [ei, ln]; exact snoc_last, h', n, s.none_of hx⟩
  · have at_ : ∀ {i : Nat} {w : U}, (e ++ [some (true, u)])[i]? = some (some (true, w)) → (σ ++ [some (.ref x)])[i]? = some (some (.ref a)) → (e[i]? = some (some (true, w)) ∧ σ[i]? = some (some (.ref a)) ∧ a ≠ x) ∨ (i = e.length ∧ a = x) := fun {i w} q t => by
      rcases snoc_get q with q | ⟨ei, q'⟩
      · rcases snoc_get t with t | ⟨e1, t⟩
        · obtain ⟨a', o, h1, h2, _⟩ := s.ow i w q
          rw [t] at h1
          cases h1
          exact .inl ⟨q, t, fun z => by rw [z, hx] at h2; cases h2⟩
        · have : i < e.length := by
            rcases Nat.lt_or_ge i e.length with z | z
            · exact z
            · rw [List.getElem?_eq_none z] at q; cases q
          omega
      · rcases snoc_get t with t | ⟨_, t⟩
        · have : i < σ.length := by
            rcases Nat.lt_or_ge i σ.length with z | z
            · exact z
            · rw [List.getElem?_eq_none z] at t; cases t
          omega
        · cases t
          exact .inr ⟨ei, rfl⟩
    rcases at_ q1 s1 with ⟨a1, a2, a3⟩ | ⟨a1, a3⟩
    · rcases at_ q2 s2 with ⟨b1, b2, b3⟩ | ⟨b1, b3⟩
      · exact s.ds i j w z a a1 b1 a2 b2
      · exact absurd b3 a3
    · rcases at_ q2 s2 with ⟨b1, b2, b3⟩ | ⟨b1, b3⟩
      · exact absurd a3 b3
      · rw [a1, b1]
theorem findOut_ne {i m : Nat} (h : m ≠ i) {ods : List Od} {o : Sl} {outs : En} : findOut i (.sl m :: ods) (o :: outs) = findOut i ods outs := by
  rw [findOut, if_neg h]
def updS (ods : List Od) (outs : En) (k : Nat) (s : Sl) : Sl := match s with
  | some (true, u) => match findOut k ods outs with
    | some o => o
    | none => some (true, u)
  | s => s
theorem updE_cons {ods : List Od} {outs : En} {k : Nat} {s : Sl} {r : En} : updE ods outs k (s :: r) = updS ods outs k s :: updE ods outs (k + 1) r := rfl
theorem updS_ne {i m : Nat} (h : m ≠ i) {ods : List Od} {o : Sl} {outs : En} (s : Sl) : updS (.sl m :: ods) (o :: outs) i s = updS ods outs i s := by
  unfold updS
  rw [findOut_ne h]
theorem updE_snoc {ods : List Od} {o : Sl} {outs : En} {s : U} : ∀ (e : En) (k : Nat), updE (.sl (k + e.length) :: ods) (o :: outs) k (e ++ [some (true, s)]) = updE ods outs k e ++ [o]
  | [], k => by
    rw [List.nil_append, updE_cons]
    unfold updS findOut
    simp [updE]
  | x :: e, k => by
    have ih := updE_snoc (ods := ods) (o := o) (outs := outs) (s := s) e (k + 1)
    have h : k + (x :: e).length = k + 1 + e.length := by simp; omega
    rw [h, List.cons_append, updE_cons, ih, updE_cons, List.cons_append, updS_ne (by omega)]
theorem unsnoc_go {H' B2 H2 : Hp} {x : Addr} {u : U} {e2 : En} {o : Sl} (s : SR Γ B H e σ) (hx : H x = none) (hk : ∀ a o, H a = some o → H' a = some o) (g : Go Γ B H' (e ++ [some (true, u)]) (σ ++ [some (.ref x)]) B2 H2 (e2 ++ [o]) (σ ++ [some (.ref x)])) (l2 : e2.length = e.length) :
    Go Γ B H e σ B2 H2 e2 σ ∧ ∀ r, o = some r → (rlO Γ).r r (.ref x) (may H e σ) B2 H2 e2 σ := by
  have ln := s.ln
  have ow0 : ∀ a, own (e ++ [some (true, u)]) (σ ++ [some (.ref x)]) a → own e σ a ∨ a = x := fun a ⟨i, w, q, t⟩ => by
    rcases snoc_get q with q | ⟨e1, q⟩
    · rcases snoc_get t with t | ⟨_, t⟩
      · exact .inl ⟨i, w, q, t⟩
      · cases t; exact .inr rfl
    · subst e1
      rw [ln, snoc_last] at t
      cases t
      exact .inr rfl
  have no : ∀ a o, H a = some o → ¬ own e σ a → ¬ own (e ++ [some (true, u)]) (σ ++ [some (.ref x)]) a := fun a o h n z => by
    rcases ow0 a z with z | z
    · exact n z
    · rw [z, hx] at h; cases h
  have back : ∀ a, own e2 σ a → own (e2 ++ [o]) (σ ++ [some (.ref x)]) a := fun a ⟨i, w, q, t⟩ => ⟨i, w, snoc_old q, snoc_old t⟩
  have lst : (σ ++ [some (V.ref x)])[e2.length]? = some (some (.ref x)) := by rw [l2, ln]; exact snoc_last
  have fresh2 : ∀ w, o = some (true, w) → ¬ own e2 σ x := fun w ho ⟨i, z, q, t⟩ => by
    have := g.sr.ds i e2.length z w x (snoc_old q) (by rw [ho]; exact snoc_last) (snoc_old t) lst
    subst this
    rw [List.getElem?_eq_none (Nat.le_refl _)] at q
    cases q
  refine ⟨⟨⟨g.st.bb, fun a o h n => g.st.fr a o (hk a o h) (no a o h n), fun a o h n b => g.st.nb a o (hk a o h) (no a o h n) b⟩, ⟨g.sr.bh, l2.trans ln, fun i w q => ?_, fun i w q => ?_, fun i j w z a q1 q2 s1 s2 => g.sr.ds i j w z a (snoc_old q1) (snoc_old q2) (snoc_old s1) (snoc_old s2)⟩, fun a z => ?_⟩, fun r hr => ?_⟩
  · obtain ⟨v, h1, h2⟩ := g.sr.vl i w (snoc_old q)
    rcases snoc_get h1 with h1 | ⟨e1, _⟩
    · exact ⟨v, h1, h2⟩
    · have : i < e2.length := by
        rcases Nat.lt_or_ge i e2.length with z | z
        · exact z
        · rw [List.getElem?_eq_none z] at q; cases q
      omega
  · obtain ⟨a, ho, h1, h2, h3, h4⟩ := g.sr.ow i w (snoc_old q)
    rcases snoc_get h1 with h1 | ⟨e1, _⟩
    · exact ⟨a, ho, h1, h2, h3, h4⟩
    · have : i < e2.length := by
        rcases Nat.lt_or_ge i e2.length with z | z
        · exact z
        · rw [List.getElem?_eq_none z] at q; cases q
      omega
  · rcases g.sub a (back a z) with q | q
    · rcases ow0 a q with q | q
      · exact .inl q
      · exact .inr (by rw [q]; exact hx)
    · right
      cases h : H a with
      | none => rfl
      | some y => rw [hk a y h] at q; cases q
  · subst hr
    obtain ⟨b, w⟩ := r
    cases b with
    | false =>
      obtain ⟨v, h1, h2⟩ := g.sr.vl e2.length w snoc_last
      rw [lst] at h1
      cases h1
      exact h2
    | true =>
      obtain ⟨a, ho, h1, h2, h3, h4⟩ := g.sr.ow e2.length w snoc_last
      rw [lst] at h1
      cases h1
      exact ⟨x, ho, rfl, h2, h3, h4, fresh2 w rfl, .inr hx⟩
theorem argOf_snoc {s : Sl} {od : Od} {a : Ar} (h : argOf e od = some a) : argOf (e ++ [s]) od = some a := by
  cases od with
  | vl u => exact h
  | sl i =>
    unfold argOf at *
    dsimp only at *
    split at h
    · rename_i b q
      rw [snoc_old q]
      exact h
    · cases h
theorem argsOf_snoc {s : Sl} : ∀ {ods : List Od} {as : List Ar}, argsOf e ods = some as → argsOf (e ++ [s]) ods = some as
  | [], _, h => h
  | x :: r, as, h => by
    unfold argsOf at *
    cases h1 : argOf e x with
    | none => rw [h1] at h; cases h
    | some a =>
      cases h2 : argsOf e r with
      | none => rw [h1, h2] at h; cases h
      | some bs =>
        rw [h1, h2] at h
        rw [argOf_snoc h1, argsOf_snoc h2]
        exact h
theorem ownIx_lt : ∀ {ods : List Od} {i : Nat}, i ∈ ownIx e ods → i < e.length
  | .vl _ :: r, i, h => ownIx_lt (ods := r) h
  | .sl k :: r, i, h => by
    unfold ownIx at h
    split at h
    · rename_i u q
      rcases List.mem_cons.mp h with z | z
      · subst z
        rcases Nat.lt_or_ge i e.length with z | z
        · exact z
        · rw [List.getElem?_eq_none z] at q; cases q
      · exact ownIx_lt z
    · exact ownIx_lt h
theorem ownIx_snoc {s : Sl} : ∀ {ods : List Od} {as : List Ar}, argsOf e ods = some as → ownIx (e ++ [s]) ods = ownIx e ods
  | [], _, _ => rfl
  | x :: r, as, h => by
    unfold argsOf at h
    cases h1 : argOf e x with
    | none => rw [h1] at h; cases h
    | some a =>
      cases h2 : argsOf e r with
      | none => rw [h1, h2] at h; cases h
      | some bs =>
        have ih := ownIx_snoc (s := s) h2
        cases x with
        | vl w => unfold ownIx; exact ih
        | sl i =>
          unfold argOf at h1
          dsimp only at h1
          split at h1
          · rename_i b q
            unfold ownIx
            rw [snoc_old q, q, ih]
          · cases h1
end
def callMk (c : Str) (n : Nat) (φ : Fs) (ods : List Od) : M (Bool × U) := fun e => match argsOf e ods with
  | some as => if ods.length + 1 = n ∧ (ownIx e ods).Nodup then match φ ((true, .ins c []) :: as) with
      | .ok (false, .non) (some r :: outs) => .ok r (updE ods outs 0 e)
      | .exc c u (_ :: outs) => .exc c u (updE ods outs 0 e)
      | _ => .bad
    else .bad
  | none => .bad
def mMk (c : Str) (n : Nat) (φ : Fs) (m : M (List Od)) : M (Bool × U) := m.bd (callMk c n φ)
section
variable {X : Cx} {W : WXX} {k n j : Nat} {c : Str} {φ : Fs} {ex : Expr} {es : List Expr} {p pos : Pos} {m : M (List Od)} {C : Addr}
theorem mk_core (hm : X.mg c = some (.ref C)) {B H : Hp} {e : En} {σ : St} {S : Addr → Prop} {ods : List Od} {vs : List V} {Q : VK} (s : SR (ga X) B H e σ) (p : Paired (fun od v => (rlR (ga X)).r od v S B H e σ) ods vs) (q : tAt (ga X) W (rlO (ga X)) (callMk c n φ ods) B H e σ Q)
    (x dx : Addr) (hx : H x = none) (hdx : H dx = none) (ne : dx ≠ x) : spV (ga X) n φ (.ref x :: vs) (upd (upd H dx (.own x)) x (.ins C dx [])) (fun v H2 => v = .non ∧ Q (.ref x) H2) (WE W σ) := by
  have hk : ∀ a o, H a = some o → (upd (upd H dx (.own x)) x (.ins C dx [])) a = some o := fun a o h => by
    rw [upd_ne (ne_of_none h hx), upd_ne (ne_of_none h hdx)]
    exact h
  have s1 : SR (ga X) B (upd (upd H dx (.own x)) x (.ins C dx [])) (e ++ [some (true, .ins c [])]) (σ ++ [some (.ref x)]) := s.snoc hk hx upd_same ⟨C, dx, [], rfl, hm, by simp only [repf]⟩
  unfold tAt callMk at q
  cases h : argsOf e ods with
  | none => rw [h] at q; exact q.elim
  | some as =>
    rw [h] at q
    dsimp only at q
    by_cases nd : ods.length + 1 = n ∧ (ownIx e ods).Nodup
    · rw [if_pos nd] at q
      obtain ⟨hn, nd⟩ := nd
      have p1 : Paired (fun od v => (rlR (ga X)).r od v S B (upd (upd H dx (.own x)) x (.ins C dx [])) (e ++ [some (true, .ins c [])]) (σ ++ [some (.ref x)])) (.sl e.length :: ods) (.ref x :: vs) := by
        refine .cons ?_ (Paired.mapP p fun od v r => ?_)
        · show (σ ++ [some (V.ref x)])[e.length]? = some (some (.ref x))
          rw [s.ln]; exact snoc_last
        · cases od with
          | vl u => exact r
          | sl i => exact snoc_old r
      have h1 : argsOf (e ++ [some (true, .ins c [])]) (.sl e.length :: ods) = some ((true, .ins c []) :: as) := by
        have a1 : argOf (e ++ [some (true, .ins c [])]) (.sl e.length) = some (true, .ins c []) := by
          unfold argOf
          dsimp only
          rw [snoc_last]
        unfold argsOf
        rw [a1, argsOf_snoc h]
      have n1 : (ownIx (e ++ [some (true, .ins c [])]) (.sl e.length :: ods)).Nodup := by
        unfold ownIx
        rw [snoc_last, ownIx_snoc h]
        exact List.nodup_cons.mpr ⟨fun z => Nat.lt_irrefl _ (ownIx_lt z), nd⟩
      refine ⟨by rw [List.length_cons, ← paired_len p]; exact hn, B, _, args_sr s1 p1 h1 n1, ?_⟩
      have GO : ∀ {B2 H2 : Hp} {o : Sl} {outs : En}, Go (ga X) B (upd (upd H dx (.own x)) x (.ins C dx [])) (enA ((true, .ins c []) :: as)) (stA (.ref x :: vs)) B2 H2 (o :: outs) (stA (.ref x :: vs)) → Go (ga X) B H e σ B2 H2 (updE ods outs 0 e) σ ∧ ∀ r, o = some r → (rlO (ga X)).r r (.ref x) (may H e σ) B2 H2 (updE ods outs 0 e) σ := fun {B2 H2 o outs} g => by
        have g1 := call_go s1 p1 h1 n1 g
        have e1 := updE_snoc (ods := ods) (o := o) (outs := outs) (s := .ins c []) e 0
        rw [Nat.zero_add] at e1
        rw [e1] at g1
        exact unsnoc_go s hx hk g1 (updE_len ods outs e 0)
      cases z : φ ((true, .ins c []) :: as) with
      | bad => rw [z] at q; exact q
      | exc c' u outs =>
        rw [z] at q
        cases outs with
        | nil => exact q.elim
        | cons o outs =>
          intro cls d B' H' g y
          refine q cls d B' H' (GO g).1 (y.mono fun a m => ?_)
          rcases m with m | m
          · obtain ⟨i, u, j, _, h2, h3⟩ := args_own p1 h1 m
            rcases snoc_get h3 with h4 | ⟨h4, h5⟩
            · rcases snoc_get h2 with h6 | ⟨h6, _⟩
              · exact .inl ⟨i, u, h6, h4⟩
              · exact absurd (List.getElem?_eq_some_iff.mp h4).1 (by rw [h6, s.ln]; exact Nat.lt_irrefl _)
            · injection h5 with h5
              injection h5 with h5
              rw [← h5]
              exact .inr hx
          · right
            cases z2 : H a with
            | none => rfl
            | some o => rw [hk a o z2] at m; cases m
      | ok r outs =>
        rw [z] at q
        obtain ⟨b, u⟩ := r
        cases b with
        | true => exact q.elim
        | false =>
          cases u with
          | non =>
            cases outs with
            | nil => exact q.elim
            | cons o outs =>
              cases o with
              | none => exact q.elim
              | some r =>
                intro v B' H' g rr
                have rr' : rep (ga X) B' .non v := rr
                simp only [rep] at rr'
                obtain ⟨G1, G2⟩ := GO g
                exact ⟨rr', q (.ref x) B' H' G1 (G2 r rfl)⟩
          | _ => exact False.elim q
    · rw [if_neg nd] at q
      exact q.elim
theorem po_mk (ct : Ct X W k) (F : MkV X.prog X.w X.K X.mg X.base j c n φ) (hj : j + 1 ≤ k) (hg : Gl X c) (ha : PRs X W (ex :: es) m) (hdb : (c == ("__debug__" : Str)) = false := by decide)
    (he : starEach (ex :: es) X.env = (false, eval ex X.env) :: starEach es X.env := by rfl) (hpl : (backTo pos (starEach es X.env)).any (·.1) = false := by rfl) :
    PO X W (.Call (.Name c p) (ex :: es) [] pos) (mMk c n φ m) := by
  obtain ⟨C, f, fd, ps, hm, M, ok, hb⟩ := F.ex
  refine ⟨fun pins s σ H Q I ⟨B, e, sr, q⟩ => ?_⟩
  refine wpAny_Call_Name_kw (ld_glob I hg hm ?_ hdb)
  refine PySem.W.callWith_K (h₀ := X.base) I.ok.mod.kin M.kp (thn (ha.run pos pins s σ H _ I ⟨B, e, sr, tAt.bd (rl := rlRs (ga X)) q⟩) fun us s1 ⟨vs, H1, I1, r, B1, e1, ods, g1, r1, q1⟩ => ⟨I1.kIn, ?_⟩) he hpl
  exact run_makeS M ok (ct.hr.mono hj) hb (ct.px σ) I1 r fun x dx hx hdx ne => mk_core hm g1.sr r1 q1 x dx hx hdx ne
end
end VS
set_option Elab.async false
set_option linter.all false
set_option maxRecDepth 100000
namespace VS
open PySem L2
section
variable {P : Program} {w : World} {K : PySem.W.Frag} {mg : Str → Option Value} {base : Heap} {x qual : Str} {params : Arguments} {body : List Stmt} {scope : Scope} {f : Addr} {fd : FuncData} {N ps : List Str} {k : Nat} {pr : Nat → Bool} {b : MS}
theorem fnok_rule (F : FunD K x qual params body scope [] [] f fd) (S : FnScope N ps scope)
    (hbody : ∀ (cdv : Value) (A : Around) (outer : List Env) (s : Shared) (H : Hp) (E : XK), Ct (cxOf (L2.CX P w) P w K mg base N qual scope f cdv A outer s H E) (WEx E) k → PSsV (cxOf (L2.CX P w) P w K mg base N qual scope f cdv A outer s H E) (WEx E) pr body b) :
    FnOk P w K mg base (L2.CX P w) (k + 1) f fd ps (spV ⟨P, w, K, mg⟩ ps.length (fnS N.length ps.length pr b)) := by
  refine F.ok S (fun vs H Q E h => h.1) fun cdv A outer s H vs Q E hr hp => ?_
  exact ⟨_, hbody cdv A outer s H E ⟨fun σ => passAt (takes_of rfl rfl rfl rfl) σ, rfl, S.nd, hr, passes_of rfl, takes_of rfl rfl rfl rfl⟩, body_q hp⟩
theorem mk_rule {c : Str} {C : Addr} (hm : mg c = some (.ref C)) (M : Mk K C f) (F : FunD K x qual params body scope [] [] f fd) (S : FnScope N ps scope)
    (hb : ∀ (kV doc pm : Value) (an : Option Addr) (cdv ct : Value) (us : List Value), us.length = ps.length → bindArgs (PySem.W.fnOf x qual params body scope .none kV doc pm an cdv ct) ⟨us, []⟩ = pure (ps.zip us))
    (hbody : ∀ (cdv : Value) (A : Around) (outer : List Env) (s : Shared) (H : Hp) (E : XK), Ct (cxOf (L2.CX P w) P w K mg base N qual scope f cdv A outer s H E) (WEx E) k → PSsV (cxOf (L2.CX P w) P w K mg base N qual scope f cdv A outer s H E) (WEx E) pr body b) :
    MkV P w K mg base (k + 1) c ps.length (fnS N.length ps.length pr b) := ⟨C, f, fd, ps, hm, M, fnok_rule F S hbody, F.bindsN hb⟩
theorem mt_rule {C : Addr} {m : Str} (M : Meth K C m f) (F : FunD K x qual params body scope [] [] f fd) (S : FnScope N ps scope)
    (hb : ∀ (kV doc pm : Value) (an : Option Addr) (cdv ct : Value) (us : List Value), us.length = ps.length → bindArgs (PySem.W.fnOf x qual params body scope .none kV doc pm an cdv ct) ⟨us, []⟩ = pure (ps.zip us))
    (hbody : ∀ (cdv : Value) (A : Around) (outer : List Env) (s : Shared) (H : Hp) (E : XK), Ct (cxOf (L2.CX P w) P w K mg base N qual scope f cdv A outer s H E) (WEx E) k → PSsV (cxOf (L2.CX P w) P w K mg base N qual scope f cdv A outer s H E) (WEx E) pr body b) :
    MtV P w K mg base (k + 1) C m ps.length (fnS N.length ps.length pr b) := ⟨f, fd, ps, M, fnok_rule F S hbody, F.bindsN hb⟩
end
def spL (Γ : Ga) (n : Nat) (φ : Fs) : Sp := fun vs H Q _ => spV Γ n φ vs H Q fun _ _ _ => False
theorem law_rule {P : Program} {w : World} {K : PySem.W.Frag} {mg : Str → Option Value} {base : Heap} {x qual : Str} {params : Arguments} {body : List Stmt} {scope : Scope} {f : Addr} {fd : FuncData} {N ps : List Str} {k : Nat} {pr : Nat → Bool} {b : MS}
    (F : FunD K x qual params body scope [] [] f fd) (S : FnScope N ps scope)
    (hbody : ∀ (cdv : Value) (A : Around) (outer : List Env) (s : Shared) (H : Hp) (E : XK), Ct (cxOf CX0 P w K mg base N qual scope f cdv A outer s H E) W0 k → PSsV (cxOf CX0 P w K mg base N qual scope f cdv A outer s H E) W0 pr body b) :
    FnOk P w K mg base CX0 (k + 1) f fd ps (spL ⟨P, w, K, mg⟩ ps.length (fnS N.length ps.length pr b)) := by
  refine F.ok S (fun vs H Q E h => h.1) fun cdv A outer s H vs Q E hr hp => ?_
  refine ⟨_, hbody cdv A outer s H E ⟨fun σ _ _ _ _ _ _ h => ?_, rfl, S.nd, hr, passes_of rfl, fun _ _ h => ?_⟩, body_q hp⟩
  · obtain ⟨_, _, _, _, _, _, _, _, _, _, _, _, z⟩ := h
    exact z.elim
  · obtain ⟨_, _, _, _, _, _, _, _, _, _, _, _, _, _, _, _, z⟩ := h
    exact z.elim
theorem fn_bad {P : Program} {w : World} {K : PySem.W.Frag} {mg : Str → Option Value} {base : Heap} {x qual : Str} {params : Arguments} {body : List Stmt} {scope : Scope} {f : Addr} {fd : FuncData} {N ps : List Str} {k : Nat}
    (hm : mg x = some (.ref f)) (F : FunD K x qual params body scope [] [] f fd) (S : FnScope N ps scope)
    (hb : ∀ (kV doc pm : Value) (an : Option Addr) (cdv ct : Value) (us : List Value), us.length = ps.length → bindArgs (PySem.W.fnOf x qual params body scope .none kV doc pm an cdv ct) ⟨us, []⟩ = pure (ps.zip us)) :
    FnV P w K mg base (k + 1) x ps.length (fun _ => .bad) := by
  refine ⟨f, fd, ps, hm, F.ok S (fun vs H Q E h => h.1) fun cdv A outer s H vs Q E hr hp => ?_, F.kp, F.bindsN hb⟩
  obtain ⟨_, _, _, _, z⟩ := hp
  exact z.elim
theorem sv_exprO {X : Cx} {W : WXX} {pr : Nat → Bool} {ex : Expr} {pos : Pos} {m : M (Bool × U)} (h : PO X W ex m) (hs : swapsWith ex none pos.line X.env = pure false := by rfl) : PSV X W pr (.Expr ex pos) (mDrp (mF m)) := sv_expr (pv_of h) hs
end VS
set_option Elab.async false
set_option linter.all false
set_option maxRecDepth 100000
namespace VS
open PySem L2
def sAdd : Op2 := orS sAddI (orS sAddS sAddL)
noncomputable def sMul : Op2 := orS sMulI (orS sMulS sMulL)
noncomputable def sIx : Op2 := orS sIxL (orS sIxT (orS sIxS sIxD))
noncomputable def sIn : Op2 := orS (sInF false) (orS (sInS false) (sInD false))
noncomputable def sNotIn : Op2 := orS (sInF true) (orS (sInS true) (sInD true))
def sSorted : OpN := orN sSortS (orN sSortI sSortD)
section
variable {X : Cx} {W : WXX} {ex a : Expr} {pos : Pos}
theorem ok_add : BinOK X (binaryOp .Add) sAdd := ok_addI.or (ok_addS.or ok_addL)
theorem ok_mul : BinOK X (binaryOp .Mult) sMul := ok_mulI.or (ok_mulS.or ok_mulL)
theorem ok_ix (hu : X.A.units + 64 < cLine) : IxOK X sIx := ok_ixL.or (ok_ixT.or (ok_ixS.or (ok_ixD hu)))
theorem ok_in (hu : X.A.units + 64 < cLine) : BinOK X (compareOp .In) sIn := ok_inF.or (ok_inS.or (ok_inD hu))
theorem ok_notIn (hu : X.A.units + 64 < cLine) : BinOK X (compareOp .NotIn) sNotIn := ok_notInF.or (ok_notInS.or (ok_notInD hu))
theorem ok_sorted (hc : X.calm = true) : CallOK X (.builtin "sorted") sSorted := ok_sortS.or (ok_sortI.or (ok_sortD hc))
def sMx : OpN := orN sMax1 sMax2
theorem ok_mx (hc : X.calm = true) : CallOK X (.builtin "max") sMx := (ok_max1 hc).or (ok_max2 hc)
def mNeg (m : M U) : M U := m.bd fun u => match u with
  | .int i => .ret (.int (-i))
  | _ => fun _ => .bad
theorem pv_neg {m : M U} (h : PV X W a m) : PV X W (.UnaryOp .USub a pos) (mNeg m) := by
  refine PEimp (pe_un un_neg h) fun σ H Q ⟨B, e, sr, q⟩ => ⟨B, e, sr, (tAt.bd q).mono fun x H1 ⟨B1, e1, u, g1, r1, q1⟩ => ?_⟩
  cases u with
  | int i =>
    have r1' : rep (ga X) B1 (.int i) x := r1
    simp only [rep] at r1'
    subst r1'
    exact ⟨i, rfl, (show tAt (ga X) W (rlV (ga X)) (M.ret (.int (-i))) B1 H1 e1 σ Q from q1) _ B1 H1 (Go.refl g1.sr) (rep_int (X := X) (B := B1) (-i))⟩
  | _ => exact False.elim q1
end
theorem bt_len : bootBuiltins "len" = some (.builtin "len") := by decide +kernel
theorem bt_all : bootBuiltins "all" = some (.builtin "all") := by decide +kernel
theorem bt_max : bootBuiltins "max" = some (.builtin "max") := by decide +kernel
theorem bt_min : bootBuiltins "min" = some (.builtin "min") := by decide +kernel
theorem bt_sorted : bootBuiltins "sorted" = some (.builtin "sorted") := by decide +kernel
theorem bt_int : bootBuiltins "int" = some (.type "int") := by decide +kernel
theorem bt_list : bootBuiltins "list" = some (.type "list") := by decide +kernel
theorem bt_tuple : bootBuiltins "tuple" = some (.type "tuple") := by decide +kernel
theorem bt_dict : bootBuiltins "dict" = some (.type "dict") := by decide +kernel
theorem bt_bool : bootBuiltins "bool" = some (.type "bool") := by decide +kernel
theorem bt_str : bootBuiltins "str" = some (.type "str") := by decide +kernel
end VS
set_option Elab.async false
set_option linter.all false
set_option maxRecDepth 100000
set_option maxHeartbeats 2000000
namespace VS
open PySem PySem.Spec PyProof.Rows L2
def SetG (P : Program) (w : World) (D : Addr) (ks : List Str) : HO := .ext fun h => VSet.SG (PySem.strKind P w) h D ks
theorem setG_new {P : Program} {w : World} {H : Hp} {h : Heap} {a : Addr} {ks : List Str} (R : VSet.SG (PySem.strKind P w) h a ks) : ObjOk P w H h a (SetG P w a ks) := by
  have ⟨o, _, _, _, ho, _⟩ := R
  exact ⟨R, ⟨o, ho⟩, fun h1 h2 p k => VSet.SG.at p k⟩
section
variable {X : Cx}
theorem setG_get {pins : List (Addr × Obj)} {σ : L2.St} {H : Hp} {s : Shared} {a : Addr} {ks : List Str} (I : Inv X pins σ H s) (ha : H a = some (SetG X.prog X.w a ks)) : VSet.SG (PySem.strKind X.prog X.w) s.heap a ks := (I.hok a _ ha).1
theorem addG_ok {pins : List (Addr × Obj)} {σ : L2.St} {H : Hp} {s : Shared} {E : Value → Shared → Prop} {D : Addr} {ks : List Str} {y : Str} {t : Tok} {Q : Value → Shared → Prop} (I : Inv X pins σ H s) (hD : H D = some (SetG X.prog X.w D ks)) (room : ks.length + 1 < scanBound)
    (h : ∀ s' ks', VSet.Add ks y ks' → Inv X pins σ (upd H D (SetG X.prog X.w D ks')) s' → Q .none s') : wpAny (model X.prog X.w) X.A (call (.builtin "set.add") [.ref D, .str y t]) Q E s := by
  have R := setG_get I hD
  refine wpAny_call_entry F.slot_set_add R.typeIs F.entry_set_add ?_ (F.args_set_add_2 _ _)
  unfold Builtin.«set.add» Builtin.Frozenset.oneOther
  simp only [List.isEmpty_nil, bind_assoc]
  unfold Builtin.Frozenset.addrOf setAdd
  refine wpAny_bind (wpAny_pure ?_)
  try dsimp only
  refine wpAny_bind (wpAny_pure ?_)
  try dsimp only
  refine wpAny_bind ?_
  refine wpAny_holding ?_
  have hk : (PySem.strKind X.prog X.w).is y (.str y t) = true := by simp [PySem.strKind, Value.isStrOf]
  refine wpAny_bind ((PySem.strKind X.prog X.w).pyHash hk ?_)
  refine VSet.sg_add (s := { s with toks := s.toks + 1 }) R hk rfl room fun b h' ks' sb ad r => ?_
  show wpAny _ _ (ret Value.none) _ _ _
  refine wpAny_pure ⟨_, rfl, h _ ks' ad ?_⟩
  have he : ∃ u, h'.get? D = some u := by
    have ⟨o, _, _, _, ho, _⟩ := r
    exact ⟨o, ho⟩
  exact I.write (e := D) (t' := s.toks + 1) (by rw [hD]; trivial) (.inl rfl) (fun b u hb hu => (sb.2 b hb).trans hu) he (setG_new r)
end
section
variable {prog : Program} {w : World} {A : Around} {R : Result → Shared → Prop} {s : Shared} {elt t0 i0 t1 i1 : Expr} {scope : Scope} {pos : Pos} {it acc : Value} {env : Env}
abbrev sc2 (elt t0 i0 t1 i1 : Expr) (scope : Scope) (pos : Pos) : Expr := .SetComp elt [⟨t0, i0, [], 0⟩, ⟨t1, i1, [], 0⟩] scope pos
theorem turnS_out : compTurn (sc2 elt t0 i0 t1 i1 scope pos) 0 it acc env = (do
      standAt i0.pos
      match ← pyNext it with
      | none => pure (.done .next)
      | some v =>
        letOwnedTupleGo t0 it v
        assign t0 env v
        let mut ok := true
        for c in ([] : List Expr) do
          if ok then ok ← isTrue c env (eval c env)
        if ok then
          let x ← eval i1 env
          standAt i1.pos
          let x ← foldedSetIterable i1 env x
          let _ ← runOwn (.compStart (sc2 elt t0 i0 t1 i1 scope pos) 1 (← holding [x] (pyIter x)) acc env) env
        again (.compLoop (sc2 elt t0 i0 t1 i1 scope pos) 0 it acc env)) := by rfl
theorem turnS_in : compTurn (sc2 elt t0 i0 t1 i1 scope pos) 1 it acc env = (do
      standAt i1.pos
      match ← pyNext it with
      | none => pure (.done .next)
      | some v =>
        letOwnedTupleGo t1 it v
        assign t1 env v
        let mut ok := true
        for c in ([] : List Expr) do
          if ok then ok ← isTrue c env (eval c env)
        if ok then
          (do let v ← eval elt env; standAt elt.pos; let _ ← call (.builtin "set.add") [acc, v])
        again (.compLoop (sc2 elt t0 i0 t1 i1 scope pos) 1 it acc env)) := by rfl
theorem loopS_out (hs : ∀ x, foldedSetIterable i1 env x = pure x) (I : Nat → Shared → Prop)
    (turn : ∀ n s, I n s → wpAny (model prog w) A (pyNext it) (fun r s₁ => match r with
      | none => R (.ok .next) s₁
      | some v => wpAny (model prog w) A (letOwnedTupleGo t0 it v) (fun _ s₁' => wpAny (model prog w) A (assign t0 env v) (fun _ s₃ =>
          wpAny (model prog w) A (eval i1 env) (fun x s₄ => wpAny (model prog w) A (pyIter x) (fun it1 s₅ =>
              codeAny (model prog w) A (.compStart (sc2 elt t0 i0 t1 i1 scope pos) 1 it1 acc env) (fun r s' => match r with
                | .ok _ => ∃ m, m < n ∧ I m s'
                | .error _ => False) s₅) (notedBy (model prog w) A env fun e s' => R (.error e) s') s₄) (notedBy (model prog w) A env fun e s' => R (.error e) s') s₃) (notedBy (model prog w) A env fun e s' => R (.error e) s') s₁') (notedBy (model prog w) A env fun e s' => R (.error e) s') s₁) (notedBy (model prog w) A env fun e s' => R (.error e) s') s)
    (n : Nat) (h : I n s) : codeAny (model prog w) A (.compLoop (sc2 elt t0 i0 t1 i1 scope pos) 0 it acc env) R s := by
  refine codeAny_loop rfl I (fun n s hI => ?_) n h
  show wpAny _ A ((compTurn (sc2 elt t0 i0 t1 i1 scope pos) 0 it acc env).onRaise (fun x => do noteFrame x env; theTreesLotGoes x)) _ _ s
  refine wpAny_noted ?_
  rw [turnS_out]
  refine wpAny_bind (wpAny_standAt (wpAny_bind (wpAny_mono (turn n s hI) (fun r s₁ h₁ => ?_) fun _ _ z => z)))
  cases r with
  | none => exact wpAny_pure h₁
  | some v =>
    refine wpAny_bind (wpAny_mono h₁ (fun _ s₁' h₁' => ?_) fun _ _ z => z)
    refine wpAny_bind (wpAny_mono h₁' (fun _ s₂ h₃ => wpAny_bind (wpAny_tests_nil ?_)) fun _ _ z => z)
    refine wpAny_bind (wpAny_mono h₃ (fun x s₄ h₄ => ?_) fun _ _ z => z)
    refine wpAny_bind (wpAny_standAt (wpAny_bind (wpAny_of_eq (hs x) (wpAny_bind (wpAny_holding (wpAny_mono h₄ (fun it1 s₅ h₅ => ?_) fun _ _ z => z))))))
    refine wpAny_bind (wpAny_runOwn ?_)
    rw [Around.mark_none]
    refine codeAny_mono h₅ fun r s' hr => ?_
    cases r with
    | ok f =>
      first
        | exact wpAny_pure ⟨rfl, hr⟩
        | exact wpAny_bind (wpAny_pure (wpAny_pure ⟨rfl, hr⟩))
    | error e => exact hr.elim
theorem loopS_in (I : Nat → Shared → Prop)
    (turn : ∀ n s, I n s → wpAny (model prog w) A (pyNext it) (fun r s₁ => match r with
      | none => R (.ok .next) s₁
      | some v => wpAny (model prog w) A (letOwnedTupleGo t1 it v) (fun _ s₁' => wpAny (model prog w) A (assign t1 env v) (fun _ s₃ =>
          wpAny (model prog w) A (eval elt env) (fun x s₄ =>
              wpAny (model prog w) A (call (.builtin "set.add") [acc, x]) (fun _ s₅ => ∃ m, m < n ∧ I m s₅) (notedBy (model prog w) A env fun e s' => R (.error e) s') s₄) (notedBy (model prog w) A env fun e s' => R (.error e) s') s₃) (notedBy (model prog w) A env fun e s' => R (.error e) s') s₁') (notedBy (model prog w) A env fun e s' => R (.error e) s') s₁) (notedBy (model prog w) A env fun e s' => R (.error e) s') s)
    (n : Nat) (h : I n s) : codeAny (model prog w) A (.compLoop (sc2 elt t0 i0 t1 i1 scope pos) 1 it acc env) R s := by
  refine codeAny_loop rfl I (fun n s hI => ?_) n h
  show wpAny _ A ((compTurn (sc2 elt t0 i0 t1 i1 scope pos) 1 it acc env).onRaise (fun x => do noteFrame x env; theTreesLotGoes x)) _ _ s
  refine wpAny_noted ?_
  rw [turnS_in]
  refine wpAny_bind (wpAny_standAt (wpAny_bind (wpAny_mono (turn n s hI) (fun r s₁ h₁ => ?_) fun _ _ z => z)))
  cases r with
  | none => exact wpAny_pure h₁
  | some v =>
    refine wpAny_bind (wpAny_mono h₁ (fun _ s₁' h₁' => ?_) fun _ _ z => z)
    refine wpAny_bind (wpAny_mono h₁' (fun _ s₂ h₃ => wpAny_bind (wpAny_tests_nil ?_)) fun _ _ z => z)
    exact wpAny_bind (wpAny_bind (wpAny_mono h₃ (fun x s₄ h₄ => wpAny_bind (wpAny_standAt (wpAny_bind (wpAny_mono h₄ (fun _ s₅ h₅ => wpAny_pure (wpAny_pure ⟨rfl, h₅⟩)) fun _ _ z => z)))) fun _ _ z => z))
theorem startS_in (h0 : codeAny (model prog w) A (.compLoop (sc2 elt t0 i0 t1 i1 scope pos) 1 it acc env) R s)
    (h : wpAny (model prog w) A (pyIter it) (fun it' s' => codeAny (model prog w) A (.compLoop (sc2 elt t0 i0 t1 i1 scope pos) 1 it' acc env) R s')
      (notedBy (model prog w) A env fun x s' => R (.error x) s') s) :
    codeAny (model prog w) A (.compStart (sc2 elt t0 i0 t1 i1 scope pos) 1 it acc env) R s := by
  refine codeAny_of_tree ?_
  show wpAny _ _ ((compStart (sc2 elt t0 i0 t1 i1 scope pos) 1 it acc env).onRaise (fun x => do noteFrame x env; standAt theWindowsPlace)) _ _ s
  refine wpAny_notedAt ?_
  unfold compStart
  show wpAny _ _ (ask >>= _) _ _ s
  refine wpAny_bind (wpAny_askSetting (wpAny_ite ?_))
  split
  · first
      | exact wpAny_bind (wpAny_pure (wpAny_pure (And.intro rfl h0)))
      | exact wpAny_pure (And.intro rfl h0)
  · first
      | exact wpAny_bind (wpAny_rule (wpAny_bind (wpAny_standAt (wpAny_bind (wpAny_mono h (fun it' s' h' => wpAny_pure (And.intro rfl h')) fun _ _ x => x)))))
      | (refine wpAny_bind (wpAny_rule ?_); show wpAny _ _ (standAt i1.pos >>= _) _ _ s; exact wpAny_bind (wpAny_standAt (wpAny_bind (wpAny_mono h (fun it' s' h' => wpAny_pure (And.intro rfl h')) fun _ _ x => x))))
end
end VS
set_option Elab.async false
set_option linter.all false
set_option maxRecDepth 100000
set_option maxHeartbeats 2000000
namespace VS
open PySem PySem.Spec PyProof.Rows L2
section
variable {X : Cx}
def tSc2 (P : Program) (w : World) (wi : TI) (g : TG) (wi1 : TI) (g1 : TG) (te : TE) (vs vs1 : List Nat) : TE := fun σ H Q => wi σ H fun J H1 => ∀ D, H1 D = none → ∃ W : Nat → Nat → Hp → Prop, (∃ m, W 0 m (upd H1 D (SetG P w D []))) ∧ ∀ i m H, W i m H →
  (J.stop i H ∧ Q (.ref D) H) ∨ (J.go i H ∧ ∃ Nx : Hp → Prop, (∀ H', Nx H' → ∃ m', m' < m ∧ W (i + 1) m' H') ∧ ∀ x H', J.yld i H x H' → g x (wipe σ vs) H' fun σ2 H2 => wipe σ2 vs = wipe σ vs ∧
    wi1 σ2 H2 fun J1 H4 => ∃ W1 : Nat → Nat → Hp → Prop, (∃ m, W1 0 m H4) ∧ ∀ j k H, W1 j k H →
      (J1.stop j H ∧ Nx H) ∨ (J1.go j H ∧ ∃ Nx1 : Hp → Prop, (∀ H', Nx1 H' → ∃ k', k' < k ∧ W1 (j + 1) k' H') ∧ ∀ x H', J1.yld j H x H' → g1 x (wipe σ2 vs1) H' fun σ3 H5 => wipe σ3 vs1 = wipe σ2 vs1 ∧
        te σ3 H5 fun y H7 => ∃ (ks : List Str) (c : Str), y = .str c ∧ H7 D = some (SetG P w D ks) ∧ ks.length + 1 < scanBound ∧ ∀ ks', VSet.Add ks c ks' → Nx1 (upd H7 D (SetG P w D ks'))))
theorem sc2_core {pins : List (Addr × Obj)} {s : Shared} {σ : L2.St} {H : Hp} {Q : VK} {elt tg iter tg1 iter1 : Expr} {scope : Scope} {own : List (PySem.Str × Nat)} {vs1 : List Nat} {pos pos' : Pos} {wi wi1 : TI} {g g1 : TG} {te : TE} {use : Option (Value → Sem Unit)} {Qf : Value → Shared → Prop}
    (hc : X.calm = true) (hN : X.N.Nodup) (I : Inv X pins σ H s) (hi : PI X tg iter wi) (ok : BlkOk X.N X.env.scope scope own) (hv : ∀ i ∈ vs1, i ∈ own.map (·.2))
    (hg : BlkAll X scope fun Y => PG Y tg g) (he : BlkAll X scope fun Y => PE Y elt te) (hs : ∀ x, foldedSetIterable iter X.env x = pure x)
    (hi1 : BlkAll X scope fun Y => PI Y tg1 iter1 wi1) (hg1 : BlkAll X scope fun Y => PG Y tg1 g1) (hs1 : ∀ env x, foldedSetIterable iter1 env x = pure x)
    (h : tSc2 X.prog X.w wi g wi1 g1 te (own.map (·.2)) vs1 σ H Q)
    (hRR : ∀ D C s' m H', Inv X pins σ H' s' → Q (.ref D) H' → s'.heap.Ns C m → FpOk X pins H' C → compPost (model X.prog X.w) X.A X.xe use Qf (.ref D) C (.ok .next) s') :
    wpAny (model X.prog X.w) X.A (comprehension (sc2 elt tg iter tg1 iter1 scope pos) scope X.env pos' (newSet (.type "set")) false (eval iter X.env) use) Qf X.xe s := by
  have hfree : ∀ y ∈ scope.names, y.2 = .free → ∃ c, X.env.cells.lookup y.1 = some c := fun y hy e => by
    rcases ok.free y hy e with k | k
    · exact I.ok.has _ (.inl k)
    · exact I.ok.has _ (.inr k)
  refine wpAny_comprehension_free (use := use) rfl hs (closure_ok hfree) ok.kind (fun y hy e => by rw [ok.uniq y hy, e])
    (thn (hi.run pins s σ H _ I h) fun xv s1 hx => thn hx fun itv s2 h2 => ?_)
  obtain ⟨it, fp, tn, J, H2, e, I2, T, st2, f2, q⟩ := h2
  subst e
  refine PpSet.newSet_ok (newEnv_comp ?_)
  generalize hD : s2.heap.objs.size = D
  have hDn : H2 D = none := I2.hok.fresh (Nat.le_of_eq hD)
  obtain ⟨W, ⟨m0, w0⟩, turn⟩ := q D hDn
  generalize hs3 : ({ s2 with heap := s2.heap.push { cls := .type "set", dict := none, data := .set #[] 0 (.fresh 0 0 (!X.w.params.followText "set-order")) } } : Shared) = s3
  have I3 : Inv X pins σ (upd H2 D (SetG X.prog X.w D [])) s3 := by
    rw [← hs3]
    refine I2.laid (t' := s2.toks) (fun b o e => Heap.get?_push_of_some _ e) (Nat.le_of_eq hD) ?_
    rw [← hD]
    exact setG_new (VSet.sg_fresh (Heap.get?_push_size _ rfl))
  have h3 : s3.heap = s2.heap.push { cls := .type "set", dict := none, data := .set #[] 0 (.fresh 0 0 (!X.w.params.followText "set-order")) } := by rw [← hs3]
  have sz : ∀ b ∈ fp, b < s2.heap.objs.size := fun b hb => by
    obtain ⟨o, e, _⟩ := T.obj _ _ st2 b hb
    exact Heap.lt_size e
  have f3 : ∀ b ∈ fp, FpOk X pins (upd H2 D (SetG X.prog X.w D [])) b ∧ b < s3.heap.objs.size := fun b hb => by
    have hlt := sz b hb
    refine ⟨⟨?_, (f2 b hb).2⟩, by rw [h3, Heap.size_push]; exact Nat.lt_succ_of_lt hlt⟩
    rw [upd_ne (by rw [← hD]; exact Nat.ne_of_lt hlt)]
    exact (f2 b hb).1
  have st3 : tn 0 s3.heap := T.keep _ _ _ st2 fun b _ o e => by rw [h3]; exact Heap.get?_push_of_some _ e
  have I4 := block_start I3 ok hN f3
  have pg := hg s3 (upd H2 D (SetG X.prog X.w D [])) s3.heap.objs.size (cellsFrom (s3.heap.objs.size + 1) scope.names (cloFrom X.env.cells scope.names [])) fp
  have pe := he s3 (upd H2 D (SetG X.prog X.w D [])) s3.heap.objs.size (cellsFrom (s3.heap.objs.size + 1) scope.names (cloFrom X.env.cells scope.names [])) fp
  have pi1 := hi1 s3 (upd H2 D (SetG X.prog X.w D [])) s3.heap.objs.size (cellsFrom (s3.heap.objs.size + 1) scope.names (cloFrom X.env.cells scope.names [])) fp
  have pg1 := hg1 s3 (upd H2 D (SetG X.prog X.w D [])) s3.heap.objs.size (cellsFrom (s3.heap.objs.size + 1) scope.names (cloFrom X.env.cells scope.names [])) fp
  show codeAny _ _ (.compStart (sc2 elt tg iter tg1 iter1 scope pos) 0 (.ref it) (.ref D) (compEnvC scope (cellsFrom (s3.heap.objs.size + 1) scope.names (cloFrom X.env.cells scope.names [])) s3.heap.objs.size X.env)) (compPost (model X.prog X.w) X.A X.xe use Qf (.ref D) s3.heap.objs.size) { s3 with heap := pushCells (s3.heap.push { cls := .type "dict", data := .dict #[] }) scope.names }
  have nfp : ∀ b ∈ fp, (upd H2 D (SetG X.prog X.w D [])) b = none := fun b hb => (f3 b hb).1.1
  generalize hce : compEnvC scope (cellsFrom (s3.heap.objs.size + 1) scope.names (cloFrom X.env.cells scope.names [])) s3.heap.objs.size X.env = ce at I4 pg pe pi1 pg1 ⊢
  have cL : ce.locals = s3.heap.objs.size := by subst hce; rfl
  generalize hH3 : upd H2 D (SetG X.prog X.w D []) = H3 at I3 I4 pg pe pi1 pg1 w0 nfp f3
  generalize hs4 : ({ s3 with heap := pushCells (s3.heap.push { cls := .type "dict", data := .dict #[] }) scope.names } : Shared) = s4 at I4 ⊢
  have st4 : tn 0 s4.heap := T.keep _ _ _ st3 fun b _ o e => by rw [← hs4]; exact pushCells_keeps _ _ _ _ (Heap.get?_push_of_some _ e)
  have stat : ∀ {σ' : L2.St} {H' : Hp} {s' : Shared}, Inv (X.blk s3 H3 scope ce fp) [] σ' H' s' → (∀ b ∈ fp, H' b = none) → ∀ b ∈ fp, FpOk (X.blk s3 H3 scope ce fp) [] H' b := fun {σ' H' s'} I' hn b hb =>
    ⟨hn b hb, (I'.ok.exf b hb).1, I'.ok.exfs b hb, .inl hb, fun x c e => (I'.ok.exf b hb).2 x c e, fun p hp => absurd (show p ∈ ([] : List (Addr × Obj)) ++ [] from hp) (by simp)⟩
  have loop : codeAny (model X.prog X.w) X.A (.compLoop (sc2 elt tg iter tg1 iter1 scope pos) 0 (.ref it) (.ref D) ce) (compPost (model X.prog X.w) X.A X.xe use Qf (.ref D) s3.heap.objs.size) s4 := by
    refine loopS_out (hs1 ce) (fun n s' => ∃ i H', Inv (X.blk s3 H3 scope ce fp) [] (wipe σ (own.map (·.2))) H' s' ∧ tn i s'.heap ∧ (∀ b ∈ fp, H' b = none) ∧ W i n H') ?_ m0 ⟨0, H3, I4, st4, nfp, w0⟩
    rintro n s5 ⟨i, H5, I5, st5, n5, w5⟩
    rcases turn i n H5 w5 with ⟨stop, qq⟩ | ⟨go, Nx, hNx, step⟩
    · have td := T.done (X.blk s3 H3 scope ce fp) rfl rfl rfl hc i [] s5 _ H5 (fun _ _ => False) I5 (stat I5 n5) st5 stop
      refine thnF td fun r s6 ⟨hr, I6⟩ => ?_
      subst hr
      have I7 : Inv X pins σ H5 s6 := I3.call' (ch := fp) I6.os I6.base I6.hok I6.bare fun b hb => ⟨(f3 b hb).1.2.2.2.1, (f3 b hb).1.2.1, (f3 b hb).1.2.2.2.2.1, (f3 b hb).1.2.2.2.2.2⟩
      have nC : H5 s3.heap.objs.size = none := by
        have z : H5 ce.locals = none := I6.free
        rw [cL] at z
        exact z
      obtain ⟨m, hn, _⟩ := I6.loc
      have hn : s6.heap.Ns ce.locals m := hn
      rw [cL] at hn
      exact hRR D s3.heap.objs.size s6 m H5 I7 qq hn (I3.fpOk (Nat.le_refl _) nC)
    · have ti := T.item (X.blk s3 H3 scope ce fp) rfl rfl rfl hc i [] s5 _ H5 (fun _ _ => False) I5 (stat I5 n5) st5 go
      refine thnF ti fun r s6 ⟨u, hr, h6⟩ => ?_
      subst hr
      refine thnF h6 fun _ s7 ⟨x, H7, I7, r7, y7, st7, n7⟩ => ?_
      have I7' := I7.pinned (stat I7 n7) (T.obj _ _ st7)
      refine thnF (pg.run _ s7 _ H7 x u _ I7' r7 (step x H7 y7)) fun _ s8 ⟨σ8, H8, I8, hw8, q8⟩ => ?_
      have fin : ∀ {σ9 : L2.St} {s' : Shared} {H' : Hp}, Inv (X.blk s3 H3 scope ce fp) ([] ++ pinsAt fp s7.heap) σ9 H' s' → (wipe σ (own.map (·.2))).length = σ9.length → (∀ (j : Nat) v, (wipe σ (own.map (·.2)))[j]? = some (some v) → σ9[j]? = some (some v)) → Nx H' →
          ∃ m, m < n ∧ ∃ i H', Inv (X.blk s3 H3 scope ce fp) [] (wipe σ (own.map (·.2))) H' s' ∧ tn i s'.heap ∧ (∀ b ∈ fp, H' b = none) ∧ W i m H' := fun {σ9 s' H'} I' hl hk nx => by
        obtain ⟨m', hm, w'⟩ := hNx H' nx
        have pin' : ∀ b ∈ fp, ∀ o, s7.heap.get? b = some o → s'.heap.get? b = some o ∧ H' b = none := fun b hb o e =>
          let z := I'.pin (b, o) (List.mem_append_right _ (List.mem_append_right _ (mem_pinsAt hb e)))
          ⟨z.1, z.2.1⟩
        refine ⟨m', hm, i + 1, H', (I'.unpinned (pins := [])).weak hl hk, T.keep _ _ _ st7 fun b hb o e => (pin' b hb o e).1, fun b hb => ?_, w'⟩
        obtain ⟨o, e, _⟩ := T.obj _ _ st7 b hb
        exact (pin' b hb o e).2
      have hl8 : (wipe σ (own.map (·.2))).length = σ8.length := by rw [← hw8, wipe_length]
      have hk9 : ∀ (j : Nat) v, (wipe σ (own.map (·.2)))[j]? = some (some v) → (wipe σ8 vs1)[j]? = some (some v) := fun j v e => by
        rw [← hw8] at e
        obtain ⟨e1, e2⟩ := wipe_some e
        rw [wipe_out fun z => e2 (hv j z)]
        exact e1
      refine thnF (pi1.run _ s8 σ8 H8 _ I8 q8) fun xv s10 hx => thnF hx fun itv s11 h11 => ?_
      obtain ⟨it1, fp1, tn1, J1, H11, e1, I11, T1, st11, f11, W1, ⟨m1, w1⟩, turn1⟩ := h11
      subst e1
      have stat1 : ∀ {H' : Hp}, (∀ b ∈ fp1, H' b = none) → ∀ b ∈ fp1, FpOk (X.blk s3 H3 scope ce fp) ([] ++ pinsAt fp s7.heap) H' b := fun hn b hb => ⟨hn b hb, (f11 b hb).2⟩
      have loop1 : codeAny (model X.prog X.w) X.A (.compLoop (sc2 elt tg iter tg1 iter1 scope pos) 1 (.ref it1) (.ref D) ce)
          (fun r s' => match r with
            | .ok _ => ∃ m, m < n ∧ ∃ i H', Inv (X.blk s3 H3 scope ce fp) [] (wipe σ (own.map (·.2))) H' s' ∧ tn i s'.heap ∧ (∀ b ∈ fp, H' b = none) ∧ W i m H'
            | .error _ => False) s11 := by
        refine loopS_in (fun k s' => ∃ j H', Inv (X.blk s3 H3 scope ce fp) ([] ++ pinsAt fp s7.heap) (wipe σ8 vs1) H' s' ∧ tn1 j s'.heap ∧ (∀ b ∈ fp1, H' b = none) ∧ W1 j k H') ?_ m1 ⟨0, H11, I11.weak (wipe_length _ _) (fun j v e => (wipe_some e).1), st11, fun b hb => (f11 b hb).1, w1⟩
        rintro k s12 ⟨j, H12, I12, st12, n12, w12⟩
        rcases turn1 j k H12 w12 with ⟨stop1, nx1⟩ | ⟨go1, Nx1, hNx1, step1⟩
        · refine thnF (T1.done (X.blk s3 H3 scope ce fp) rfl rfl rfl hc j _ s12 (wipe σ8 vs1) H12 (fun _ _ => False) I12 (stat1 n12) st12 stop1) fun r s13 ⟨hr, I13⟩ => ?_
          subst hr
          exact fin I13 (hl8.trans (wipe_length σ8 vs1).symm) hk9 nx1
        · refine thnF (T1.item (X.blk s3 H3 scope ce fp) rfl rfl rfl hc j _ s12 (wipe σ8 vs1) H12 (fun _ _ => False) I12 (stat1 n12) st12 go1) fun r s13 ⟨u1, hr, h13⟩ => ?_
          subst hr
          refine thnF h13 fun _ s14 ⟨x1, H14, I14, r14, y14, st14, n14⟩ => ?_
          have I14' := I14.pinned (stat1 n14) (T1.obj _ _ st14)
          refine thnF (pg1.run _ s14 (wipe σ8 vs1) H14 x1 u1 _ I14' r14 (step1 x1 H14 y14)) fun _ s15 ⟨σ15, H15, I15, hw15, q15⟩ => ?_
          have fin1 : ∀ {s' : Shared} {H' : Hp}, Inv (X.blk s3 H3 scope ce fp) (([] ++ pinsAt fp s7.heap) ++ pinsAt fp1 s14.heap) σ15 H' s' → Nx1 H' → ∃ m, m < k ∧ ∃ j H', Inv (X.blk s3 H3 scope ce fp) ([] ++ pinsAt fp s7.heap) (wipe σ8 vs1) H' s' ∧ tn1 j s'.heap ∧ (∀ b ∈ fp1, H' b = none) ∧ W1 j m H' := fun {s' H'} I' nx => by
            obtain ⟨m', hm, w'⟩ := hNx1 H' nx
            have pin' : ∀ b ∈ fp1, ∀ o, s14.heap.get? b = some o → s'.heap.get? b = some o ∧ H' b = none := fun b hb o e =>
              let z := I'.pin (b, o) (List.mem_append_right _ (List.mem_append_right _ (mem_pinsAt hb e)))
              ⟨z.1, z.2.1⟩
            refine ⟨m', hm, j + 1, H', I'.unpinned.weak (by rw [← hw15, wipe_length]) (fun j v e => by rw [← hw15] at e; exact (wipe_some e).1), T1.keep _ _ _ st14 fun b hb o e => (pin' b hb o e).1, fun b hb => ?_, w'⟩
            obtain ⟨o, e, _⟩ := T1.obj _ _ st14 b hb
            exact (pin' b hb o e).2
          refine thnF (pe.run _ s15 σ15 H15 _ I15 q15) fun z s17 ⟨yv, H17, I17, r17, ks, c, ey, hD17, hz17, nx⟩ => ?_
          subst ey
          obtain ⟨tk, ez⟩ := (show ∃ t, z = Value.str c t from r17)
          subst ez
          exact addG_ok (X := X.blk s3 H3 scope ce fp) I17 hD17 hz17 fun s18 ks' ad I18 => fin1 I18 (nx ks' ad)
      exact startS_in loop1 (T1.self X.A 0 _ _ _ st11 loop1)
  exact PpSet.codeAny_compStart_set loop (T.self X.A 0 _ _ _ st4 loop)
theorem pe_sc2 {elt tg iter tg1 iter1 : Expr} {scope : Scope} {own : List (PySem.Str × Nat)} {vs1 : List Nat} {pos : Pos} {wi wi1 : TI} {g g1 : TG} {te : TE} (hc : X.calm = true) (hN : X.N.Nodup) (hi : PI X tg iter wi) (ok : BlkOk X.N X.env.scope scope own) (hv : ∀ i ∈ vs1, i ∈ own.map (·.2))
    (hg : BlkAll X scope fun Y => PG Y tg g) (hi1 : BlkAll X scope fun Y => PI Y tg1 iter1 wi1) (hg1 : BlkAll X scope fun Y => PG Y tg1 g1) (he : BlkAll X scope fun Y => PE Y elt te)
    (hs : ∀ x, foldedSetIterable iter X.env x = pure x := by intro _; rfl) (hs1 : ∀ env x, foldedSetIterable iter1 env x = pure x := by intro _ _; rfl) : PE X (sc2 elt tg iter tg1 iter1 scope pos) (tSc2 X.prog X.w wi g wi1 g1 te (own.map (·.2)) vs1) := by
  refine ⟨fun pins s σ H Q I h => ?_⟩
  rw [PpSet.eval_SetComp]
  refine sc2_core hc hN I hi ok hv hg he hs hi1 hg1 hs1 h fun D C s' m H' I' q hn f => ⟨m, hn, fun h'' sb => ?_⟩
  obtain ⟨f0, f1, f2, f3, f4, f5⟩ := f
  exact ⟨.ref D, H', I'.turned (t' := s'.toks) (fun b o hb e => (sb.2 b hb).trans e) f0 f1 f3 f4 f5, rfl, q⟩
end
end VS
set_option Elab.async false
set_option linter.all false
set_option maxRecDepth 100000
namespace VS
open PySem L2
noncomputable def scI (t1 : MT) (te : M U) (vs1 : List Nat) : List U → List Str → En → Option (List Str × En)
  | [], acc, e => some (acc, e)
  | u :: us, acc, e => match t1 u e with
    | some e1 => match te e1 with
      | .ok (.str c) e2 => if acc.length + 1 < PySem.scanBound then scI t1 te vs1 us (acc ++ [c]) (wipeE e2 vs1) else none
      | _ => none
    | none => none
noncomputable def scO (t : MT) (m1 : M Src) (t1 : MT) (te : M U) (vs vs1 : List Nat) : List U → List Str → En → Option (List Str × En)
  | [], acc, e => some (acc, e)
  | u :: us, acc, e => match t u e with
    | some e1 => match m1 e1 with
      | .ok s e2 => match s.g with
        | none => match scI t1 te vs1 s.items acc (wipeE e2 vs1) with
          | some (acc', e3) => scO t m1 t1 te vs vs1 us acc' (wipeE e3 vs)
          | none => none
        | some _ => none
      | _ => none
    | none => none
noncomputable def mSc2 (m : M Src) (t : MT) (m1 : M Src) (t1 : MT) (te : M U) (vs vs1 : List Nat) : M (Bool × U) := m.bd fun s e => match s.g with
  | none => match scO t m1 t1 te vs vs1 s.items [] (wipeE e vs) with
    | some (acc, e') => if (dedS acc).length < 64 then .ok (true, .lst ((sortS (dedS acc)).map .str)) (resE e e' vs) else .bad
    | none => .bad
  | some _ => .bad
def rm (H : Hp) (D : Addr) : Hp := fun a => if a = D then none else H a
theorem rm_self {H : Hp} {D : Addr} : rm H D D = none := by unfold rm; rw [if_pos rfl]
theorem rm_ne {H : Hp} {D a : Addr} (h : a ≠ D) : rm H D a = H a := by unfold rm; rw [if_neg h]
theorem rm_some {H : Hp} {D a : Addr} {o : HO} (h : rm H D a = some o) : a ≠ D ∧ H a = some o := by
  by_cases z : a = D
  · subst z; rw [rm_self] at h; cases h
  · rw [rm_ne z] at h; exact ⟨z, h⟩
theorem rm_upd {H : Hp} {D : Addr} {o : HO} : rm (upd H D o) D = rm H D := by
  funext a
  by_cases z : a = D
  · subst z; rw [rm_self, rm_self]
  · rw [rm_ne z, rm_ne z, upd_ne z]
theorem upd_rm {H : Hp} {D : Addr} {o : HO} (h : H D = some o) : upd (rm H D) D o = H := by
  funext a
  by_cases z : a = D
  · subst z; rw [upd_same, h]
  · rw [upd_ne z, rm_ne z]
section
variable {Γ : Ga} {B H B' H' : Hp} {e e' : En} {σ σ' : St} {D : Addr}
theorem SR.rm (s : SR Γ B H e σ) (b : B D = none) (n : ¬ own e σ D) : SR Γ B (VS.rm H D) e σ := by
  refine ⟨fun a u q => ?_, s.ln, s.vl, fun i u q => ?_, s.ds⟩
  · rw [rm_ne (fun z => by rw [z, b] at q; cases q)]
    exact s.bh _ _ q
  · obtain ⟨a, ho, h1, h2, h3, h4⟩ := s.ow i u q
    exact ⟨a, ho, h1, by rw [rm_ne (fun z => n ⟨i, u, q, by rw [h1, z]⟩)]; exact h2, h3, h4⟩
theorem SR.unrm (s : SR Γ B (VS.rm H D) e σ) : SR Γ B H e σ ∧ B D = none ∧ ¬ own e σ D := by
  refine ⟨⟨fun a u q => (rm_some (s.bh _ _ q)).2, s.ln, s.vl, fun i u q => ?_, s.ds⟩, ?_, fun ⟨i, u, q, t⟩ => ?_⟩
  · obtain ⟨a, ho, h1, h2, h3, h4⟩ := s.ow i u q
    exact ⟨a, ho, h1, (rm_some h2).2, h3, h4⟩
  · cases q : B D with
    | none => rfl
    | some u => exact absurd rfl (rm_some (s.bh _ _ q)).1
  · obtain ⟨a, ho, h1, h2, _⟩ := s.ow i u q
    rw [t] at h1
    cases h1
    exact absurd rfl (rm_some h2).1
theorem Go.minus (g : Go Γ B H e σ B' H' e' σ') (b : B' D = none) (n : ¬ own e' σ' D) : Go Γ B (VS.rm H D) e σ B' (VS.rm H' D) e' σ' := by
  refine ⟨⟨g.st.bb, fun a o h na => ?_, fun a o h na => g.st.nb a o (rm_some h).2 na⟩, g.sr.rm b n, fun a z => ?_⟩
  · obtain ⟨h1, h2⟩ := rm_some h
    rw [rm_ne h1]
    exact g.st.fr a o h2 na
  · rcases g.sub a z with q | q
    · exact .inl q
    · right
      by_cases y : a = D
      · rw [y, rm_self]
      · rw [rm_ne y]; exact q
theorem Go.rmR (g : Go Γ B H e σ B' H' e' σ') (h0 : H D = none) (b : B' D = none) (n : ¬ own e' σ' D) : Go Γ B H e σ B' (VS.rm H' D) e' σ' := by
  refine ⟨⟨g.st.bb, fun a o h na => ?_, g.st.nb⟩, g.sr.rm b n, g.sub⟩
  rw [rm_ne (ne_of_none h h0)]
  exact g.st.fr a o h na
end
section
variable {X : Cx} {W : WXX}
def Mem (ks acc : List Str) : Prop := (∀ y, y ∈ ks ↔ y ∈ acc) ∧ ks.length ≤ acc.length
theorem Mem.add {ks ks' acc : List Str} {c : Str} (h : Mem ks acc) (a : VSet.Add ks c ks') : Mem ks' (acc ++ [c]) := by
  refine ⟨fun y => ?_, ?_⟩
  · rw [a.mem, h.1, List.mem_append, List.mem_singleton]
    exact or_comm
  · have := a.len; have := h.2; rw [List.length_append]; simp; omega
abbrev rSortG (P : Program) (w : World) : List V → Hp → VK → Prop := fun xs H Q => ∃ D ks acc, xs = [.ref D] ∧ H D = some (SetG P w D ks) ∧ Mem ks acc ∧ (dedS acc).length < 64 ∧ ∀ p, H p = none → Q (.ref p) (upd H p (.lst ((sortS (dedS acc)).map V.str)))
theorem sc2_core' {m : M Src} {t : MT} {m1 : M Src} {t1 : MT} {te : M U} {vs vs1 : List Nat} (σ : St) (H : Hp) (Q : VK) (q : tG (ga X) W (rlO (ga X)) (mSc2 m t m1 t1 te vs vs1) σ H Q) :
    tSc2 X.prog X.w (iG (ga X) W m) (gG (ga X) (prB vs) t) (iG (ga X) W0 m1) (gG (ga X) (prB vs1) t1) (tG (ga X) W0 (rlV (ga X)) te) vs vs1 σ H
      (fun v H' => rSortG X.prog X.w [v] H' Q) := by
  obtain ⟨B, e, sr, q⟩ := q
  refine ⟨B, e, sr, ?_⟩
  unfold tAt mSc2 M.bd at q
  cases z : m e with
  | bad => rw [z] at q; exact q
  | exc c u e' => rw [z] at q; exact q
  | ok s e1 =>
    rw [z] at q
    dsimp only at q ⊢
    intro J B1 H1 g1 io _ D hD
    cases hg : s.g with
    | some i => rw [hg] at q; exact q.elim
    | none =>
      rw [hg] at q io
      dsimp only at q
      cases hl : scO t m1 t1 te vs vs1 s.items [] (wipeE e1 vs) with
      | none => rw [hl] at q; exact q.elim
      | some r0 =>
        obtain ⟨acc0, e0⟩ := r0
        rw [hl] at q
        dsimp only at q
        by_cases h64 : (dedS acc0).length < 64
        · rw [if_pos h64] at q
          have bD : B1 D = none := g1.sr.none_of hD
          have nD : ¬ own e1 σ D := g1.sr.not_own hD
          refine ⟨fun k n H' => n = s.items.length - k ∧ k ≤ s.items.length ∧ ∃ B' e' acc ks, Go (ga X) B1 H1 e1 σ B' H' e' σ ∧ Emp e' vs ∧ H' D = some (SetG X.prog X.w D ks) ∧ Mem ks acc ∧ B' D = none ∧ ¬ own e' σ D ∧
            scO t m1 t1 te vs vs1 (s.items.drop k) acc e' = some (acc0, e0), ⟨_, rfl, Nat.zero_le _, B1, wipeE e1 vs, [], [], ?_, emp_wipe _ _, upd_same, ⟨fun y => Iff.rfl, Nat.le_refl _⟩, bD, fun w => nD (own_wipeE w), by simpa using hl⟩, ?_⟩
          · exact Go.setD (Go.wipeE g1.sr) hD bD fun w => nD (own_wipeE w)
          · rintro k n H' ⟨rfl, hk, B', e', acc, ks, g', em, hHD, hm, bD', nD', hl'⟩
            have sb := g'.st.bb
            by_cases hlt : k < s.items.length
            · refine .inr ?_
              have hu : s.items[k]? = some s.items[k] := by simp [hlt]
              obtain ⟨j1, j2⟩ := io.go B' H' k _ sb g'.sr.bh trivial hu
              rw [List.drop_eq_getElem_cons hlt] at hl'
              unfold scO at hl'
              refine ⟨j1, fun H2 => ∃ B2 e2 acc ks, Go (ga X) B1 H1 e1 σ B2 H2 e2 σ ∧ Emp e2 vs ∧ H2 D = some (SetG X.prog X.w D ks) ∧ Mem ks acc ∧ B2 D = none ∧ ¬ own e2 σ D ∧
                scO t m1 t1 te vs vs1 (s.items.drop (k + 1)) acc e2 = some (acc0, e0), fun H2 ⟨B2, e2, ac, kk, h1, h2, h3, h4, h5, h6, h7⟩ => ⟨s.items.length - (k + 1), by omega, rfl, hlt, B2, e2, ac, kk, h1, h2, h3, h4, h5, h6, h7⟩, fun x H'' y => ?_⟩
              obtain ⟨B'', lt, rx⟩ := j2 x H'' y
              have gw := lt.go (g'.sr.ag em (ag_wipe σ vs))
              refine ⟨B'', e', _, gw.sr, rx, ?_⟩
              cases h1 : t s.items[k] e' with
              | none => rw [h1] at hl'; cases hl'
              | some e2 =>
                rw [h1] at hl'
                dsimp only at hl' ⊢
                intro B2 H2 σ2 g2 k2
                have ag2 : Ag vs (wipe σ vs) σ2 := kp_ag k2
                refine ⟨(wipe_ag ag2).symm.trans (wipe_ag (ag_wipe σ vs)).symm, B2, e2, g2.sr, ?_⟩
                cases h2 : m1 e2 with
                | bad => rw [h2] at hl'; cases hl'
                | exc c u e3 => rw [h2] at hl'; cases hl'
                | ok s1 e3 =>
                  rw [h2] at hl'
                  dsimp only at hl' ⊢
                  intro J1 B3 H3 g3 io1 _
                  cases hg1 : s1.g with
                  | some i => rw [hg1] at hl'; cases hl'
                  | none =>
                    rw [hg1] at hl' io1
                    dsimp only at hl'
                    cases hl1 : scI t1 te vs1 s1.items acc (wipeE e3 vs1) with
                    | none => rw [hl1] at hl'; cases hl'
                    | some r1 =>
                      obtain ⟨acc1, e4⟩ := r1
                      rw [hl1] at hl'
                      dsimp only at hl'
                      -- from the turn's start to here
                      have G3 := (gw.trans g2).trans g3
                      have nd : ¬ own e' (wipe σ vs) D := fun w => nD' (own_ag em (ag_wipe σ vs).symm w)
                      have keep3 : H3 D = some (SetG X.prog X.w D ks) := G3.st.fr D _ hHD nd
                      have b3 : B3 D = none := G3.st.nb D _ hHD nd bD'
                      have n3 : ¬ own e3 σ2 D := fun w => by
                        rcases G3.sub _ w with z | z
                        · exact nd z
                        · rw [hHD] at z; cases z
                      have G3m := G3.minus b3 n3
                      refine ⟨fun j n H' => n = s1.items.length - j ∧ j ≤ s1.items.length ∧ ∃ B4 e5 ac kk, Go (ga X) B3 (rm H3 D) e3 σ2 B4 (rm H' D) e5 σ2 ∧ Emp e5 vs1 ∧ H' D = some (SetG X.prog X.w D kk) ∧ Mem kk ac ∧
                        scI t1 te vs1 (s1.items.drop j) ac e5 = some (acc1, e4), ⟨_, rfl, Nat.zero_le _, B3, wipeE e3 vs1, acc, ks, Go.wipeE (g3.sr.rm b3 n3), emp_wipe _ _, keep3, hm, by simpa using hl1⟩, ?_⟩
                      rintro j n H4 ⟨rfl, hj, B4, e5, ac, kk, g4, em1, hH4, hm4, hl4⟩
                      obtain ⟨sr4, b4, n4⟩ := g4.sr.unrm
                      by_cases hlt1 : j < s1.items.length
                      · refine .inr ?_
                        have hu1 : s1.items[j]? = some s1.items[j] := by simp [hlt1]
                        obtain ⟨i1, i2⟩ := io1.go B4 H4 j _ g4.st.bb sr4.bh trivial hu1
                        rw [List.drop_eq_getElem_cons hlt1] at hl4
                        unfold scI at hl4
                        refine ⟨i1, fun H5 => ∃ B5 e6 ac kk, Go (ga X) B3 (rm H3 D) e3 σ2 B5 (rm H5 D) e6 σ2 ∧ Emp e6 vs1 ∧ H5 D = some (SetG X.prog X.w D kk) ∧ Mem kk ac ∧
                          scI t1 te vs1 (s1.items.drop (j + 1)) ac e6 = some (acc1, e4), fun H5 ⟨B5, e6, ac, kk, h1, h2, h3, h4, h5⟩ => ⟨s1.items.length - (j + 1), by omega, rfl, hlt1, B5, e6, ac, kk, h1, h2, h3, h4, h5⟩, fun x1 H5 y1 => ?_⟩
                        obtain ⟨B5, lt1, rx1⟩ := i2 x1 H5 y1
                        have gw1 := lt1.go (sr4.ag em1 (ag_wipe σ2 vs1))
                        refine ⟨B5, e5, _, gw1.sr, rx1, ?_⟩
                        cases h5 : t1 s1.items[j] e5 with
                        | none => rw [h5] at hl4; cases hl4
                        | some e6 =>
                          rw [h5] at hl4
                          dsimp only at hl4 ⊢
                          intro B6 H6 σ3 g6 k6
                          have ag6 : Ag vs1 (wipe σ2 vs1) σ3 := kp_ag k6
                          refine ⟨(wipe_ag ag6).symm.trans (wipe_ag (ag_wipe σ2 vs1)).symm, B6, e6, g6.sr, ?_⟩
                          unfold tAt
                          cases h6 : te e6 with
                          | bad => rw [h6] at hl4; cases hl4
                          | exc c u e7 => rw [h6] at hl4; cases hl4
                          | ok y e7 =>
                            rw [h6] at hl4
                            dsimp only at hl4 ⊢
                            intro v B7 H7 g7 rv
                            cases y with
                            | str c =>
                              dsimp only at hl4
                              by_cases hsz : ac.length + 1 < PySem.scanBound
                              · rw [if_pos hsz] at hl4
                                have rv' : rep (ga X) B7 (.str c) v := rv
                                simp only [rep] at rv'
                                have gin := Go.blk em1 (ag_wipe σ2 vs1) ((gw1.trans g6).trans g7) ag6
                                have hH7 : H7 D = some (SetG X.prog X.w D kk) := gin.st.fr D _ hH4 n4
                                have b7 : B7 D = none := gin.st.nb D _ hH4 n4 b4
                                have n7 : ¬ own (wipeE e7 vs1) σ2 D := fun w => by
                                  rcases gin.sub _ w with z | z
                                  · exact n4 z
                                  · rw [hH4] at z; cases z
                                refine ⟨kk, c, rv', hH7, by have := hm4.2; omega, fun kk' ad => ?_⟩
                                refine ⟨B7, wipeE e7 vs1, ac ++ [c], kk', ?_, emp_wipe _ _, upd_same, hm4.add ad, hl4⟩
                                rw [rm_upd]
                                exact g4.trans (gin.minus b7 n7)
                              · rw [if_neg hsz] at hl4; cases hl4
                            | _ => cases hl4
                      · have ej : j = s1.items.length := by omega
                        subst ej
                        rw [List.drop_length] at hl4
                        unfold scI at hl4
                        injection hl4 with hl4
                        injection hl4 with ha he
                        subst ha he
                        refine .inl ⟨io1.stop B4 H4 g4.st.bb sr4.bh trivial, ?_⟩
                        have gm := g'.rmR hD bD' nD'
                        have gb := gm.trans (Go.blk em (ag_wipe σ vs) (G3m.trans g4) ag2)
                        have nb : ¬ own (wipeE e5 vs) σ D := gb.sr.unrm.2.2
                        have gf := Go.setD (o := SetG X.prog X.w D kk) gb hD b4 nb
                        rw [upd_rm hH4] at gf
                        exact ⟨B4, wipeE e5 vs, ac, kk, gf, emp_wipe _ _, hH4, hm4, b4, nb, hl'⟩
            · have ek : k = s.items.length := by omega
              subst ek
              rw [List.drop_length] at hl'
              unfold scO at hl'
              injection hl' with hl'
              injection hl' with ha he
              subst ha he
              refine .inl ⟨io.stop B' H' sb g'.sr.bh trivial, D, ks, acc, rfl, hHD, hm, h64, fun p hp => ?_⟩
              have G := g1.trans (Go.res (vs := vs) g1.sr g')
              exact q (.ref p) B' _ (G.trans (Go.alloc G.sr hp)) ⟨p, _, rfl, upd_same, ⟨_, rfl, (reps.strs _).mpr rfl⟩, G.sr.none_of hp, G.sr.not_own hp, G.may p (.inr hp)⟩
        · rw [if_neg h64] at q
          exact q.elim
end
end VS
set_option Elab.async false
set_option linter.all false
set_option maxRecDepth 100000
namespace VS
open PySem PySem.Spec PyProof.Rows L2
section
variable {X : Cx} {W : WXX}
theorem KM'.nodup_len {xs ys : List Str} (h : xs.Nodup) (k : ∀ x ∈ xs, x ∈ ys) : xs.length ≤ ys.length := by
  induction xs generalizing ys with
  | nil => exact Nat.zero_le _
  | cons x r ih =>
    obtain ⟨n, h⟩ := List.nodup_cons.mp h
    have hx := k x List.mem_cons_self
    have := ih (ys := ys.erase x) h fun y hy => (List.mem_erase_of_ne (fun e => by subst e; exact n hy)).mpr (k y (List.mem_cons_of_mem _ hy))
    rw [List.length_erase_of_mem hx] at this
    have p := List.length_pos_of_mem hx
    rw [List.length_cons]
    omega
theorem cr_sortG (hc : X.calm = true) : CallR X (.builtin "sorted") (rSortG X.prog X.w) := by
  intro pins s σ H xs us Q I r h
  obtain ⟨D, ks, acc, rfl, hD, hm, h64, q⟩ := h
  rw [Vals.ref1 r]
  have sg := setG_get I hD
  have nd : ks.Nodup := by obtain ⟨_, _, _, _, _, _, _, _, nd, _⟩ := sg; exact nd
  have kl : ks.length ≤ (dedS acc).length := KM'.nodup_len nd fun y hy => mem_dedS.mpr ((hm.1 y).mp hy)
  refine VSet.sorted_sg sg (I.ok.hd hc) (by omega) fun s' p out c ns k g o hp hgt hi st pm => ?_
  have hn : H p = none := I.hok.fresh hp
  have e1 := sortSet_unique st pm nd hm.1
  have hlen : (ns.map V.str).length ≤ sizeLine := by rw [List.length_map, pm.length_eq, sizeLine_eq]; omega
  have J : Inv X pins σ (upd H p (.lst (ns.map V.str))) { s with heap := s'.heap, gens := s'.gens, drawn := s'.drawn, toks := s'.toks } :=
    I.call (ch := []) (Un.laid k hp hn) (I.hok.laid k hp ⟨hlen, out.toList, c, vals_of_strs hi, hgt⟩) (by rw [g]; exact I.bare) (fun _ z => nomatch z)
  have e : s' = { s with heap := s'.heap, gens := s'.gens, drawn := s'.drawn, toks := s'.toks } := by
    cases s'
    cases s
    cases o
    rfl
  rw [e]
  rw [e1] at J
  exact ⟨.ref p, _, J, rfl, q p hn⟩
theorem po_sc2 {elt tg iter tg1 iter1 : Expr} {scope : Scope} {own' : List (PySem.Str × Nat)} {p cpos pos : Pos} {m m1 : M Src} {t t1 : MT} {te : M U} {vs vs1 : List Nat} (hc : X.calm = true) (hN : X.N.Nodup) (hgl : Gl X "sorted") (hm : X.mg "sorted" = none) (hi : PIV X W tg iter m) (ok : BlkOk X.N X.env.scope scope own') (hvs : own'.map (·.2) = vs)
    (hv : ∀ i ∈ vs1, i ∈ own'.map (·.2)) (hg : BlkAll X scope fun Y => PGV Y (prB vs) tg t) (hi1 : BlkAll X scope fun Y => PIV Y W0 tg1 iter1 m1) (hg1 : BlkAll X scope fun Y => PGV Y (prB vs1) tg1 t1) (he : BlkAll X scope fun Y => PE Y elt (tG (ga X) W0 (rlV (ga X)) te))
    (hs : ∀ x, foldedSetIterable iter X.env x = pure x := by intro _; rfl) (hs1 : ∀ env x, foldedSetIterable iter1 env x = pure x := by intro _ _; rfl)
    (hst : starEach [sc2 elt tg iter tg1 iter1 scope cpos] X.env = [(false, eval (sc2 elt tg iter tg1 iter1 scope cpos) X.env)] := by rfl) :
    PO X W (.Call (.Name "sorted" p) [.SetComp elt [⟨tg, iter, [], 0⟩, ⟨tg1, iter1, [], 0⟩] scope cpos] [] pos) (mSc2 m t m1 t1 te vs vs1) := by
  subst hvs
  refine PEimp (pe_callB (cr_sortG hc) hgl hm bt_sorted (pa_cons (pe_sc2 (own := own') (vs1 := vs1) (g := gG (ga X) (prB (own'.map Prod.snd)) t) (g1 := gG (ga X) (prB vs1) t1) (wi := iG (ga X) W m) (wi1 := iG (ga X) W0 m1) (te := tG (ga X) W0 (rlV (ga X)) te) hc hN hi ok hv (fun s H C cl fp => hg s H C cl fp) (fun s H C cl fp => hi1 s H C cl fp) (fun s H C cl fp => hg1 s H C cl fp) (fun s H C cl fp => he s H C cl fp) hs hs1) pa_nil (by rw [hst]; rfl)) (by decide) (by decide) hst rfl) fun σ H Q q => ?_
  exact sc2_core' σ H Q q
end
end VS
set_option Elab.async false
set_option linter.all false
set_option maxRecDepth 100000
namespace VS
open PySem L2
def sLenD : OpN := fun us => match us with
  | [.dct kvs] => some (false, .int kvs.length)
  | _ => none
def rLenD (Γ : Ga) : List V → Hp → VK → Prop := fun xs H Q => ∃ B kvs a, Same B H ∧ xs = [.ref a] ∧ DN Γ B H a kvs ∧ Q (.int (kvs.length : Nat)) H
section
variable {X : Cx}
theorem repx_head {Γ : Ga} {B : Hp} : ∀ {kvs : List (U × U)} {xs : List Xe}, repx Γ B kvs xs → ∀ p ∈ kvs, isKx p.1 = true
  | [], _, _, p, hp => nomatch hp
  | (k, u) :: r, _, h, p, hp => by
    simp only [repx] at h
    obtain ⟨a, v, t, _, z, _, _, r3⟩ := h
    rcases List.mem_cons.mp hp with e | hp
    · subst e; exact z.1
    · exact repx_head r3 p hp
theorem repd_head {Γ : Ga} {B : Hp} : ∀ {kvs : List (U × U)} {xs : List (Key × V)}, repd Γ B kvs xs → ∀ p ∈ kvs, isK1 p.1 = true
  | [], _, _, p, hp => nomatch hp
  | (k, u) :: r, _, h, p, hp => by
    simp only [repd] at h
    obtain ⟨a, v, t, _, z, _, r3⟩ := h
    rcases List.mem_cons.mp hp with e | hp
    · subst e; exact (rep_key z).1
    · exact repd_head r3 p hp
theorem cr_lenD : CallR X (.builtin "len") (rLenD (ga X)) := by
  intro pins s σ H xs us Q I r h
  obtain ⟨B, kvs, a, sb, rfl, d, q⟩ := h
  obtain ⟨u, rfl, ru⟩ := vals1 r
  cases ru
  have fin : ∀ t s', Inv X pins σ H s' → EP X pins σ Q (.int (kvs.length : Nat) t) s' := fun t s' I' => ⟨.int (kvs.length : Nat), H, I', ⟨t, rfl⟩, q⟩
  have d0 := d
  rcases d with ⟨es, e, rd⟩ | ⟨xs, e, rx⟩
  · obtain ⟨vs, dd, p, hd, z⟩ := flatview I d0 (repd_head rd)
    have hl : kvs.length = vs.length := kr_len p
    have hz : vs.length ≤ 16777216 := by rw [← hl]; rw [PySem.sizeLine_eq] at z; exact z
    refine PySem.call_len_dict hd dd (by omega) ?_
    rw [← hl]
    exact fin _ _ (I.tok _)
  · cases kvs with
    | nil =>
      simp only [repx] at rx
      subst rx
      obtain ⟨x, _, _⟩ := (show ObjOk X.prog X.w H s.heap a (DX a []) from Rd.ok e I.hok)
      exact (dxs_empty x).elim
    | cons p0 kvs =>
      obtain ⟨ys, dd, p, pw, hd, z⟩ := tupview I sb d0 (repx_head rx)
      have hl := xr_len p
      have hz : ys.length ≤ 16777216 := by rw [← hl]; rw [PySem.sizeLine_eq] at z; exact z
      refine PySem.call_len_dictH hd dd (by omega) ?_
      rw [← hl]
      exact fin _ _ (I.tok _)
theorem ok_lenD : CallOK X (.builtin "len") sLenD := by
  refine ⟨_, cr_lenD, fun {W B H e σ us xs z Q} sr q vx t => ?_⟩
  unfold sLenD at q
  split at q
  · rename_i kvs
    cases q
    obtain ⟨v, rfl, v1⟩ := vws1 vx
    obtain ⟨a, rfl, d⟩ := v1.dn sr.bh
    exact ⟨B, kvs, a, sr.bh, rfl, d, fin_val sr t (rep_int _)⟩
  · cases q
def sLenU : OpN := orN sLen sLenD
theorem ok_lenU : CallOK X (.builtin "len") sLenU := ok_len0.or ok_lenD
end
end VS
set_option Elab.async false
set_option linter.all false
set_option maxRecDepth 100000
namespace VS
open PySem L2
def callO0 (n : Nat) (φ : Fs) (ods : List Od) : M (Bool × U) := fun e => match callO n φ ods e with
  | .ok r e' => .ok r e'
  | _ => .bad
section
variable {X : Cx} {W : WXX} {k n : Nat} {φ : Fs}
theorem tAt_callO0 {B H : Hp} {e : En} {σ : St} {ods : List Od} {Q : VK} (q : tAt (ga X) W (rlO (ga X)) (callO0 n φ ods) B H e σ Q) : tAt (ga X) (fun _ _ _ _ => False) (rlO (ga X)) (callO n φ ods) B H e σ Q := by
  unfold tAt callO0 at *
  cases h : callO n φ ods e with
  | ok r e' => rw [h] at q; exact q
  | exc c u e' => rw [h] at q; exact q.elim
  | bad => rw [h] at q; exact q.elim
theorem call_core0 {B H : Hp} {e : En} {σ : St} {S : Addr → Prop} {ods : List Od} {vs : List V} {Q : VK} (s : SR (ga X) B H e σ) (p : Paired (fun od v => (rlR (ga X)).r od v S B H e σ) ods vs) (q : tAt (ga X) W (rlO (ga X)) (callO0 n φ ods) B H e σ Q) :
    spV (ga X) n φ vs H Q (fun _ _ _ => False) := call_core s p (tAt_callO0 q)
theorem passF {P : Program} {w : World} {X : Cx} (hP : X.prog = P) (hw : X.w = w) : Passes (L2.CX P w) X (fun _ _ _ => False) := fun _ _ _ _ _ _ _ h => by
  obtain ⟨_, _, _, _, _, _, _, _, _, _, _, _, z⟩ := h
  exact z.elim
end
section
variable {X : Cx} {W : WXX} {a b : Expr} {c d : Str} {k j : Nat} {φ : Fs} {C : Addr} {pos : Pos} {op : Operator} {ma mb : M Od}
end
section
variable {X : Cx} {W : WXX} {o : Expr} {c x : Str} {k j : Nat} {φ : Fs} {C : Addr} {pos : Pos} {mo : M Od}
end
noncomputable def lenR : R (Bool × U) → R (Bool × U)
  | .ok (false, .int i) e => if lim62 i && cdec (0 ≤ i) then .ok (false, .int i) e else .bad
  | _ => .bad
noncomputable def mLenX (c : Str) (φ : Fs) (m : M Od) : M (Bool × U) := m.bd fun od e => match rdO e od with
  | some (.ins c' _) => if c' = c then lenR (callO0 1 φ [od] e) else .bad
  | some u => match sLenU [u] with
    | some z => .ok z e
    | none => .bad
  | none => .bad
section
variable {X : Cx} {W : WXX} {ex : Expr} {c : Str} {k j : Nat} {φ : Fs} {C : Addr} {p pos : Pos} {m : M Od}
theorem po_lenX (ct : Ct X W k) (cv : ClsV X.K X.mg c C) (F : MtV X.prog X.w X.K X.mg X.base j C "__len__" 1 φ) (hj : j + 1 ≤ k) (hg : Gl X "len") (hml : X.mg "len" = none) (ha : PR X W ex m)
    (na : starEach [ex] X.env = (false, eval ex X.env) :: starEach [] X.env := by rfl) : PO X W (.Call (.Name "len" p) [ex] [] pos) (mLenX c φ m) := by
  obtain ⟨f, fd, ps, hm, ok, hbd⟩ := F.ex
  obtain ⟨rl, hl1, hl2⟩ := (ok_lenU (X := X)).ex
  refine ⟨fun pins s σ H Q I ⟨B, e, sr, q⟩ => ?_⟩
  refine PyProof.Rows.Call_ (ld_blt I hg hml PySem.boot_len ?_)
  refine PyProof.Rows.callWith_builtin1 (PyProof.Rows.args_cons (thn (ha.run pins s σ H _ I ⟨B, e, sr, tAt.bd (rl := rlR (ga X)) q⟩) fun v s1 ⟨x, H1, I1, rx, B1, e1, od, g1, r1, q1⟩ => PyProof.Rows.args_nil ?_) na) na rfl
  unfold tAt at q1
  dsimp only at q1
  cases z1 : rdO e1 od with
  | none => rw [z1] at q1; exact q1.elim
  | some u =>
    rw [z1] at q1
    have other : (match sLenU [u] with
      | some z => R.ok z e1
      | none => R.bad) = (match rdO e1 od with
      | some (.ins c' _) => if c' = c then lenR (callO0 1 φ [od] e1) else .bad
      | some u => match sLenU [u] with
        | some z => .ok z e1
        | none => .bad
      | none => .bad) → wpAny (model X.prog X.w) X.A (call (.builtin "len") [v]) (EP X pins σ Q) X.xe s1 := fun eq => by
      have q2 : tAt (ga X) W (rlO (ga X)) (fun e => match sLenU [u] with
        | some z => R.ok z e
        | none => R.bad) B1 H1 e1 σ Q := by
        unfold tAt
        dsimp only
        rw [eq, z1]
        exact q1
      unfold tAt at q2
      dsimp only at q2
      cases z3 : sLenU [u] with
      | none => rw [z3] at q2; exact q2.elim
      | some z =>
        rw [z3] at q2
        exact hl1 pins s1 σ H1 [x] [v] Q I1 (.cons rx .nil) (hl2 (W := W) g1.sr z3 (.cons (rlR.vw g1.sr r1 z1) .nil) q2)
    cases u with
    | ins c' fs =>
      dsimp only at q1
      by_cases ec : c' = c
      · rw [if_pos ec] at q1
        subst ec
        obtain ⟨a, C', dx, fs', rfl, hm1, hH1, _⟩ := (rlR.vw g1.sr r1 z1).ins g1.sr.bh
        have e2 : C' = C := by have := hm1.symm.trans cv.at_; simpa using this
        subst e2
        cases (show v = Value.ref a from rx)
        have q2 : tAt (ga X) W (rlO (ga X)) (callO0 1 φ [od]) B1 H1 e1 σ fun w H2 => ∃ i : Int, w = .int i ∧ (0 ≤ i ∧ i < 2 ^ 63) ∧ Q (.int i) H2 := by
          unfold tAt
          cases z4 : callO0 1 φ [od] e1 with
          | bad => rw [z4] at q1; exact q1.elim
          | exc _ _ _ => rw [z4] at q1; exact q1.elim
          | ok r e' =>
            rw [z4] at q1
            obtain ⟨o, w⟩ := r
            cases o with
            | true => exact q1.elim
            | false =>
              cases w with
              | int i =>
                unfold lenR at q1
                dsimp only at q1
                by_cases hi : (lim62 i && cdec (0 ≤ i)) = true
                · rw [if_pos hi] at q1
                  intro bv B' H' g r
                  have r' : rep (ga X) B' (.int i) bv := r
                  simp only [rep] at r'
                  unfold lim62 at hi
                  rw [Bool.and_eq_true, Bool.and_eq_true, cdec_iff, cdec_iff, cdec_iff] at hi
                  refine ⟨i, r', ⟨hi.2, by omega⟩, ?_⟩
                  rw [← r']
                  exact q1 bv B' H' g r
                · rw [if_neg hi] at q1; exact q1.elim
              | _ => exact False.elim q1
        have sp := call_core0 (W := W) g1.sr (.cons r1 .nil) q2
        obtain ⟨mA, J, _⟩ := ins_get I1.hok hH1
        obtain ⟨odd, J, _⟩ := J.look
        obtain ⟨mm, hF⟩ := I1.fr
        refine PySem.W.len_K hF I1.ok.mod.kin J hm.at_ hm.fn ?_
        have hr1 : Room j X.A.in1 := (ct.hr.mono hj).in1
        have hlen : ([Value.ref a] ++ ([] : List Value)).length = ps.length := by
          rw [← ok.len _ _ _ _ sp]; rfl
        refine wpAny_call (codeAny_mono (ok.run X.A.in1 X.stack s1 H1 ⟨[.ref a], []⟩ [.ref a] [.ref a] _ _ hr1 I1.env0.in1 (hbd _ [.ref a] I1.kIn hlen) (.cons rfl .nil) sp) fun r s' hq => ?_)
        cases r with
        | error er =>
          obtain ⟨_, _, _, _, _, _, _, _, _, _, _, _, z⟩ := hq
          exact z.elim
        | ok fl =>
          cases fl with
          | ret u =>
            obtain ⟨w, H', I3, rv, i, rfl, hb, q3⟩ := I1.after hq
            obtain ⟨t, rfl⟩ := (show ∃ t, u = Value.int i t from rv)
            refine ⟨hb, .int i, H', I3.tok _, ⟨_, rfl⟩, q3⟩
          | next => exact False.elim hq
          | brk => exact False.elim hq
          | cont => exact False.elim hq
      · rw [if_neg ec] at q1; exact q1.elim
    | non => exact other (by rw [z1])
    | bl b => exact other (by rw [z1])
    | int b => exact other (by rw [z1])
    | str b => exact other (by rw [z1])
    | tup b => exact other (by rw [z1])
    | lst b => exact other (by rw [z1])
    | dct b => exact other (by rw [z1])
    | set b => exact other (by rw [z1])
    | scr b => exact other (by rw [z1])
    | xc c2 b => exact other (by rw [z1])
    | tpd b => exact other (by rw [z1])
    | adr b => exact other (by rw [z1])
end
section
variable {X : Cx} {W : WXX} {a b : Expr} {c : Str} {k j : Nat} {φ : Fs} {C : Addr} {pos : Pos} {ma mb : M Od}
end
structure IsiV (K : PySem.W.Frag) (C : Addr) : Prop where
  ha : PySem.W.findIn K (.ref C) "__class__" = some (some (.builtin "object.__class__"))
  hn : PySem.W.specialIn K (.builtin "object.__class__") "__get__" = some (some (.builtin "getset_descriptor.__get__"))
  htk : PySem.W.takesIn K (.builtin "object.__class__") = some true
  hm : PySem.W.mroIn K C (.type "object") = some true
section
variable {X : Cx} {W : WXX} {ex : Expr} {c : Str} {C : Addr} {p pn pos : Pos} {m : M Od}
end
end VS
set_option Elab.async false
set_option linter.all false
set_option maxRecDepth 100000
set_option maxHeartbeats 2000000
namespace VS
open PySem L2
def lexK (p q : Str × Int) : Bool := if p.1 = q.1 then decide (p.2 < q.2) else decide (p.1.cps.toList < q.1.cps.toList)
def leK (p q : Str × Int) : Bool := !(lexK q p)
theorem leK_iff {p q : Str × Int} : leK p q = true ↔ (p.1 = q.1 ∧ p.2 ≤ q.2) ∨ (p.1 ≠ q.1 ∧ leS p.1 q.1 = true) := by
  unfold leK lexK leS
  by_cases e : q.1 = p.1
  · rw [if_pos e]
    simp [e]
  · have e' : ¬ p.1 = q.1 := fun z => e z.symm
    rw [if_neg e]
    simp [e']
section
open PyProof.Rows SrtO
variable {prog : Program} {w : World} {A : Around} {E : Value → Shared → Prop} {s : Shared}
def IsKI (h : Heap) (v : Value) (x : Str) (i : Int) : Prop := ∃ a o t u n, v = .ref a ∧ h.get? a = some o ∧ o.cls = .type "tuple" ∧ o.data = .seq #[.str x t, .int i u] n
theorem IsKI.keeps {h h' : Heap} {v : Value} {x : Str} {y : Int} (p : IsKI h v x y) (k : ∀ b o, h.get? b = some o → o.cls = .type "tuple" → h'.get? b = some o) : IsKI h' v x y := by
  obtain ⟨a, o, t, u, n, e, ho, hc, hd⟩ := p
  exact ⟨a, o, t, u, n, e, k _ _ ho hc, hc, hd⟩
end
end VS
set_option Elab.async false
set_option linter.all false
set_option maxRecDepth 100000
set_option maxHeartbeats 2000000
namespace VS
open PySem L2
section
open PyProof.Rows LiI
variable {X : Cx} {W : WXX} {e : Expr} {te : TE} {p apos cpos pos : Pos}
end
end VS
set_option Elab.async false
set_option linter.all false
set_option maxRecDepth 100000
set_option maxHeartbeats 2000000
namespace VS
open PySem L2 PyProof.Rows
section
variable {X : Cx}
noncomputable def sInA (neg : Bool) : Op2 := fun u w => match w with
  | .lst ws => if shp u && shp (.lst ws) then some (false, .bl (if neg then !((toDs ws).any fun z => PyData.eqv z (toD u)) else (toDs ws).any fun z => PyData.eqv z (toD u))) else none
  | _ => none
theorem ok_notInA (hu : X.A.units + 65 < cLine) : BinOK X (compareOp .NotIn) (sInA true) := by
  refine ⟨_, L2.op_notInD hu, fun {W B H e σ u w x y z Q} sr q vx vy t => ?_⟩
  unfold sInA at q
  split at q
  · rename_i ws
    split at q
    · rename_i h
      injection q with q
      subst q
      rw [Bool.and_eq_true] at h
      exact ⟨toD u, toDs ws, vx.dp sr.bh (shp_lay h.1), by have := vy.dp sr.bh (shp_lay h.2); simp only [toD] at this; exact this, h.1, by have := h.2; unfold shp at this; simpa only [toD] using this, fin_val sr t (rep_bl _)⟩
    · cases q
  · cases q
noncomputable def sNotIn2 : Op2 := orS sNotIn (sInA true)
theorem ok_notIn2 (hu : X.A.units + 65 < cLine) : BinOK X (compareOp .NotIn) sNotIn2 := (ok_notIn (by omega)).or (ok_notInA hu)
def ixD (ds : List PyData) (d : PyData) : Option Nat := ds.findIdx? fun z => PyData.eqv z d
def sIndex : U → List U → Option (Bool × U) := fun u us => match u, us with
  | .lst ws, [w] => if shp (.lst ws) && shp w then (match ixD (toDs ws) (toD w) with
    | some j => some (false, .int (j : Nat))
    | none => none) else none
  | _, _ => none
theorem ok_index (hu : X.A.units + 65 < cLine) : MrOK X "list" "list.index" isL sIndex := by
  refine ⟨_, _, ty_tyV, mt_indexD hu, isL_ty, fun {W B H e σ u us x xs z Q} sr q vx rs t => ?_⟩
  unfold sIndex at q
  split at q
  · rename_i ws w
    split at q
    · rename_i h
      rw [Bool.and_eq_true] at h
      split at q
      · rename_i j hj
        cases q
        simp only [reps] at rs
        obtain ⟨y, r, rfl, ry, rfl⟩ := rs
        have d1 := vx.dp sr.bh (shp_lay h.1)
        obtain ⟨a, vs, rfl, _⟩ := vx.lst sr.bh
        unfold ixD at hj
        rw [List.findIdx?_eq_some_iff_getElem] at hj
        obtain ⟨hl, h1, h2⟩ := hj
        refine ⟨a, y, toD w, toDs ws, j, (toDs ws)[j], rfl, rfl, by simp only [toD] at d1; exact d1, (Vw.dp (H := H) sr.bh (.inl ry) (shp_lay h.2)), by have := h.1; unfold shp at this; simpa only [toD] using this, h.2, List.getElem?_eq_getElem hl, h1, fun m z' hm hz => ?_, fin_val sr t (by simp only [rep])⟩
        have := h2 m hm
        rw [List.getElem?_eq_getElem (by omega)] at hz
        cases hz
        simpa using this
      · cases q
    · cases q
  · cases q
def sAddA : Op2 := fun u w => match u, w with
  | .tup xs, .tup ys => if xs.length + ys.length ≤ sizeLine then some (false, .tup (xs ++ ys)) else none
  | _, _ => none
theorem Vw.tup_rep {Γ : Ga} {B H : Hp} {us : List U} {v : V} (h : Vw Γ B H (.tup us) v) : rep Γ B (.tup us) v := by
  rcases h with h | ⟨a, ho, e, h, n⟩
  · exact h
  · exact n.elim
theorem ok_addA : BinOK X (binaryOp .Add) sAddA := by
  refine ⟨_, op_catA, fun {W B H e σ u w x y z Q} sr q vx vy t => ?_⟩
  unfold sAddA at q
  split at q
  · rename_i xs ys
    split at q
    · rename_i hz
      injection q with q
      subst q
      have rx := vx.tup_rep
      have ry := vy.tup_rep
      have rx' := rx
      have ry' := ry
      simp only [rep] at rx ry
      obtain ⟨a, vs, rfl, h1, r1⟩ := rx
      obtain ⟨b, ws, rfl, h2, r2⟩ := ry
      refine ⟨a, b, vs, ws, rfl, rfl, sqT_same sr.bh h1, sqT_same sr.bh h2, by rw [← r1.length, ← r2.length]; exact hz, fun e => ?_, fun _ e => ?_, fun _ _ => fin_tup sr t (r1.append r2)⟩
      · have : xs = [] := List.eq_nil_of_length_eq_zero (by rw [r1.length, e]; rfl)
        subst this
        exact fin_val sr t ry'
      · have : ys = [] := List.eq_nil_of_length_eq_zero (by rw [r2.length, e]; rfl)
        subst this
        rw [List.append_nil] at t
        exact fin_val sr t rx'
    · cases q
  · cases q
noncomputable def sAdd2 : Op2 := orS sAdd sAddA
theorem ok_add2 : BinOK X (binaryOp .Add) sAdd2 := ok_add.or ok_addA
end
section
variable {X : Cx} {W : WXX} {a b : Expr} {pos : Pos}
end
end VS
set_option Elab.async false
set_option linter.all false
set_option maxRecDepth 100000
set_option maxHeartbeats 2000000
namespace VS
open PySem L2
def nice : Nat → U → Bool
  | 0 => flU
  | n + 1 => fun u => match u with
    | .tup us => us.all (nice n)
    | .lst us => us.all (nice n)
    | .dct kvs => kvs.all fun p => isK1 p.1 && nice n p.2
    | u => flU u
section
variable {X : Cx} {pins : List (Addr × Obj)} {σ : St} {H B : Hp} {s : Shared}
open PySem.W in
theorem flat_tree {n : Nat} {u : U} {x y : V} {v w : Value} (f : flU u = true) (hx : rep (ga X) B u x) (hy : rep (ga X) B u y) (rx : RelV x v) (ry : RelV y w) : EqTree X.prog X.w s n v w true := by
  have ex := Vw.fl (H := B) (.inl hx) f
  have ey := Vw.fl (H := B) (.inl hy) f
  subst ex ey
  exact .leaf fun A _ => eqAt_same rx ry (by cases u <;> first | rfl | cases f)
open PySem.W in
theorem all_trees {n : Nat} (ih : ∀ {u : U} {x y : V} {v w : Value}, nice n u = true → rep (ga X) B u x → rep (ga X) B u y → RelV x v → RelV y w → EqTree X.prog X.w s n v w true) : ∀ {us : List U} {vs ws : List V} {as bs : List Value}, us.all (nice n) = true → reps (ga X) B us vs → reps (ga X) B us ws → Vals vs as → Vals ws bs →
    ∀ j (h1 : j < as.length) (h2 : j < bs.length), EqTree X.prog X.w s n as[j] bs[j] true
  | [], _, _, _, _, _, r1, r2, q1, q2 => by
    simp only [reps] at r1 r2
    subst r1 r2
    cases q1
    intro j h1
    exact absurd h1 (Nat.not_lt_zero j)
  | u :: us, _, _, _, _, hn, r1, r2, q1, q2 => by
    simp only [reps] at r1 r2
    obtain ⟨x, vs, rfl, a1, a2⟩ := r1
    obtain ⟨y, ws, rfl, b1, b2⟩ := r2
    simp only [List.all_cons, Bool.and_eq_true] at hn
    cases q1 with
    | cons c1 c2 =>
      cases q2 with
      | cons d1 d2 =>
        intro j h1 h2
        cases j with
        | zero => exact ih hn.1 a1 b1 c1 d1
        | succ j => exact all_trees ih hn.2 a2 b2 c2 d2 j (Nat.lt_of_succ_lt_succ h1) (Nat.lt_of_succ_lt_succ h2)
theorem KR.keys {kvs : List (U × U)} {vs : List (Key × Value)} (h : Paired (KR (ga X) B) kvs vs) : kvs.map (fun p => kOf p.1) = vs.map (·.1) := by
  induction h with
  | nil => rfl
  | cons r t ih => rw [List.map_cons, List.map_cons, ih, r.2.1]
theorem dfind_mem {kvs : List (U × U)} (nd : (kvs.map (·.1)).Nodup) {p : U × U} (h : p ∈ kvs) : dfind kvs p.1 = some p.2 := by
  induction kvs with
  | nil => cases h
  | cons q r ih =>
    rw [dfind_cons]
    simp only [List.map_cons, List.nodup_cons] at nd
    rcases List.mem_cons.mp h with rfl | h
    · rw [if_pos rfl]
    · rw [if_neg (fun e : q.1 = p.1 => nd.1 (by rw [e]; exact List.mem_map.mpr ⟨p, h, rfl⟩))]
      exact ih nd.2 h
theorem paired_mem_r {α β : Type} {F : α → β → Prop} {xs : List α} {ys : List β} (h : Paired F xs ys) {y : β} (m : y ∈ ys) : ∃ x ∈ xs, F x y := by
  induction h with
  | nil => cases m
  | cons r t ih =>
    rcases List.mem_cons.mp m with rfl | m
    · exact ⟨_, List.mem_cons_self, r⟩
    · obtain ⟨x, h1, h2⟩ := ih m
      exact ⟨x, List.mem_cons_of_mem _ h1, h2⟩
theorem rep.dn {kvs : List (U × U)} {x : V} (sb : Same B H) (h : rep (ga X) B (.dct kvs) x) : ∃ a, x = .ref a ∧ DN (ga X) B H a kvs := Vw.dn sb (.inl h)
theorem nodup_kvs {kvs : List (U × U)} {vs : List (Key × Value)} (h : Paired (KR (ga X) B) kvs vs) (nd : (vs.map (·.1)).Nodup) : (kvs.map (·.1)).Nodup := by
  rw [← KR.keys h] at nd
  have : kvs.map (fun p => kOf p.1) = (kvs.map (·.1)).map kOf := by rw [List.map_map]; rfl
  rw [this] at nd
  exact (List.pairwise_map.mp nd).imp fun h e => h (congrArg kOf e)
open PySem.W in
theorem nice_tree (I : Inv X pins σ H s) (sb : Same B H) : ∀ (n : Nat) {u : U} {x y : V} {v w : Value}, nice n u = true → rep (ga X) B u x → rep (ga X) B u y → RelV x v → RelV y w → EqTree X.prog X.w s n v w true
  | 0, u, x, y, v, w, hn, hx, hy, rx, ry => flat_tree hn hx hy rx ry
  | n + 1, u, x, y, v, w, hn, hx, hy, rx, ry => by
    have ih := @nice_tree I sb n
    cases u with
    | tup us =>
      have hn : us.all (nice n) = true := hn
      simp only [rep] at hx hy
      obtain ⟨a, vs, rfl, h1, r1⟩ := hx
      obtain ⟨b, ws, rfl, h2, r2⟩ := hy
      cases (show v = Value.ref a from rx)
      cases (show w = Value.ref b from ry)
      by_cases e : a = b
      · subst e
        exact .same
      · obtain ⟨as, q1, t1, _⟩ := I.tuple (sqT_same sb h1)
        obtain ⟨bs, q2, t2, _⟩ := I.tuple (sqT_same sb h2)
        have el : as.length = bs.length := by rw [← q1.length, ← q2.length, ← r1.length, ← r2.length]
        have T := EqTree.tuples (prog := X.prog) (w := X.w) (s := s) (n := n) (e := fun _ => true) e t1 t2 fun j g1 g2 => by
          have := all_trees ih hn r1 r2 q1 q2 j (by simpa using g1) (by simpa using g2)
          simpa using this
        have eb : ((List.range (min as.toArray.size bs.toArray.size)).all (fun _ => true) && as.toArray.size == bs.toArray.size) = true := by simp [el]
        rw [eb] at T
        exact T
    | lst us =>
      have hn : us.all (nice n) = true := hn
      simp only [rep] at hx hy
      obtain ⟨a, vs, rfl, h1, r1⟩ := hx
      obtain ⟨b, ws, rfl, h2, r2⟩ := hy
      cases (show v = Value.ref a from rx)
      cases (show w = Value.ref b from ry)
      by_cases e : a = b
      · subst e
        exact .same
      · obtain ⟨as, q1, t1, _⟩ := I.list (SqL.of (sb _ _ h1))
        obtain ⟨bs, q2, t2, _⟩ := I.list (SqL.of (sb _ _ h2))
        have el : as.length = bs.length := by rw [← q1.length, ← q2.length, ← r1.length, ← r2.length]
        have T := EqTree.lists (prog := X.prog) (w := X.w) (s := s) (n := n) (e := fun _ => true) e t1.isList t2.isList (by simpa using el) fun j g1 g2 => by
          have := all_trees ih hn r1 r2 q1 q2 j (by simpa using g1) (by simpa using g2)
          simpa using this
        have eb : (List.range as.toArray.size).all (fun _ => true) = true := by simp
        rw [eb] at T
        exact T
    | dct kvs =>
      have hn : (kvs.all fun p => isK1 p.1 && nice n p.2) = true := hn
      rw [List.all_eq_true] at hn
      have hn' : ∀ p ∈ kvs, isK1 p.1 = true ∧ nice n p.2 = true := fun p hp => by simpa using hn p hp
      obtain ⟨a, rfl, d1⟩ := rep.dn sb hx
      obtain ⟨b, rfl, d2⟩ := rep.dn sb hy
      cases (show v = Value.ref a from rx)
      cases (show w = Value.ref b from ry)
      by_cases e : a = b
      · subst e
        exact .same
      · obtain ⟨ka, da, p1, s1, _⟩ := flatview I d1 fun p hp => (hn' p hp).1
        obtain ⟨kb, db, p2, s2, _⟩ := flatview I d2 fun p hp => (hn' p hp).1
        have nda : (ka.map (·.1)).Nodup := by
          obtain ⟨_, _, _, _, _, _, _, _, nd⟩ := da
          exact nd
        have ndb : (kb.map (·.1)).Nodup := by
          obtain ⟨_, _, _, _, _, _, _, _, nd⟩ := db
          exact nd
        have ndu := nodup_kvs p1 nda
        have el : ka.length = kb.length := by rw [← kr_len p1, ← kr_len p2]
        have both : ∀ k v, (k, v) ∈ ka → ∃ p z, p ∈ kvs ∧ kOf p.1 = k ∧ (∃ x, rep (ga X) B p.2 x ∧ RelV x v) ∧ valueAt kb k = some z ∧ ∃ y, rep (ga X) B p.2 y ∧ RelV y z := fun k v hm => by
          obtain ⟨p, hp, k1, k2, x, k3, k4⟩ := paired_mem_r p1 hm
          obtain ⟨f1, _⟩ := KR.find (hn' p hp).1 p2
          obtain ⟨y, z, f2, f3, f4⟩ := f1 _ (dfind_mem ndu hp)
          rw [k2] at f2
          exact ⟨p, z, hp, k2, ⟨x, k3, k4⟩, f2, y, f3, f4⟩
        have T := EqTree.dicts (prog := X.prog) (w := X.w) (s := s) (n := n) (e := fun _ => true) e s1 s2 da db fun k v y hm hv => by
          obtain ⟨p, z, hp, _, ⟨x', k3, k4⟩, f2, y', f3, f4⟩ := both k v hm
          rw [hv] at f2
          cases f2
          exact ih (hn' p hp).2 k3 f3 k4 f4
        have eb : (ka.length == kb.length && ka.all fun p => (valueAt kb p.1).isSome && true) = true := by
          rw [el]
          simp only [beq_self_eq_true, Bool.and_true, Bool.true_and, List.all_eq_true]
          intro p hp
          obtain ⟨_, z, _, _, _, f2, _⟩ := both p.1 p.2 hp
          rw [f2]
          rfl
        rw [eb] at T
        exact T
    | non => exact flat_tree (u := .non) rfl hx hy rx ry
    | bl b => exact flat_tree (u := .bl b) rfl hx hy rx ry
    | int b => exact flat_tree (u := .int b) rfl hx hy rx ry
    | str b => exact flat_tree (u := .str b) rfl hx hy rx ry
    | _ => cases hn
end
section
variable {P : Program} {w : World} {K : PySem.W.Frag} {mg : Str → Option Value} {base : Heap} {x qual : Str} {params : Arguments} {body : List Stmt} {scope : Scope} {f : Addr} {fd : FuncData} {N ps : List Str} {k : Nat} {pr : Nat → Bool} {b : MS}
end
end VS
set_option Elab.async false
set_option linter.all false
set_option maxRecDepth 100000
set_option maxHeartbeats 2000000
namespace VH
open PySem PySem.Spec PyProof.Rows L2 He
def pg (K : PySem.W.Frag) (C : Addr) (m : Str) : Addr := match PySem.W.recIn K (ma K C m) "property" with
  | some (.ref g :: _) => g
  | _ => 0
structure DefH where
  ad : PySem.W.Frag → Addr
  name : Str
  qual : Str
  params : Arguments
  body : List Stmt
  scope : Scope
  dfl : List Dv := []
  kwd : List (Str × Dv) := []
def fnH (K : PySem.W.Frag) (a : Addr) : FnW := match K.lookup a with
  | some ⟨_, _, .func fd, _⟩ => some (fd.name, fd.qualname, fd.params, fd.body, fd.scope, fd.globals, fd.closure, fd.builtins)
  | _ => none
def DefH.val (d : DefH) : FnW := some (d.name, d.qual, d.params, .stmts d.body, d.scope, mainGlobals, [], builtinsNs)
def DefH.dvs (K : PySem.W.Frag) (d : DefH) : List V := d.dfl.map (Dv.v K)
def DefH.kws (K : PySem.W.Frag) (d : DefH) : List (Str × V) := d.kwd.map fun q => (q.1, q.2.v K)
def DefH.ok (K : PySem.W.Frag) (d : DefH) : Bool := PySem.W.keepIn K (.ref (d.ad K)) && (match K.lookup (d.ad K) with
  | some ⟨_, _, .func fd, _⟩ => PySem.W.codeIn K fd.code d.qual && (dflB K fd.defaults (d.dvs K) && kwdB K fd.kwdefaults (d.kws K))
  | _ => false)
theorem DefH.funD {K : PySem.W.Frag} {d : DefH} (e : fnH K (d.ad K) = d.val) (c : d.ok K = true) : ∃ fd, FunD K d.name d.qual d.params d.body d.scope (d.dvs K) (d.kws K) (d.ad K) fd := by
  obtain ⟨kp, c2⟩ := ba c
  unfold fnH at e
  cases q : K.lookup (d.ad K) with
  | none =>
    rw [q] at c2
    cases c2
  | some o =>
    obtain ⟨oc, od, dt, osl⟩ := o
    rw [q] at c2 e
    cases dt with
    | func fd =>
      obtain ⟨n1, n2, n3, n4, n5, n6, n7, n8, n9, n10, n11, n12, n13, n14, n15⟩ := fd
      have e2 : (some (n1, n2, n3, n4, n5, n6, n7, n15) : FnW) = some (d.name, d.qual, d.params, .stmts d.body, d.scope, mainGlobals, [], builtinsNs) := e
      simp only [Option.some.injEq, Prod.mk.injEq] at e2
      obtain ⟨h1, h2, h3, h4, h5, h6, h7, h8⟩ := e2
      subst h1 h2 h3 h4 h5 h6 h7 h8
      have c3 : (PySem.W.codeIn K n13 d.qual && (dflB K n8 (d.dvs K) && kwdB K n9 (d.kws K))) = true := c2
      obtain ⟨k1, k2⟩ := ba c3
      obtain ⟨k3, k4⟩ := ba k2
      exact ⟨_, ⟨oc, od, n8, n9, n10, n11, n12, n13, n14, osl, rfl, q, k1, dflB_ok k3, kwdB_ok k4⟩, kp⟩
    | _ => cases c2
abbrev FaH : Type := PySem.W.Frag → Bool
def obsH (fa : List FaH) (fn : List DefH) (K : PySem.W.Frag) : AlD := ((fa.all fun f => f K) && fn.all fun d => d.ok K, fn.map fun d => fnH K (d.ad K))
def valH (fn : List DefH) : AlD := (true, fn.map DefH.val)
def SaysH (fa : List FaH) (fn : List DefH) (K : PySem.W.Frag) : Prop := obsH fa fn K = valH fn
section
variable {fa : List FaH} {fn : List DefH} {K : PySem.W.Frag}
theorem SaysH.fact (c : SaysH fa fn K) (i : Nat) {f : FaH} (h : fa[i]? = some f := by rfl) : f K = true := by
  have c1 := (ba (show ((fa.all fun f => f K) && fn.all fun d => d.ok K) = true from congrArg (fun z : AlD => z.1) c)).1
  exact List.all_eq_true.mp c1 f (List.mem_of_getElem? h)
theorem SaysH.def_ (c : SaysH fa fn K) (i : Nat) {d : DefH} (h : fn[i]? = some d := by rfl) : ∃ fd, FunD K d.name d.qual d.params d.body d.scope (d.dvs K) (d.kws K) (d.ad K) fd := by
  have c2 := (ba (show ((fa.all fun f => f K) && fn.all fun d => d.ok K) = true from congrArg (fun z : AlD => z.1) c)).2
  have e : fn.map (fun d => fnH K (d.ad K)) = fn.map DefH.val := congrArg (fun z : AlD => z.2) c
  have e2 : (fn.map fun d => fnH K (d.ad K))[i]? = (fn.map DefH.val)[i]? := by rw [e]
  rw [List.getElem?_map, List.getElem?_map, h] at e2
  exact DefH.funD (Option.some.inj e2) (List.all_eq_true.mp c2 d (List.mem_of_getElem? h))
end
def faF (f : Fa) : FaH := fun K => f.ok K
def isiF (x : Str) : FaH := fun K => eqO (PySem.W.findIn K (.ref (ga K x)) "__class__") (some (some (.builtin "object.__class__"))) && (eqO (PySem.W.specialIn K (.builtin "object.__class__") "__get__") (some (some (.builtin "getset_descriptor.__get__"))) &&
  (decide (PySem.W.takesIn K (.builtin "object.__class__") = some true) && decide (PySem.W.mroIn K (ga K x) (.type "object") = some true)))
theorem isi_ok {K : PySem.W.Frag} {x : Str} (c : isiF x K = true) : VS.IsiV K (ga K x) := by
  obtain ⟨c1, c⟩ := ba c
  obtain ⟨c2, c⟩ := ba c
  obtain ⟨c3, c4⟩ := ba c
  exact ⟨eqO_ok c1, eqO_ok c2, of_decide_eq_true c3, of_decide_eq_true c4⟩
end VH
set_option Elab.async false
set_option linter.all false
set_option maxRecDepth 100000
set_option maxHeartbeats 2000000
namespace VS
open PySem L2
theorem u65 {k : Nat} {A : Around} (r : Room k A) : A.units + 65 < cLine := by have := r.un; omega
section
variable {X : Cx}
theorem repd_keyreps {Γ : Ga} {B : Hp} : ∀ {kvs : List (U × U)} {es : List (Key × V)}, repd Γ B kvs es → reps Γ B (kvs.map (·.1)) (es.map fun kv => kV kv.1)
  | [], _, h => by
    simp only [repd] at h
    subst h
    simp only [List.map_nil, reps]
  | (k, u) :: kvs, _, h => by
    simp only [repd] at h
    obtain ⟨l, v, r, rfl, r1, _, r3⟩ := h
    rw [List.map_cons, List.map_cons]
    simp only [reps]
    exact ⟨_, _, rfl, r1, repd_keyreps r3⟩
def sListD : OpN := fun us => match us with
  | [.dct kvs] => if kvs.all (fun p => isK1 p.1) then some (true, .lst (kvs.map (·.1))) else none
  | _ => none
def rListD (Γ : Ga) : List V → Hp → VK → Prop := fun xs H Q => (∃ a, xs = [.ref a] ∧ Rd H a (DX a [])) ∨ ∃ (a : Addr) (kvs : List (Key × V)), xs = [.ref a] ∧ Rd H a (.dK kvs) ∧ ∀ p, H p = none → Q (.ref p) (upd H p (.lst (kvs.map fun kv => kV kv.1)))
theorem cr_listD (hc : X.calm = true) : CallR X (.type "list") (rListD (ga X)) := by
  intro pins s σ H xs us Q I r h
  rcases h with ⟨a, _, e⟩ | h
  · obtain ⟨z, _, _⟩ := (show ObjOk X.prog X.w H s.heap a (DX a []) from Rd.ok e I.hok)
    exact (dxs_empty z).elim
  · exact call_listD hc pins s σ H xs us Q I r h
theorem ok_listD (hc : X.calm = true) : CallOK X (.type "list") sListD := by
  refine ⟨_, cr_listD hc, fun {W B H e σ us xs z Q} sr q vx t => ?_⟩
  unfold sListD at q
  split at q
  · rename_i kvs
    split at q
    · rename_i c
      cases q
      obtain ⟨v, rfl, v1⟩ := vws1 vx
      obtain ⟨a, rfl, d⟩ := v1.dn sr.bh
      rcases d with ⟨es, e2, rd⟩ | ⟨xs, e2, rx⟩
      · exact .inr ⟨a, es, rfl, e2, fin_new (ho := fun _ => .lst (es.map fun kv => kV kv.1)) sr t fun p => ⟨_, rfl, repd_keyreps rd⟩⟩
      · cases kvs with
        | cons p kvs =>
          obtain ⟨a1, _, _⟩ := rx.all
          have h1 := a1 p List.mem_cons_self
          rw [List.all_cons, Bool.and_eq_true] at c
          obtain ⟨k, u⟩ := p
          cases k <;> simp [isKx, isK1] at h1 c
        | nil =>
          simp only [repx] at rx
          subst rx
          exact .inl ⟨a, rfl, e2⟩
    · cases q
  · cases q
def sList2 : OpN := orN sList sListD
theorem ok_list2 (hc : X.calm = true) : CallOK X (.type "list") sList2 := ok_list.or (ok_listD hc)
end
end VS
set_option Elab.async false
set_option linter.all false
set_option maxRecDepth 100000
set_option maxHeartbeats 2000000
namespace VS
open PySem L2
section
variable {Γ : Ga} {B : Hp} {k w : U} {v : V}
theorem repd_any (hk : isK1 k = true) : ∀ {kvs : List (U × U)} {es : List (Key × V)}, repd Γ B kvs es → es.any (fun kv => decide (kv.1 = kOf k)) = (dfind kvs k).isSome
  | [], _, r => by simp only [repd] at r; subst r; rfl
  | (a, u) :: kvs, _, r => by
    simp only [repd] at r
    obtain ⟨l, x, t, rfl, r1, r2, r3⟩ := r
    obtain ⟨h1, h2⟩ := rep_key r1
    rw [List.any_cons, dfind_cons, repd_any hk r3]
    by_cases z : a = k
    · subst z; simp [h2]
    · have : ¬ l = kOf k := fun e => z (kOf_inj h1 hk (h2.trans e))
      simp [this, z]
theorem repd_repl (hk : isK1 k = true) (rv : rep Γ B w v) : ∀ {kvs : List (U × U)} {es : List (Key × V)}, repd Γ B kvs es → repd Γ B (kvs.map fun p => if p.1 = k then (p.1, w) else p) (es.map fun kv => if kv.1 = kOf k then (kv.1, v) else kv)
  | [], _, r => by simp only [repd] at r; subst r; simp only [List.map_nil, repd]
  | (a, u) :: kvs, _, r => by
    simp only [repd] at r
    obtain ⟨l, x, t, rfl, r1, r2, r3⟩ := r
    obtain ⟨h1, h2⟩ := rep_key r1
    have ih := repd_repl hk rv r3
    rw [List.map_cons, List.map_cons]
    by_cases z : a = k
    · have e : l = kOf k := by rw [← h2, z]
      simp only [z, e, if_true, repd]
      refine ⟨_, _, _, rfl, ?_, rv, ih⟩
      rw [← e, ← z]
      exact r1
    · have e : ¬ l = kOf k := fun e => z (kOf_inj h1 hk (h2.trans e))
      simp only [z, e, if_false, repd]
      exact ⟨_, _, _, rfl, r1, r2, ih⟩
theorem repd_snoc (hk : isK1 k = true) (rv : rep Γ B w v) : ∀ {kvs : List (U × U)} {es : List (Key × V)}, repd Γ B kvs es → repd Γ B (kvs ++ [(k, w)]) (es ++ [(kOf k, v)])
  | [], _, r => by
    simp only [repd] at r
    subst r
    simp only [List.nil_append, repd]
    exact ⟨_, _, _, rfl, key_rep hk, rv, rfl⟩
  | (a, u) :: kvs, _, r => by
    simp only [repd] at r
    obtain ⟨l, x, t, rfl, r1, r2, r3⟩ := r
    simp only [List.cons_append, repd]
    exact ⟨_, _, _, rfl, r1, r2, repd_snoc hk rv r3⟩
theorem repd.put (hk : isK1 k = true) (rv : rep Γ B w v) {kvs : List (U × U)} {es : List (Key × V)} (r : repd Γ B kvs es) : repd Γ B (dset kvs k w) (putK es (kOf k) v) := by
  unfold dset putK
  rw [repd_any hk r]
  by_cases z : (dfind kvs k).isSome = true
  · rw [if_pos z, if_pos z]
    exact repd_repl hk rv r
  · rw [if_neg z, if_neg z]
    exact repd_snoc hk rv r
end
section
variable {X : Cx} {W : WXX} {tg iter kx vx : Expr} {ifs : List Expr} {scope : Scope} {own' : List (Str × Nat)} {pos : Pos}
end
end VS
set_option Elab.async false
set_option linter.all false
set_option maxRecDepth 100000
set_option maxHeartbeats 2000000
namespace VS
open PySem L2
section
variable {P : Program} {w : World}
end
section
open PyProof.Rows LiI
variable {X : Cx} {W : WXX} {e : Expr} {te : TE} {p apos cpos pos : Pos}
end
end VS
set_option Elab.async false
set_option linter.all false
set_option maxRecDepth 100000
set_option maxHeartbeats 2000000
namespace VS
open PySem L2
section
variable {X : Cx} {W : WXX}
end
end VS
set_option Elab.async false
set_option linter.all false
set_option maxRecDepth 100000
namespace VS
open PySem L2
def FrL (Γ : Ga) (S : Addr → Prop) (B H : Hp) (e : En) (σ : St) : List (Bool × U) → List V → Prop
  | [], vs => vs = []
  | r :: rs, vs => ∃ v ws, vs = v :: ws ∧ (rlO Γ).r r v S B H e σ ∧ FrL Γ S B H e σ rs ws ∧ (r.1 = true → ∀ (j : Nat) u w, rs[j]? = some (true, u) → ws[j]? = some w → w ≠ v)
theorem FrL.mono {Γ : Ga} {S S' : Addr → Prop} {B H : Hp} {e : En} {σ : St} (hs : ∀ x, S x → S' x) : ∀ {rs : List (Bool × U)} {vs : List V}, FrL Γ S B H e σ rs vs → FrL Γ S' B H e σ rs vs
  | [], _, h => h
  | r :: rs, _, ⟨v, ws, e1, h1, h2, h3⟩ => ⟨v, ws, e1, (rlO Γ).mono hs h1, FrL.mono hs h2, h3⟩
theorem FrL.len {Γ : Ga} {S : Addr → Prop} {B H : Hp} {e : En} {σ : St} : ∀ {rs : List (Bool × U)} {vs : List V}, FrL Γ S B H e σ rs vs → vs.length = rs.length
  | [], _, h => by rw [show _ = [] from h]; rfl
  | r :: rs, _, ⟨v, ws, e1, h1, h2, h3⟩ => by rw [e1, List.length_cons, List.length_cons, FrL.len h2]
theorem FrL.go {Γ : Ga} {S : Addr → Prop} {B H B' H' : Hp} {e e' : En} {σ : St} (s : SR Γ B H e σ) (g : Go Γ B H e σ B' H' e' σ) : ∀ {rs : List (Bool × U)} {vs : List V}, FrL Γ S B H e σ rs vs → FrL Γ S B' H' e' σ rs vs
  | [], _, h => h
  | r :: rs, _, ⟨v, ws, e1, h1, h2, h3⟩ => ⟨v, ws, e1, rlO.keep h1 s g, FrL.go s g h2, h3⟩
section
variable {X : Cx} {W : WXX} {ex : Expr} {es : List Expr} {pos : Pos} {pr : Nat → Bool}
end
end VS
set_option Elab.async false
set_option linter.all false
set_option maxRecDepth 100000
namespace VS
open PySem L2
section
variable {X : Cx}
def sGeS : Op2 := fun u w => match u, w with
  | .str x, .str y => some (false, .bl (!decide (x.cps.toList < y.cps.toList)))
  | _, _ => none
theorem ok_geS : BinOK X (compareOp .GtE) sGeS := by
  refine ⟨_, op_ge_str, fun {W B H e σ u w x y z Q} sr q vx vy t => ?_⟩
  unfold sGeS at q
  split at q
  · cases q
    exact ⟨_, _, vx.str, vy.str, fin_val sr t (rep_bl _)⟩
  · cases q
def sGe2 : Op2 := orS sGeI sGeS
theorem ok_ge2 : BinOK X (compareOp .GtE) sGe2 := ok_geI.or ok_geS
end
section
variable {X : Cx} {W : WXX} {a b : Expr} {p p2 pos pos2 : Pos}
end
noncomputable def asPr : List U → Option (List (U × U))
  | [] => some []
  | .tup [k, v] :: r => if isK1 k then (asPr r).map fun kvs => (k, v) :: kvs else none
  | _ => none
noncomputable def sDictP : OpN := fun us => match us with
  | [.lst ws] => match asPr ws with
    | some kvs => if cdec ((kvs.map (·.1)).Nodup) then some (true, .dct kvs) else none
    | none => none
  | _ => none
theorem merge_nodup : ∀ (more : List (Key × V)) (kvs : List (Key × V)), (kvs.map (·.1) ++ more.map (·.1)).Nodup → mergeK kvs more = kvs ++ more
  | [], kvs, _ => by simp [mergeK]
  | p :: r, kvs, nd => by
    have h : valV kvs p.1 = none := by
      unfold valV
      rw [Option.map_eq_none_iff, List.find?_eq_none]
      intro q hq
      rw [decide_eq_true_eq]
      intro e
      rw [List.nodup_append] at nd
      exact nd.2.2 q.1 (List.mem_map.mpr ⟨q, hq, rfl⟩) p.1 (by simp) e
    show mergeK (putK kvs p.1 p.2) r = _
    rw [putK_new _ h, merge_nodup r _ (by simpa using nd)]
    simp
section
variable {X : Cx}
theorem pairs_rep {Γ : Ga} {B H : Hp} (sb : Same B H) : ∀ {ws : List U} {kvs : List (U × U)} {vs : List V}, asPr ws = some kvs → reps Γ B ws vs →
    ∃ (ps : List Addr) (es : List (Key × V)), vs = ps.map V.ref ∧ Paired (fun p kv => SqT Γ.K H p [kV kv.1, kv.2]) ps es ∧ repd Γ B kvs es ∧ es.map (·.1) = kvs.map fun p => kOf p.1
  | [], kvs, vs, h, r => by
    simp only [asPr, Option.some.injEq] at h
    subst h
    simp only [reps] at r
    subst r
    exact ⟨[], [], rfl, .nil, by simp [repd], rfl⟩
  | u :: ws, kvs, vs, h, r => by
    unfold asPr at h
    split at h
    · rename_i h0; cases h0
    · rename_i k v r' h0
      injection h0 with h1 h2
      subst h1 h2
      split at h
      · rename_i hk
        obtain ⟨kv', z, e⟩ := Option.map_eq_some_iff.mp h
        subst e
        simp only [reps, rep] at r
        obtain ⟨v0, vs', rfl, ⟨a, xs, rfl, st, v1, r1, rfl, x1, v2, r2, rfl, x2, rfl⟩, r3⟩ := r
        obtain ⟨ps, es, rfl, i1, i2, i3⟩ := pairs_rep sb z r3
        have kr : v1 = kV (kOf k) := by
          cases k <;> simp only [isK1, Bool.false_eq_true] at hk <;> simp only [rep] at x1 <;> exact x1
        subst kr
        refine ⟨a :: ps, (kOf k, v2) :: es, rfl, .cons (sqT_same sb st) i1, ?_, by simp [i3]⟩
        simp only [repd]
        exact ⟨_, _, _, rfl, x1, x2, i2⟩
      · cases h
    · cases h
theorem asPr_k : ∀ {ws : List U} {kvs : List (U × U)}, asPr ws = some kvs → ∀ p ∈ kvs, isK1 p.1 = true
  | [], kvs, h, p, hp => by simp only [asPr, Option.some.injEq] at h; subst h; cases hp
  | u :: ws, kvs, h, p, hp => by
    unfold asPr at h
    split at h
    · rename_i h0; cases h0
    · rename_i k v r' h0
      injection h0 with h1 h2
      subst h1 h2
      split at h
      · rename_i hk
        obtain ⟨kv', z, e⟩ := Option.map_eq_some_iff.mp h
        subst e
        rcases List.mem_cons.mp hp with e | hp
        · subst e; exact hk
        · exact asPr_k z p hp
      · cases h
    · cases h
theorem ok_dictP (hc : X.calm = true) : CallOK X (.type "dict") sDictP := by
  refine ⟨_, call_dictP hc, fun {W B H e σ us xs z Q} sr q vx t => ?_⟩
  unfold sDictP at q
  split at q
  · rename_i ws
    split at q
    · rename_i kvs hk
      split at q
      · rename_i hn
        cases q
        obtain ⟨v, rfl, v1⟩ := vws1 vx
        obtain ⟨a, vs, rfl, h1, r1⟩ := v1.lst sr.bh
        obtain ⟨ps, es, rfl, i1, i2, i3⟩ := pairs_rep sr.bh hk r1
        rw [cdec_iff] at hn
        have nd : (es.map (·.1)).Nodup := by
          rw [i3]
          have k1 := asPr_k hk
          clear hk i1 i2 i3 h1 r1 t vx v1
          induction kvs with
          | nil => simp
          | cons p kvs ih =>
            simp only [List.map_cons, List.nodup_cons] at hn ⊢
            refine ⟨fun hm => hn.1 ?_, ih hn.2 fun q hq => k1 q (List.mem_cons_of_mem _ hq)⟩
            obtain ⟨q, hq, e⟩ := List.mem_map.mp hm
            have := kOf_inj (k1 q (List.mem_cons_of_mem _ hq)) (k1 p List.mem_cons_self) e
            rw [← this]
            exact List.mem_map.mpr ⟨q, hq, rfl⟩
        refine ⟨a, ps, es, rfl, SqL.of h1, i1, fun p hp => ?_⟩
        rw [merge_nodup es [] (by simpa using nd), List.nil_append]
        exact fin_new (ho := fun _ => .dK es) sr t (fun p => .inl ⟨es, rfl, i2⟩) p hp
      · cases q
    · cases q
  · cases q
noncomputable def sDict2 : OpN := orN sDictC sDictP
theorem ok_dict2 (hc : X.calm = true) : CallOK X (.type "dict") sDict2 := ok_dictC.or (ok_dictP hc)
end
end VS
set_option Elab.async false
set_option linter.all false
set_option maxRecDepth 100000
set_option maxHeartbeats 3200000
namespace VSet
open PySem PyProof.Rows L2
section
variable {P : Program} {w : World} {A : Around} {E : Value → Shared → Prop} {s : Shared} {a : Addr}
theorem ints_of : ∀ {vs : List Value} {ss : List Int}, Paired (fun v k => (PySem.intKind P w).is k v = true) vs ss → IntsAre vs ss
  | _, _, .nil => .nil
  | v :: _, y :: _, .cons h t => by
    obtain ⟨k, e⟩ := Value.isInt_shape h
    subst e
    exact .cons y k (ints_of t)
theorem sorted_sgI {ks : List Int} {Q : Value → Shared → Prop} (R : SG (PySem.intKind P w) s.heap a ks) (hh : A.handled = none)
    (hQ : ∀ s' p (out : List Value) (c : Nat) (ns : List Int), (∀ b o, s.heap.get? b = some o → s'.heap.get? b = some o) → s'.gens = s.gens → s'.os = s.os → s.heap.objs.size ≤ p →
      s'.heap.get? p = some (seqObj "list" out.toArray c) → IntsAre out ns → ns.Pairwise (· ≤ ·) → ns.Perm ks → Q (.ref p) s') :
    wpAny (model P w) A (call (.builtin "sorted") [.ref a]) Q E s := by
  obtain ⟨o, es, ep, t, ho, hex, hd, pp, nd, hb, hf, hr, hl⟩ := R
  have hn : es.size = ks.length := by rw [← Array.length_toList]; exact plen pp
  refine Calls.call_function_entry kind_sorted plain_sorted entry_sorted (args_sorted1 _) ?_
  unfold Builtin.«sorted»
  refine wpAny_bind (m := checkCount "sorted" 1 1 _) (wpAny_pure ?_)
  refine wpAny_bind (L2.collect_set (A := A.in1) hh ⟨o, ho, hex.1, hd⟩ hf hb hr hl fun s1 vs k1 hz g1 o1 pm => ?_)
  have hvl : vs.length = ks.length := by rw [pm.length_eq, List.length_map, Array.length_toList]; exact hn
  obtain ⟨ss, q1, q2⟩ := Paired.perm pm (map_vals pp)
  have hS : IntsAre vs ss := ints_of q2
  have hz' : vs.length ≤ sizeLine := by rw [hvl, ← hn]; have : es.size < scanBound := hb; unfold scanBound at this; rw [sizeLine_eq]; omega
  refine wpAny_bind (wpAny_newList ?_ hz')
  have hoL : (s1.heap.push (seqObj "list" vs.toArray 0)).get? s1.heap.objs.size = some (seqObj "list" vs.toArray 0) := Heap.get?_push_size _ rfl
  refine wpAny_bind (wpAny_holding (wpAny_call_entry slot_list_sort ⟨_, hoL, rfl⟩ entry_list_sort
    (SrtO.list_sort_ord SrtO.swo_int hoL hz' (fun h2 => SrtO.ints_sortable hS h2) fun out h1 h2 => ⟨_, rfl, ?_⟩) (args_list_sort _)))
  obtain ⟨k2, k3, k4⟩ := SrtO.ints_out hS h1 h2
  obtain ⟨c, hc⟩ := sortedHeap_at (vs := vs) (out := out.toArray) hoL
  refine wpAny_pure ⟨_, rfl, hQ _ s1.heap.objs.size out c _ (fun b u e => ?_) g1 o1 hz hc k2 k4 (k3.trans q1)⟩
  have q := k1 b u e
  have hlt := Heap.lt_size q
  show (sortedHeap (s1.heap.push (seqObj "list" vs.toArray 0)) s1.heap.objs.size vs _).get? b = some u
  rw [sortedHeap_old (Nat.ne_of_lt hlt) (by rw [size_push']; exact Nat.lt_succ_of_lt hlt)]
  exact Heap.get?_push_of_some _ q
end
end VSet
namespace VS
open PySem L2
def dedI : List Int → List Int
  | [] => []
  | x :: r => if x ∈ r then dedI r else x :: dedI r
theorem mem_dedI {y : Int} : ∀ {xs : List Int}, y ∈ dedI xs ↔ y ∈ xs
  | [] => by simp [dedI]
  | x :: r => by
    unfold dedI
    split
    · rename_i h
      rw [mem_dedI, List.mem_cons]
      exact ⟨.inr, fun z => z.elim (fun e => e ▸ h) id⟩
    · rw [List.mem_cons, List.mem_cons, mem_dedI]
theorem nodup_dedI : ∀ (xs : List Int), (dedI xs).Nodup
  | [] => by simp [dedI]
  | x :: r => by
    unfold dedI
    split
    · exact nodup_dedI r
    · rename_i h
      exact List.nodup_cons.mpr ⟨fun z => h (mem_dedI.mp z), nodup_dedI r⟩
theorem perm_of_memI : ∀ {a b : List Int}, a.Nodup → b.Nodup → (∀ y, y ∈ a ↔ y ∈ b) → a.Perm b
  | [], b, _, _, h => by
    cases b with
    | nil => exact .refl _
    | cons x r => have := (h x).mpr List.mem_cons_self; cases this
  | x :: a, b, ha, hb, h => by
    have hx : x ∈ b := (h x).mp List.mem_cons_self
    obtain ⟨na, ha⟩ := List.nodup_cons.mp ha
    have p := List.perm_cons_erase hx
    refine (List.Perm.cons x (perm_of_memI ha (hb.erase x) fun y => ?_)).trans p.symm
    rw [hb.mem_erase_iff]
    constructor
    · intro hy
      exact ⟨fun e => na (e ▸ hy), (h y).mp (List.mem_cons_of_mem _ hy)⟩
    · rintro ⟨n, hy⟩
      rcases List.mem_cons.mp ((h y).mpr hy) with e | z
      · exact absurd e n
      · exact z
@[simp] theorem asInts_m (ns : List Int) : asInts (ns.map U.int) = some ns := by
  induction ns with
  | nil => rfl
  | cons n ns ih => rw [List.map_cons, asInts, ih]; rfl
def tSortSet2 (K : PySem.W.Frag) (ta : TE) : TE := fun σ H Q => ta σ H fun x H1 => ∃ l, x = .ref l ∧ ((∃ xs : List Str, SqL K H1 l (xs.map V.str) ∧ (dedS xs).length < 64 ∧ ∀ p, H1 p = none → Q (.ref p) (upd H1 p (.lst ((sortS (dedS xs)).map V.str)))) ∨
  (∃ xs : List Int, SqL K H1 l (xs.map V.int) ∧ (dedI xs).length < 4095 ∧ ∀ p, H1 p = none → Q (.ref p) (upd H1 p (.lst ((sortI (dedI xs)).map V.int)))))
theorem keyVs_ints {P : Program} {w : World} : ∀ {ys : List Int} {us : List Value}, Vals (ys.map V.int) us → VSet.KeyVs (PySem.intKind P w) us ys
  | [], _, .nil => .nil
  | y :: ys, _, .cons r t => by
    obtain ⟨k, rfl⟩ := r
    exact .cons ⟨by simp [PySem.intKind, Value.isInt], rfl⟩ (keyVs_ints t)
section
open PyProof.Rows
variable {X : Cx} {W : WXX} {a : Expr} {p p2 q pos : Pos}
theorem pe_sortSet2 {ta : TE} (hc : X.calm = true) (hg : Gl X "sorted") (hm : X.mg "sorted" = none) (hg2 : Gl X "set") (hm2 : X.mg "set" = none) (ha : PE X a ta)
    (na : starEach [a] X.env = (false, eval a X.env) :: starEach [] X.env := by rfl) : PE X (.Call (.Name "sorted" p) [.Call (.Name "set" p2) [a] [] q] [] pos) (tSortSet2 X.K ta) := by
  refine ⟨fun pins s σ H Q I h => ?_⟩
  refine Call_ (ld_blt I hg hm boot_sorted ?_)
  refine PyProof.Rows.callWith_builtin1 (PyProof.Rows.args_cons ?_ rfl) rfl rfl
  refine Call_ (ld_blt I hg2 hm2 boot_set ?_)
  refine PyProof.Rows.callWith_type1 (PyProof.Rows.args_cons (thn (ha.run pins s σ H _ I h) fun v s1 ⟨x, H1, I1, r1, q1⟩ => PyProof.Rows.args_nil ?_) na) na rfl
  obtain ⟨l, rfl, q1⟩ := q1
  cases r1
  rcases q1 with ⟨xs, hq, h64, q1⟩ | ⟨xs, hq, h1, q1⟩
  · obtain ⟨its, r, pl, hz⟩ := I1.list hq
    refine VSet.set_list (knd := PySem.strKind X.prog X.w) xs (I1.ok.hd hc) pl.isList (by simpa using keyVs_strs r) (fun l nd hs => by have := VSet.nodup_len (ys := dedS xs) nd fun y hy => mem_dedS.mpr (hs y hy); unfold scanBound; omega) fun h' tk ks sg ad hk => ?_
    refine PyProof.Rows.args_nil ?_
    have I2 : Inv X pins σ H1 { s1 with heap := h', toks := tk } := I1.kept fun b o e => hk b o e
    have nd : ks.Nodup := by obtain ⟨_, _, _, _, _, _, _, _, nd, _⟩ := sg; exact nd
    have mem : ∀ y, y ∈ ks ↔ y ∈ xs := fun y => by rw [ad.mem]; simp
    have kl : ks.length = (dedS xs).length := (perm_of_mem nd (nodup_dedS xs) fun y => by rw [mem y, mem_dedS]).length_eq
    refine VSet.sorted_sg sg (I2.ok.hd hc) (by omega) fun s' p out c ns k g o hp hgt hi st pm => ?_
    have hn : H1 p = none := I2.hok.fresh hp
    have e1 := sortSet_unique st pm nd mem
    have hlen : (ns.map V.str).length ≤ sizeLine := by rw [List.length_map, pm.length_eq, sizeLine_eq]; omega
    have J : Inv X pins σ (upd H1 p (.lst (ns.map V.str))) { ({ s1 with heap := h', toks := tk } : Shared) with heap := s'.heap, gens := s'.gens, drawn := s'.drawn, toks := s'.toks } :=
      I2.call (ch := []) (Un.laid k hp hn) (I2.hok.laid k hp ⟨hlen, out.toList, c, vals_of_strs hi, hgt⟩) (by rw [g]; exact I2.bare) (fun _ z => nomatch z)
    have e : s' = { ({ s1 with heap := h', toks := tk } : Shared) with heap := s'.heap, gens := s'.gens, drawn := s'.drawn, toks := s'.toks } := by
      cases s'
      cases s1
      cases o
      rfl
    rw [e]
    rw [e1] at J
    exact ⟨.ref p, _, J, rfl, q1 p hn⟩
  · obtain ⟨its, r, pl, hz⟩ := I1.list hq
    refine VSet.set_list (knd := PySem.intKind X.prog X.w) xs (I1.ok.hd hc) pl.isList (by simpa using keyVs_ints r) (fun l nd hs => by have := VSet.nodup_len (ys := dedI xs) nd fun y hy => mem_dedI.mpr (hs y hy); unfold scanBound; omega) fun h' tk ks sg ad hk => ?_
    refine PyProof.Rows.args_nil ?_
    have I2 : Inv X pins σ H1 { s1 with heap := h', toks := tk } := I1.kept fun b o e => hk b o e
    have nd : ks.Nodup := by obtain ⟨_, _, _, _, _, _, _, _, nd, _⟩ := sg; exact nd
    have mem : ∀ y, y ∈ ks ↔ y ∈ xs := fun y => by rw [ad.mem]; simp
    have pd : ks.Perm (dedI xs) := perm_of_memI nd (nodup_dedI xs) fun y => by rw [mem y, mem_dedI]
    have kl : ks.length = (dedI xs).length := pd.length_eq
    refine VSet.sorted_sgI sg (I2.ok.hd hc) fun s' p out c ns k g o hp hgt hi st pm => ?_
    have hn : H1 p = none := I2.hok.fresh hp
    have e1 : ns = sortI (dedI xs) := sortI_unique (pm.trans pd) st
    have hlen : (ns.map V.int).length ≤ sizeLine := by rw [List.length_map, pm.length_eq, sizeLine_eq]; omega
    have J : Inv X pins σ (upd H1 p (.lst (ns.map V.int))) { ({ s1 with heap := h', toks := tk } : Shared) with heap := s'.heap, gens := s'.gens, drawn := s'.drawn, toks := s'.toks } :=
      I2.call (ch := []) (Un.laid k hp hn) (I2.hok.laid k hp ⟨hlen, out, c, vals_of_ints hi, hgt⟩) (by rw [g]; exact I2.bare) (fun _ z => nomatch z)
    have e : s' = { ({ s1 with heap := h', toks := tk } : Shared) with heap := s'.heap, gens := s'.gens, drawn := s'.drawn, toks := s'.toks } := by
      cases s'
      cases s1
      cases o
      rfl
    rw [e]
    rw [e1] at J
    exact ⟨.ref p, _, J, rfl, q1 p hn⟩
def sSS (ws : List U) : Option (List U) := match asStrs ws with
  | some xs => if (dedS xs).length < 64 then some ((sortS (dedS xs)).map .str) else none
  | none => match asInts ws with
    | some xs => if (dedI xs).length < 4095 then some ((sortI (dedI xs)).map .int) else none
    | none => none
def mSS2 (m : M Od) : M (Bool × U) := m.bd fun od e => match rdO e od with
  | some (.lst ws) => match sSS ws with
    | some r => .ok (true, .lst r) e
    | none => .bad
  | _ => .bad
theorem po_sortSet2 {m : M Od} (hc : X.calm = true) (hg : Gl X "sorted") (hm : X.mg "sorted" = none) (hg2 : Gl X "set") (hm2 : X.mg "set" = none) (ha : PR X W a m)
    (na : starEach [a] X.env = (false, eval a X.env) :: starEach [] X.env := by rfl) : PO X W (.Call (.Name "sorted" p) [.Call (.Name "set" p2) [a] [] q] [] pos) (mSS2 m) := by
  refine PEimp (pe_sortSet2 hc hg hm hg2 hm2 ha na) fun σ H Q ⟨B, e, sr, q⟩ => ⟨B, e, sr, (tAt.bd q).mono fun x H1 ⟨B1, e1, od, g1, r1, q1⟩ => ?_⟩
  unfold tAt at q1
  dsimp only at q1
  cases h1 : rdO e1 od with
  | none => rw [h1] at q1; exact q1.elim
  | some u =>
    rw [h1] at q1
    cases u with
    | lst ws =>
      dsimp only at q1
      have v := rlR.vw g1.sr r1 h1
      obtain ⟨l, vs, rfl, k1, k2⟩ := v.lst g1.sr.bh
      unfold sSS at q1
      cases h2 : asStrs ws with
      | none =>
        rw [h2] at q1
        dsimp only at q1
        cases h3 : asInts ws with
        | none => rw [h3] at q1; exact q1.elim
        | some xs =>
          rw [h3] at q1
          dsimp only at q1
          by_cases c : (dedI xs).length < 4095
          · rw [if_pos c] at q1
            rw [asInts_eq h3, reps.nat] at k2
            subst k2
            exact ⟨l, rfl, .inr ⟨xs, SqL.of k1, c, fun p hp => fin_new (W := W) (u := .lst ((sortI (dedI xs)).map .int)) (ho := fun _ => .lst _) g1.sr q1 (fun p => ⟨_, rfl, (reps.nat _).mpr rfl⟩) p hp⟩⟩
          · rw [if_neg c] at q1
            exact q1.elim
      | some xs =>
        rw [h2] at q1
        dsimp only at q1
        by_cases c : (dedS xs).length < 64
        · rw [if_pos c] at q1
          rw [asStrs_eq h2, reps.strs] at k2
          subst k2
          exact ⟨l, rfl, .inl ⟨xs, SqL.of k1, c, fun p hp => fin_new (W := W) (u := .lst ((sortS (dedS xs)).map .str)) (ho := fun _ => .lst _) g1.sr q1 (fun p => ⟨_, rfl, (reps.strs _).mpr rfl⟩) p hp⟩⟩
        · rw [if_neg c] at q1
          exact q1.elim
    | _ => exact False.elim q1
end
@[simp] theorem e_ss2 {m : M Od} {e : En} : mSS2 m e = (m.bd fun od e => match rdO e od with
  | some (.lst ws) => match sSS ws with
    | some r => .ok (true, .lst r) e
    | none => .bad
  | _ => .bad) e := rfl
theorem sSS_strs {xs : List Str} (h2 : (dedS xs).length < 64) : sSS (xs.map U.str) = some ((sortS (dedS xs)).map .str) := by
  unfold sSS; rw [asStrs_map]; dsimp only; rw [if_pos h2]
theorem sSS_str {xs : List Str} (h : xs.length < 4095) (h2 : (dedS xs).length < 64) : sSS (xs.map U.str) = some ((sortS (dedS xs)).map .str) := sSS_strs h2
end VS
set_option Elab.async false
set_option linter.all false
set_option maxRecDepth 100000
set_option maxHeartbeats 2000000
namespace VEn
open PySem PySem.Spec L2 PyProof.Rows
open Sem (wp)
open AutoSeq1 (wpAny_loadPart')
theorem meets_new {v : Value} {o : Obj} {H : Heap → Prop} (B : Begins v o H) :
    Meets (Builtin.«enumerate.__new__» ⟨[.type "enumerate", v], []⟩) (fun _ R s => H s.heap ∧
      R (.ok (.ret (.ref (s.heap.push o).objs.size)))
        { s with heap := (s.heap.push o).push { cls := .type "enumerate", data := .fields #[.none, .bool false, .ref s.heap.objs.size, rawInt 0, .none, .none] } }) :=
  .of_wp fun prog w A R s h => by
    obtain ⟨hp, g, d, tk, os⟩ := s; obtain ⟨hl, h⟩ := h
    have hsub := sub_enumerate
    wp_walk
    refine wpAny_stack_any fun st => wpAny_pure ?_
    split
    · rename_i c _ _ _ _ _
      cases (c == Value.type "enumerate")
      · wp_walk using B.iter _ _ _ _ _ _ hl
        exact ⟨_, rfl, h⟩
      · wp_walk using B.iter _ _ _ _ _ _ hl
        exact ⟨_, rfl, h⟩
    · wp_walk using B.iter _ _ _ _ _ _ hl
      exact ⟨_, rfl, h⟩
section
variable {prog : Program} {w : World} {A : Around} {E : Value → Shared → Prop} {s : Shared}
theorem call_enum {v : Value} {o : Obj} {H : Heap → Prop} {Q : Value → Shared → Prop} (B : Begins v o H) (h1 : H s.heap)
    (h : ∀ h', IsEnum h' (s.heap.objs.size + 1) s.heap.objs.size 0 .none → h'.get? s.heap.objs.size = some o → h'.objs.size = s.heap.objs.size + 2 →
      (∀ b o, s.heap.get? b = some o → h'.get? b = some o) → Q (.ref (s.heap.objs.size + 1)) { s with heap := h' }) :
    wpAny (model prog w) A (call (.type "enumerate") [v]) Q E s := by
  refine callType_new F.called_enumerate (by decide) (F.typeCall_enumerate_1 _) (F.newCall_enumerate_1 _) (fun obj => F.args_object_init_2 obj _) F.entry_enumerate_new
    (meets_new B) ⟨h1, ?_⟩
  have hz : (s.heap.push o).objs.size = s.heap.objs.size + 1 := Heap.size_push ..
  show _ ∧ _
  rw [hz]
  have he : IsEnum ((s.heap.push o).push { cls := .type "enumerate", data := .fields #[.none, .bool false, .ref s.heap.objs.size, rawInt 0, .none, .none] }) (s.heap.objs.size + 1) s.heap.objs.size 0 .none := by
    have := Heap.get?_push_size (s.heap.push o) (o := { cls := .type "enumerate", data := .fields #[.none, .bool false, .ref s.heap.objs.size, rawInt 0, .none, .none] }) rfl
    rw [hz] at this; exact this
  refine ⟨⟨_, he, rfl⟩, h _ he (Heap.get?_push_of_some _ (Heap.get?_push_size _ B.free)) (by rw [Heap.size_push, hz]) fun b o x => Heap.get?_push_of_some _ (Heap.get?_push_of_some _ x)⟩
end
def IteT (K : PySem.W.Frag) (a : Addr) : It :=
  ⟨fun i H => ∃ (xs : List V) (x : V), SqT K H a xs ∧ xs[i]? = some x, fun i H v H' => ∃ T x, v = .ref T ∧ H T = none ∧ H' = upd H T (.tup [.int (i : Nat), x]) ∧ ∀ xs, SqT K H a xs → xs[i]? = some x, fun i H => ∃ xs : List V, SqT K H a xs ∧ xs.length ≤ i⟩
theorem turn_enumT {P : Program} {w : World} {K : PySem.W.Frag} {elts : List Expr} {kk : Nat} {tpos : Pos} (a e it : Addr) :
    Turn P w K (.Tuple elts kk tpos) (IteT K a) [e, it] e (fun i h => (∃ old, IsEnum h e it ((i : Nat) : Int) old) ∧ h.IsTupleIter it a i ∧ e ≠ it ∧ a ≠ it ∧ a ≠ e) where
  mem := by simp
  obj := fun i h st b hb => by
    obtain ⟨⟨old, he⟩, ⟨o, ho, hc, hd⟩, _⟩ := st
    have e' : b = e ∨ b = it := by simpa using hb
    rcases e' with z | z
    · rw [z]; exact ⟨_, he, fun v q => nomatch q⟩
    · rw [z]; exact ⟨o, ho, fun v q => by rw [hd] at q; cases q⟩
  keep := fun i h h' st k => let ⟨⟨old, he⟩, hi, hne⟩ := st; ⟨⟨old, k e (by simp) _ he⟩, hi.at fun o q => k it (by simp) o q, hne⟩
  item := by
    intro X hP hw hK hc i pins s σ H E I hf st hg
    subst hP hw hK
    obtain ⟨⟨old, he⟩, hit, hne, ha1, ha2⟩ := st
    obtain ⟨xs, x, hq, hx⟩ := hg
    obtain ⟨its, rv, p, hz⟩ := I.tuple hq
    obtain ⟨u, hu, ru⟩ := rv.get hx
    have hel : e < s.heap.objs.size := Heap.lt_size he
    have hil : it < s.heap.objs.size := by obtain ⟨_, q, _⟩ := hit; exact Heap.lt_size q
    have hul : i < its.toArray.size := by have := (List.getElem?_eq_some_iff.mp hu).1; simpa using this
    have D := Draws.tuple (prog := X.prog) (w := X.w) (A := X.A.in1) (I.ok.hd hc) it a ha1 its.toArray
    refine wpAny_pyNext_enum_itemD D he ⟨hit, p⟩ hul hne (by simp; exact ⟨hne, Ne.symm ha2⟩) fun v h' tk hP ho hst hT hsz hk => ?_
    have hv : v = u := by
      have hP' : its.toArray[i]? = some v := hP
      rw [List.getElem?_toArray, hu] at hP'
      injection hP' with z
      exact z.symm
    subst hv
    refine ⟨_, rfl, wpAny_letOwnedTupleGo_enum (s := { s with heap := h', toks := tk + 1 }) ho fun h'' he' sb => ?_⟩
    have hT2 : h''.get? s.heap.objs.size = some { cls := .type "tuple", data := .seq #[.int i tk, v] } := (sb.2 _ (Nat.ne_of_gt hel)).trans hT
    have new : ObjOk X.prog X.w (upd H s.heap.objs.size (.tup [.int (i : Nat), x])) h'' s.heap.objs.size (.tup [.int (i : Nat), x]) :=
      ⟨by show 2 ≤ sizeLine; decide, [.int i tk, v], .cons ⟨_, rfl⟩ (.cons ru .nil), ⟨_, hT2, rfl, _, rfl⟩⟩
    have I1 : Inv X pins σ (upd H s.heap.objs.size (.tup [.int (i : Nat), x])) { s with heap := h'', toks := tk + 1 } :=
      I.turnedNew (ch := [e, it]) (fun b ob hb q => (sb.2 b (fun z => hb (by simp [z]))).trans (hk b ob (fun z => hb (by simp [z])) (fun z => hb (by simp [z])) q)) hf (Nat.le_refl _) new
    refine ⟨.ref s.heap.objs.size, _, I1, rfl, ⟨_, x, rfl, I.hok.fresh (Nat.le_refl _), rfl, fun ys hy => by rw [I.tuple_inj hy hq]; exact hx⟩, ⟨⟨v, ?_⟩, hst.1.at fun o q => (sb.2 it (Ne.symm hne)).trans q, hne, ha1, ha2⟩, fun b hb => ?_⟩
    · have e1 : ((i + 1 : Nat) : Int) = (i : Int) + 1 := by omega
      rw [e1]; exact he'
    · have hb' : b < s.heap.objs.size := by
        have e' : b = e ∨ b = it := by simpa using hb
        rcases e' with z | z
        · rw [z]; exact hel
        · rw [z]; exact hil
      rw [upd_ne (Nat.ne_of_lt hb')]
      exact (hf b hb).1
  done := by
    intro X hP hw hK hc i pins s σ H E I hf st hg
    subst hP hw hK
    obtain ⟨⟨old, he⟩, hit, hne, ha1, ha2⟩ := st
    obtain ⟨xs, hq, hx⟩ := hg
    obtain ⟨its, rv, p, hz⟩ := I.tuple hq
    obtain ⟨f0, f1, f2, f3, f4, f5⟩ := hf it (by simp)
    have hl := rv.length
    have hT : s.TypeIs (.ref e) "enumerate" := ⟨_, he, rfl⟩
    unfold pyNext
    refine wpAny_bind (wpAny_attempt (wpAny_callSpecial?_slot (name := Str.ofString "__next__") hT F.slot_enumerate_next
      (wpAny_call_entry F.slot_enumerate_next hT F.entry_enumerate_next ?_ (F.args_enumerate_next_1 _))))
    show wpAny _ _ (field (.ref e) 2 >>= _) _ _ _
    refine wpAny_bind (wpAny_field he rfl (x := .ref it) rfl ?_)
    refine wpAny_bind (PySem.wpAny_nextOf_tuple_end (I.ok.hd hc) hit p (by simp; omega) fun h' x eb hx' => ?_)
    obtain ⟨o, ho, hc'⟩ := hx'
    refine wpAny_bind (wpAny_isInstance (T := "StopIteration") (b := true) ⟨o, ho, hc'⟩ isSubtype_stop ?_)
    exact wpAny_pure ⟨rfl, I.turned (t' := s.toks) (fun b o hb q => eb b o hb q) f0 f1 f3 f4 f5⟩
  self := fun A i s Q E st h => let ⟨⟨_, he⟩, _⟩ := st; wpAny_pyIter_enum he h
def iEnum2 (K : PySem.W.Frag) (ta : TA) : TI := fun σ H R => ta σ H fun vs H1 => ∃ a xs, vs = [.ref a] ∧ ((SqL K H1 a xs ∧ R (Ite K a) H1) ∨ (SqT K H1 a xs ∧ R (IteT K a) H1))
theorem pi_enum2 {X : Cx} {e : Expr} {ta : TA} {p pos tpos : Pos} {elts : List Expr} {kk : Nat} (hg : Gl X "enumerate") (hm : X.mg "enumerate" = none) (ha : PA X [e] ta) (hs : starEach [e] X.env = [(false, eval e X.env)] := by rfl) :
    PI X (.Tuple elts kk tpos) (.Call (.Name "enumerate" p) [e] [] pos) (iEnum2 X.K ta) := by
  refine ⟨fun pins s σ H R I h => ?_⟩
  refine Call_ (ld_blt I hg hm boot_enumerate (PyProof.Rows.callWith_type1 (thn (ha.run pos pins s σ H _ I h) fun us s1 ⟨vs, H1, I1, r1, q1⟩ => ?_) hs rfl))
  obtain ⟨a, xs, ex, q⟩ := q1
  subst ex
  cases r1 with
  | cons r rr =>
    cases rr
    cases r
    rcases q with ⟨hq, q⟩ | ⟨hq, q⟩
    · obtain ⟨its, rv, p', hz⟩ := I1.list hq
      refine call_enumerate_list p'.isList fun h' he hit hsz hk => wpAny_pyIter_enum he ?_
      have I2 : Inv X pins σ H1 { s1 with heap := h' } := I1.kept (t' := s1.toks) hk
      refine ⟨s1.heap.objs.size + 1, [s1.heap.objs.size + 1, s1.heap.objs.size], _, _, H1, rfl, I2, turn_enum a (s1.heap.objs.size + 1) s1.heap.objs.size, ⟨⟨.none, he⟩, hit, Nat.succ_ne_self _⟩, fun b hb => ?_, q⟩
      have e' : b = s1.heap.objs.size + 1 ∨ b = s1.heap.objs.size := by simpa using hb
      have hle : s1.heap.objs.size ≤ b := by
        rcases e' with z | z
        · rw [z]; exact Nat.le_add_right _ _
        · rw [z]; exact Nat.le_refl _
      exact I1.fpOk hle (I1.hok.fresh hle)
    · obtain ⟨its, rv, p', hz⟩ := I1.tuple hq
      have hal : a < s1.heap.objs.size := by obtain ⟨_, q, _⟩ := p'; exact Heap.lt_size q
      refine call_enum (begins_tuple a its.toArray) p' fun h' he hit hsz hk => wpAny_pyIter_enum he ?_
      have I2 : Inv X pins σ H1 { s1 with heap := h' } := I1.kept (t' := s1.toks) hk
      refine ⟨s1.heap.objs.size + 1, [s1.heap.objs.size + 1, s1.heap.objs.size], _, _, H1, rfl, I2, turn_enumT a (s1.heap.objs.size + 1) s1.heap.objs.size, ⟨⟨.none, he⟩, ⟨_, hit, rfl, rfl⟩, Nat.succ_ne_self _, Nat.ne_of_lt hal, Nat.ne_of_lt (Nat.lt_succ_of_lt hal)⟩, fun b hb => ?_, q⟩
      have e' : b = s1.heap.objs.size + 1 ∨ b = s1.heap.objs.size := by simpa using hb
      have hle : s1.heap.objs.size ≤ b := by
        rcases e' with z | z
        · rw [z]; exact Nat.le_add_right _ _
        · rw [z]; exact Nat.le_refl _
      exact I1.fpOk hle (I1.hok.fresh hle)
end VEn
namespace VS
open PySem L2
def srcE2 (u : U) : M Src := match u with
  | .lst us => .ret ⟨enumL us, [], none⟩
  | .tup us => .ret ⟨enumL us, [], none⟩
  | _ => fun _ => .bad
def mItE2 (m : M U) : M Src := m.bd srcE2
theorem iv_enum2 {X : Cx} {W : WXX} {ex : Expr} {pos : Pos} {m : M U} {p tpos : Pos} {elts : List Expr} {kk : Nat} (hg : Gl X "enumerate") (hm : X.mg "enumerate" = none) (h : PV X W ex m) (hs : starEach [ex] X.env = [(false, eval ex X.env)] := by rfl) :
    PIV X W (.Tuple elts kk tpos) (.Call (.Name "enumerate" p) [ex] [] pos) (mItE2 m) := by
  refine PIimp (VEn.pi_enum2 hg hm (pa_cons h pa_nil (by rw [hs]; rfl)) hs) fun σ H R q => ?_
  obtain ⟨B, e, sr, q⟩ := iG.of (rl := rlV (ga X)) q
  refine ⟨B, e, sr, q.mono fun x H1 ⟨B1, e1, u, s1, r1, q1⟩ => ?_⟩
  cases u with
  | lst us =>
    have r1' : rep (ga X) B1 (.lst us) x := r1
    simp only [rep] at r1'
    obtain ⟨a, vs, rfl, h1, rr⟩ := r1'
    refine ⟨a, vs, rfl, .inl ⟨SqL.of (s1.bh _ _ h1), q1 _ B1 H1 (Go.refl s1) ?_ trivial⟩⟩
    refine ⟨fun B H k u s1 s2 _ hk => ?_, fun B H s1 s2 _ => ⟨vs, SqL.of (s2 _ _ (s1 _ _ h1)), by rw [← rr.length]; simp [enumL]⟩⟩
    unfold enumL at hk
    rw [List.getElem?_map, List.getElem?_zipIdx] at hk
    cases z : us[k]? with
    | none => rw [z] at hk; cases hk
    | some w =>
      rw [z] at hk
      cases hk
      obtain ⟨v, hv, rv⟩ := rr.get z
      have hs := SqL.of (K := (ga X).K) (s2 _ _ (s1 _ _ h1))
      refine ⟨⟨vs, v, hs, hv⟩, fun x H' ⟨T, y, e1, e2, e3, e4⟩ => ?_⟩
      have := e4 vs hs
      rw [hv] at this
      cases this
      subst e1
      refine ⟨upd B T _, .inr ⟨T, _, e2, rfl, e3⟩, ?_⟩
      have bt : B T = none := s2.free e2
      simp only [rep]
      exact ⟨T, _, rfl, SqT.of upd_same, reps.cons' (by simp [rep]) (reps.cons' ((rv.mono s1).mono (same_upd bt)) reps.nil')⟩
  | tup us =>
    have r1' : rep (ga X) B1 (.tup us) x := r1
    simp only [rep] at r1'
    obtain ⟨a, vs, rfl, h1, rr⟩ := r1'
    refine ⟨a, vs, rfl, .inr ⟨sqT_same s1.bh h1, q1 _ B1 H1 (Go.refl s1) ?_ trivial⟩⟩
    refine ⟨fun B H k u s1 s2 _ hk => ?_, fun B H s1 s2 _ => ⟨vs, sqT_same s2 (sqT_same s1 h1), by rw [← rr.length]; simp [enumL]⟩⟩
    unfold enumL at hk
    rw [List.getElem?_map, List.getElem?_zipIdx] at hk
    cases z : us[k]? with
    | none => rw [z] at hk; cases hk
    | some w =>
      rw [z] at hk
      cases hk
      obtain ⟨v, hv, rv⟩ := rr.get z
      have hs := sqT_same s2 (sqT_same s1 h1)
      refine ⟨⟨vs, v, hs, hv⟩, fun x H' ⟨T, y, e1, e2, e3, e4⟩ => ?_⟩
      have := e4 vs hs
      rw [hv] at this
      cases this
      subst e1
      refine ⟨upd B T _, .inr ⟨T, _, e2, rfl, e3⟩, ?_⟩
      have bt : B T = none := s2.free e2
      simp only [rep]
      exact ⟨T, _, rfl, SqT.of upd_same, reps.cons' (by simp [rep]) (reps.cons' ((rv.mono s1).mono (same_upd bt)) reps.nil')⟩
  | _ => exact False.elim q1
theorem nog_enum2 {m : M U} : NoG (mItE2 m) := NoG.bd fun u => by cases u <;> first | exact NoG.ret | exact NoG.bad
@[simp] theorem i_E2 {m : M U} {e : En} : mItE2 m e = (m.bd srcE2) e := rfl
@[simp] theorem srcE2_l {us : List U} {e : En} : srcE2 (.lst us) e = .ok ⟨enumL us, [], none⟩ e := rfl
@[simp] theorem srcE2_t {us : List U} {e : En} : srcE2 (.tup us) e = .ok ⟨enumL us, [], none⟩ e := rfl
end VS
set_option Elab.async false
set_option linter.all false
set_option maxRecDepth 100000
set_option maxHeartbeats 2000000
namespace VS
open PySem PySem.W L2 PyProof.Rows
def stp {α : Type} (i : Int) (xs : List α) : List α := if i = 1 then xs else xs.reverse
section
variable {X : Cx} {W : WXX}
end
@[simp] theorem e_neg1 {e : En} : mNeg (mC (.int 1)) e = .ok (.int (-1)) e := rfl
end VS
set_option Elab.async false
set_option linter.all false
set_option maxRecDepth 100000
set_option maxHeartbeats 2000000
namespace PySem.W
open PySem PySem.Calls PyProof.Rows Builtin
section
variable {prog : Program} {w : World} {A : Around} {E : Value → Shared → Prop} {s : Shared} {K : Frag} {x C L f : Addr} {h₀ : Heap} {m : Str → Option Value} {ox : Obj} {od : Option Obj} {b tb : Value}
end
end PySem.W
namespace VS
open PySem L2
section
variable {X : Cx} {W : WXX} {ex : Expr} {c : Str} {os : List Str} {C : Addr} {p pn pos : Pos} {m : M Od}
end
section
variable {X : Cx} {W : WXX} {a b : Expr} {c : Str} {os : List Str} {k j : Nat} {φ : Fs} {C : Addr} {pos : Pos} {ma mb : M Od}
end
end VS
namespace VH
open PySem PySem.Spec PyProof.Rows L2 He
end VH
set_option Elab.async false
set_option linter.all false
set_option maxRecDepth 100000
set_option maxHeartbeats 2000000
namespace VS
open PySem L2
section
variable {Γ : Ga} {B : Hp}
theorem repd.drop {k : U} {l : Key} (hk : rep Γ B k (kV l)) : ∀ {kvs : List (U × U)} {es : List (Key × V)}, repd Γ B kvs es → repd Γ B (kvs.filter fun p => decide (p.1 ≠ k)) (dropK es l) ∧ ∀ w, dfind kvs k = some w → ∃ v, valV es l = some v ∧ rep Γ B w v
  | [], _, h => by
    simp only [repd] at h
    subst h
    exact ⟨by simp [dropK, repd], fun w hw => by simp [dfind_nil] at hw⟩
  | (p, u) :: kvs, _, h => by
    simp only [repd] at h
    obtain ⟨m, v, r, rfl, h1, h2, h3⟩ := h
    obtain ⟨i1, i2⟩ := repd.drop hk h3
    obtain ⟨a1, a2⟩ := rep_key h1
    obtain ⟨b1, b2⟩ := rep_key hk
    by_cases e : p = k
    · subst e
      have e2 : m = l := a2.symm.trans b2
      subst e2
      refine ⟨?_, fun w hw => ?_⟩
      · unfold dropK at i1 ⊢
        simpa using i1
      · rw [dfind_cons, if_pos rfl] at hw
        cases hw
        exact ⟨v, valV_pos rfl, h2⟩
    · have e2 : ¬ m = l := fun z => e (kOf_inj a1 b1 (by rw [a2, b2, z]))
      refine ⟨?_, fun w hw => ?_⟩
      · unfold dropK at i1 ⊢
        rw [List.filter_cons_of_pos (by simpa using e), List.filter_cons_of_pos (by simpa using e2)]
        simp only [repd]
        exact ⟨m, v, _, rfl, h1, h2, i1⟩
      · rw [dfind_cons, if_neg e] at hw
        obtain ⟨v', h4, h5⟩ := i2 w hw
        exact ⟨v', by rw [valV_neg e2]; exact h4, h5⟩
end
section
variable {X : Cx}
end
end VS
set_option Elab.async false
set_option linter.all false
set_option maxRecDepth 100000
namespace VS
open PySem L2
section
variable {X : Cx} {W : WXX} {ex : Expr} {x y : Str} {p pn pn2 pos tpos : Pos} {xk : Nat}
end
end VS
set_option Elab.async false
set_option linter.all false
set_option maxRecDepth 100000
set_option maxHeartbeats 2000000
namespace VS
open PySem L2
section
variable {X : Cx} {W : WXX} {a b : Expr} {c : Str} {k j : Nat} {φ : Fs} {C : Addr} {pos : Pos} {ma mb : M Od}
end
end VS
set_option Elab.async false
set_option linter.all false
set_option maxRecDepth 100000
namespace VS
open PySem L2
abbrev KPat := Nat × List Str × List Nat
section
variable {P : Program} {w : World} {K : PySem.W.Frag} {mg : Str → Option Value} {base : Heap} {k n : Nat} {x c : Str} {C : Addr} {φ : Fs} {KP : List KPat}
end
section
variable {P : Program} {w : World} {K : PySem.W.Frag} {mg : Str → Option Value} {base : Heap} {x qual : Str} {params : Arguments} {body : List Stmt} {scope : Scope} {f : Addr} {fd : FuncData} {N ps : List Str} {k : Nat} {pr : Nat → Bool} {b : MS} {KP : List KPat}
abbrev BPos (ps : List Str) (x qual : Str) (params : Arguments) (body : List Stmt) (scope : Scope) : Prop := ∀ (kV doc pm : Value) (an : Option Addr) (cdv ct : Value) (us : List Value), us.length = ps.length → bindArgs (PySem.W.fnOf x qual params body scope .none kV doc pm an cdv ct) ⟨us, []⟩ = pure (ps.zip us)
end
section
variable {X : Cx} {W : WXX} {k n j : Nat} {x c : Str} {C : Addr} {φ : Fs} {o ex : Expr} {es : List Expr} {p pos apos kpos : Pos} {m mk : M (List Od)} {mo : M Od} {kws : List Keyword} {nm : Option Str} {KP : List KPat} {ks : List Str} {π : List Nat} {n1 : Nat}
end
end VS
namespace VS
open PySem L2
section
variable {x qual : Str} {params : Arguments} {body : List Stmt} {scope : Scope} {ps : List Str} {KP : List KPat}
end
end VS
set_option Elab.async false
set_option linter.all false
set_option maxRecDepth 100000
namespace VS
open PySem L2
section
variable {X : Cx} {pins : List (Addr × Obj)} {σ : St} {H : Hp} {s : Shared}
end
section
variable {X : Cx} {x n y : Str} {c : Value} {i j : Nat} {body : List Stmt} {np p1 p2 pa pos pos' : Pos} {tb : WX → TS}
end
section
variable {Γ : Ga} {B H : Hp} {e : En} {σ : St}
theorem Go.unset (s : SR Γ B H e σ) (i : Nat) : Go Γ B H e σ B H (e.set i none) (σ.set i none) := by
  have old : ∀ (j : Nat) (x : Bool × U), (e.set i none)[j]? = some (some x) → e[j]? = some (some x) ∧ (σ.set i none)[j]? = σ[j]? := fun j x hj => by
    rw [List.getElem?_set] at hj
    split at hj
    · split at hj <;> cases hj
    · rename_i n
      exact ⟨hj, List.getElem?_set_ne n⟩
  refine ⟨⟨Same.refl _, fun _ _ h _ => h, fun _ _ _ _ h => h⟩, ⟨s.bh, by simp [s.ln], fun j w hj => ?_, fun j w hj => ?_, fun j k w x a hj hk h1 h2 => ?_⟩, fun a ⟨j, w, h1, h2⟩ => .inl ⟨j, w, (old j _ h1).1, by rw [← (old j _ h1).2]; exact h2⟩⟩
  · obtain ⟨q1, q2⟩ := old j _ hj
    rw [q2]
    exact s.vl j w q1
  · obtain ⟨q1, q2⟩ := old j _ hj
    rw [q2]
    exact s.ow j w q1
  · obtain ⟨q1, q2⟩ := old j _ hj
    obtain ⟨q3, q4⟩ := old k _ hk
    rw [q2] at h1
    rw [q4] at h2
    exact s.ds j k w x a q1 q3 h1 h2
end
section
variable {X : Cx} {W : WXX} {pr : Nat → Bool} {k i j : Nat} {x n y : Str} {cv : Value} {ks : List Str} {body : List Stmt} {np p1 p2 pa pos pos' : Pos} {b : MS}
end
def spX (K : PySem.W.Frag) : Sp := fun vs H Q _ => ∃ a C w, vs = [.ref a, w] ∧ OexC K C ∧ PySem.W.findIn K (.ref C) "value" = some none ∧ H a = some (exo a C none) ∧
  ∀ dx, H dx = none → dx ≠ a → Q .non (upd (upd H dx (exd dx [("value", w)])) a (exo a C (some dx)))
structure XiV (P : Program) (w : World) (K : PySem.W.Frag) (mg : Str → Option Value) (base : Heap) (k : Nat) (f : Addr) : Prop where
  ex : ∃ fd ps, FnOk P w K mg base (L2.CX P w) k f fd ps (spX K) ∧ Binds K fd ps []
abbrev tXi (K : PySem.W.Frag) (t : Str) : TS := tSeq (tDrop (tVeI K (tCons (tVar 0) (tCons (tC (.str t)) tNil)))) (tOst K "value" (tVar 0) (tVar 1))
theorem xi_rule {P : Program} {w : World} {K : PySem.W.Frag} {mg : Str → Option Value} {base : Heap} {x qual sf vl t : Str} {params : Arguments} {scope : Scope} {f : Addr} {fd : FuncData} {body : List Stmt}
    (F : FunD K x qual params body scope [] [] f fd) (S : FnScope [sf, vl] [sf, vl] scope) (hb : BPos [sf, vl] x qual params body scope)
    (hbd : ∀ (cdv : Value) (A : Around) (outer : List Env) (s : Shared) (H : Hp) (E : XK), PSs (cxOf (L2.CX P w) P w K mg base [sf, vl] qual scope f cdv A outer s H E) body (tXi K t)) :
    XiV P w K mg base 1 f := by
  refine ⟨fd, [sf, vl], F.ok S (fun vs H Q E h => ?_) fun cdv A outer s H vs Q E hr hp => ⟨_, hbd cdv A outer s H E, ?_⟩, F.bindsN hb⟩
  · obtain ⟨a, C, w, e, _⟩ := h
    rw [e]
    rfl
  · obtain ⟨a, C, vv, e, T, hno, ha, q⟩ := hp
    subst e
    exact ⟨.ref a, rfl, a, C, [.str t], rfl, by show 1 ≤ 1000; decide, T, ha, vv, rfl, .ref a, rfl, a, C, rfl, T, hno, .inl ⟨ha, fun dx h1 h2 => q dx h1 h2⟩⟩
structure XcV (K : PySem.W.Frag) (mg : Str → Option Value) (c : Str) (C I : Addr) : Prop where
  at_ : mg c = some (.ref C)
  ox : OexC K C
  no : PySem.W.findIn K (.ref C) "value" = some none
  ini : PySem.W.findIn K (.ref C) "__init__" = some (some (.ref I))
  ty : PySem.W.typeIn K (.ref I) = some (.type "function")
  cl : (PySem.W.clsIn K C).isSome = true
  xf : XfC K C
  ca : PySem.W.findIn K (.ref C) "__class__" = some (some (.builtin "object.__class__"))
  hn : PySem.W.specialIn K (.builtin "object.__class__") "__get__" = some (some (.builtin "getset_descriptor.__get__"))
  htk : PySem.W.takesIn K (.builtin "object.__class__") = some true
  hm : PySem.W.mroIn K C (.type "object") = some true
def mRaise (c : Str) (m : M U) : MS := m.bs fun u e => .exc c u e
section
variable {X : Cx} {W : WXX} {pr : Nat → Bool} {k j : Nat} {c : Str} {C I : Addr} {ex : Expr} {p pos pos2 : Pos} {m : M U}
theorem sv_raise (ct : Ct X W k) (F : XiV X.prog X.w X.K X.mg X.base j I) (hj : j + 1 ≤ k) (xc : XcV X.K X.mg c C I) (hg : Gl X c) (h : PV X W ex m) (hdb : (c == ("__debug__" : Str)) = false := by decide)
    (he : starEach [ex] X.env = (false, eval ex X.env) :: starEach [] X.env := by rfl) (hpl : (backTo pos (starEach [] X.env)).any (·.1) = false := by rfl) : PSV X W pr (.Raise (some (.Call (.Name c p) [ex] [] pos)) none pos2) (mRaise c m) := by
  obtain ⟨fd, ps, ok, hb⟩ := F.ex
  refine PSimp (ps_raise ct.hc ct.tk (pmk_oex xc.ox xc.ini xc.ty ok (ct.hr.mono hj) hb .nil (passF rfl rfl) hg xc.at_ (pa_cons h pa_nil he) hdb he hpl)) fun D σ H ⟨B, e, sr, q⟩ => ⟨B, e, sr, (sAt.bs q).mono fun v H1 ⟨B1, e1, u, g1, r1, q1⟩ => ?_⟩
  refine ⟨by show 1 ≤ 1000; decide, fun a na => ⟨a, C, v, rfl, xc.ox, xc.no, upd_same, fun dx hn ne => ⟨rfl, dx, [("value", v)], upd_same, by rw [upd_ne ne, upd_same], ?_, ?_⟩⟩⟩
  · rw [upd_ne ne] at hn
    exact hn
  · rw [upd_ne ne] at hn
    have eH : upd (del (upd (upd (upd H1 a (exo a C none)) dx (exd dx [("value", v)])) a (exo a C (some dx))) a) dx (.xd [("value", v)]) = upd H1 dx (.xd [("value", v)]) := by
      funext b
      by_cases h1 : b = dx
      · rw [h1, upd_same, upd_same]
      · rw [upd_ne h1, upd_ne h1]
        by_cases h2 : b = a
        · rw [h2, del_same, na]
        · rw [del_ne h2, upd_ne h2, upd_ne h1, upd_ne h2]
    rw [eH]
    exact q1 (.ref C) (some dx) B1 _ σ (Go.alloc g1.sr hn) Kp.refl ⟨C, dx, v, rfl, xc.at_, rfl, upd_same, r1, .inr hn, g1.sr.none_of hn⟩
end
section
variable {X : Cx}
end
section
variable {X : Cx} {W : WXX} {ex et : Expr} {c : Str} {tab : List (Str × Bool)} {p pn pos : Pos} {m : M Od} {tv : Value} {vt : V}
end
end VS
set_option Elab.async false
set_option linter.all false
set_option maxRecDepth 100000
set_option maxHeartbeats 2000000
namespace VH
open PySem PySem.Spec PyProof.Rows L2 He
theorem ve_init (K : PySem.W.Frag) : PySem.W.findCls K (.type "ValueError") (.type "type") "__init__" = some (.val (.builtin "ValueError.__init__")) := by
  first | rfl | decide +kernel | kernel_rfl
def oexB (K : PySem.W.Frag) (C : Addr) : Bool := match K.lookup C with
  | some ⟨.type "type", _, .cls cd, sl⟩ => (match cd.mro, sl.toList with
    | .ref D :: bm, [_, _, _, _, some (.builtin n), _] => D == C && (n == "ValueError.__new__" && (!cd.hasDel && (cd.hasDict && PySem.HandSPX.refsVE bm)))
    | _, _ => false)
  | _ => false
theorem oex_cls {K : PySem.W.Frag} {C : Addr} (c : oexB K C = true) : ∃ nm q N bs bm sn sub ab col dd k0 k1 k2 k3 k5, K.lookup C = some (excClassObj nm q C N bs bm true sn sub ab col dd k0 k1 k2 k3 k5 "ValueError.__new__") ∧ PySem.HandSPX.refsVE bm = true := by
  unfold oexB at c
  split at c
  · rename_i dd cd sl hl
    split at c
    · rename_i D bm k0 k1 k2 k3 n k5 h1 h2
      obtain ⟨c1, c⟩ := ba c
      obtain ⟨c2, c⟩ := ba c
      obtain ⟨c3, c⟩ := ba c
      obtain ⟨c4, c5⟩ := ba c
      have e1 : D = C := beq_iff_eq.mp c1
      have e2 : n = "ValueError.__new__" := beq_iff_eq.mp c2
      obtain ⟨a1, a2, a3, a4, a5, a6, a7, a8, a9, a10, a11⟩ := cd
      obtain ⟨sl⟩ := sl
      dsimp only at h1 h2 c3 c4
      subst e1 e2 h1 h2
      have e3 : a11 = false := by cases a11 <;> simp_all
      subst e3 c4
      exact ⟨_, _, _, _, _, _, _, _, _, _, _, _, _, _, _, hl, c5⟩
    · cases c
  · cases c
def xcF (x i : Str) : FaH := fun K => oexB K (ga K x) && (eqO (PySem.W.findIn K (.ref (ga K x)) "__setattr__") (some (some (.builtin "object.__setattr__"))) && (decide (PySem.W.subIn K (.ref (ga K x)) (.type "BaseException") = some true) && (decide (PySem.W.typeIn K (.ref (ga K x)) = some (.type "type")) &&
  (PySem.W.keepIn K (.ref (ga K x)) && (decide (PySem.W.findIn K (.ref (ga K x)) "value" = some none) && (eqO (PySem.W.findIn K (.ref (ga K x)) "__init__") (some (some (.ref (ma K (ga K i) "__init__")))) && (decide (PySem.W.typeIn K (.ref (ma K (ga K i) "__init__")) = some (.type "function")) &&
  ((PySem.W.clsIn K (ga K x)).isSome && (xfB K (ga K x) && isiF x K)))))))))
theorem xc_ok {K : PySem.W.Frag} {mg : Str → Option Value} {x i : Str} (hm : mg x = some (.ref (ga K x))) (c : xcF x i K = true) : VS.XcV K mg x (ga K x) (ma K (ga K i) "__init__") := by
  obtain ⟨c1, c⟩ := ba c
  obtain ⟨c2, c⟩ := ba c
  obtain ⟨c3, c⟩ := ba c
  obtain ⟨c4, c⟩ := ba c
  obtain ⟨c5, c⟩ := ba c
  obtain ⟨c6, c⟩ := ba c
  obtain ⟨c7, c⟩ := ba c
  obtain ⟨c8, c⟩ := ba c
  obtain ⟨c9, c⟩ := ba c
  obtain ⟨c10, c11⟩ := ba c
  have iv := isi_ok c11
  exact ⟨hm, ⟨oex_cls c1, eqO_ok c2, of_decide_eq_true c3, of_decide_eq_true c4, c5⟩, of_decide_eq_true c6, eqO_ok c7, of_decide_eq_true c8, c9, xfB_ok c10, iv.ha, iv.hn, iv.htk, iv.hm⟩
end VH
set_option Elab.async false
set_option linter.all false
set_option maxRecDepth 100000
namespace VS
open PySem L2
section
variable {Γ : Ga} {B H B' H' : Hp} {e e' : En} {σ σ' : St} {D : Addr}
end
section
variable {X : Cx} {W : WXX} {k n j : Nat} {x : Str} {φ : Fs} {ex : Expr} {es : List Expr} {p pos : Pos} {mt : M (Bool × U)} {m : M (List Od)}
end
end VS
set_option Elab.async false
set_option linter.all false
set_option maxRecDepth 100000
set_option maxHeartbeats 2000000
namespace VS
open PySem L2 PyProof.Rows PySem.Spec
section
variable {X : Cx}
end
end VS
set_option Elab.async false
set_option linter.all false
set_option maxRecDepth 100000
set_option maxHeartbeats 2000000
namespace PySem.SeqAt
open AutoSeq1 (wpAny_loadPart')
open MeetsSeq MeetsSeq2 MeetsSeq3
section
variable {prog : Program} {w : World}
theorem vs_ne_loop (l b : Addr) (items items2 : Array Value) (n n2 : Nat) (dd dd2 : Option Addr) (sl sl2 : Array (Option Value)) (hsz : items.size = items2.size) (k : Nat) :
    ∀ i : Nat, items.size - i = k → MeetsIn prog w (Builtin.«list.__eq__.loop» ⟨[.ref l, .ref b, rawInt i, rawInt 3], []⟩)
      (fun A R s => s.heap.get? l = some { cls := .type "list", dict := dd, data := .seq items n, slots := sl } ∧ s.heap.get? b = some { cls := .type "list", dict := dd2, data := .seq items2 n2, slots := sl2 } ∧
        (∀ j (h1 : j < items.size) (h2 : j < items2.size), EqIn prog w A.in1 s items[j] items2[j] true) ∧
        R (.ok (.ret (.bool false))) s) := by
  induction k with
  | zero =>
    intro i hk A R s h
    obtain ⟨hp, g, d, tk, os⟩ := s; obtain ⟨hl, hb, he, h⟩ := h
    wp_walk using wpAny_loadPart' hl, wpAny_loadPart' hb
    have hi1 : items[((i : Nat) : Int).toNat]? = none := by simp; omega
    have hi2 : items2[((i : Nat) : Int).toNat]? = none := by simp; omega
    rw [hi1, hi2]
    wp_walk using wpAny_loadPart' hl, wpAny_loadPart' hb
    show R (.ok (.ret (.bool (items.size != items2.size)))) _
    rw [hsz]
    simpa using h
  | succ k ih =>
    intro i hk A R s h
    obtain ⟨hp, g, d, tk, os⟩ := s; obtain ⟨hl, hb, he, h⟩ := h
    wp_walk using wpAny_loadPart' hl, wpAny_loadPart' hb
    have hlt : i < items.size := by omega
    have hlt2 : i < items2.size := by omega
    have hi1 : items[((i : Nat) : Int).toNat]? = some items[i] := by simp [hlt]
    have hi2 : items2[((i : Nat) : Int).toNat]? = some items2[i] := by simp [hlt2]
    have hc : ((i : Int) + 1) = ((i + 1 : Nat) : Int) := by push_cast; rfl
    rw [hi1, hi2]
    refine wpAny_bind (he i hlt hlt2 _ _ ?_)
    wp_walk
    rw [hc]
    exact ⟨plainId_quiet plain_eq_loop _, codeAny_builtin entry_eq_loop (by
      rw [Around.under_plainId plain_eq_loop _]
      exact ih (i + 1) (by omega) A R _ ⟨hl, hb, he, h⟩)⟩
theorem vs_list_ne (l b : Addr) (items items2 : Array Value) (n n2 : Nat) (dd dd2 : Option Addr) (sl sl2 : Array (Option Value)) (hsz : items.size = items2.size) :
    MeetsIn prog w (Builtin.«list.__ne__» ⟨[.ref l, .ref b], []⟩)
      (fun A R s => s.heap.get? l = some { cls := .type "list", dict := dd, data := .seq items n, slots := sl } ∧ s.heap.get? b = some { cls := .type "list", dict := dd2, data := .seq items2 n2, slots := sl2 } ∧
        (∀ j (h1 : j < items.size) (h2 : j < items2.size), EqIn prog w A.in1 s items[j] items2[j] true) ∧
        R (.ok (.ret (.bool false))) s) := by
  intro A R s h
  obtain ⟨hp, g, d, tk, os⟩ := s; obtain ⟨hl, hb, he, h⟩ := h
  have f3 := AutoSeq1.sub_list_list
  have hne : ¬ (items.size != items2.size) = true := by simp [hsz]
  wp_walk using wpAny_loadPart' hl, wpAny_loadPart' hb
  exact ⟨plainId_quiet plain_eq_loop _, codeAny_builtin entry_eq_loop (by
    rw [Around.under_plainId plain_eq_loop _]
    exact vs_ne_loop l b items items2 n n2 dd dd2 sl sl2 hsz _ 0 rfl A R _ ⟨hl, hb, he, h⟩)⟩
theorem vs_rcNe_lists {A : Around} {s : Shared} {E : Value → Shared → Prop} {l b : Addr} {items items2 : Array Value} {Q : Value → Shared → Prop} (hl : s.heap.IsList l items) (hb : s.heap.IsList b items2) (hsz : items.size = items2.size) (hu : A.units < cLine)
    (he : ∀ j (h1 : j < items.size) (h2 : j < items2.size), EqIn prog w A.in1 s items[j] items2[j] true) (h : Q (.bool false) s) : wpAny (model prog w) A (richCompare .NotEq (.ref l) (.ref b)) Q E s := by
  obtain ⟨⟨cls, dd, data, sl⟩, ho, hc, n, hd⟩ := id hl
  obtain ⟨⟨cls2, dd2, data2, sl2⟩, ho2, hc2, n2, hd2⟩ := id hb
  simp only at hc hd hc2 hd2
  subst hc hd hc2 hd2
  exact wpAny_richCompare_same_room (T := "list") (op := .NotEq) ⟨_, ho, rfl⟩ ⟨_, ho2, rfl⟩ F.slot_list_ne (call_meetsIn F.slot_list_ne ⟨_, ho, rfl⟩ F.entry_list_ne (F.args_list_ne_2 _ _) (vs_list_ne l b items items2 n n2 dd dd2 sl sl2 hsz)
    ⟨ho, ho2, he, show Value.bool false ≠ Value.notImplemented ∧ Q (.bool false) s from ⟨(fun x => nomatch x), h⟩⟩) hu
end
end PySem.SeqAt
namespace VS
open PySem L2 PyProof.Rows PySem.Spec
section
variable {X : Cx}
def rNeN (Γ : Ga) : R2 := fun x y H Q => ∃ B us, Same B H ∧ us.all (nice 50) = true ∧ Vw Γ B H (.lst us) x ∧ Vw Γ B H (.lst us) y ∧ Q (.bl false) H
theorem op_neN (hu : X.A.units + 64 < cLine) : OpR X (compareOp .NotEq) (rNeN (ga X)) := by
  intro pins s σ H x y v u Q I rx ry ⟨B, us, sb, hn, hx, hy, q⟩
  obtain ⟨a, vs, rfl, h1, r1⟩ := hx.lst sb
  obtain ⟨b, ws, rfl, h2, r2⟩ := hy.lst sb
  cases (show v = Value.ref a from rx)
  cases (show u = Value.ref b from ry)
  obtain ⟨as, q1, t1, _⟩ := I.list (SqL.of h1)
  obtain ⟨bs, q2, t2, _⟩ := I.list (SqL.of h2)
  have el : as.length = bs.length := by rw [← q1.length, ← q2.length, ← r1.length, ← r2.length]
  exact PySem.SeqAt.vs_rcNe_lists t1.isList t2.isList (by simpa using el) (by omega) (fun j g1 g2 => by
    have := all_trees (fun {_ _ _ _ _} => nice_tree I sb 50) hn r1 r2 q1 q2 j (by simpa using g1) (by simpa using g2)
    have t : PySem.W.EqTree X.prog X.w s 50 as.toArray[j] bs.toArray[j] true := by simpa using this
    exact t.at _ (by show X.A.units + 1 + 50 < cLine; omega)) ⟨.bl false, H, I, rfl, q⟩
noncomputable def sNeN : Op2 := fun u w => match u with
  | .lst us => if cdec (w = .lst us) && us.all (nice 50) then some (false, .bl false) else none
  | _ => none
theorem ok_neN (hu : X.A.units + 64 < cLine) : BinOK X (compareOp .NotEq) sNeN := by
  refine ⟨_, op_neN hu, fun {W B H e σ u w x y z Q} sr q vx vy t => ?_⟩
  unfold sNeN at q
  split at q
  · rename_i us
    split at q
    · rename_i h
      rw [Bool.and_eq_true, cdec_iff] at h
      obtain ⟨rfl, h⟩ := h
      cases q
      exact ⟨B, us, sr.bh, h, vx, vy, fin_val sr t (rep_bl _)⟩
    · cases q
  · cases q
noncomputable def sNe2 : Op2 := orS (sEq true) sNeN
theorem ok_ne2 (hu : X.A.units + 64 < cLine) : BinOK X (compareOp .NotEq) sNe2 := (ok_ne hu).or (ok_neN hu)
end
end VS
set_option Elab.async false
set_option linter.all false
set_option maxRecDepth 100000
set_option maxHeartbeats 2000000
namespace VS
open PySem L2 PySem.Spec
open PyProof.Rows (IsTup IsTup.new)
section
variable {X : Cx}
end
end VS
set_option Elab.async false
set_option linter.all false
set_option maxRecDepth 100000
set_option maxHeartbeats 2000000
namespace VS
open PySem PySem.Spec PyProof.Rows L2
section
variable {X : Cx} {pins : List (Addr × Obj)} {σ : L2.St} {H B : Hp} {s : Shared}
end
section
variable {X : Cx}
end
section
variable {X : Cx} {W : WXX} {tg iter kx vx : Expr} {ifs : List Expr} {scope : Scope} {own' : List (PySem.Str × Nat)} {pos : Pos}
end
end VS
set_option Elab.async false
set_option linter.all false
set_option maxRecDepth 100000
namespace VS
open PySem L2
section
variable {X : Cx} {pr : Nat → Bool} {es : List Expr} {pos : Pos}
end
end VS
set_option Elab.async false
set_option linter.all false
set_option maxRecDepth 100000
namespace VS
open PySem L2
mutual
def ldf : U → Bool
  | .non => true
  | .bl _ => true
  | .int _ => true
  | .str _ => true
  | .tup us => ldfs us
  | .tpd us => ldfs us
  | .ins _ fs => ldff fs
  | _ => false
def ldfs : List U → Bool
  | [] => true
  | u :: us => ldf u && ldfs us
def ldff : List (Str × U) → Bool
  | [] => true
  | p :: fs => ldf p.2 && ldff fs
end
def ldc : U → Bool
  | .lst us => ldfs us
  | .dct kvs => kvs.all fun p => ldf p.1 && ldf p.2
  | .ins _ fs => ldff fs
  | _ => false
def isLD : U → Bool
  | .lst _ => true
  | .dct _ => true
  | _ => false
def LoD (H : Hp) (a : Addr) : Prop := (∃ vs, H a = some (.lst vs)) ∨ (∃ o es, H a = some (.frz o (.dK es))) ∨ ∃ o xs, H a = some (.frz o (DX a xs))
open Classical in
noncomputable def minusP (B : Hp) (F : Addr → Prop) : Hp := fun a => if F a then none else B a
theorem minus_out {B : Hp} {F : Addr → Prop} {a : Addr} (h : ¬ F a) : minusP B F a = B a := if_neg h
theorem sqT_minus {K : PySem.W.Frag} {B : Hp} {F : Addr → Prop} (hF : ∀ a, F a → LoD B a) {a : Addr} {vs : List V} (h : SqT K B a vs) : SqT K (minusP B F) a vs := by
  have nF : Rd B a (.tup vs) → ¬ F a := fun h z => by
    rcases hF a z with ⟨ws, q⟩ | ⟨o, es, q⟩ | ⟨o, xs, q⟩ <;> rcases h with h | ⟨o', h⟩ <;> rw [q] at h <;> cases h
  rcases h with h | h
  · left
    have n := nF h
    rcases h with h | ⟨o, h⟩
    · exact .inl (by rw [minus_out n]; exact h)
    · exact .inr ⟨o, by rw [minus_out n]; exact h⟩
  · exact .inr h
mutual
theorem rep.minus {Γ : Ga} {B : Hp} {F : Addr → Prop} (hF : ∀ a, F a → LoD B a) : ∀ {u : U} {v : V}, ldf u = true → rep Γ B u v → rep Γ (minusP B F) u v
  | .non, _, _, r => r
  | .bl _, _, _, r => r
  | .int _, _, _, r => r
  | .str _, _, _, r => r
  | .tup us, v, l, r => by
    simp only [rep] at r ⊢
    obtain ⟨a, vs, e, s, q⟩ := r
    exact ⟨a, vs, e, sqT_minus hF s, reps.minus hF l q⟩
  | .tpd us, v, l, r => by
    simp only [rep] at r ⊢
    obtain ⟨a, o, vs, e, z, s, q⟩ := r
    refine ⟨a, o, vs, e, z, ?_, reps.minus hF l q⟩
    have n : ¬ F a := fun y => by
      rcases hF a y with ⟨ws, k⟩ | ⟨o', es, k⟩ | ⟨o3, xs, k⟩ <;> rw [k] at s <;> cases s
    rw [minus_out n]
    exact s
  | .ins c fs, v, l, r => by
    simp only [rep] at r ⊢
    obtain ⟨a, C, dx, gs, e, m, s, q⟩ := r
    refine ⟨a, C, dx, gs, e, m, ?_, repf.minus hF l q⟩
    have n : ¬ F a := fun y => by
      rcases hF a y with ⟨ws, k⟩ | ⟨o', es, k⟩ | ⟨o3, xs, k⟩ <;> rw [k] at s <;> cases s
    rw [minus_out n]
    exact s
  | .lst _, _, l, _ => by cases l
  | .scr _, _, l, _ => by cases l
  | .dct _, _, l, _ => by cases l
  | .set _, _, l, _ => by cases l
  | .adr _, _, l, _ => by cases l
  | .xc _ _, _, l, _ => by cases l
theorem reps.minus {Γ : Ga} {B : Hp} {F : Addr → Prop} (hF : ∀ a, F a → LoD B a) : ∀ {us : List U} {vs : List V}, ldfs us = true → reps Γ B us vs → reps Γ (minusP B F) us vs
  | [], _, _, r => r
  | u :: us, vs, l, r => by
    simp only [ldfs, Bool.and_eq_true] at l
    simp only [reps] at r ⊢
    obtain ⟨v, t, e, r1, r2⟩ := r
    exact ⟨v, t, e, rep.minus hF l.1 r1, reps.minus hF l.2 r2⟩
theorem repf.minus {Γ : Ga} {B : Hp} {F : Addr → Prop} (hF : ∀ a, F a → LoD B a) : ∀ {us : List (Str × U)} {vs : List (Str × V)}, ldff us = true → repf Γ B us vs → repf Γ (minusP B F) us vs
  | [], _, _, r => r
  | (k, u) :: us, vs, l, r => by
    simp only [ldff, Bool.and_eq_true] at l
    simp only [repf] at r ⊢
    obtain ⟨v, t, e, r1, r2⟩ := r
    exact ⟨v, t, e, rep.minus hF l.1 r1, repf.minus hF l.2 r2⟩
end
theorem repd.minus {Γ : Ga} {B : Hp} {F : Addr → Prop} (hF : ∀ a, F a → LoD B a) : ∀ {us : List (U × U)} {vs : List (Key × V)}, (us.all fun p => ldf p.1 && ldf p.2) = true → repd Γ B us vs → repd Γ (minusP B F) us vs
  | [], _, _, r => r
  | (k, u) :: us, vs, l, r => by
    simp only [List.all_cons, Bool.and_eq_true] at l
    simp only [repd] at r ⊢
    obtain ⟨x, v, t, e, r0, r1, r2⟩ := r
    exact ⟨x, v, t, e, rep.minus hF l.1.1 r0, rep.minus hF l.1.2 r1, repd.minus hF l.2 r2⟩
theorem repx.minus {Γ : Ga} {B : Hp} {F : Addr → Prop} (hF : ∀ a, F a → LoD B a) : ∀ {us : List (U × U)} {vs : List Xe}, (us.all fun p => ldf p.1 && ldf p.2) = true → repx Γ B us vs → repx Γ (minusP B F) us vs
  | [], _, _, r => r
  | (k, u) :: us, vs, l, r => by
    simp only [List.all_cons, Bool.and_eq_true] at l
    simp only [repx] at r ⊢
    obtain ⟨x, v, t, e, z, r0, r1, r2⟩ := r
    exact ⟨x, v, t, e, z, rep.minus hF l.1.1 r0, rep.minus hF l.1.2 r1, repx.minus hF l.2 r2⟩
theorem nod.minus {Γ : Ga} {B : Hp} {F : Addr → Prop} (hF : ∀ a, F a → LoD B a) {a : Addr} : ∀ {u : U} {ho : HO}, ldc u = true → nod Γ B a u ho → nod Γ (VS.minusP B F) a u ho
  | .lst us, _, l, ⟨vs, e, r⟩ => ⟨vs, e, r.minus hF l⟩
  | .dct kvs, _, l, .inl ⟨es, e, r⟩ => .inl ⟨es, e, r.minus hF l⟩
  | .dct kvs, _, l, .inr ⟨es, e, r⟩ => .inr ⟨es, e, r.minus hF l⟩
  | .ins c fs, _, l, ⟨C, dx, gs, e, m, r⟩ => ⟨C, dx, gs, e, m, r.minus hF l⟩
mutual
def rs (f : Addr → U) : U → U
  | .adr a => f a
  | .tup us => .tup (rss f us)
  | .lst us => .lst (rss f us)
  | .dct kvs => .dct (rsd f kvs)
  | .non => .non
  | .bl b => .bl b
  | .int i => .int i
  | .str x => .str x
  | .set us => .set us
  | .ins c fs => .ins c fs
  | .scr ns => .scr ns
  | .xc c u => .xc c u
  | .tpd us => .tpd us
def rss (f : Addr → U) : List U → List U
  | [] => []
  | u :: us => rs f u :: rss f us
def rsd (f : Addr → U) : List (U × U) → List (U × U)
  | [] => []
  | (k, u) :: us => (k, rs f u) :: rsd f us
end
theorem rss_map (f : Addr → U) (us : List U) : rss f us = us.map (rs f) := by
  induction us with
  | nil => rfl
  | cons u us ih => show rs f u :: rss f us = _; rw [ih]; rfl
theorem rsd_map (f : Addr → U) (us : List (U × U)) : rsd f us = us.map fun p => (p.1, rs f p.2) := by
  induction us with
  | nil => rfl
  | cons u us ih => obtain ⟨k, u⟩ := u; show (k, rs f u) :: rsd f us = _; rw [ih]; rfl
theorem rsd_keys {f : Addr → U} {us : List (U × U)} {p : U × U} (h : p ∈ rsd f us) : ∃ q ∈ us, q.1 = p.1 := by
  rw [rsd_map] at h
  obtain ⟨q, h1, h2⟩ := List.mem_map.mp h
  exact ⟨q, h1, by rw [← h2]⟩
mutual
theorem rs_flat {f : Addr → U} : ∀ {u : U}, ldf u = true → rs f u = u
  | .non, _ => rfl
  | .bl _, _ => rfl
  | .int _, _ => rfl
  | .str _, _ => rfl
  | .tup us, l => by show U.tup (rss f us) = _; rw [rss_flat l]
  | .tpd us, l => rfl
  | .ins c fs, l => rfl
  | .lst _, l => by cases l
  | .scr _, l => by cases l
  | .dct _, l => by cases l
  | .set _, l => by cases l
  | .adr _, l => by cases l
  | .xc _ _, l => by cases l
theorem rss_flat {f : Addr → U} : ∀ {us : List U}, ldfs us = true → rss f us = us
  | [], _ => rfl
  | u :: us, l => by
    simp only [ldfs, Bool.and_eq_true] at l
    show rs f u :: rss f us = _
    rw [rs_flat l.1, rss_flat l.2]
end
mutual
theorem rep.res {Γ : Ga} {B B2 : Hp} (hb : Same B B2) {f : Addr → U} (hf : ∀ a, rep Γ B2 (f a) (.ref a)) : ∀ {u : U} {v : V}, rep Γ B u v → rep Γ B2 (rs f u) v
  | .adr a, v, r => by
    simp only [rep] at r
    subst r
    exact hf a
  | .tup us, v, r => by
    simp only [rep, rs] at r ⊢
    obtain ⟨a, vs, e, s, q⟩ := r
    exact ⟨a, vs, e, sqT_same hb s, reps.res hb hf q⟩
  | .lst us, v, r => by
    simp only [rep, rs] at r ⊢
    obtain ⟨a, vs, e, s, q⟩ := r
    exact ⟨a, vs, e, hb _ _ s, reps.res hb hf q⟩
  | .dct kvs, v, r => by
    simp only [rep, rs] at r ⊢
    obtain ⟨a, e, s⟩ := r
    refine ⟨a, e, ?_⟩
    rcases s with ⟨o, es, s, q⟩ | ⟨o, es, s, q⟩
    · exact .inl ⟨o, es, hb _ _ s, repd.res hb hf q⟩
    · exact .inr ⟨o, es, hb _ _ s, repx.res hb hf q⟩
  | .non, _, r => r
  | .bl _, _, r => r
  | .int _, _, r => r
  | .str _, _, r => r
  | .set _, _, r => by simp only [rep] at r
  | .ins _ _, _, r => rep.mono hb r
  | .scr _, _, r => rep.mono hb r
  | .xc _ _, _, r => rep.mono hb r
  | .tpd _, _, r => rep.mono hb r
theorem reps.res {Γ : Ga} {B B2 : Hp} (hb : Same B B2) {f : Addr → U} (hf : ∀ a, rep Γ B2 (f a) (.ref a)) : ∀ {us : List U} {vs : List V}, reps Γ B us vs → reps Γ B2 (rss f us) vs
  | [], _, r => r
  | u :: us, vs, r => by
    simp only [reps, rss] at r ⊢
    obtain ⟨v, t, e, r1, r2⟩ := r
    exact ⟨v, t, e, rep.res hb hf r1, reps.res hb hf r2⟩
theorem repd.res {Γ : Ga} {B B2 : Hp} (hb : Same B B2) {f : Addr → U} (hf : ∀ a, rep Γ B2 (f a) (.ref a)) : ∀ {us : List (U × U)} {vs : List (Key × V)}, repd Γ B us vs → repd Γ B2 (rsd f us) vs
  | [], _, r => r
  | (k, u) :: us, vs, r => by
    simp only [repd, rsd] at r ⊢
    obtain ⟨l, v, t, e, r0, r1, r2⟩ := r
    exact ⟨l, v, t, e, r0.mono hb, rep.res hb hf r1, repd.res hb hf r2⟩
theorem repx.res {Γ : Ga} {B B2 : Hp} (hb : Same B B2) {f : Addr → U} (hf : ∀ a, rep Γ B2 (f a) (.ref a)) : ∀ {us : List (U × U)} {vs : List Xe}, repx Γ B us vs → repx Γ B2 (rsd f us) vs
  | [], _, r => r
  | (k, u) :: us, vs, r => by
    simp only [repx, rsd] at r ⊢
    obtain ⟨l, v, t, e, z, r0, r1, r2⟩ := r
    refine ⟨l, v, t, e, ⟨z.1, fun p hp => ?_⟩, r0.mono hb, rep.res hb hf r1, repx.res hb hf r2⟩
    obtain ⟨q, h1, h2⟩ := rsd_keys hp
    rw [← h2]
    exact z.2 q h1
end
theorem nod.res {Γ : Ga} {B B2 : Hp} (hb : Same B B2) {f : Addr → U} (hf : ∀ a, VS.rep Γ B2 (f a) (.ref a)) {a : Addr} : ∀ {u : U} {ho : HO}, nod Γ B a u ho → nod Γ B2 a (rs f u) ho
  | .lst us, _, ⟨vs, e, r⟩ => ⟨vs, e, r.res hb hf⟩
  | .dct kvs, _, .inl ⟨es, e, r⟩ => .inl ⟨es, e, r.res hb hf⟩
  | .dct kvs, _, .inr ⟨es, e, r⟩ => .inr ⟨es, e, r.res hb hf⟩
  | .ins c fs, _, ⟨C, dx, gs, e, m, r⟩ => ⟨C, dx, gs, e, m, r.mono hb⟩
abbrev Cel := Addr → Option U
def resA (T : Cel) : Nat → Addr → U
  | 0, a => .adr a
  | n + 1, a => match T a with
    | some w => rs (resA T n) w
    | none => .adr a
abbrev res (T : Cel) : U → U := rs (resA T 6)
def resC (T : Cel) (e : En) : En := e.map fun s => s.map fun x => (x.1, res T x.2)
theorem resC_get {T : Cel} {e : En} {i : Nat} {x : Bool × U} (h : (resC T e)[i]? = some (some x)) : ∃ u, e[i]? = some (some (x.1, u)) ∧ x.2 = res T u := by
  unfold resC at h
  rw [List.getElem?_map] at h
  cases z : e[i]? with
  | none => rw [z] at h; cases h
  | some s =>
    rw [z] at h
    cases s with
    | none => cases h
    | some y =>
      obtain ⟨o, u⟩ := y
      simp only [Option.map_some, Option.some.injEq] at h
      subst h
      exact ⟨u, rfl, rfl⟩
theorem resA_rep {Γ : Ga} {B B2 : Hp} {T : Cel} (hb : Same B B2) (hc : ∀ a u, T a = some u → ∃ ho od, nod Γ B a u ho ∧ B2 a = some (fzO od ho)) : ∀ (n : Nat) (a : Addr), rep Γ B2 (resA T n a) (.ref a)
  | 0, a => by simp only [resA, rep]
  | n + 1, a => by
    unfold resA
    cases z : T a with
    | none => simp only [rep]
    | some w =>
      obtain ⟨ho, od, h1, h2⟩ := hc a w z
      exact nod.rep (nod.res hb (resA_rep hb hc n) h1) h2
end VS
set_option Elab.async false
set_option linter.all false
set_option maxRecDepth 100000
namespace VS
open PySem L2
def emp : Cel := fun _ => none
def fin (T : Cel) : Prop := ∃ F : List Addr, ∀ a, T a ≠ none → a ∈ F
theorem fin_emp : fin emp := ⟨[], fun _ h => (h rfl).elim⟩
structure SC (Γ : Ga) (B H : Hp) (e : En) (σ : St) (T : Cel) : Prop where
  sr : SR Γ B H e σ
  fn : fin T
  cl : ∀ a u, T a = some u → (∃ ho, H a = some ho ∧ nod Γ B a u ho) ∧ isLD u = true ∧ B a = none ∧ ¬ own e σ a
def oC (e : En) (σ : St) (T : Cel) (a : Addr) : Prop := own e σ a ∨ T a ≠ none
def mayC (H : Hp) (e : En) (σ : St) (T : Cel) (a : Addr) : Prop := oC e σ T a ∨ H a = none
structure GoC (Γ : Ga) (B H : Hp) (e : En) (σ : St) (T : Cel) (B' H' : Hp) (e' : En) (σ' : St) (T' : Cel) : Prop where
  st : Stp B H (oC e σ T) B' H'
  sc : SC Γ B' H' e' σ' T'
  sub : ∀ a, oC e' σ' T' a → oC e σ T a ∨ H a = none
section
variable {Γ : Ga} {B H B1 H1 B2 H2 : Hp} {e e1 e2 : En} {σ σ1 σ2 : St} {T T1 T2 : Cel}
theorem SC.emp (s : SR Γ B H e σ) : SC Γ B H e σ emp := ⟨s, fin_emp, fun a u h => by cases h⟩
theorem GoC.refl (s : SC Γ B H e σ T) : GoC Γ B H e σ T B H e σ T := ⟨⟨Same.refl _, fun _ _ h _ => h, fun _ _ _ _ h => h⟩, s, fun _ h => .inl h⟩
theorem GoC.trans (g : GoC Γ B H e σ T B1 H1 e1 σ1 T1) (k : GoC Γ B1 H1 e1 σ1 T1 B2 H2 e2 σ2 T2) : GoC Γ B H e σ T B2 H2 e2 σ2 T2 := by
  have no : ∀ a o, H a = some o → ¬ oC e σ T a → ¬ oC e1 σ1 T1 a := fun a o h n z => by
    rcases g.sub a z with q | q
    · exact n q
    · rw [h] at q; cases q
  refine ⟨⟨g.st.bb.trans k.st.bb, fun a o h n => k.st.fr a o (g.st.fr a o h n) (no a o h n), fun a o h n b => k.st.nb a o (g.st.fr a o h n) (no a o h n) (g.st.nb a o h n b)⟩, k.sc, fun a z => ?_⟩
  rcases k.sub a z with q | q
  · exact g.sub a q
  · by_cases o : oC e σ T a
    · exact .inl o
    · right
      cases h : H a with
      | none => rfl
      | some x => rw [g.st.fr a x h o] at q; cases q
theorem GoC.may (g : GoC Γ B H e σ T B1 H1 e1 σ1 T1) : ∀ x, mayC H1 e1 σ1 T1 x → mayC H e σ T x := fun a z => by
  rcases z with q | q
  · exact g.sub a q
  · by_cases o : oC e σ T a
    · exact .inl o
    · right
      cases h : H a with
      | none => rfl
      | some x => rw [g.st.fr a x h o] at q; cases q
theorem GoC.ofGo (s : SC Γ B H e σ T) (g : Go Γ B H e σ B1 H1 e1 σ1) : GoC Γ B H e σ T B1 H1 e1 σ1 T := by
  refine ⟨⟨g.st.bb, fun a o h n => g.st.fr a o h fun z => n (.inl z), fun a o h n b => g.st.nb a o h (fun z => n (.inl z)) b⟩, ⟨g.sr, s.fn, fun a u h => ?_⟩, fun a z => ?_⟩
  · obtain ⟨⟨ho, h1, h2⟩, ld, b, n⟩ := s.cl a u h
    refine ⟨⟨ho, g.st.fr a ho h1 n, h2.mono g.st.bb⟩, ld, g.st.nb a ho h1 n b, fun z => ?_⟩
    rcases g.sub a z with q | q
    · exact n q
    · rw [h1] at q; cases q
  · rcases z with z | z
    · rcases g.sub a z with q | q
      · exact .inl (.inl q)
      · exact .inr q
    · exact .inl (.inr z)
theorem GoC.drop (g : GoC Γ B H e σ T B1 H1 e1 σ1 T1) : GoC Γ B H e σ T B1 H1 e1 σ1 VS.emp := ⟨g.st, SC.emp g.sc.sr, fun a z => g.sub a (z.imp id fun h => (h rfl).elim)⟩
end
inductive Ou where
  | nx (e : En) (T : Cel)
  | bk (e : En) (T : Cel)
  | ct (e : En) (T : Cel)
  | rt (o : Bool) (w : U) (e : En)
  | exc (c : Str) (w : U) (e : En)
def Ou.fin : Ou → Prop
  | .nx _ T => VS.fin T
  | .bk _ T => VS.fin T
  | .ct _ T => VS.fin T
  | _ => True
def rsC (Γ : Ga) (W : WXX) (pr : Nat → Bool) (B H : Hp) (e : En) (σ : St) (T : Cel) (D : Ends) : Ou → Prop
  | .nx e' T' => ∀ B' H' σ', GoC Γ B H e σ T B' H' e' σ' T' → Kp pr σ σ' → D.nx σ' H'
  | .bk e' T' => ∀ B' H' σ', GoC Γ B H e σ T B' H' e' σ' T' → Kp pr σ σ' → D.bk σ' H'
  | .ct e' T' => ∀ B' H' σ', GoC Γ B H e σ T B' H' e' σ' T' → Kp pr σ σ' → D.ct σ' H'
  | .rt o w e' => ∀ v B' H' σ', GoC Γ B H e σ T B' H' e' σ' emp → Kp pr σ σ' → (rlO Γ).r (o, w) v (mayC H e σ T) B' H' e' σ' → D.rt v H'
  | .exc c w e' => ∀ cls d B' H' σ', GoC Γ B H e σ T B' H' e' σ' emp → Kp pr σ σ' → exrep Γ (mayC H e σ T) B' H' c w cls d → W cls d σ' H'
structure DS where
  wp : En → Cel → (Ou → Prop) → Prop
  mono : ∀ {e T κ κ'}, (∀ o, κ o → κ' o) → wp e T κ → wp e T κ'
  det : ∀ {e T κ κ'}, fin T → wp e T κ → wp e T κ' → ∃ o, κ o ∧ κ' o ∧ o.fin
def dG (X : Cx) (W : WXX) (pr : Nat → Bool) (m : DS) : TS := fun D σ H => ∃ B e T κ, SC (ga X) B H e σ T ∧ m.wp e T κ ∧ ∀ o, κ o → rsC (ga X) W pr B H e σ T D o
abbrev DPt (X : Cx) (W : WXX) (pr : Nat → Bool) (st : Stmt) (m : DS) : Prop := PS X st (dG X W pr m)
abbrev DPs (X : Cx) (W : WXX) (pr : Nat → Bool) (st : List Stmt) (m : DS) : Prop := PSs X st (dG X W pr m)
def DS.nop : DS where
  wp e T κ := κ (.nx e T)
  mono h q := h _ q
  det f h k := ⟨_, h, k, f⟩
def seqK (k : DS) (κ : Ou → Prop) : Ou → Prop
  | .nx e T => k.wp e T κ
  | o => κ o
def DS.seq (m k : DS) : DS where
  wp e T κ := m.wp e T (seqK k κ)
  mono h q := m.mono (fun o z => by
    cases o with
    | nx e T => exact k.mono h z
    | _ => exact h _ z) q
  det f h h' := by
    obtain ⟨o, h1, h2, h3⟩ := m.det f h h'
    cases o with
    | nx e T => exact k.det h3 h1 h2
    | _ => exact ⟨_, h1, h2, h3⟩
def outK (T : Cel) (κ : Ou → Prop) : RS → Prop
  | .nx e => κ (.nx e T)
  | .bk e => κ (.bk e T)
  | .ct e => κ (.ct e T)
  | .rt o w e => κ (.rt o w e)
  | .exc c w e => κ (.exc c w e)
  | .bad => False
def dRun (m : MS) : DS where
  wp e T κ := outK T κ (m e)
  mono h q := by
    revert q
    cases m _ <;> exact fun q => (by first | exact h _ q | exact q)
  det {e T κ κ'} f h k := by
    revert h k
    cases m e with
    | bad => exact fun h => h.elim
    | rt o w e' => exact fun h k => ⟨_, h, k, trivial⟩
    | exc o w e' => exact fun h k => ⟨_, h, k, trivial⟩
    | nx e' => exact fun h k => ⟨_, h, k, f⟩
    | bk e' => exact fun h k => ⟨_, h, k, f⟩
    | ct e' => exact fun h k => ⟨_, h, k, f⟩
section
variable {X : Cx} {W : WXX} {pr pr' : Nat → Bool} {B H B1 H1 : Hp} {e e1 : En} {σ σ1 : St} {T T1 : Cel} {D : Ends}
theorem rsC.later (g : GoC (ga X) B H e σ T B1 H1 e1 σ1 T1) (kp : Kp pr σ σ1) : ∀ {o : Ou}, rsC (ga X) W pr B H e σ T D o → rsC (ga X) W pr B1 H1 e1 σ1 T1 D o
  | .nx e' T', h => fun B' H' σ' g2 k2 => h B' H' σ' (g.trans g2) (kp.trans k2)
  | .bk e' T', h => fun B' H' σ' g2 k2 => h B' H' σ' (g.trans g2) (kp.trans k2)
  | .ct e' T', h => fun B' H' σ' g2 k2 => h B' H' σ' (g.trans g2) (kp.trans k2)
  | .rt o u e', h => fun v B' H' σ' g2 k2 r => h v B' H' σ' (g.trans g2) (kp.trans k2) ((rlO (ga X)).mono g.may r)
  | .exc c u e', h => fun cls d B' H' σ' g2 k2 x => h cls d B' H' σ' (g.trans g2) (kp.trans k2) (x.mono g.may)
theorem rsC.sub (h : ∀ j, pr j = true → pr' j = true) : ∀ {o : Ou}, rsC (ga X) W pr B H e σ T D o → rsC (ga X) W pr' B H e σ T D o
  | .nx e' T', q => fun B' H' σ' g k => q B' H' σ' g (k.sub h)
  | .bk e' T', q => fun B' H' σ' g k => q B' H' σ' g (k.sub h)
  | .ct e' T', q => fun B' H' σ' g k => q B' H' σ' g (k.sub h)
  | .rt o u e', q => fun v B' H' σ' g k => q v B' H' σ' g (k.sub h)
  | .exc c u e', q => fun cls d B' H' σ' g k => q cls d B' H' σ' g (k.sub h)
theorem seq_core {m k : DS} (q : dG X W pr (m.seq k) D σ H) : dG X W pr m { D with nx := dG X W pr k D } σ H := by
  obtain ⟨B, e, T, κ, s, q, h⟩ := q
  refine ⟨B, e, T, seqK k κ, s, q, fun o ho => ?_⟩
  cases o with
  | nx e' T' => exact fun B' H' σ' g kp => ⟨B', e', T', κ, g.sc, ho, fun o z => rsC.later g kp (h o z)⟩
  | bk e' T' => exact h _ ho
  | ct e' T' => exact h _ ho
  | rt o u e' => exact h (.rt o u e') ho
  | exc c u e' => exact h (.exc c u e') ho
theorem bd_cons {st : Stmt} {sts : List Stmt} {m k : DS} (h : DPt X W pr st m) (h2 : DPs X W pr sts k) : DPs X W pr (st :: sts) (m.seq k) := PSsimp (pss_cons h h2) fun D σ H q => seq_core q
theorem bd_one {st : Stmt} {m : DS} (h : DPt X W pr st m) : DPs X W pr [st] m := pss_one h
theorem run_at {m : MS} {κ : Ou → Prop} (s : SC (ga X) B H e σ T) (q : outK T κ (m e)) (h : ∀ o, κ o → rsC (ga X) W pr B H e σ T D o) : sAt (ga X) W pr m B H e σ D := by
  have mono : ∀ x, may H e σ x → mayC H e σ T x := fun x z => z.imp .inl id
  unfold sAt
  cases z : m e with
  | bad => rw [z] at q; exact q.elim
  | nx e' => rw [z] at q; exact fun B' H' σ' g kp => h _ q B' H' σ' (GoC.ofGo s g) kp
  | bk e' => rw [z] at q; exact fun B' H' σ' g kp => h _ q B' H' σ' (GoC.ofGo s g) kp
  | ct e' => rw [z] at q; exact fun B' H' σ' g kp => h _ q B' H' σ' (GoC.ofGo s g) kp
  | rt o u e' => rw [z] at q; exact fun v B' H' σ' g kp r => h _ q v B' H' σ' (GoC.ofGo s g).drop kp ((rlO (ga X)).mono mono r)
  | exc c u e' => rw [z] at q; exact fun cls d B' H' σ' g kp r => h _ q cls d B' H' σ' (GoC.ofGo s g).drop kp (r.mono mono)
theorem run_core {m : MS} (q : dG X W pr (dRun m) D σ H) : sG (ga X) W pr m D σ H := by
  obtain ⟨B, e, T, κ, s, q, h⟩ := q
  exact ⟨B, e, s.sr, run_at s q h⟩
theorem dt_run {st : Stmt} {m : MS} (h : PSV X W pr st m) : DPt X W pr st (dRun m) := PSimp h fun D σ H q => run_core q
theorem ds_run {sts : List Stmt} {m : MS} (h : PSsV X W pr sts m) : DPs X W pr sts (dRun m) := PSsimp h fun D σ H q => run_core q
end
open Classical in
noncomputable def cset (T : Cel) (a : Addr) (x : Option U) : Cel := fun b => if b = a then x else T b
theorem cset_same {T : Cel} {a : Addr} {x : Option U} : cset T a x a = x := if_pos rfl
theorem cset_ne {T : Cel} {a b : Addr} {x : Option U} (h : b ≠ a) : cset T a x b = T b := if_neg h
theorem fin_cset {T : Cel} {a : Addr} {x : Option U} (h : fin T) : fin (cset T a x) := by
  obtain ⟨F, hF⟩ := h
  refine ⟨a :: F, fun b z => ?_⟩
  by_cases q : b = a
  · rw [q]; exact List.mem_cons_self
  · rw [cset_ne q] at z; exact List.mem_cons_of_mem _ (hF b z)
def putK (j : Nat) (a : Addr) (κ : Ou → Prop) (mk : En → Cel → Ou) (e : En) (T : Cel) : Prop := match e[j]? with
  | some (some (true, u)) => isLD u = true ∧ κ (mk (e.set j (some (false, .adr a))) (cset T a (some u)))
  | _ => False
def withK (j : Nat) (a : Addr) (κ : Ou → Prop) : Ou → Prop
  | .nx e T => putK j a κ .nx e T
  | .bk e T => putK j a κ .bk e T
  | .ct e T => putK j a κ .ct e T
  | o => κ o
def withP (j : Nat) (m : DS) (e : En) (T : Cel) (κ : Ou → Prop) : Option Sl → Prop
  | some (some (false, .adr a)) => match T a with
    | some u => m.wp (e.set j (some (true, u))) (cset T a none) (withK j a κ)
    | none => False
  | _ => False
theorem putK_det {j : Nat} {a : Addr} {κ κ' : Ou → Prop} {mk : En → Cel → Ou} {e : En} {T : Cel} (hf : ∀ e T, VS.fin T → (mk e T).fin) (f : fin T) (h : putK j a κ mk e T) (k : putK j a κ' mk e T) : ∃ o, κ o ∧ κ' o ∧ o.fin := by
  unfold putK at h k
  split at h
  · rename_i u z
    rw [z] at k
    exact ⟨_, h.2, k.2, hf _ _ (fin_cset f)⟩
  · exact h.elim
theorem putK_mono {j : Nat} {a : Addr} {κ κ' : Ou → Prop} {mk : En → Cel → Ou} {e : En} {T : Cel} (f : ∀ o, κ o → κ' o) (h : putK j a κ mk e T) : putK j a κ' mk e T := by
  unfold putK at h ⊢
  split at h
  · rename_i u z
    exact ⟨h.1, f _ h.2⟩
  · exact h.elim
theorem withK_mono {j : Nat} {a : Addr} {κ κ' : Ou → Prop} (f : ∀ o, κ o → κ' o) : ∀ o, withK j a κ o → withK j a κ' o
  | .nx e T, h => putK_mono f h
  | .bk e T, h => putK_mono f h
  | .ct e T, h => putK_mono f h
  | .rt _ _ _, h => f _ h
  | .exc _ _ _, h => f _ h
def dWith (j : Nat) (m : DS) : DS where
  wp e T κ := withP j m e T κ e[j]?
  mono {e T κ κ'} f h := by
    unfold withP at h ⊢
    split at h
    · rename_i a z
      split at h
      · exact m.mono (withK_mono f) h
      · exact h.elim
    · exact h.elim
  det {e T κ κ'} f h k := by
    unfold withP at h k
    split at h
    · rename_i a z
      rw [z] at k
      dsimp only at k
      split at h
      · rename_i u z2
        rw [z2] at k
        obtain ⟨o, h1, h2, h3⟩ := m.det (fin_cset f) h k
        cases o with
        | nx e' T' => exact putK_det (mk := .nx) (fun _ _ h => h) h3 h1 h2
        | bk e' T' => exact putK_det (mk := .bk) (fun _ _ h => h) h3 h1 h2
        | ct e' T' => exact putK_det (mk := .ct) (fun _ _ h => h) h3 h1 h2
        | rt o u e' => exact ⟨_, h1, h2, h3⟩
        | exc o u e' => exact ⟨_, h1, h2, h3⟩
      · exact h.elim
    · exact h.elim
section
variable {X : Cx} {W : WXX} {pr pr' : Nat → Bool} {B H B1 H1 : Hp} {e e1 : En} {σ σ1 : St} {T T1 : Cel} {D : Ends} {j : Nat} {a : Addr} {u : U}
theorem set_own {e : En} {σ : St} {j : Nat} {u : U} {a b : Addr} (hs : σ[j]? = some (some (.ref a))) (h : own (e.set j (some (true, u))) σ b) : b = a ∨ own e σ b := by
  obtain ⟨k, w, h1, h2⟩ := h
  rw [List.getElem?_set] at h1
  split at h1
  · rename_i q
    subst q
    rw [hs] at h2
    cases h2
    exact .inl rfl
  · exact .inr ⟨k, w, h1, h2⟩
theorem SC.take (s : SC (ga X) B H e σ T) (hj : e[j]? = some (some (false, .adr a))) (hT : T a = some u) : σ[j]? = some (some (.ref a)) ∧ SC (ga X) B H (e.set j (some (true, u))) σ (cset T a none) := by
  obtain ⟨v, h1, h2⟩ := s.sr.vl j _ hj
  simp only [rep] at h2
  subst h2
  obtain ⟨⟨ho, k1, k2⟩, ld, k3, k4⟩ := s.cl a u hT
  have get : ∀ (i : Nat) (x : Bool × U), (e.set j (some (true, u)))[i]? = some (some x) → (i = j ∧ x = (true, u)) ∨ (i ≠ j ∧ e[i]? = some (some x)) := fun i x hi => by
    rw [List.getElem?_set] at hi
    split at hi
    · rename_i q
      split at hi
      · injection hi with hi
        injection hi with hi
        exact .inl ⟨q.symm, hi.symm⟩
      · cases hi
    · rename_i q
      exact .inr ⟨fun z => q z.symm, hi⟩
  refine ⟨h1, ⟨s.sr.bh, by simp [s.sr.ln], fun i w hi => ?_, fun i w hi => ?_, fun i k w x b hi hk s1 s2 => ?_⟩, fin_cset s.fn, fun b w hb => ?_⟩
  · rcases get i _ hi with ⟨_, q⟩ | ⟨_, q⟩
    · cases q
    · exact s.sr.vl i w q
  · rcases get i _ hi with ⟨rfl, q⟩ | ⟨_, q⟩
    · cases q
      exact ⟨a, ho, h1, k1, k2, k3⟩
    · exact s.sr.ow i w q
  · rcases get i _ hi with ⟨rfl, q⟩ | ⟨n, q⟩
    · rcases get k _ hk with ⟨rfl, q2⟩ | ⟨n2, q2⟩
      · rfl
      · rw [h1] at s1
        cases s1
        exact absurd ⟨k, x, q2, s2⟩ k4
    · rcases get k _ hk with ⟨rfl, q2⟩ | ⟨n2, q2⟩
      · rw [h1] at s2
        cases s2
        exact absurd ⟨i, w, q, s1⟩ k4
      · exact s.sr.ds i k w x b q q2 s1 s2
  · by_cases z : b = a
    · subst z
      rw [cset_same] at hb
      cases hb
    · rw [cset_ne z] at hb
      obtain ⟨x1, x2, x3, x4⟩ := s.cl b w hb
      refine ⟨x1, x2, x3, fun y => ?_⟩
      rcases set_own h1 y with q | q
      · exact z q
      · exact x4 q
theorem oC_take (hs : σ[j]? = some (some (.ref a))) (hT : T a = some u) {b : Addr} (h : oC (e.set j (some (true, u))) σ (cset T a none) b) : oC e σ T b := by
  rcases h with h | h
  · rcases set_own hs h with q | q
    · subst q
      exact .inr (by rw [hT]; simp)
    · exact .inl q
  · by_cases z : b = a
    · subst z
      rw [cset_same] at h
      exact (h rfl).elim
    · rw [cset_ne z] at h
      exact .inr h
theorem SC.put (s : SC (ga X) B H e σ T) (hs : σ[j]? = some (some (.ref a))) (hj : e[j]? = some (some (true, u))) (ld : isLD u = true) : SC (ga X) B H (e.set j (some (false, .adr a))) σ (cset T a (some u)) ∧ ∀ b, oC (e.set j (some (false, .adr a))) σ (cset T a (some u)) b → oC e σ T b := by
  obtain ⟨a', ho, h1, h2, h3, h4⟩ := s.sr.ow j u hj
  rw [hs] at h1
  cases h1
  have get : ∀ (i : Nat) (x : Bool × U), (e.set j (some (false, .adr a)))[i]? = some (some x) → (i = j ∧ x = (false, .adr a)) ∨ (i ≠ j ∧ e[i]? = some (some x)) := fun i x hi => by
    rw [List.getElem?_set] at hi
    split at hi
    · rename_i q
      split at hi
      · injection hi with hi
        injection hi with hi
        exact .inl ⟨q.symm, hi.symm⟩
      · cases hi
    · rename_i q
      exact .inr ⟨fun z => q z.symm, hi⟩
  have ow : ∀ b, own (e.set j (some (false, .adr a))) σ b → own e σ b ∧ b ≠ a := fun b ⟨i, w, q1, q2⟩ => by
    rcases get i _ q1 with ⟨_, q⟩ | ⟨n, q⟩
    · cases q
    · refine ⟨⟨i, w, q, q2⟩, fun z => n ?_⟩
      subst z
      exact s.sr.ds i j w u b q hj q2 hs
  refine ⟨⟨⟨s.sr.bh, by simp [s.sr.ln], fun i w hi => ?_, fun i w hi => ?_, fun i k w x b hi hk s1 s2 => ?_⟩, fin_cset s.fn, fun b w hb => ?_⟩, fun b z => ?_⟩
  · rcases get i _ hi with ⟨rfl, q⟩ | ⟨_, q⟩
    · cases q
      exact ⟨_, hs, by simp only [rep]⟩
    · exact s.sr.vl i w q
  · rcases get i _ hi with ⟨_, q⟩ | ⟨_, q⟩
    · cases q
    · exact s.sr.ow i w q
  · rcases get i _ hi with ⟨_, q⟩ | ⟨n, q⟩
    · cases q
    · rcases get k _ hk with ⟨_, q2⟩ | ⟨n2, q2⟩
      · cases q2
      · exact s.sr.ds i k w x b q q2 s1 s2
  · by_cases z : b = a
    · subst z
      rw [cset_same] at hb
      cases hb
      exact ⟨⟨ho, h2, h3⟩, ld, h4, fun y => (ow b y).2 rfl⟩
    · rw [cset_ne z] at hb
      obtain ⟨x1, x2, x3, x4⟩ := s.cl b w hb
      exact ⟨x1, x2, x3, fun y => x4 (ow b y).1⟩
  · rcases z with z | z
    · exact .inl (ow b z).1
    · by_cases q : b = a
      · subst q
        exact .inl ⟨j, u, hj, hs⟩
      · rw [cset_ne q] at z
        exact .inr z
theorem with_core (hp : pr' j = true) (hpr : ∀ i, pr i = true → pr' i = true) {m : DS} (q : dG X W pr (dWith j m) D σ H) : dG X W pr' m D σ H := by
  obtain ⟨B, e, T, κ, s, q, h⟩ := q
  have q : withP j m e T κ e[j]? := q
  unfold withP at q
  split at q
  · rename_i a z
    split at q
    · rename_i u z2
      obtain ⟨hs, s1⟩ := s.take z z2
      have start : ∀ {B' H' : Hp} {e' : En} {σ' : St} {T' : Cel}, GoC (ga X) B H (e.set j (some (true, u))) σ (cset T a none) B' H' e' σ' T' → GoC (ga X) B H e σ T B' H' e' σ' T' := fun {B' H' e' σ' T'} g =>
        ⟨⟨g.st.bb, fun b o hb n => g.st.fr b o hb fun y => n (oC_take hs z2 y), fun b o hb n b0 => g.st.nb b o hb (fun y => n (oC_take hs z2 y)) b0⟩, g.sc, fun b y => (g.sub b y).imp (oC_take hs z2) id⟩
      have back : ∀ {B' H' : Hp} {e' : En} {σ' : St} {T' : Cel} {u' : U}, GoC (ga X) B H e σ T B' H' e' σ' T' → Kp pr' σ σ' → e'[j]? = some (some (true, u')) → isLD u' = true → GoC (ga X) B H e σ T B' H' (e'.set j (some (false, .adr a))) σ' (cset T' a (some u')) := fun {B' H' e' σ' T' u'} g kp hj ld => by
        obtain ⟨p1, p2⟩ := g.sc.put (by rw [kp.2 j hp]; exact hs) hj ld
        exact ⟨g.st, p1, fun b y => g.sub b (p2 b y)⟩
      have sm : ∀ x, mayC H (e.set j (some (true, u))) σ (cset T a none) x → mayC H e σ T x := fun x y => y.imp (oC_take hs z2) id
      have fin : ∀ (mk : En → Cel → Ou) (nx : St → Hp → Prop), (∀ e' T', rsC (ga X) W pr B H e σ T D (mk e' T') → ∀ B' H' σ', GoC (ga X) B H e σ T B' H' e' σ' T' → Kp pr σ σ' → nx σ' H') → ∀ e' T', putK j a κ mk e' T' → ∀ B' H' σ', GoC (ga X) B H (e.set j (some (true, u))) σ (cset T a none) B' H' e' σ' T' → Kp pr' σ σ' → nx σ' H' := fun mk nx hn e' T' ho B' H' σ' g kp => by
        unfold putK at ho
        split at ho
        · rename_i u' z3
          exact hn _ _ (h _ ho.2) B' H' σ' (back (start g) kp z3 ho.1) (kp.sub hpr)
        · exact ho.elim
      refine ⟨B, _, _, withK j a κ, s1, q, fun o ho => ?_⟩
      cases o with
      | nx e' T' => exact fin .nx D.nx (fun _ _ r => r) e' T' ho
      | bk e' T' => exact fin .bk D.bk (fun _ _ r => r) e' T' ho
      | ct e' T' => exact fin .ct D.ct (fun _ _ r => r) e' T' ho
      | rt o w e' => exact fun v B' H' σ' g kp r => h (.rt o w e') ho v B' H' σ' (start g) (kp.sub hpr) ((rlO (ga X)).mono sm r)
      | exc o w e' => exact fun cls d B' H' σ' g kp r => h (.exc o w e') ho cls d B' H' σ' (start g) (kp.sub hpr) (r.mono sm)
    · exact q.elim
  · exact q.elim
theorem dt_with (hp : pr' j = true) (hpr : ∀ i, pr i = true → pr' i = true) {st : Stmt} {m : DS} (h : DPt X W pr' st m) : DPt X W pr st (dWith j m) := PSimp h fun D σ H q => with_core hp hpr q
end
end VS
set_option Elab.async false
set_option linter.all false
set_option maxRecDepth 100000
namespace VS
open PySem L2
structure Lkd (F : Addr → Prop) (H H2 : Hp) : Prop where
  eq : ∀ a, ¬ F a → H2 a = H a
  lk : ∀ a o, F a → H a = some o → ∃ od, H2 a = some (fzO od o)
  nn : ∀ a, H a = none → H2 a = none
section
variable {X : Cx} {pins : List (Addr × Obj)} {σ : St} {H : Hp} {s : Shared}
open Classical in
theorem lockAll (I : Inv X pins σ H s) : ∀ L : List Addr, (∀ a ∈ L, ∃ o, H a = some o ∧ Mut (some o)) → ∃ H2, Inv X pins σ H2 s ∧ Lkd (· ∈ L) H H2
  | [], _ => ⟨H, I, ⟨fun _ _ => rfl, fun _ _ h => absurd h List.not_mem_nil, fun _ h => h⟩⟩
  | a :: L, hm => by
    obtain ⟨H2, I2, k⟩ := lockAll I L fun b hb => hm b (List.mem_cons_of_mem _ hb)
    obtain ⟨o, ho, mu⟩ := hm a List.mem_cons_self
    by_cases hL : a ∈ L
    · refine ⟨H2, I2, ⟨fun b hb => k.eq b fun z => hb (List.mem_cons_of_mem _ z), fun b u hb h => ?_, k.nn⟩⟩
      rcases List.mem_cons.mp hb with z | z
      · subst z; exact k.lk b u hL h
      · exact k.lk b u z h
    · have e1 : H2 a = some o := by rw [k.eq a hL]; exact ho
      obtain ⟨od, I3⟩ := I2.lock e1 mu
      by_cases hd : ∀ od, fzO od o = .frz od o
      · refine ⟨_, I3, ⟨fun b hb => ?_, fun b u hb h => ?_, fun b h => ?_⟩⟩
        · rw [upd_ne fun z => hb (by rw [z]; exact List.mem_cons_self)]
          exact k.eq b fun z => hb (List.mem_cons_of_mem _ z)
        · by_cases z : b = a
          · subst z
            rw [ho] at h
            cases h
            exact ⟨od, by rw [upd_same, hd]⟩
          · rw [upd_ne z]
            exact k.lk b u ((List.mem_cons.mp hb).resolve_left z) h
        · rw [upd_ne fun z => by rw [z, ho] at h; cases h]
          exact k.nn b h
      · have ef : ∀ od, fzO od o = o := fun od => by
          cases o <;> first | rfl | exact absurd (fun _ => rfl) hd
        refine ⟨H2, I2, ⟨fun b hb => k.eq b fun z => hb (List.mem_cons_of_mem _ z), fun b u hb h => ?_, k.nn⟩⟩
        by_cases z : b = a
        · subst z
          rw [ho] at h
          cases h
          exact ⟨od, by rw [ef, e1]⟩
        · exact k.lk b u ((List.mem_cons.mp hb).resolve_left z) h
end
def tLks (t : TS) : TS := fun D σ H => ∃ L : List Addr, (∀ a ∈ L, ∃ o, H a = some o ∧ Mut (some o)) ∧ ∀ H2, Lkd (· ∈ L) H H2 → t D σ H2
theorem pss_lks {X : Cx} {sts : List Stmt} {t : TS} (h : PSs X sts t) : PSs X sts (tLks t) := by
  refine ⟨fun pins s σ H D I hw => ?_⟩
  obtain ⟨L, hm, hw⟩ := hw
  obtain ⟨H2, I1, k⟩ := lockAll I L hm
  exact h.run pins s σ _ _ I1 (hw H2 k)
open Classical in
theorem fin_list {T : Cel} (h : fin T) : ∃ L : List Addr, ∀ a, a ∈ L ↔ T a ≠ none := by
  obtain ⟨F, hF⟩ := h
  exact ⟨F.filter fun a => decide (T a ≠ none), fun a => by simp only [List.mem_filter, decide_eq_true_eq]; exact ⟨fun h => h.2, fun h => ⟨hF a h, h⟩⟩⟩
open Classical in
noncomputable def plusC (B H2 : Hp) (T : Cel) : Hp := fun a => if T a ≠ none then H2 a else B a
theorem plus_in {B H2 : Hp} {T : Cel} {a : Addr} (h : T a ≠ none) : plusC B H2 T a = H2 a := if_pos h
theorem plus_out {B H2 : Hp} {T : Cel} {a : Addr} (h : T a = none) : plusC B H2 T a = B a := if_neg (by rw [h]; simp)
section
variable {X : Cx} {W : WXX} {pr pr' : Nat → Bool} {B H B1 H1 H2 : Hp} {e e1 : En} {σ σ1 : St} {T T1 : Cel} {D : Ends} {L : List Addr}
theorem SC.mut (s : SC (ga X) B H e σ T) (hL : ∀ a, a ∈ L ↔ T a ≠ none) : ∀ a ∈ L, ∃ o, H a = some o ∧ Mut (some o) := fun a ha => by
  cases z : T a with
  | none => exact absurd z ((hL a).mp ha)
  | some u =>
    obtain ⟨⟨ho, h1, h2⟩, _⟩ := s.cl a u z
    exact ⟨ho, h1, h2.mut⟩
theorem SC.base (s : SC (ga X) B H e σ T) : Same B (plusC B H2 T) := fun a o h => by
  cases z : T a with
  | none => rw [plus_out z]; exact h
  | some u =>
    obtain ⟨_, _, b, _⟩ := s.cl a u z
    rw [b] at h; cases h
theorem resC_own {a : Addr} (h : own (resC T e) σ a) : own e σ a := by
  obtain ⟨i, w, h1, h2⟩ := h
  obtain ⟨u, q, _⟩ := resC_get h1
  exact ⟨i, u, q, h2⟩
theorem SC.tok (s : SC (ga X) B H e σ T) (hL : ∀ a, a ∈ L ↔ T a ≠ none) (k : Lkd (· ∈ L) H H2) (n : Nat) : ∀ a, rep (ga X) (plusC B H2 T) (resA T n a) (.ref a) :=
  resA_rep s.base (fun a u h => by
    obtain ⟨⟨ho, h1, h2⟩, _⟩ := s.cl a u h
    have ne : T a ≠ none := by rw [h]; simp
    obtain ⟨od, q⟩ := k.lk a ho ((hL a).mpr ne) h1
    exact ⟨ho, od, h2, by rw [plus_in ne]; exact q⟩) n
theorem SC.look (s : SC (ga X) B H e σ T) (hL : ∀ a, a ∈ L ↔ T a ≠ none) (k : Lkd (· ∈ L) H H2) : SR (ga X) (plusC B H2 T) H2 (resC T e) σ := by
  have hf := s.tok hL k 6
  have notC : ∀ a, own e σ a → T a = none := fun a o => by
    cases z : T a with
    | none => rfl
    | some u => exact absurd o (s.cl a u z).2.2.2
  refine ⟨fun a o h => ?_, by unfold resC; rw [List.length_map]; exact s.sr.ln, fun i w hi => ?_, fun i w hi => ?_, fun i j w x a hi hj s1 s2 => ?_⟩
  · cases z : T a with
    | none =>
      rw [plus_out z] at h
      rw [k.eq a fun y => (hL a).mp y z]
      exact s.sr.bh a o h
    | some u =>
      rw [plus_in (by rw [z]; simp)] at h
      exact h
  · obtain ⟨u, q, e1⟩ := resC_get hi
    obtain ⟨v, h1, h2⟩ := s.sr.vl i u q
    dsimp only at e1
    subst e1
    exact ⟨v, h1, h2.res s.base hf⟩
  · obtain ⟨u, q, e1⟩ := resC_get hi
    obtain ⟨a, ho, h1, h2, h3, h4⟩ := s.sr.ow i u q
    dsimp only at e1
    subst e1
    have tn := notC a ⟨i, u, q, h1⟩
    exact ⟨a, ho, h1, by rw [k.eq a fun y => (hL a).mp y tn]; exact h2, nod.res s.base hf h3, by rw [plus_out tn]; exact h4⟩
  · obtain ⟨u, q, _⟩ := resC_get hi
    obtain ⟨u2, q2, _⟩ := resC_get hj
    exact s.sr.ds i j u u2 a q q2 s1 s2
theorem GoC.ofLook (s : SC (ga X) B H e σ T) (hL : ∀ a, a ∈ L ↔ T a ≠ none) (k : Lkd (· ∈ L) H H2) (g : Go (ga X) (plusC B H2 T) H2 (resC T e) σ B1 H1 e1 σ1) : GoC (ga X) B H e σ T B1 H1 e1 σ1 emp := by
  have h2 : ∀ a o, H a = some o → ¬ oC e σ T a → H2 a = some o ∧ ¬ own (resC T e) σ a ∧ T a = none := fun a o h n => by
    have tn : T a = none := Classical.not_not.mp fun z => n (.inr z)
    exact ⟨by rw [k.eq a fun y => (hL a).mp y tn]; exact h, fun z => n (.inl (resC_own z)), tn⟩
  refine ⟨⟨s.base.trans g.st.bb, fun a o h n => g.st.fr a o (h2 a o h n).1 (h2 a o h n).2.1, fun a o h n b => g.st.nb a o (h2 a o h n).1 (h2 a o h n).2.1 (by rw [plus_out (h2 a o h n).2.2]; exact b)⟩, SC.emp g.sr, fun a z => ?_⟩
  rcases z with z | z
  · rcases g.sub a z with q | q
    · exact .inl (.inl (resC_own q))
    · by_cases t : T a = none
      · right
        rw [← q]
        exact (k.eq a fun y => (hL a).mp y t).symm
      · exact .inl (.inr t)
  · exact (z rfl).elim
theorem lookMay (hL : ∀ a, a ∈ L ↔ T a ≠ none) (k : Lkd (· ∈ L) H H2) : ∀ x, may H2 (resC T e) σ x → mayC H e σ T x := fun a z => by
  rcases z with q | q
  · exact .inl (.inl (resC_own q))
  · by_cases t : T a = none
    · right
      rw [← q]
      exact (k.eq a fun y => (hL a).mp y t).symm
    · exact .inl (.inr t)
end
section
variable {X : Cx} {W : WXX} {pr pr' : Nat → Bool} {B H B1 H1 H2 : Hp} {e e1 e' : En} {σ σ1 : St} {T T1 : Cel} {D : Ends} {L : List Addr}
def dRes (m : DS) : DS where
  wp e T κ := m.wp (resC T e) emp κ
  mono f h := m.mono f h
  det f h k := m.det fin_emp h k
theorem res_core {m : DS} (q : dG X W pr (dRes m) D σ H) : tLks (dG X W pr m) D σ H := by
  obtain ⟨B, e, T, κ, s, q, kk⟩ := q
  obtain ⟨L, hL⟩ := fin_list s.fn
  refine ⟨L, s.mut hL, fun H2 k => ⟨_, _, emp, κ, SC.emp (s.look hL k), q, fun o ho => ?_⟩⟩
  have go : ∀ {B' H' : Hp} {e' : En} {σ' : St} {T' : Cel}, GoC (ga X) (plusC B H2 T) H2 (resC T e) σ emp B' H' e' σ' T' → GoC (ga X) B H e σ T B' H' e' σ' T' := fun g => (GoC.ofLook s hL k (Go.refl (s.look hL k))).trans g
  have sm : ∀ x, mayC H2 (resC T e) σ emp x → mayC H e σ T x := fun x z => lookMay hL k x (z.imp (fun z => z.resolve_right fun y => y rfl) id)
  have := kk o ho
  cases o with
  | nx e' T' => exact fun B' H' σ' g kp => this B' H' σ' (go g) kp
  | bk e' T' => exact fun B' H' σ' g kp => this B' H' σ' (go g) kp
  | ct e' T' => exact fun B' H' σ' g kp => this B' H' σ' (go g) kp
  | rt o w e' => exact fun v B' H' σ' g kp r => this v B' H' σ' (go g) kp ((rlO (ga X)).mono sm r)
  | exc o w e' => exact fun cls d B' H' σ' g kp r => this cls d B' H' σ' (go g) kp (r.mono sm)
theorem ds_res {sts : List Stmt} {m : DS} (h : DPs X W pr sts m) : DPs X W pr sts (dRes m) := PSsimp (pss_lks h) fun D σ H q => res_core q
end
end VS
set_option Elab.async false
set_option linter.all false
set_option maxRecDepth 100000
namespace VS
open PySem L2
mutual
def Sk : U → U → List (Addr × U) → Prop
  | .lst us, w, L => ∃ a ws L', w = .adr a ∧ Sks us ws L' ∧ L = (a, .lst ws) :: L'
  | .dct kvs, w, L => ∃ a, w = .adr a ∧ (kvs.all fun p => ldf p.1 && ldf p.2) = true ∧ L = [(a, .dct kvs)]
  | .tup us, w, L => ∃ ws, w = .tup ws ∧ Sks us ws L
  | u, w, L => ldf u = true ∧ w = u ∧ L = []
def Sks : List U → List U → List (Addr × U) → Prop
  | [], ws, L => ws = [] ∧ L = []
  | u :: us, ws, L => ∃ w r L1 L2, ws = w :: r ∧ Sk u w L1 ∧ Sks us r L2 ∧ L = L1 ++ L2
end
mutual
theorem Sk.flat : ∀ {u : U}, ldf u = true → Sk u u []
  | .tup us, l => by simp only [Sk]; exact ⟨us, rfl, Sks.flat l⟩
  | .non, l => by simp only [Sk]; exact ⟨l, trivial, trivial⟩
  | .bl _, l => by simp only [Sk]; exact ⟨l, trivial, trivial⟩
  | .int _, l => by simp only [Sk]; exact ⟨l, trivial, trivial⟩
  | .str _, l => by simp only [Sk]; exact ⟨l, trivial, trivial⟩
  | .tpd us, l => by simp only [Sk]; exact ⟨l, trivial, trivial⟩
  | .ins c fs, l => by simp only [Sk]; exact ⟨l, trivial, trivial⟩
  | .lst _, l => by cases l
  | .scr _, l => by cases l
  | .dct _, l => by cases l
  | .set _, l => by cases l
  | .adr _, l => by cases l
  | .xc _ _, l => by cases l
theorem Sks.flat : ∀ {us : List U}, ldfs us = true → Sks us us []
  | [], _ => by simp only [Sks]; exact ⟨trivial, trivial⟩
  | u :: us, l => by
    simp only [ldfs, Bool.and_eq_true] at l
    simp only [Sks]
    exact ⟨u, us, [], [], rfl, Sk.flat l.1, Sks.flat l.2, rfl⟩
end
mutual
theorem Sk.eqFlat : ∀ {u w : U} {L : List (Addr × U)}, ldf u = true → Sk u w L → w = u ∧ L = []
  | .tup us, w, L, l, h => by
    simp only [Sk] at h
    obtain ⟨ws, e, h⟩ := h
    obtain ⟨e2, e3⟩ := Sks.eqFlat l h
    exact ⟨by rw [e, e2], e3⟩
  | .non, _, _, l, h => by simp only [Sk] at h; exact h.2
  | .bl _, _, _, l, h => by simp only [Sk] at h; exact h.2
  | .int _, _, _, l, h => by simp only [Sk] at h; exact h.2
  | .str _, _, _, l, h => by simp only [Sk] at h; exact h.2
  | .tpd us, _, _, l, h => by simp only [Sk] at h; exact h.2
  | .ins c fs, _, _, l, h => by simp only [Sk] at h; exact h.2
  | .lst _, _, _, l, _ => by cases l
  | .scr _, _, _, l, _ => by cases l
  | .dct _, _, _, l, _ => by cases l
  | .set _, _, _, l, _ => by cases l
  | .adr _, _, _, l, _ => by cases l
  | .xc _ _, _, _, l, _ => by cases l
theorem Sks.eqFlat : ∀ {us ws : List U} {L : List (Addr × U)}, ldfs us = true → Sks us ws L → ws = us ∧ L = []
  | [], _, _, _, h => by simp only [Sks] at h; exact h
  | u :: us, ws, L, l, h => by
    simp only [ldfs, Bool.and_eq_true] at l
    simp only [Sks] at h
    obtain ⟨w, r, L1, L2, e, h1, h2, e2⟩ := h
    obtain ⟨a, b⟩ := Sk.eqFlat l.1 h1
    obtain ⟨c, d⟩ := Sks.eqFlat l.2 h2
    exact ⟨by rw [e, a, c], by rw [e2, b, d]; rfl⟩
end
theorem Sks.app : ∀ {us us' ws ws' : List U} {L L' : List (Addr × U)}, Sks us ws L → Sks us' ws' L' → Sks (us ++ us') (ws ++ ws') (L ++ L')
  | [], _, _, _, _, _, h, k => by simp only [Sks] at h; rw [h.1, h.2]; exact k
  | u :: us, _, _, _, _, _, h, k => by
    simp only [Sks] at h
    obtain ⟨w, r, L1, L2, e, h1, h2, e2⟩ := h
    subst e e2
    simp only [List.cons_append, Sks]
    exact ⟨w, _, L1, _, rfl, h1, Sks.app h2 k, List.append_assoc _ _ _⟩
theorem Sks.one {u w : U} {L : List (Addr × U)} (h : Sk u w L) : Sks [u] [w] L := by
  simp only [Sks]
  exact ⟨w, [], L, [], rfl, h, ⟨rfl, rfl⟩, (List.append_nil _).symm⟩
theorem Sks.len : ∀ {us ws : List U} {L : List (Addr × U)}, Sks us ws L → ws.length = us.length
  | [], _, _, h => by simp only [Sks] at h; rw [h.1]
  | u :: us, ws, L, h => by
    simp only [Sks] at h
    obtain ⟨w, r, L1, L2, e, h1, h2, e2⟩ := h
    rw [e, List.length_cons, List.length_cons, Sks.len h2]
mutual
theorem Sk.ld : ∀ {u w : U} {L : List (Addr × U)}, Sk u w L → ∀ p ∈ L, isLD p.2 = true
  | .lst us, w, L, h, p, hp => by
    simp only [Sk] at h
    obtain ⟨a, ws, L', _, h, e⟩ := h
    subst e
    rcases List.mem_cons.mp hp with z | z
    · subst z; rfl
    · exact Sks.ld h p z
  | .dct kvs, w, L, h, p, hp => by
    simp only [Sk] at h
    obtain ⟨a, _, _, e⟩ := h
    subst e
    rw [List.mem_singleton] at hp
    subst hp
    rfl
  | .tup us, w, L, h, p, hp => by
    simp only [Sk] at h
    obtain ⟨ws, _, h⟩ := h
    exact Sks.ld h p hp
  | .non, _, _, h, _, hp => by simp only [Sk] at h; rw [h.2.2] at hp; cases hp
  | .bl _, _, _, h, _, hp => by simp only [Sk] at h; rw [h.2.2] at hp; cases hp
  | .int _, _, _, h, _, hp => by simp only [Sk] at h; rw [h.2.2] at hp; cases hp
  | .str _, _, _, h, _, hp => by simp only [Sk] at h; rw [h.2.2] at hp; cases hp
  | .tpd us, _, _, h, _, hp => by simp only [Sk] at h; rw [h.2.2] at hp; cases hp
  | .ins c fs, _, _, h, _, hp => by simp only [Sk] at h; rw [h.2.2] at hp; cases hp
  | .scr _, _, _, h, _, hp => by simp only [Sk] at h; rw [h.2.2] at hp; cases hp
  | .set _, _, _, h, _, hp => by simp only [Sk] at h; rw [h.2.2] at hp; cases hp
  | .adr _, _, _, h, _, hp => by simp only [Sk] at h; rw [h.2.2] at hp; cases hp
  | .xc _ _, _, _, h, _, hp => by simp only [Sk] at h; rw [h.2.2] at hp; cases hp
theorem Sks.ld : ∀ {us ws : List U} {L : List (Addr × U)}, Sks us ws L → ∀ p ∈ L, isLD p.2 = true
  | [], _, _, h, _, hp => by simp only [Sks] at h; rw [h.2] at hp; cases hp
  | u :: us, ws, L, h, p, hp => by
    simp only [Sks] at h
    obtain ⟨w, r, L1, L2, e, h1, h2, e2⟩ := h
    subst e2
    rcases List.mem_append.mp hp with z | z
    · exact Sk.ld h1 p z
    · exact Sks.ld h2 p z
end
mutual
def skOk : U → Bool
  | .lst us => skOks us
  | .dct kvs => kvs.all fun p => ldf p.1 && ldf p.2
  | .tup us => skOks us
  | u => ldf u
def skOks : List U → Bool
  | [] => true
  | u :: us => skOk u && skOks us
end
abbrev Frm (n m : Nat) (L : List (Addr × U)) : Prop := n ≤ m ∧ (∀ p ∈ L, n ≤ p.1 ∧ p.1 < m) ∧ (L.map (·.1)).Nodup
theorem Frm.app {n m k : Nat} {L L' : List (Addr × U)} (h : Frm n m L) (h' : Frm m k L') : Frm n k (L ++ L') := by
  refine ⟨Nat.le_trans h.1 h'.1, fun p hp => ?_, ?_⟩
  · rcases List.mem_append.mp hp with z | z
    · exact ⟨(h.2.1 p z).1, Nat.lt_of_lt_of_le (h.2.1 p z).2 h'.1⟩
    · exact ⟨Nat.le_trans h.1 (h'.2.1 p z).1, (h'.2.1 p z).2⟩
  · rw [List.map_append, List.nodup_append]
    refine ⟨h.2.2, h'.2.2, fun a ha b hb z => ?_⟩
    obtain ⟨p, hp, rfl⟩ := List.mem_map.mp ha
    obtain ⟨q, hq, rfl⟩ := List.mem_map.mp hb
    have h1 : (p.1 : Nat) < m := (h.2.1 p hp).2
    have h2 : m ≤ (q.1 : Nat) := (h'.2.1 q hq).1
    have h3 : (p.1 : Nat) = q.1 := z
    exact Nat.lt_irrefl _ (Nat.lt_of_lt_of_le (by rw [← h3]; exact h1 : (q.1 : Nat) < m) h2)
mutual
theorem Sk.ex : ∀ (u : U) (n : Nat), skOk u = true → ∃ w L m, Sk u w L ∧ Frm n m L
  | .lst us, n, l => by
    obtain ⟨ws, L, m, h, f⟩ := Sks.ex us (n + 1) l
    refine ⟨.adr n, (n, .lst ws) :: L, m, by simp only [Sk]; exact ⟨n, ws, L, rfl, h, rfl⟩, ?_⟩
    exact Frm.app (L := [(n, .lst ws)]) ⟨Nat.le_succ n, fun p hp => by rw [List.mem_singleton] at hp; subst hp; exact ⟨Nat.le_refl _, Nat.lt_succ_self _⟩, by simp⟩ f
  | .dct kvs, n, l => ⟨.adr n, [(n, .dct kvs)], n + 1, by simp only [Sk]; exact ⟨n, rfl, l, rfl⟩, ⟨Nat.le_succ n, fun p hp => by rw [List.mem_singleton] at hp; subst hp; exact ⟨Nat.le_refl _, Nat.lt_succ_self _⟩, by simp⟩⟩
  | .tup us, n, l => by
    obtain ⟨ws, L, m, h, f⟩ := Sks.ex us n l
    exact ⟨.tup ws, L, m, by simp only [Sk]; exact ⟨ws, rfl, h⟩, f⟩
  | .non, n, l => ⟨_, [], n, Sk.flat l, Nat.le_refl _, fun p h => (by cases h), List.nodup_nil⟩
  | .bl _, n, l => ⟨_, [], n, Sk.flat l, Nat.le_refl _, fun p h => (by cases h), List.nodup_nil⟩
  | .int _, n, l => ⟨_, [], n, Sk.flat l, Nat.le_refl _, fun p h => (by cases h), List.nodup_nil⟩
  | .str _, n, l => ⟨_, [], n, Sk.flat l, Nat.le_refl _, fun p h => (by cases h), List.nodup_nil⟩
  | .tpd us, n, l => ⟨_, [], n, Sk.flat l, Nat.le_refl _, fun p h => (by cases h), List.nodup_nil⟩
  | .ins c fs, n, l => ⟨_, [], n, Sk.flat l, Nat.le_refl _, fun p h => (by cases h), List.nodup_nil⟩
  | .scr _, _, l => by cases l
  | .set _, _, l => by cases l
  | .adr _, _, l => by cases l
  | .xc _ _, _, l => by cases l
theorem Sks.ex : ∀ (us : List U) (n : Nat), skOks us = true → ∃ ws L m, Sks us ws L ∧ Frm n m L
  | [], n, _ => ⟨[], [], n, by simp only [Sks]; exact ⟨trivial, trivial⟩, Nat.le_refl _, fun p h => (by cases h), List.nodup_nil⟩
  | u :: us, n, l => by
    simp only [skOks, Bool.and_eq_true] at l
    obtain ⟨w, L, m, h, f⟩ := Sk.ex u n l.1
    obtain ⟨ws, L', m', h', f'⟩ := Sks.ex us m l.2
    refine ⟨w :: ws, L ++ L', m', ?_, f.app f'⟩
    simp only [Sks]
    exact ⟨w, ws, L, L', rfl, h, h', rfl⟩
end
def CL (Γ : Ga) (S : Addr → Prop) (B H : Hp) (e : En) (σ : St) (L : List (Addr × U)) : Prop := (L.map (·.1)).Nodup ∧ ∀ p ∈ L, (∃ ho, H p.1 = some ho ∧ nod Γ B p.1 p.2 ho) ∧ B p.1 = none ∧ ¬ own e σ p.1 ∧ S p.1
def rlT (Γ : Ga) : Rl U V := ⟨fun u v S B H e σ => ∃ w L, Sk u w L ∧ CL Γ S B H e σ L ∧ rep Γ B w v, fun {u v S S' B H e σ} hs h => by
  obtain ⟨w, L, h1, h2, h3⟩ := h
  exact ⟨w, L, h1, ⟨h2.1, fun p hp => ⟨(h2.2 p hp).1, (h2.2 p hp).2.1, (h2.2 p hp).2.2.1, hs _ (h2.2 p hp).2.2.2⟩⟩, h3⟩⟩
abbrev PD (X : Cx) (W : WXX) (ex : Expr) (m : M U) : Prop := PE X ex (tG (ga X) W (rlT (ga X)) m)
section
variable {Γ : Ga} {S S' : Addr → Prop} {B H B' H' : Hp} {e e' : En} {σ : St} {L L' : List (Addr × U)}
theorem CL.mono (h : ∀ x, S x → S' x) (c : CL Γ S B H e σ L) : CL Γ S' B H e σ L := ⟨c.1, fun p hp => ⟨(c.2 p hp).1, (c.2 p hp).2.1, (c.2 p hp).2.2.1, h _ (c.2 p hp).2.2.2⟩⟩
theorem CL.keep (c : CL Γ S B H e σ L) (g : Go Γ B H e σ B' H' e' σ) : CL Γ S B' H' e' σ L := ⟨c.1, fun p hp => by
  obtain ⟨⟨ho, h1, h2⟩, b, n, s⟩ := c.2 p hp
  refine ⟨⟨ho, g.st.fr _ ho h1 n, h2.mono g.st.bb⟩, g.st.nb _ ho h1 n b, fun z => ?_, s⟩
  rcases g.sub _ z with q | q
  · exact n q
  · rw [h1] at q; cases q⟩
theorem CL.app (c : CL Γ S B H e σ L) (c' : CL Γ S B H e σ L') (d : ∀ p ∈ L, ∀ q ∈ L', p.1 ≠ q.1) : CL Γ S B H e σ (L ++ L') := by
  refine ⟨?_, fun p hp => ?_⟩
  · rw [List.map_append, List.nodup_append]
    refine ⟨c.1, c'.1, fun a ha b hb => ?_⟩
    obtain ⟨p, hp, rfl⟩ := List.mem_map.mp ha
    obtain ⟨q, hq, rfl⟩ := List.mem_map.mp hb
    exact d p hp q hq
  · rcases List.mem_append.mp hp with z | z
    · exact c.2 p z
    · exact c'.2 p z
theorem CL.apart (c : CL Γ S B H e σ L) {p : Addr × U} (hp : p ∈ L) {a : Addr} (m : may H e σ a) : p.1 ≠ a := fun z => by
  obtain ⟨⟨ho, h1, _⟩, _, n, _⟩ := c.2 p hp
  rcases m with m | m
  · exact n (by rw [z]; exact m)
  · rw [← z, h1] at m; cases m
end
def flD : U → Bool
  | .lst us => ldfs us
  | .dct kvs => kvs.all fun p => ldf p.1 && ldf p.2
  | _ => false
noncomputable def mDv (m : M (Bool × U)) : M U := m.bd fun r e => if flD r.2 && r.1 then .ok r.2 e else .bad
section
variable {X : Cx} {W : WXX} {ex : Expr} {es : List Expr} {pos : Pos}
theorem pd_of {m : M (Bool × U)} (h : PO X W ex m) : PD X W ex (mDv m) := by
  refine PEimp h fun σ H Q ⟨B, e, s, q⟩ => ⟨B, e, s, ?_⟩
  unfold mDv tAt M.bd at *
  cases z : m e with
  | bad => rw [z] at q; exact q
  | exc c u e' => rw [z] at q; exact q
  | ok r e' =>
    rw [z] at q
    intro v B' H' g r'
    obtain ⟨o, u⟩ := r
    by_cases c : (flD u && o) = true
    · have q2 : ∀ v B' H', Go (ga X) B H e σ B' H' e' σ → (rlT (ga X)).r u v (may H e σ) B' H' e' σ → Q v H' := by
        simpa only [c, if_true] using q
      rw [Bool.and_eq_true] at c
      obtain ⟨c1, c2⟩ := c
      subst c2
      obtain ⟨a, ho, e1, h1, n, b0, no, mz⟩ := r'
      subst e1
      refine q2 _ B' H' g ⟨.adr a, [(a, u)], ?_, ⟨by simp, fun p hp => ?_⟩, by simp only [rep]⟩
      · cases u with
        | lst us => simp only [Sk]; exact ⟨a, us, [], rfl, Sks.flat c1, rfl⟩
        | dct kvs => simp only [Sk]; exact ⟨a, rfl, c1, rfl⟩
        | _ => cases c1
      · rw [List.mem_singleton] at hp
        subst hp
        exact ⟨⟨ho, h1, n⟩, b0, no, mz⟩
    · exfalso
      simp only [c, Bool.false_eq_true, if_false] at q
def rlTs (Γ : Ga) : Rl (List U) (List V) := ⟨fun us vs S B H e σ => ∃ ws L, Sks us ws L ∧ CL Γ S B H e σ L ∧ reps Γ B ws vs, fun {u v S S' B H e σ} hs h => by
  obtain ⟨w, L, h1, h2, h3⟩ := h
  exact ⟨w, L, h1, h2.mono hs, h3⟩⟩
abbrev PDs (X : Cx) (W : WXX) (exs : List Expr) (m : M (List U)) : Prop := PA X exs (tG (ga X) W (rlTs (ga X)) m)
def mDcs (ma : M U) (mr : M (List U)) : M (List U) := ma.bd fun r => mr.bd fun rs => .ret (r :: rs)
theorem pds_nil : PDs X W [] (M.ret []) := ⟨fun pos pins s σ H Q I ⟨B, e, sr, q⟩ => (pa_nil (X := X)).run pos pins s σ H Q I (q [] B H (Go.refl sr) ⟨[], [], by simp only [Sks]; exact ⟨trivial, trivial⟩, ⟨List.nodup_nil, fun p hp => (by cases hp)⟩, by simp only [reps]⟩)⟩
theorem pds_cons {ma : M U} {mr : M (List U)} (ha : PD X W ex ma) (hr : PDs X W es mr) (hs : starEach (ex :: es) X.env = (false, eval ex X.env) :: starEach es X.env := by rfl) : PDs X W (ex :: es) (mDcs ma mr) := by
  refine PAimp (pa_cons ha hr hs) fun σ H Q ⟨B, e, sr, q⟩ => ⟨B, e, sr, ?_⟩
  unfold mDcs tAt M.bd at q
  unfold tAt
  cases z : ma e with
  | bad => rw [z] at q; exact q
  | exc c u e' => rw [z] at q; exact q
  | ok r e1 =>
    rw [z] at q
    dsimp only at q ⊢
    intro x B1 H1 g1 r1
    refine ⟨B1, e1, g1.sr, ?_⟩
    unfold tAt
    cases z2 : mr e1 with
    | bad => rw [z2] at q; exact q
    | exc c u e' => rw [z2] at q; exact fun cls d B' H' g x => q cls d B' H' (g1.trans g) (x.mono g1.may)
    | ok rs e2 =>
      rw [z2] at q
      dsimp only [M.ret] at q ⊢
      intro xs B2 H2 g2 r2
      obtain ⟨w, L, k1, k2, k3⟩ := r1
      obtain ⟨ws, L', j1, j2, j3⟩ := r2
      refine q _ B2 H2 (g1.trans g2) ⟨w :: ws, L ++ L', ?_, (k2.keep g2).app (j2.mono g1.may) (fun p hp q hq => k2.apart hp (j2.2 q hq).2.2.2), ?_⟩
      · simp only [Sks]; exact ⟨w, ws, L, L', rfl, k1, j1, rfl⟩
      · simp only [reps]; exact ⟨x, xs, rfl, k3.mono g2.st.bb, j3⟩
def mDt (m : M (List U)) : M U := m.bd fun us => if us.length ≤ sizeLine then .ret (.tup us) else fun _ => .bad
theorem pd_tup {k : Nat} {m : M (List U)} (h : PDs X W es m) : PD X W (.Tuple es k pos) (mDt m) := by
  refine PEimp (pe_tup h) fun σ H Q ⟨B, e, sr, q⟩ => ⟨B, e, sr, ?_⟩
  unfold mDt tAt M.bd at q
  unfold tAt
  cases z : m e with
  | bad => rw [z] at q; exact q
  | exc c u e' => rw [z] at q; exact q
  | ok us e1 =>
    rw [z] at q
    dsimp only [M.ret] at q ⊢
    intro vs B1 H1 g1 r1
    obtain ⟨ws, L, k1, k2, k3⟩ := r1
    by_cases hz : us.length ≤ sizeLine
    rotate_left
    · rw [if_neg hz] at q; exact q.elim
    rw [if_pos hz] at q
    refine ⟨by rw [← k3.length, k1.len]; exact hz, ?_⟩
    intro p hp
    have ga := Go.allocB (o := .tup vs) g1.sr hp
    refine q _ _ _ (g1.trans ga) ⟨.tup ws, L, by simp only [Sk]; exact ⟨ws, rfl, k1⟩, k2.keep ga, ?_⟩
    simp only [rep]
    exact ⟨p, vs, rfl, SqT.of upd_same, k3.mono (same_upd (g1.sr.none_of hp))⟩
end
def addC (T : Cel) (L : List (Addr × U)) : Cel := fun a => match L.lookup a with
  | some u => some u
  | none => T a
theorem lookup_mem {L : List (Addr × U)} {a : Addr} {u : U} (h : L.lookup a = some u) : (a, u) ∈ L := by
  induction L with
  | nil => cases h
  | cons p L ih =>
    obtain ⟨b, w⟩ := p
    rw [List.lookup_cons] at h
    split at h
    · rename_i z
      cases h
      rw [eq_of_beq z]
      exact List.mem_cons_self
    · exact List.mem_cons_of_mem _ (ih h)
theorem mem_lookup {L : List (Addr × U)} {a : Addr} {u : U} (nd : (L.map (·.1)).Nodup) (h : (a, u) ∈ L) : L.lookup a = some u := by
  induction L with
  | nil => cases h
  | cons p L ih =>
    obtain ⟨b, w⟩ := p
    rw [List.lookup_cons]
    rw [List.map_cons, List.nodup_cons] at nd
    rcases List.mem_cons.mp h with z | z
    · cases z
      simp
    · have ne : (a == b) = false := by
        cases y : a == b with
        | false => rfl
        | true => exact absurd (List.mem_map.mpr ⟨_, z, rfl⟩) (by rw [eq_of_beq y]; exact nd.1)
      rw [ne]
      exact ih nd.2 z
theorem addC_none {T : Cel} {L : List (Addr × U)} {a : Addr} (h : addC T L a ≠ none) : T a ≠ none ∨ ∃ u, (a, u) ∈ L := by
  unfold addC at h
  split at h
  · rename_i u z
    exact .inr ⟨u, lookup_mem z⟩
  · exact .inl h
theorem fin_add {T : Cel} {L : List (Addr × U)} (h : fin T) : fin (addC T L) := by
  obtain ⟨F, hF⟩ := h
  refine ⟨L.map (·.1) ++ F, fun a z => ?_⟩
  rcases addC_none z with q | ⟨u, q⟩
  · exact List.mem_append_right _ (hF a q)
  · exact List.mem_append_left _ (List.mem_map.mpr ⟨_, q, rfl⟩)
def forSk (u : U) (T : Cel) (φ : U → Cel → Prop) : Prop := skOk u = true ∧ ∀ w L, Sk u w L → (L.map (·.1)).Nodup → (∀ p ∈ L, T p.1 = none) → φ w (addC T L)
theorem forSk_det {u : U} {T : Cel} {φ φ' : U → Cel → Prop} (f : fin T) (h : forSk u T φ) (k : forSk u T φ') : ∃ w T', φ w T' ∧ φ' w T' ∧ fin T' := by
  obtain ⟨F, hF⟩ := f
  obtain ⟨w, L, m, h1, h2⟩ := Sk.ex u ((F.foldr max 0) + 1) h.1
  have big : ∀ l : List Nat, ∀ a ∈ l, a ≤ l.foldr max 0 := fun l => by
    induction l with
    | nil => exact fun a ha => by cases ha
    | cons b l ih =>
      intro a ha
      rcases List.mem_cons.mp ha with z | z
      · subst z; exact Nat.le_max_left _ _
      · exact Nat.le_trans (ih a z) (Nat.le_max_right _ _)
  have fr : ∀ p ∈ L, T p.1 = none := fun p hp => by
    cases z : T p.1 with
    | none => rfl
    | some x =>
      have := big F p.1 (hF p.1 (by rw [z]; simp))
      have := (h2.2.1 p hp).1
      omega
  exact ⟨w, _, h.2 w L h1 h2.2.2 fr, k.2 w L h1 h2.2.2 fr, fin_add ⟨F, hF⟩⟩
def newK (T : Cel) (κ : Ou → Prop) (k : U → MS) : R U → Prop
  | .ok u e => forSk u T fun w T' => outK T' κ (k w e)
  | .exc c u e => κ (.exc c u e)
  | .bad => False
theorem outK_mono {T : Cel} {κ κ' : Ou → Prop} (f : ∀ o, κ o → κ' o) : ∀ {r : RS}, outK T κ r → outK T κ' r
  | .nx _, h => f _ h
  | .bk _, h => f _ h
  | .ct _, h => f _ h
  | .rt _ _ _, h => f _ h
  | .exc _ _ _, h => f _ h
  | .bad, h => h
theorem outK_det {T : Cel} {κ κ' : Ou → Prop} (f : fin T) : ∀ {r : RS}, outK T κ r → outK T κ' r → ∃ o, κ o ∧ κ' o ∧ o.fin
  | .nx _, h, k => ⟨_, h, k, f⟩
  | .bk _, h, k => ⟨_, h, k, f⟩
  | .ct _, h, k => ⟨_, h, k, f⟩
  | .rt _ _ _, h, k => ⟨_, h, k, trivial⟩
  | .exc _ _ _, h, k => ⟨_, h, k, trivial⟩
  | .bad, h, _ => h.elim
def dNew (m : M U) (k : U → MS) : DS where
  wp e T κ := newK T κ k (m e)
  mono {e T κ κ'} f h := by
    revert h
    unfold newK
    cases m e with
    | bad => exact fun h => h
    | exc c u e' => exact fun h => f _ h
    | ok u e' => exact fun h => ⟨h.1, fun w L a b c => outK_mono f (h.2 w L a b c)⟩
  det {e T κ κ'} f h k := by
    revert h k
    unfold newK
    cases m e with
    | bad => exact fun h => h.elim
    | exc c u e' => exact fun h k => ⟨_, h, k, trivial⟩
    | ok u e' =>
      intro h k
      obtain ⟨w, T', h1, h2, h3⟩ := forSk_det f h k
      exact outK_det h3 h1 h2
section
variable {X : Cx} {W : WXX} {pr pr' : Nat → Bool} {B H B1 H1 B2 H2 : Hp} {e e1 : En} {σ σ1 : St} {T T1 : Cel} {D : Ends} {L : List (Addr × U)} {ex tg : Expr} {pos : Pos}
theorem GoC.add (s : SC (ga X) B H e σ T) (g : Go (ga X) B H e σ B1 H1 e1 σ1) {u w : U} (hk : Sk u w L) (c : CL (ga X) (VS.may H e σ) B1 H1 e1 σ1 L) : (∀ p ∈ L, T p.1 = none) ∧ GoC (ga X) B H e σ T B1 H1 e1 σ1 (addC T L) := by
  have g0 := GoC.ofGo s g
  have nT : ∀ p ∈ L, T p.1 = none := fun p hp => by
    cases z : T p.1 with
    | none => rfl
    | some x =>
      obtain ⟨⟨ho, h1, _⟩, _, _, n⟩ := s.cl p.1 x z
      rcases (c.2 p hp).2.2.2 with q | q
      · exact absurd q n
      · rw [h1] at q; cases q
  refine ⟨nT, g0.st, ⟨g.sr, fin_add s.fn, fun a x hx => ?_⟩, fun a z => ?_⟩
  · unfold addC at hx
    split at hx
    · rename_i y z
      cases hx
      have mz := lookup_mem z
      exact ⟨(c.2 _ mz).1, Sk.ld hk _ mz, (c.2 _ mz).2.1, (c.2 _ mz).2.2.1⟩
    · exact g0.sc.cl a x hx
  · rcases z with z | z
    · exact g0.sub a (.inl z)
    · rcases addC_none z with q | ⟨x, q⟩
      · exact g0.sub a (.inr q)
      · rcases (c.2 _ q).2.2.2 with y | y
        · exact .inl (.inl y)
        · exact .inr y
theorem new_core {m : M U} {k : U → MS} (q : dG X W pr (dNew m k) D σ H) : ∃ B e, SR (ga X) B H e σ ∧ tAt (ga X) W (rlT (ga X)) m B H e σ fun v H1 => ∃ B1 e1 w, SR (ga X) B1 H1 e1 σ ∧ rep (ga X) B1 w v ∧ sAt (ga X) W pr (k w) B1 H1 e1 σ D := by
  obtain ⟨B, e, T, κ, s, q, kk⟩ := q
  refine ⟨B, e, s.sr, ?_⟩
  have q : newK T κ k (m e) := q
  have mono : ∀ x, may H e σ x → mayC H e σ T x := fun x z => z.imp .inl id
  unfold tAt
  cases z : m e with
  | bad => rw [z] at q; exact q.elim
  | exc c u e' => rw [z] at q; exact fun cls d B' H' g r => kk _ q cls d B' H' σ (GoC.ofGo s g).drop Kp.refl (r.mono mono)
  | ok u e1 =>
    rw [z] at q
    rintro v B1 H1 g ⟨w, L, k1, k2, k3⟩
    obtain ⟨nT, G⟩ := GoC.add s g k1 k2
    have q2 := q.2 w L k1 k2.1 nT
    refine ⟨B1, e1, w, g.sr, k3, ?_⟩
    exact run_at (m := k w) G.sc q2 fun o ho => rsC.later G Kp.refl (kk o ho)
def sTk (i : Nat) (w : U) : MS := fun e => .nx (e.set i (some (false, w)))
end
end VS
set_option Elab.async false
set_option linter.all false
set_option maxRecDepth 100000
namespace VS
open PySem L2
open Classical in
noncomputable def mLcD (m : M Src) (t : MT) (tt : M Bool) (te : M U) (vs : List Nat) : M U := m.bd fun s e =>
  if gOK s.g s.src (wipeE e vs) then match lcL t tt te vs s.g s.src s.items [] (wipeE e vs) with
    | some (acc, e') => .ok (.lst acc) (resE e e' vs)
    | none => .bad
  else .bad
theorem mLcD_eq {m : M Src} {t : MT} {tt : M Bool} {te : M U} {vs : List Nat} {e : En} : mLcD m t tt te vs e = mF (mLc m t tt te vs) e := by
  unfold mLcD mF mLc M.bd
  cases m e with
  | bad => rfl
  | exc c u e' => rfl
  | ok s e1 =>
    dsimp only
    split
    · cases lcL t tt te vs s.g s.src s.items [] (wipeE e1 vs) <;> rfl
    · rfl
def PvT (Γ : Ga) (σ : St) (H1 : Hp) (e1 : En) (D : Addr) (B H : Hp) (e : En) (acc : List U) (vacc : List V) : Prop :=
  ∃ ws L, Sks acc ws L ∧ reps Γ B ws vacc ∧ CL Γ (fun a => a ≠ D ∧ may H1 e1 σ a) B H e σ L
theorem PvT.keep {Γ : Ga} {σ : St} {H1 : Hp} {e1 : En} {D : Addr} {B H B' H' : Hp} {e e' : En} {acc : List U} {vacc : List V} (h : PvT Γ σ H1 e1 D B H e acc vacc) (g : Go Γ B H e σ B' H' e' σ) : PvT Γ σ H1 e1 D B' H' e' acc vacc := by
  obtain ⟨ws, L, d, r, c⟩ := h
  exact ⟨ws, L, d, r.mono g.st.bb, c.keep g⟩
theorem PvT.setD {Γ : Ga} {σ : St} {H1 : Hp} {e1 : En} {D : Addr} {B H : Hp} {e : En} {acc : List U} {vacc : List V} {o : HO} (h : PvT Γ σ H1 e1 D B H e acc vacc) : PvT Γ σ H1 e1 D B (upd H D o) e acc vacc := by
  obtain ⟨ws, L, d, r, c⟩ := h
  refine ⟨ws, L, d, r, c.1, fun p hp => ?_⟩
  obtain ⟨⟨ho, h1, h2⟩, b, n, nD, m⟩ := c.2 p hp
  exact ⟨⟨ho, by rw [upd_ne nD]; exact h1, h2⟩, b, n, nD, m⟩
section
variable {X : Cx} {W : WXX} {tg iter elt ex : Expr} {ifs : List Expr} {scope : Scope} {own' : List (Str × Nat)} {pos : Pos}
theorem lcD_core {m : M Src} {t : MT} {tt : M Bool} {te : M U} {vs : List Nat} (σ : St) (H : Hp) (Q : VK) (q : tG (ga X) W (rlT (ga X)) (mLcD m t tt te vs) σ H Q) :
    tLc (iG (ga X) W m) (gG (ga X) (prB vs) t) (tG (ga X) W0 rlB tt) (tG (ga X) W0 (rlT (ga X)) te) vs σ H Q := by
  obtain ⟨B, e, sr, q⟩ := q
  refine ⟨B, e, sr, ?_⟩
  unfold tAt mLcD M.bd at q
  cases z : m e with
  | bad => rw [z] at q; exact q
  | exc c u e' => rw [z] at q; exact q
  | ok s e1 =>
    rw [z] at q
    dsimp only at q ⊢
    intro J B1 H1 g1 io _ D hD
    split at q
    · rename_i a' e'' hq
      split at hq
      · rename_i hgo0
        split at hq
        · rename_i acc0 e0 hl
          injection hq with ha he
          subst ha he
          have bD : B1 D = none := g1.sr.none_of hD
          have nD : ¬ own e1 σ D := g1.sr.not_own hD
          refine ⟨fun k m H' => m = s.items.length - k ∧ k ≤ s.items.length ∧ ∃ B' e' acc vacc, Go (ga X) B1 H1 e1 σ B' H' e' σ ∧ Emp e' vs ∧ gOK s.g s.src e' ∧ H' D = some (.lst vacc) ∧ PvT (ga X) σ H1 e1 D B' H' e' acc vacc ∧ B' D = none ∧ ¬ own e' σ D ∧
            lcL t tt te vs s.g s.src (s.items.drop k) acc e' = some (acc0, e0), ⟨_, rfl, Nat.zero_le _, B1, wipeE e1 vs, [], [], ?_, emp_wipe _ _, hgo0, upd_same, ⟨[], [], by simp only [Sks]; exact ⟨trivial, trivial⟩, by simp only [reps], ⟨List.nodup_nil, fun p hp => by cases hp⟩⟩, bD, fun w => nD (own_wipeE w), by simpa using hl⟩, ?_⟩
          · exact Go.setD (Go.wipeE g1.sr) hD bD fun w => nD (own_wipeE w)
          · rintro k m H' ⟨rfl, hk, B', e', acc, vacc, g', em, go, hHD, ra, bD', nD', hl'⟩
            have gp : gP (ga X) s.g s.src σ B' H' := go.p g'.sr fun i hi => rfl
            have sb := g'.st.bb
            by_cases hlt : k < s.items.length
            · refine .inr ?_
              have hu : s.items[k]? = some s.items[k] := by simp [hlt]
              obtain ⟨j1, j2⟩ := io.go B' H' k _ sb g'.sr.bh gp hu
              rw [List.drop_eq_getElem_cons hlt] at hl'
              unfold lcL at hl'
              refine ⟨j1, fun H2 => ∃ B2 e2 acc vacc, Go (ga X) B1 H1 e1 σ B2 H2 e2 σ ∧ Emp e2 vs ∧ gOK s.g s.src e2 ∧ H2 D = some (.lst vacc) ∧ PvT (ga X) σ H1 e1 D B2 H2 e2 acc vacc ∧ B2 D = none ∧ ¬ own e2 σ D ∧
                lcL t tt te vs s.g s.src (s.items.drop (k + 1)) acc e2 = some (acc0, e0), fun H2 ⟨B2, e2, ac, va, h1, h2, h3, h4, h5, h6, h7, h8⟩ => ⟨s.items.length - (k + 1), by omega, rfl, hlt, B2, e2, ac, va, h1, h2, h3, h4, h5, h6, h7, h8⟩, fun x H'' y => ?_⟩
              obtain ⟨B'', lt, rx⟩ := j2 x H'' y
              have gl := lt.go g'.sr
              have gw := lt.go (g'.sr.ag em (ag_wipe σ vs))
              refine ⟨B'', e', _, gw.sr, rx, ?_⟩
              cases h1 : t s.items[k] e' with
              | none => rw [h1] at hl'; cases hl'
              | some e2 =>
                rw [h1] at hl'
                dsimp only at hl' ⊢
                intro B2 H2 σ2 g2 k2
                have ag2 : Ag vs (wipe σ vs) σ2 := kp_ag k2
                · refine ⟨(wipe_ag ag2).symm.trans (wipe_ag (ag_wipe σ vs)).symm, B2, e2, g2.sr, ?_⟩
                  unfold tAt
                  cases h2 : tt e2 with
                  | bad => rw [h2] at hl'; cases hl'
                  | exc c u e3 => rw [h2] at hl'; cases hl'
                  | ok b e3 =>
                    rw [h2] at hl'
                    dsimp only
                    intro b' B3 H3 g3 eb
                    have eb : b = b' := eb
                    subst eb
                    have G3 : ∀ {B4 H4 : Hp} {e4 : En}, Go (ga X) B3 H3 e3 σ2 B4 H4 e4 σ2 → Go (ga X) B1 H1 e1 σ B4 H4 (wipeE e4 vs) σ := fun {B4 H4 e4} g4 =>
                      g'.trans (Go.blk em (ag_wipe σ vs) (((gw.trans g2).trans g3).trans g4) ag2)
                    have own4 : ∀ {B4 H4 : Hp} {e4 : En}, Go (ga X) B3 H3 e3 σ2 B4 H4 e4 σ2 → H4 D = some (.lst vacc) ∧ B4 D = none ∧ ¬ own (wipeE e4 vs) σ D := fun {B4 H4 e4} g4 => by
                      have gg := Go.blk em (ag_wipe σ vs) (((gw.trans g2).trans g3).trans g4) ag2
                      refine ⟨gg.st.fr D _ hHD nD', gg.st.nb D _ hHD nD' bD', fun w => ?_⟩
                      rcases gg.sub D w with q | q
                      · exact nD' q
                      · rw [hHD] at q; cases q
                    cases b with
                    | false =>
                      rw [if_neg Bool.false_ne_true]
                      dsimp only at hl'
                      split at hl'
                      · rename_i hgo
                        obtain ⟨o1, o2, o3⟩ := own4 (Go.refl g3.sr)
                        exact ⟨B3, wipeE e3 vs, acc, vacc, G3 (Go.refl g3.sr), emp_wipe _ _, hgo, o1, ra.keep (Go.blk em (ag_wipe σ vs) ((gw.trans g2).trans g3) ag2), o2, o3, hl'⟩
                      · cases hl'
                    | true =>
                      rw [if_pos rfl]
                      dsimp only at hl'
                      refine ⟨B3, e3, g3.sr, ?_⟩
                      unfold tAt
                      cases h3 : te e3 with
                      | bad => rw [h3] at hl'; cases hl'
                      | exc c u e4 => rw [h3] at hl'; cases hl'
                      | ok y e4 =>
                        rw [h3] at hl'
                        dsimp only at hl' ⊢
                        intro v B4 H4 g4 rv
                        split at hl'
                        · rename_i hgo
                          obtain ⟨o1, o2, o3⟩ := own4 g4
                          have chain := (gw.trans g2).trans g3
                          have gg := Go.blk em (ag_wipe σ vs) (chain.trans g4) ag2
                          have ra_len : acc.length = vacc.length := by
                            obtain ⟨ws, L, d0, r0, _⟩ := ra
                            rw [← r0.length, d0.len]
                          obtain ⟨ws, L, d4, r0, c0⟩ := ra
                          have ra_some : ∀ p ∈ L, ∃ o, H' p.1 = some o ∧ ¬ own e' σ p.1 := fun p hp => by
                            obtain ⟨⟨ho, h6, _⟩, _, n6, _⟩ := c0.2 p hp
                            exact ⟨ho, h6, n6⟩
                          have c4 := c0.keep gg
                          have r4 := r0.mono gg.st.bb
                          obtain ⟨w5, L5, d5, c5, r5⟩ := rv
                          have aa : Ag vs σ2 σ := ⟨ag2.1.symm.trans (ag_wipe σ vs).1.symm, fun i n => (ag2.2 i n).symm.trans ((ag_wipe σ vs).2 i n).symm⟩
                          have notmay : ∀ a o, H' a = some o → ¬ own e' σ a → ¬ may H3 e3 σ2 a := fun a o ha na z => by
                            have nw : ¬ own e' (wipe σ vs) a := fun w => na (own_ag em (ag_wipe σ vs).symm w)
                            rcases z with z | z
                            · rcases chain.sub a z with y | y
                              · exact nw y
                              · rw [ha] at y; cases y
                            · rw [chain.st.fr a o ha nw] at z; cases z
                          have may1 : ∀ a, may H3 e3 σ2 a → may H1 e1 σ a := fun a z => by
                            refine g'.may a ?_
                            rcases chain.may a z with y | y
                            · exact .inl (own_ag em (ag_wipe σ vs).symm y)
                            · exact .inr y
                          have fD : ∀ p ∈ L5, p.1 ≠ D := fun p hp z => notmay D _ hHD nD' (by rw [← z]; exact (c5.2 p hp).2.2.2)
                          have c6 : CL (ga X) (fun a => a ≠ D ∧ may H1 e1 σ a) B4 H4 (wipeE e4 vs) σ L5 := ⟨c5.1, fun p hp => ⟨(c5.2 p hp).1, (c5.2 p hp).2.1, fun z => (c5.2 p hp).2.2.1 (own_wipeE (own_ag (emp_wipe e4 vs) aa.symm z)), fD p hp, may1 p.1 (c5.2 p hp).2.2.2⟩⟩
                          have dis : ∀ p ∈ L, ∀ q ∈ L5, p.1 ≠ q.1 := fun p hp q hq z => by
                            obtain ⟨ho, h6⟩ := ra_some p hp
                            exact notmay p.1 ho h6.1 h6.2 (by rw [z]; exact (c5.2 q hq).2.2.2)
                          refine ⟨vacc, o1, by rw [← ra_len]; exact hgo.1, B4, wipeE e4 vs, acc ++ [y], vacc ++ [v], Go.setD (G3 g4) hD o2 o3, emp_wipe _ _, hgo.2, upd_same, PvT.setD ⟨ws ++ [w5], L ++ L5, d4.app (Sks.one d5), r4.snoc r5, c4.app c6 dis⟩, o2, o3, hl'⟩
                        · cases hl'
            · have ek : k = s.items.length := by omega
              subst ek
              refine .inl ⟨io.stop B' H' sb g'.sr.bh gp, ?_⟩
              rw [List.drop_length] at hl'
              unfold lcL at hl'
              injection hl' with hl'
              injection hl' with ha he
              subst ha he
              refine q (.ref D) B' H' (g1.trans (Go.res g1.sr g')) ?_
              obtain ⟨ws, L, d1, r1, c1⟩ := ra
              have nR : ∀ a, ¬ own e' σ a → ¬ own (resE e1 e' vs) σ a := fun a na w => by
                obtain ⟨i, u, w1, w2⟩ := w
                rcases resE_get e1 e' vs w1 with w1 | ⟨_, w1⟩
                · exact na ⟨i, u, w1, w2⟩
                · cases w1
              refine ⟨.adr D, (D, .lst ws) :: L, by simp only [Sk]; exact ⟨D, ws, L, rfl, d1, rfl⟩, ⟨?_, fun p hp => ?_⟩, by simp only [rep]⟩
              · rw [List.map_cons, List.nodup_cons]
                refine ⟨fun z => ?_, c1.1⟩
                obtain ⟨p, hp, e5⟩ := List.mem_map.mp z
                exact (c1.2 p hp).2.2.2.1 e5
              · rcases List.mem_cons.mp hp with z | z
                · subst z
                  exact ⟨⟨_, hHD, vacc, rfl, r1⟩, bD', nR _ nD', g1.may _ (.inr hD)⟩
                · exact ⟨(c1.2 p z).1, (c1.2 p z).2.1, nR p.1 (c1.2 p z).2.2.1, g1.may p.1 (c1.2 p z).2.2.2.2⟩
        · cases hq
      · cases hq
    · rename_i hq
      split at hq
      · split at hq <;> cases hq
      · cases hq
    · exact q.elim
end
section
variable {Γ : Ga} {B H B' H' : Hp} {as : List Ar} {vs : List V} {N : List Str} {n : Nat} {pr : Nat → Bool} {e' : En} {σ' : St}
end
section
variable {X : Cx} {W : WXX} {k n : Nat} {x : Str} {φ : Fs} {ex : Expr} {es : List Expr} {p pos : Pos} {m : M (List Od)}
end
end VS
set_option Elab.async false
set_option linter.all false
set_option maxRecDepth 100000
namespace VS
open PySem L2
theorem FrL.at {Γ : Ga} {S : Addr → Prop} {B H : Hp} {e : En} {σ : St} : ∀ {rs : List (Bool × U)} {vs : List V}, FrL Γ S B H e σ rs vs → ∀ (j : Nat) u x, rs[j]? = some (true, u) → vs[j]? = some (.ref x) → S x
  | [], _, h, j, u, x, q, _ => by simp at q
  | r :: rs, _, ⟨v, ws, e1, h1, h2, h3⟩, j, u, x, q, k => by
    subst e1
    cases j with
    | zero =>
      simp only [List.getElem?_cons_zero, Option.some.injEq] at q k
      subst q k
      obtain ⟨b, ho, x1, x2, x3, x4, x5, x6⟩ := h1
      cases x1
      exact x6
    | succ j => exact FrL.at h2 j u x (by simpa using q) (by simpa using k)
section
variable {X : Cx} {W : WXX} {ex : Expr} {es : List Expr} {pos : Pos} {pr : Nat → Bool}
end
section
variable {X : Cx} {W : WXX} {pr pr' : Nat → Bool} {B H B1 H1 : Hp} {e e1 : En} {σ σ1 : St} {T T1 : Cel} {D : Ends} {pos : Pos}
end
def ifK (a b : DS) (T : Cel) (κ : Ou → Prop) : R Bool → Prop
  | .ok true e => a.wp e T κ
  | .ok false e => b.wp e T κ
  | .exc c u e => κ (.exc c u e)
  | .bad => False
def dIf (c : M Bool) (a b : DS) : DS where
  wp e T κ := ifK a b T κ (c e)
  mono {e T κ κ'} f h := by
    revert h
    unfold ifK
    cases c e with
    | bad => exact fun h => h
    | exc c u e' => exact fun h => f _ h
    | ok k e' =>
      cases k with
      | true => exact fun h => a.mono f h
      | false => exact fun h => b.mono f h
  det {e T κ κ'} f h k := by
    revert h k
    unfold ifK
    cases c e with
    | bad => exact fun h => h.elim
    | exc c u e' => exact fun h k => ⟨_, h, k, trivial⟩
    | ok t e' =>
      cases t with
      | true => exact fun h k => a.det f h k
      | false => exact fun h k => b.det f h k
section
variable {X : Cx} {W : WXX} {pr pr' : Nat → Bool} {B H B1 H1 : Hp} {e e1 : En} {σ σ1 : St} {T T1 : Cel} {D : Ends} {pos : Pos}
theorem dt_if {c : Expr} {p q : List Stmt} {mc : M Bool} {ma mb : DS} (hc : PTB X W c mc) (ha : DPs X W pr p ma) (hb : DPs X W pr q mb) : DPt X W pr (.If c p q pos) (dIf mc ma mb) := by
  refine PSimp (ps_if hc ha hb) fun D σ H ⟨B, e, T, κ, s, q, kk⟩ => ⟨B, e, s.sr, ?_⟩
  have q : ifK ma mb T κ (mc e) := q
  have mono : ∀ x, may H e σ x → mayC H e σ T x := fun x z => z.imp .inl id
  unfold tAt
  cases z : mc e with
  | bad => rw [z] at q; exact q.elim
  | exc c u e' => rw [z] at q; exact fun cls d B' H' g r => kk _ q cls d B' H' σ (GoC.ofGo s g).drop Kp.refl (r.mono mono)
  | ok k e1 =>
    rw [z] at q
    intro k' B1 H1 g ek
    have ek : k = k' := ek
    subst ek
    have G := GoC.ofGo s g
    cases k with
    | true => exact ⟨B1, e1, T, κ, G.sc, q, fun o ho => rsC.later G Kp.refl (kk o ho)⟩
    | false => exact ⟨B1, e1, T, κ, G.sc, q, fun o ho => rsC.later G Kp.refl (kk o ho)⟩
end
def forK (g : Option Nat) (src : List U) (κ : Ou → Prop) (nxt : En → Cel → Prop) : Ou → Prop
  | .nx e T => gOK g src e ∧ nxt e T
  | .ct e T => gOK g src e ∧ nxt e T
  | .bk e T => κ (.nx e T)
  | o => κ o
def forD (t : MT) (b : DS) (g : Option Nat) (src : List U) (κ : Ou → Prop) : List U → En → Cel → Prop
  | [], e, T => κ (.nx e T)
  | u :: us, e, T => match t u e with
    | some e1 => b.wp e1 T (forK g src κ (forD t b g src κ us))
    | none => False
theorem forD_mono {t : MT} {b : DS} {g : Option Nat} {src : List U} {κ κ' : Ou → Prop} (f : ∀ o, κ o → κ' o) : ∀ {us : List U} {e : En} {T : Cel}, forD t b g src κ us e T → forD t b g src κ' us e T
  | [], _, _, h => f _ h
  | u :: us, e, T, h => by
    unfold forD at h ⊢
    split at h
    · refine b.mono (fun o ho => ?_) h
      cases o with
      | nx e T => exact ⟨ho.1, forD_mono f ho.2⟩
      | ct e T => exact ⟨ho.1, forD_mono f ho.2⟩
      | bk e T => exact f (.nx e T) ho
      | rt o u e => exact f (.rt o u e) ho
      | exc o u e => exact f (.exc o u e) ho
    · exact h.elim
theorem forD_det {t : MT} {b : DS} {g : Option Nat} {src : List U} {κ κ' : Ou → Prop} : ∀ {us : List U} {e : En} {T : Cel}, VS.fin T → forD t b g src κ us e T → forD t b g src κ' us e T → ∃ o, κ o ∧ κ' o ∧ o.fin
  | [], _, _, f, h, k => ⟨_, h, k, f⟩
  | u :: us, e, T, f, h, k => by
    unfold forD at h k
    cases z : t u e with
    | none => rw [z] at h; exact h.elim
    | some e1 =>
      rw [z] at h k
      obtain ⟨o, h1, h2, h3⟩ := b.det f h k
      cases o with
      | nx e T => exact forD_det h3 h1.2 h2.2
      | ct e T => exact forD_det h3 h1.2 h2.2
      | bk e T => exact ⟨.nx e T, h1, h2, h3⟩
      | rt o u e => exact ⟨.rt o u e, h1, h2, h3⟩
      | exc o u e => exact ⟨.exc o u e, h1, h2, h3⟩
def dForK (t : MT) (b : DS) (T : Cel) (κ : Ou → Prop) : R Src → Prop
  | .ok s e => forD t b s.g s.src κ s.items e T
  | .exc c u e => κ (.exc c u e)
  | .bad => False
def dFor (m : M Src) (t : MT) (b : DS) : DS where
  wp e T κ := dForK t b T κ (m e)
  mono {e T κ κ'} f h := by
    revert h
    unfold dForK
    cases m e with
    | bad => exact fun h => h
    | exc c u e' => exact fun h => f _ h
    | ok s e' => exact fun h => forD_mono f h
  det {e T κ κ'} f h k := by
    revert h k
    unfold dForK
    cases m e with
    | bad => exact fun h => h.elim
    | exc c u e' => exact fun h k => ⟨_, h, k, trivial⟩
    | ok s e' => exact fun h k => forD_det f h k
section
variable {X : Cx} {W : WXX} {pr pr' : Nat → Bool} {tg iter c : Expr} {body : List Stmt} {pos : Pos}
theorem dt_for {m : M Src} {t : MT} {b : DS} (hp : PassesOwn (model X.prog X.w) X.A X.env X.xe) (hc : X.calm = true) (hi : PIV X W tg iter m) (hs' : SrcIn pr' m) (hpr : ∀ i, pr i = true → pr' i = true) (hg : PGV X pr' tg t) (hb : DPs X W pr' body b)
    (hs : ∀ x, foldedSetIterable iter X.env x = pure x := by intro _; rfl) : DPt X W pr (.For tg iter body [] pos) (dFor m t b) := by
  refine PSimp (ps_for hp hc hi hg hb hs) fun D σ H ⟨B, e, T, κ, s0, q, kk⟩ => ⟨B, e, s0.sr, ?_⟩
  have q : dForK t b T κ (m e) := q
  have mono : ∀ x, may H e σ x → mayC H e σ T x := fun x z => z.imp .inl id
  cases z : m e with
  | bad => rw [z] at q; exact q.elim
  | exc c u e' => rw [z] at q; exact fun cls d B' H' g r => kk _ q cls d B' H' σ (GoC.ofGo s0 g).drop Kp.refl (r.mono mono)
  | ok s e1 =>
    rw [z] at q
    have q : forD t b s.g s.src κ s.items e1 T := q
    dsimp only
    intro J B1 H1 g1 io g0
    have pi := hs' e s e1 z
    have kk' : ∀ o, κ o → rsC (ga X) W pr' B H e σ T D o := fun o ho => rsC.sub hpr (kk o ho)
    refine ⟨fun k m σ' H' => m = s.items.length - k ∧ k ≤ s.items.length ∧ ∃ B' e' T', GoC (ga X) B H e σ T B' H' e' σ' T' ∧ Same B1 B' ∧ Kp pr' σ σ' ∧ gOK s.g s.src e' ∧ forD t b s.g s.src κ (s.items.drop k) e' T',
      ⟨_, rfl, Nat.zero_le _, B1, e1, T, GoC.ofGo s0 g1, Same.refl _, Kp.refl, g0, by simpa using q⟩, ?_⟩
    rintro k m σ' H' ⟨rfl, hk, B', e', T', g', sb, kp, go, r⟩
    have gp := go.p g'.sc.sr fun i hi => kp.2 i (pi i hi)
    by_cases hlt : k < s.items.length
    · refine .inr ?_
      have hu : s.items[k]? = some s.items[k] := by simp [hlt]
      obtain ⟨j1, j2⟩ := io.go B' H' k _ sb g'.sc.sr.bh gp hu
      rw [List.drop_eq_getElem_cons hlt] at r
      unfold forD at r
      refine ⟨j1, fun σ2 H2 => ∃ B2 e2 T2, GoC (ga X) B H e σ T B2 H2 e2 σ2 T2 ∧ Same B1 B2 ∧ Kp pr' σ σ2 ∧ gOK s.g s.src e2 ∧ forD t b s.g s.src κ (s.items.drop (k + 1)) e2 T2,
        fun σ2 H2 ⟨B2, e2, T2, h1, h2, h3, h4, h5⟩ => ⟨s.items.length - (k + 1), by omega, rfl, hlt, B2, e2, T2, h1, h2, h3, h4, h5⟩, fun x H'' y => ?_⟩
      obtain ⟨B'', lt, rx⟩ := j2 x H'' y
      have gl := GoC.ofGo g'.sc (lt.go g'.sc.sr)
      have g'' := g'.trans gl
      refine ⟨B'', e', _, g''.sc.sr, rx, ?_⟩
      cases h1 : t s.items[k] e' with
      | none => rw [h1] at r; exact r.elim
      | some e2 =>
        rw [h1] at r
        dsimp only at r ⊢
        intro B2 H2 σ2 g2 k2
        have gs := GoC.ofGo g''.sc g2
        refine ⟨B2, e2, T', _, gs.sc, r, fun o ho => ?_⟩
        have G2 := g''.trans gs
        have K2 := kp.trans k2
        have S2 : Same B1 B2 := sb.trans ((lt.go g'.sc.sr).st.bb.trans g2.st.bb)
        cases o with
        | nx e3 T3 => exact fun B3 H3 σ3 g3 k3 => ⟨B3, e3, T3, G2.trans g3, S2.trans g3.st.bb, K2.trans k3, ho.1, ho.2⟩
        | ct e3 T3 => exact fun B3 H3 σ3 g3 k3 => ⟨B3, e3, T3, G2.trans g3, S2.trans g3.st.bb, K2.trans k3, ho.1, ho.2⟩
        | bk e3 T3 => exact fun B3 H3 σ3 g3 k3 => kk' (.nx e3 T3) ho B3 H3 σ3 (G2.trans g3) (K2.trans k3)
        | rt o u e3 => exact rsC.later G2 K2 (kk' (.rt o u e3) ho)
        | exc c u e3 => exact rsC.later G2 K2 (kk' (.exc c u e3) ho)
    · have ek : k = s.items.length := by omega
      subst ek
      refine .inl ⟨io.stop B' H' sb g'.sc.sr.bh gp, ?_⟩
      rw [List.drop_length] at r
      unfold forD at r
      exact kk' _ r B' H' σ' g' kp
end
def resK (pr : Nat → Bool) (n : Nat) (r : RF) : Ou → Prop
  | .nx e _ => r = .ok (false, .non) (outS pr n e)
  | .rt o u e => r = .ok (o, u) (outS pr n e)
  | .exc c u e => r = .exc c u (outS pr n e)
  | _ => False
open Classical in
noncomputable def fnC (N n : Nat) (pr : Nat → Bool) (b : DS) : Fs := fun as => if as.length = n ∧ n ≤ N then
    if h : ∃ r, b.wp (enA as ++ List.replicate (N - n) none) emp (resK pr n r) then h.choose else .bad
  else .bad
theorem resK_uniq {pr : Nat → Bool} {n : Nat} {r r' : RF} {o : Ou} (h : resK pr n r o) (k : resK pr n r' o) : r = r' := by
  cases o with
  | nx e T => exact (show r = _ from h).trans (show r' = _ from k).symm
  | rt o u e => exact (show r = _ from h).trans (show r' = _ from k).symm
  | exc o u e => exact (show r = _ from h).trans (show r' = _ from k).symm
  | bk e T => exact h.elim
  | ct e T => exact h.elim
theorem fnC_eq {N n : Nat} {pr : Nat → Bool} {b : DS} {as : List Ar} {r : RF} (hl : as.length = n) (hn : n ≤ N) (h : b.wp (enA as ++ List.replicate (N - n) none) emp (resK pr n r)) : fnC N n pr b as = r := by
  have ex : ∃ r, b.wp (enA as ++ List.replicate (N - n) none) emp (resK pr n r) := ⟨r, h⟩
  unfold fnC
  rw [if_pos ⟨hl, hn⟩, dif_pos ex]
  obtain ⟨o, h1, h2, _⟩ := b.det fin_emp ex.choose_spec h
  exact resK_uniq h1 h2
section
variable {X : Cx} {Γ : Ga} {B H B' H' : Hp} {as : List Ar} {vs : List V} {N : List Str} {n : Nat} {pr : Nat → Bool} {e' : En} {σ' : St}
theorem bodyC_q {b : DS} {Q : VK} {E : XK} (hp : spV (ga X) n (fnC N.length n pr b) vs H Q E) : dG X (fun cls d _ H => E cls d H) pr b { nx := fun _ H' => Q .non H', rt := Q } (start N vs) H := by
  obtain ⟨hl, B, as, s, q⟩ := hp
  unfold fnC at q
  by_cases c : as.length = n ∧ n ≤ N.length
  · rw [if_pos c] at q
    by_cases ex : ∃ r, b.wp (enA as ++ List.replicate (N.length - n) none) emp (resK pr n r)
    · rw [dif_pos ex] at q
      have h := ex.choose_spec
      revert q h
      generalize ex.choose = r
      intro q h
      refine ⟨B, _, emp, _, SC.emp (ent_sr s hl), h, fun o ho => ?_⟩
      have old : ∀ {B' H' : Hp} {e' : En} {σ' : St} {T' : Cel}, GoC (ga X) B H (enA as ++ List.replicate (N.length - n) none) (start N vs) emp B' H' e' σ' T' → Go (ga X) B H (enA as ++ List.replicate (N.length - n) none) (start N vs) B' H' e' σ' := fun g =>
        ⟨⟨g.st.bb, fun a o h n => g.st.fr a o h fun z => n (z.resolve_right fun y => y rfl), fun a o h n b => g.st.nb a o h (fun z => n (z.resolve_right fun y => y rfl)) b⟩, g.sc.sr, fun a z => (g.sub a (.inl z)).imp (fun z => z.resolve_right fun y => y rfl) id⟩
      have sm : ∀ x, mayC H (enA as ++ List.replicate (N.length - n) none) (start N vs) emp x → may H (enA as ++ List.replicate (N.length - n) none) (start N vs) x := fun x z => z.imp (fun z => z.resolve_right fun y => y rfl) id
      cases o with
      | nx e T =>
        have ho : r = _ := ho
        subst ho
        exact fun B' H' σ' g kp => q .non B' H' (out_go hl (old g) kp) (by show rep (ga X) B' .non .non; simp only [rep])
      | rt o u e =>
        have ho : r = _ := ho
        subst ho
        exact fun v B' H' σ' g kp r => q v B' H' (out_go hl (old g) kp) (out_rl hl kp ((rlO _).mono sm r))
      | exc c u e =>
        have ho : r = _ := ho
        subst ho
        exact fun cls d B' H' σ' g kp x => q cls d B' H' (out_go hl (old g) kp) (x.mono fun a m => (sm a m).imp (ent_own hl) id)
      | bk e T => exact ho.elim
      | ct e T => exact ho.elim
    · rw [dif_neg ex] at q
      exact q.elim
  · rw [if_neg c] at q
    exact q.elim
end
theorem fnC_rule {P : Program} {w : World} {K : PySem.W.Frag} {mg : Str → Option Value} {base : Heap} {x qual : Str} {params : Arguments} {body : List Stmt} {scope : Scope} {f : Addr} {fd : FuncData} {N ps : List Str} {k : Nat} {pr : Nat → Bool} {b : DS}
    (hm : mg x = some (.ref f)) (F : FunD K x qual params body scope [] [] f fd) (S : FnScope N ps scope)
    (hb : ∀ (kV doc pm : Value) (an : Option Addr) (cdv ct : Value) (us : List Value), us.length = ps.length → bindArgs (PySem.W.fnOf x qual params body scope .none kV doc pm an cdv ct) ⟨us, []⟩ = pure (ps.zip us))
    (hbody : ∀ (cdv : Value) (A : Around) (outer : List Env) (s : Shared) (H : Hp) (E : XK), Ct (cxOf (L2.CX P w) P w K mg base N qual scope f cdv A outer s H E) (WEx E) k → DPs (cxOf (L2.CX P w) P w K mg base N qual scope f cdv A outer s H E) (WEx E) pr body b) :
    FnV P w K mg base (k + 1) x ps.length (fnC N.length ps.length pr b) := by
  refine ⟨f, fd, ps, hm, F.ok S (fun vs H Q E h => h.1) fun cdv A outer s H vs Q E hr hp => ?_, F.kp, F.bindsN hb⟩
  have ct : Ct (cxOf (L2.CX P w) P w K mg base N qual scope f cdv A outer s H E) (WEx E) k := ⟨fun σ => passAt (takes_of rfl rfl rfl rfl) σ, rfl, S.nd, hr, passes_of rfl, takes_of rfl rfl rfl rfl⟩
  exact ⟨_, hbody cdv A outer s H E ct, bodyC_q (X := cxOf (L2.CX P w) P w K mg base N qual scope f cdv A outer s H E) hp⟩
end VS
namespace VS
open PySem L2
section
variable {X : Cx} {W : WXX} {pr pr' : Nat → Bool}
end
end VS
set_option Elab.async false
set_option linter.all false
set_option maxRecDepth 100000
namespace VS
open PySem L2
theorem FrL.get {Γ : Ga} {S : Addr → Prop} {B H : Hp} {e : En} {σ : St} : ∀ {rs : List (Bool × U)} {vs : List V} {j : Nat} {r : Bool × U}, FrL Γ S B H e σ rs vs → rs[j]? = some r → ∃ v, vs[j]? = some v ∧ (rlO Γ).r r v S B H e σ
  | [], _, j, r, _, h => by simp at h
  | r0 :: rs, _, 0, r, ⟨v, ws, e1, h1, h2, h3⟩, h => by
    subst e1
    simp only [List.getElem?_cons_zero, Option.some.injEq] at h
    subst h
    exact ⟨v, rfl, h1⟩
  | r0 :: rs, _, j + 1, r, ⟨v, ws, e1, h1, h2, h3⟩, h => by
    subst e1
    obtain ⟨v', k1, k2⟩ := FrL.get (j := j) h2 (by simpa using h)
    exact ⟨v', by simpa using k1, k2⟩
section
variable {X : Cx} {W : WXX} {ex b : Expr} {es : List Expr} {pos p1 : Pos}
end
end VS
namespace VS
open PySem L2
section
variable {X : Cx} {W : WXX} {pr : Nat → Bool} {j : Nat} {D : Ends} {σ : St} {H : Hp}
end
end VS
namespace VS
open PySem L2
section
variable {X : Cx}
end
end VS
set_option Elab.async false
set_option linter.all false
set_option maxRecDepth 100000
namespace VS
open PySem L2
noncomputable def sInsL : U → List U → Option (U × U) := fun u us => match u, us with
  | .lst l, [.int i, w] => if cdec (l.length < sizeLine ∧ 0 ≤ i ∧ i < 2 ^ 63) then some (.lst (l.take i.toNat ++ [w] ++ l.drop i.toNat), .non) else none
  | _, _ => none
section
variable {X : Cx}
theorem ok_insert : MuOK X "list" "list.insert" isL sInsL := by
  refine ⟨_, _, ty_tyV, mt_insert, isL_ty, fun {B H u u' res us a ho xs Q} sb bn ha hn hs rs k => ?_⟩
  unfold sInsL at hs
  split at hs
  · split at hs
    · rename_i l i w hc
      rw [cdec_iff] at hc
      cases hs
      obtain ⟨vs, rfl, r⟩ := nod_lst hn
      simp only [reps, rep] at rs
      obtain ⟨x, t, rfl, rfl, y, t2, rfl, ry, rfl⟩ := rs
      refine ⟨a, vs, i, y, rfl, rfl, ha, by rw [← r.length]; exact hc.1, hc.2.1, hc.2.2, ?_⟩
      exact k _ _ ⟨_, rfl, ((r.take _).append (reps.cons' ry reps.nil')).append (r.drop _)⟩ (by simp only [rep])
    · cases hs
  · cases hs
end
end VS
namespace VH
open PySem PySem.Spec PyProof.Rows L2 He
end VH
set_option Elab.async false
set_option linter.all false
set_option maxRecDepth 100000
namespace VS
open PySem L2
section
variable {P : Program} {w : World} {A : Around} {E : Value → Shared → Prop} {s : Shared}
variable {d : Addr} {xs : List (NestedKey × Addr × Value)}
end
section
variable {X : Cx} {pins : List (Addr × Obj)} {σ : St} {B H : Hp} {s : Shared}
end
end VS
set_option Elab.async false
set_option linter.all false
set_option maxRecDepth 100000
set_option maxHeartbeats 2000000
namespace VS
open PySem L2
section
open PySem.W
variable {prog : Program} {w : World} {A : Around} {E : Value → Shared → Prop} {s : Shared} {d : Addr} {o : Obj} {es : Array DictEntry} {ep : Nat}
end
section
open PyProof.Rows LiI
variable {X : Cx} {W : WXX} {e : Expr}
end
section
open PyProof.Rows LiI
variable {X : Cx} {pins : List (Addr × Obj)} {σ : List (Option V)} {H : Hp} {s : Shared}
end
end VS
set_option Elab.async false
set_option linter.all false
set_option maxRecDepth 100000
namespace VS
open PySem L2
section
variable {X : Cx}
end
end VS
set_option Elab.async false
set_option linter.all false
set_option maxRecDepth 100000
namespace VS
open PySem PySem.Spec PyProof.Rows L2
section
variable {X : Cx}
end
section
variable {X : Cx} {W : WXX} {pr : Nat → Bool} {tg iter kx vx : Expr} {ifs : List Expr} {scope : Scope} {own' : List (PySem.Str × Nat)} {pos spos : Pos}
end
end VS
set_option Elab.async false
set_option linter.all false
set_option maxRecDepth 100000
set_option maxHeartbeats 2000000
namespace VS
open PySem PySem.Spec PyProof.Rows L2
def endsU (D : Ends) (i : Nat) : Ends := { nx := fun σ' H' => D.nx (σ'.set i none) H', rt := D.rt, bk := fun σ' H' => D.bk (σ'.set i none) H', ct := fun σ' H' => D.ct (σ'.set i none) H' }
def wManyA (K : PySem.W.Frag) (i : Nat) (Wout : WX) (D : Ends) : List (Value × (Addr → Value → Option Addr → TS)) → WX
  | [] => Wout
  | (c, ts) :: r => fun cls d σ H => ∃ b, PySem.W.exmOne K cls c = some b ∧ (b = true → i < σ.length → ∀ a, H a = none → ts a cls d (endsU D i) (σ.set i (some (.ref a))) H) ∧ (b = false → wManyA K i Wout D r cls d σ H)
inductive HdsA (X : Cx) (n : PySem.Str) : List ExceptHandler → List (Value × (Addr → Value → Option Addr → TS)) → Prop
  | nil : HdsA X n [] []
  | cons {x : PySem.Str} {c : Value} {ts : Addr → Value → Option Addr → TS} {b₀ : Stmt} {suite : List Stmt} {np pos' : Pos} {hds : List ExceptHandler} {l : List (Value × (Addr → Value → Option Addr → TS))} (hc : Names X x c)
      (hsu : ∀ (a : Addr) (oe : Obj) (cls : Value) (d : Option Addr) (pn : List (Addr × Obj)), Zc cls d oe → (∃ vs, oe.data = .fields vs) → PSs (X.suite a ((a, oe) :: pn)) (b₀ :: suite) (ts a cls d)) (r : HdsA X n hds l) :
      HdsA X n (.ExceptHandler (some (.Name x np)) (some n) (b₀ :: suite) pos' :: hds) ((c, ts) :: l)
section
variable {X : Cx} {n : PySem.Str} {i : Nat} {body : List Stmt} {h₀ : ExceptHandler} {hds : List ExceptHandler} {l : List (Value × (Addr → Value → Option Addr → TS))} {pos : Pos} {tb : WX → TS} {Wout : WX}
theorem ps_try_manyA (hs : X.stack = X.env :: X.outer) (hf : X.env.frame = some X.env.locals) (hN : X.N.Nodup) (hi : X.N[i]? = some n) (hln : X.env.kindOf n = some .local) (tk : Takes X Wout)
    (hb : ∀ (W : WX) (pn : List (Addr × Obj)) (xe : Value → Shared → Prop), Takes (X.tr pn xe) W → PassesOwn (model X.prog X.w) X.A X.env xe → PSs (X.tr pn xe) body (tb W))
    (hh : HdsA X n (h₀ :: hds) l) : PS X (.Try body (h₀ :: hds) [] [] pos) (fun D σ H => tb (wManyA X.K i Wout D l) D σ H) := by
  refine ⟨fun pins s σ H D I h => ?_⟩
  have ok := I.ok
  have hfr : X.A.frames = some (X.env :: X.outer) := by rw [ok.frames, hs]
  have hloc : Loc X.env.scope n := .inl hln
  refine wpAny_Try_except ?_
  refine wpAny_mono ((hb (wManyA X.K i Wout D l) (X.pn ++ pins) (fun e s₁ => wpAny (model X.prog X.w) X.A (noteFrame e X.env) (fun _ s₂ => wpAny (model X.prog X.w) X.A (setFlight e none) (fun _ s₃ =>
    wpAny (model X.prog X.w) X.A (handleBy e X.env (h₀ :: hds)) (SP X pins D) X.xe s₃) X.xe s₂) X.xe s₁) (fun u s' xx => ?_) PassesOwn.looking).run [] s σ H D (I.toTry _) h) (fun f s1 hsp => ?_) (fun e s1 he => he)
  · obtain ⟨a, B, sI, pins', σ', H', cls, d, rfl, J', nb, up, sky, na, os, ag, w⟩ := xx
    have J : Inv X pins σ' H' sI := J'.ofTry ok
    have sky' : Sky B (X.env :: X.outer) a (Zc cls d) X.env.locals s'.heap := by rw [← hs]; exact sky
    show wpAny (model X.prog X.w) X.A (noteFrame (.ref a) X.env) _ _ _
    refine Sky.land Zc.steady hfr hf sky' fun h3 fl3 up3 => ?_
    have J3 : Inv X pins σ' H' { s' with heap := h3 } := J.landed nb fl3.1 (up.trans up3) os ag
    obtain ⟨oe3, vs3, he3, hz3, hd3⟩ := fl3.there
    have notFr : ∀ {h : Heap} {o : Obj} {vs : Array Value}, h.FunFrames B (X.env :: X.outer) → h.get? a = some o → o.data = .fields vs → a ∉ frs (X.env :: X.outer) := fun {h o vs} ff e dd hm => by
      obtain ⟨_, o', e', hnf⟩ := ff.mem hm
      rw [e] at e'; cases e'
      exact hnf _ dd
    have nfr := notFr fl3.2.2.1 he3 hd3
    have nL : a ≠ X.env.locals := fun z => nfr (List.mem_filterMap.mpr ⟨X.env, List.mem_cons_self, by rw [hf, z]⟩)
    have nF : a ∉ X.fs := fun hm => by
      obtain ⟨e, he, q⟩ := List.mem_filterMap.mp hm
      exact nfr (List.mem_filterMap.mpr ⟨e, List.mem_cons_of_mem _ he, q⟩)
    have S3 := J3.suite he3 hd3 na nL nF
    have go : ∀ {hds' : List ExceptHandler} {l' : List (Value × (Addr → Value → Option Addr → TS))}, HdsA X n hds' l' → wManyA X.K i Wout D l' cls d σ' H' →
        wpAny (model X.prog X.w) X.A (handleBy (.ref a) X.env hds') (SP X pins D) X.xe { s' with heap := h3 } := by
      intro hds' l' hk
      induction hk with
      | nil =>
        intro w
        refine wpAny_handleBy_nil ?_
        obtain ⟨k1, k2, k3, oe, vs, T, oT, ts', he, hz, hd, h1, hr⟩ := id fl3
        unfold PySem.passOn
        refine wpAny_bind (wpAny_field he hd h1 ?_)
        rw [if_neg (show ¬ ((Value.ref T == Value.none) = true) from by simp)]
        have fin : wpAny (model X.prog X.w) X.A (setFlight (.ref a) X.env.frame) (fun _ s4 => wpAny (model X.prog X.w) X.A (throw (.ref a) : Sem Flow) (SP X pins D) X.xe s4) X.xe { s' with heap := h3 } := by
          rw [hf]
          refine HandSPX.setFlight_upZ fl3 fun h4 hh4 up4 => wpAny_throw (tk _ _ ?_)
          exact ⟨a, B, sI, pins, σ', H', cls, d, rfl, J, nb, (up.trans up3).trans up4, .inr (.inr (by rw [hs]; exact hh4)), na, os, ag, w⟩
        first
          | exact wpAny_bind (wpAny_pure (wpAny_bind fin))
          | exact wpAny_bind fin
      | @cons x c ts b₀ suite np pos' hds2 l2 hc hsu r ih =>
        intro w
        obtain ⟨b, hb1, hyes, hno⟩ := w
        refine wpAny_handleBy_cons (codeAny_handlers_test ?_) (by intro q; cases q)
        have LT : PySem.W.Looks (model X.prog X.w) h3 (typeOf (.ref a)) cls := fun A Q E s k q => wpAny_typeOf_ref (k _ _ he3) (by rw [hz3.1]; exact q)
        have LM := PySem.W.exm_one (M := model X.prog X.w) (J3.kIn) LT hb1
        have test : ∀ {Q : Value → Shared → Prop} {E : Value → Shared → Prop}, Q c { s' with heap := h3 } → wpAny (model X.prog X.w) (X.A.mark (some (.ref a))) (eval (.Name x np) X.env) Q E { s' with heap := h3 } := fun {Q E} q => by
          obtain ⟨hg, hdbg, hm | ⟨hm, hv, hnn⟩⟩ := hc
          · exact ld_glob (X := X.suite a ((a, oe3) :: (X.pn ++ pins))) S3 hg hm q hdbg
          · exact ld_blt (X := X.suite a ((a, oe3) :: (X.pn ++ pins))) S3 hg hm hv q hnn hdbg
        refine test (LM.here ?_)
        cases b with
        | true =>
          refine codeAny_handlers_suite_as ?_
          refine HandSPX.lands_againZ fl3 fun h4 fl4 up4 => ?_
          have J4 : Inv X pins σ' H' { s' with heap := h4 } := J.landed nb fl4.1 ((up.trans up3).trans up4) os ag
          obtain ⟨oe4, vs4, he4, hz4, hd4⟩ := fl4.there
          have S4 := J4.suite he4 hd4 na nL nF
          refine store_ok (X := X.suite a ((a, oe4) :: (X.pn ++ pins))) (v := .ref a) S4 hN hi hloc rfl (fun s5 S5 => ?_) (.inr hln)
          have hlt : i < σ'.length := by
            rw [S4.len]
            exact (List.getElem?_eq_some_iff.mp hi).1
          refine wpAny_mono ((hsu a oe4 cls d (X.pn ++ pins) hz4 ⟨_, hd4⟩).run [] s5 _ H' _ S5 (hyes rfl hlt a na)) (fun f s6 hsp => ?_) (fun _ _ z => False.elim z)
          have end_ : ∀ {σ6 : L2.St} {H6 : Hp} {Q : Shared → Prop}, Inv (X.suite a ((a, oe4) :: (X.pn ++ pins))) [] σ6 H6 s6 → (∀ s7, Inv X pins (σ6.set i none) H6 s7 → Q s7) →
              wpAny (model X.prog X.w) X.A (do bindName X.env n .none; unbindBehindTheSuite X.env n pos') (fun _ s7 => Q s7) X.xe s6 := fun {σ6 H6 Q} S6 hq => gone_ok (S6.unsuite ok) hN hi hln hq
          cases f with
          | next =>
            obtain ⟨σ6, H6, S6, q6⟩ := hsp
            exact end_ S6 fun s7 J7 => ⟨_, _, J7, q6⟩
          | brk =>
            obtain ⟨σ6, H6, S6, q6⟩ := hsp
            exact end_ S6 fun s7 J7 => ⟨_, _, J7, q6⟩
          | cont =>
            obtain ⟨σ6, H6, S6, q6⟩ := hsp
            exact end_ S6 fun s7 J7 => ⟨_, _, J7, q6⟩
          | ret u =>
            obtain ⟨v6, σ6, H6, S6, r6, q6⟩ := hsp
            exact end_ S6 fun s7 J7 => ⟨_, _, _, J7, r6, q6⟩
        | false =>
          show wpAny _ X.A (handleBy (.ref a) X.env hds2) _ _ _
          exact ih (hno rfl)
    exact go hh w
  · cases f with
    | next =>
      obtain ⟨σ', H', J', q⟩ := hsp
      exact wpAny_execs_nil ⟨σ', H', J'.ofTry ok, q⟩
    | brk =>
      obtain ⟨σ', H', J', q⟩ := hsp
      exact ⟨σ', H', J'.ofTry ok, q⟩
    | cont =>
      obtain ⟨σ', H', J', q⟩ := hsp
      exact ⟨σ', H', J'.ofTry ok, q⟩
    | ret u =>
      obtain ⟨v, σ', H', J', r, q⟩ := hsp
      exact ⟨v, σ', H', J'.ofTry ok, r, q⟩
end
def tsV (K : PySem.W.Frag) (i j : Nat) (t : PySem.Str) : Addr → Value → Option Addr → TS := fun a cls d D σ H => ∃ C, cls = .ref C ∧ XfC K C ∧ PySem.W.findIn K (.ref C) "value" = some none ∧
  tAsg (tTup (tCons (tC (.str t)) (tCons (tXf a cls d C "value" (tVar i)) tNil))) (gName j) D σ H
section
variable {X : Cx} {n y : PySem.Str} {i j : Nat} {t : PySem.Str} {k1 tk : Nat} {pa p1 p2 p3 p4 p5 : Pos}
theorem suiteV (hN : X.N.Nodup) (hi : X.N[i]? = some n) (hj : X.N[j]? = some y) (hly : X.env.scope.names.lookup y = some .local) (hlc : Loc X.env.scope y) (hvn : Vis X.env.scope n)
    (hdn : (n == ("__debug__" : PySem.Str)) = false) (hcn : (n == ("__classdict__" : PySem.Str)) = false) (a : Addr) (oe : Obj) (cls : Value) (d : Option Addr) (pn : List (Addr × Obj)) (hz : Zc cls d oe) (hf : ∃ vs, oe.data = .fields vs) :
    PSs (X.suite a ((a, oe) :: pn)) [.Assign [.Name y p1] (.Tuple [.Constant (.str t) tk p2, .Attribute (.Name n p3) "value" p4] k1 p5) pa] (tsV X.K i j t a cls d) := by
  refine ⟨fun pins s σ H D I h => ?_⟩
  obtain ⟨C, e, T, no, q⟩ := h
  subst e
  have P : PSs (X.suite a ((a, oe) :: pn)) [.Assign [.Name y p1] (.Tuple [.Constant (.str t) tk p2, .Attribute (.Name n p3) "value" p4] k1 p5) pa] (tAsg (tTup (tCons (tC (.str t)) (tCons (tXf a (.ref C) d C "value" (tVar i)) tNil))) (gName j)) :=
    pss_one (ps_asg (pe_tup (pa_cons pe_str (pa_cons (pe_xf T no hz hf (pe_var (X := X.suite a ((a, oe) :: pn)) hi hvn hdn hcn)) pa_nil))) (pg_name (X := X.suite a ((a, oe) :: pn)) hN hj hlc (.inr hly)))
  exact P.run pins s σ H D I q
end
def lkB (c : PySem.Str) : List (PySem.Str × Bool) → Option Bool
  | [] => none
  | (k, b) :: r => if k = c then some b else lkB c r
theorem lkB_mem {c : PySem.Str} {b : Bool} : ∀ {tab : List (PySem.Str × Bool)}, lkB c tab = some b → (c, b) ∈ tab
  | (k, b') :: r, h => by
    unfold lkB at h
    split at h
    · rename_i e
      cases h
      rw [e]
      exact List.mem_cons_self
    · exact List.mem_cons_of_mem _ (lkB_mem h)
def hndl (i j : Nat) (c : PySem.Str) (u : U) (e : En) : List (List (PySem.Str × Bool) × PySem.Str) → RS
  | [] => .exc c u e
  | (tab, t) :: r => match lkB c tab with
    | some true => .nx ((e.set j (some (false, .tup [.str t, u]))).set i none)
    | some false => hndl i j c u e r
    | none => .bad
def mTryN (tabs : List (List (PySem.Str × Bool) × PySem.Str)) (i j : Nat) (b : MS) : MS := fun e => match b e with
  | .exc c u e' => hndl i j c u e' tabs
  | r => r
def ExT (K : PySem.W.Frag) (mg : PySem.Str → Option Value) (c : Value) (tab : List (PySem.Str × Bool)) : Prop :=
  ∀ kb ∈ tab, ∃ C, mg kb.1 = some (.ref C) ∧ PySem.W.exmOne K (.ref C) c = some kb.2 ∧ XfC K C ∧ PySem.W.findIn K (.ref C) "value" = some none
inductive HdV (X : Cx) (n y : PySem.Str) : List ExceptHandler → List (List (PySem.Str × Bool) × PySem.Str) → Prop
  | nil : HdV X n y [] []
  | cons {x t : PySem.Str} {cv : Value} {tab : List (PySem.Str × Bool)} {np pos' pa p1 p2 p3 p4 p5 : Pos} {k1 tk : Nat} {hds : List ExceptHandler} {l : List (List (PySem.Str × Bool) × PySem.Str)} (hc : Names X x cv) (ex : ExT X.K X.mg cv tab) (r : HdV X n y hds l) :
      HdV X n y (.ExceptHandler (some (.Name x np)) (some n) [.Assign [.Name y p1] (.Tuple [.Constant (.str t) tk p2, .Attribute (.Name n p3) "value" p4] k1 p5) pa] pos' :: hds) ((tab, t) :: l)
section
variable {X : Cx} {W : WXX} {pr : Nat → Bool} {k i j : Nat} {n y : PySem.Str} {body : List Stmt} {h₀ : ExceptHandler} {hds : List ExceptHandler} {tabs : List (List (PySem.Str × Bool) × PySem.Str)} {pos : Pos} {b : MS}
theorem many_of (hN : X.N.Nodup) (hi : X.N[i]? = some n) (hj : X.N[j]? = some y) (hij : i ≠ j) (hpi : pr i = false) (hpj : pr j = false) (hly : X.env.scope.names.lookup y = some .local) (hlc : Loc X.env.scope y) (hvn : Vis X.env.scope n)
    (hdn : (n == ("__debug__" : PySem.Str)) = false) (hcn : (n == ("__classdict__" : PySem.Str)) = false) : ∀ {hs : List ExceptHandler} {tabs : List (List (PySem.Str × Bool) × PySem.Str)}, HdV X n y hs tabs →
    ∃ l, HdsA X n hs l ∧ ∀ (D : Ends) (B H B' H' : Hp) (e e' : En) (σ σ' : L2.St) (c : PySem.Str) (u : U) (cls : Value) (d : Option Addr), rsP (ga X) W pr B H e σ D (hndl i j c u e' tabs) → Go (ga X) B H e σ B' H' e' σ' → Kp pr σ σ' →
      exrep (ga X) (may H e σ) B' H' c u cls d → wManyA X.K i W D l cls d σ' H' := by
  intro hs tabs hd
  induction hd with
  | nil => exact ⟨[], .nil, fun D B H B' H' e e' σ σ' c u cls d q g kp x => q cls d B' H' σ' g kp x⟩
  | @cons x t cv tab np pos' pa p1 p2 p3 p4 p5 k1 tk hds l hc ex r ih =>
    obtain ⟨l', h1, h2⟩ := ih
    refine ⟨(cv, tsV X.K i j t) :: l', .cons hc (fun a oe cls d pn hz hf => suiteV hN hi hj hly hlc hvn hdn hcn a oe cls d pn hz hf) h1, ?_⟩
    intro D B H B' H' e e' σ σ' c u cls d q g kp x
    unfold hndl at q
    cases z : lkB c tab with
    | none => rw [z] at q; exact q.elim
    | some bb =>
      obtain ⟨C2, hm2, he, xf, no⟩ := ex (c, bb) (lkB_mem z)
      rw [z] at q
      have x0 := x
      obtain ⟨C, dd, v, rfl, hmg, rfl, hd, hv, hS, hB⟩ := x
      have e2 : C2 = C := by
        have := hm2.symm.trans hmg
        simpa using this
      subst e2
      refine ⟨bb, he, fun hb hlt a na => ?_, fun hb => ?_⟩
      · subst hb
        have q : rsP (ga X) W pr B H e σ D (.nx ((e'.set j (some (false, .tup [.str t, u]))).set i none)) := q
        refine ⟨C2, rfl, xf, no, ?_⟩
        refine ⟨.ref a, List.getElem?_set_self hlt, rfl, rfl, dd, [("value", v)], v, rfl, hd, rfl, by show 2 ≤ sizeLine; decide, fun p hp => ?_⟩
        show D.nx (((σ'.set i (some (.ref a))).set j (some (.ref p))).set i none) (upd H' p (.tup [.str t, v]))
        have es : ((σ'.set i (some (.ref a))).set j (some (.ref p))).set i none = (σ'.set j (some (.ref p))).set i none := by
          rw [List.set_comm _ _ hij, List.set_set]
        rw [es]
        have g2 := g.trans (Go.allocB g.sr (p := p) (o := .tup [.str t, v]) hp)
        have rr : rep (ga X) (upd B' p (.tup [.str t, v])) (.tup [.str t, u]) (.ref p) := by
          simp only [rep]
          refine ⟨p, [.str t, v], rfl, .inl (.inl upd_same), ?_⟩
          simp only [reps]
          exact ⟨_, _, rfl, rep_str _, v, [], rfl, hv.mono (same_upd (g.sr.none_of hp)), rfl⟩
        have g3 := Go.store (i := j) (r := (false, .tup [.str t, u])) (v := .ref p) (S := fun _ => False) g2.sr rr g2 (fun _ w => w.elim)
        have g4 := g3.trans (Go.unset g3.sr i)
        exact q _ _ _ g4 ((kp.trans (Kp.set hpj)).trans (Kp.set hpi))
      · subst hb
        exact h2 D B H B' H' e e' σ σ' c u _ _ q g kp x0
theorem sv_tryN (ct : Ct X W k) (hh : HdV X n y (h₀ :: hds) tabs) (hi : X.N[i]? = some n) (hj : X.N[j]? = some y) (hij : i ≠ j) (hpi : pr i = false) (hpj : pr j = false)
    (hb : ∀ (W : WXX) (pn : List (Addr × Obj)) (xe : Value → Shared → Prop), Ct (X.tr pn xe) W k → PSsV (X.tr pn xe) W pr body b)
    (hs : X.stack = X.env :: X.outer := by rfl) (hf : X.env.frame = some X.env.locals := by rfl) (hln : X.env.kindOf n = some .local := by rfl) (hly : X.env.scope.names.lookup y = some .local := by rfl)
    (hlc : Loc X.env.scope y := by first | exact Or.inl rfl | exact Or.inr rfl) (hvn : Vis X.env.scope n := by first | exact Or.inl rfl | exact Or.inr (Or.inl rfl) | exact Or.inr (Or.inr rfl))
    (hdn : (n == ("__debug__" : PySem.Str)) = false := by decide) (hcn : (n == ("__classdict__" : PySem.Str)) = false := by decide) :
    PSV X W pr (.Try body (h₀ :: hds) [] [] pos) (mTryN tabs i j b) := by
  obtain ⟨l, h1, h2⟩ := many_of (W := W) (pr := pr) ct.hN hi hj hij hpi hpj hly hlc hvn hdn hcn hh
  refine PSimp (ps_try_manyA hs hf ct.hN hi hln ct.tk (tb := fun W => sG (ga X) W pr b) (fun W pn xe tk po => hb W pn xe ⟨fun σ => passAt tk σ, ct.hc, ct.hN, ct.hr, po, tk⟩) h1) fun D σ H ⟨B, e, sr, q⟩ => ⟨B, e, sr, ?_⟩
  unfold sAt mTryN at q
  unfold sAt
  cases z : b e with
  | nx e' => rw [z] at q; exact q
  | bk e' => rw [z] at q; exact q
  | ct e' => rw [z] at q; exact q
  | rt o u e' => rw [z] at q; exact q
  | bad => rw [z] at q; exact q
  | exc c u e' =>
    rw [z] at q
    dsimp only at q
    intro cls d B' H' σ' g kp x
    exact h2 D B H B' H' e e' σ σ' c u cls d q g kp x
end
@[simp] theorem s_tryN {tabs : List (List (PySem.Str × Bool) × PySem.Str)} {i j : Nat} {b : MS} {e : En} : mTryN tabs i j b e = (match b e with
  | .exc c u e' => hndl i j c u e' tabs
  | r => r) := rfl
end VS
namespace VH
open PySem PySem.Spec PyProof.Rows L2 He
def etF (x g : PySem.Str) (b : Bool) : FaH := fun K => decide (PySem.W.exmOne K (.ref (ga K x)) (.ref (ga K g)) = some b)
end VH
set_option Elab.async false
set_option linter.all false
set_option maxRecDepth 100000
namespace VS
open PySem PySem.Spec PyProof.Rows L2
section
variable {X : Cx} {W : WXX} {pr : Nat → Bool} {tg iter elt : Expr} {ifs : List Expr} {scope : Scope} {own' : List (PySem.Str × Nat)} {pos spos : Pos}
theorem dt_newLc {m : M Src} {t : MT} {tt : M Bool} {te : M U} {vs : List Nat} {i : Nat} {y : PySem.Str} {py : Pos} (hc : X.calm = true) (hN : X.N.Nodup) (hy : X.N[i]? = some y) (hyl : X.env.scope.names.lookup y = some .local) (hp : pr i = false)
    (hsw : swapsWith (.ListComp elt [⟨tg, iter, ifs, 0⟩] scope pos) (some (.Name y py)) spos.line X.env = pure true) (hi : PIV X W tg iter m) (ok : BlkOk X.N X.env.scope scope own') (hvs : own'.map (·.2) = vs)
    (hg : BlkAll X scope fun Y => PGV Y (prB vs) tg t) (ht : BlkAll X scope fun Y => PTs Y ifs (tG (ga X) W0 rlB tt)) (he : BlkAll X scope fun Y => PE Y elt (tG (ga X) W0 (rlT (ga X)) te))
    (hs : ∀ x, foldedSetIterable iter X.env x = pure x := by intro _; rfl) : DPt X W pr (.Assign [.Name y py] (.ListComp elt [⟨tg, iter, ifs, 0⟩] scope pos) spos) (dNew (mLcD m t tt te vs) (sTk i)) := by
  subst hvs
  refine PSimp (ps_setLc (wi := iG (ga X) W m) (g := gG (ga X) (prB (own'.map fun (x : PySem.Str × Nat) => x.2)) t) (own := own') (tt := tG (ga X) W0 rlB tt) (te := tG (ga X) W0 (rlT (ga X)) te) hc hN hy hyl hsw hi ok (fun s H C cl fp => hg s H C cl fp) (fun s H C cl fp => ht s H C cl fp) (fun s H C cl fp => he s H C cl fp) hs) fun D σ H q => ?_
  obtain ⟨B, e, sr, q⟩ := new_core q
  exact lcD_core σ H _ ⟨B, e, sr, q.mono fun v H1 ⟨B1, e1, w, s1, r1, q1⟩ => q1 B1 H1 _ (tgN_ok s1 r1) (Kp.set hp)⟩
end
end VS
set_option Elab.async false
set_option linter.all false
set_option maxRecDepth 100000
set_option maxHeartbeats 2000000
namespace VH
open PySem PySem.Spec PyProof.Rows L2 He
def obsHL (as : List Addr) (fa : List FaH) (fn : List DefH) (g : Addr → Option Obj) : AlD := obsH fa fn (frG g as)
def hookL (as : List Addr) (fa : List FaH) (fn : List DefH) : PySem.W.Hook where
  α := AlD
  obs := fun s => obsHL as fa fn s.heap.get?
  val := fun _ => valH fn
  says := fun _ h => ∃ K : PySem.W.Frag, K.In h ∧ SaysH fa fn K
  of := fun _ _ e => ⟨_, frG_in, e⟩
  keeps := fun _ _ _ ⟨K, hK, c⟩ k => ⟨K, PySem.W.Frag.In.keeps hK k, c⟩
theorem obsHL_eq {as : List Addr} {fa : List FaH} {fn : List DefH} {g : Addr → Option Obj} {s : Shared} (h : ∀ a, g a = s.heap.get? a) : obsHL as fa fn g = (hookL as fa fn).obs s := by
  have e : g = s.heap.get? := funext h
  rw [e] <;> rfl
end VH
set_option Elab.async false
set_option linter.all false
set_option maxRecDepth 100000
namespace VS
open PySem L2
def top (i : Nat) : Stmt := PySem.Challenge.pw_seenbars_k19_errors_of_keepers.main.body.getD i (.Pass ⟨0, 0, 0, 0⟩)
def clsB : Stmt → List Stmt
  | .ClassDef (body := b) .. => b
  | _ => []
abbrev st_law_cell : Stmt := top 18
abbrev st_law_digits : Stmt := top 19
abbrev st_law_eight : Stmt := top 20
abbrev st_law_rooms : Stmt := top 22
abbrev st_law_bad : Stmt := top 24
abbrev st_law_spoiled : Stmt := top 28
abbrev st_is_name : Stmt := top 8
abbrev st_GateError___init__ : Stmt := (clsB (top 2)).getD 0 (.Pass ⟨0, 0, 0, 0⟩)
abbrev st_check_rooms : Stmt := top 10
abbrev st_seen_events : Stmt := top 12
abbrev st_numbered : Stmt := top 11
abbrev st_room_classes : Stmt := top 13
abbrev st_least_rooms : Stmt := top 14
abbrev st_Keeper___init__ : Stmt := (clsB (top 16)).getD 0 (.Pass ⟨0, 0, 0, 0⟩)
abbrev st_Keeper___len__ : Stmt := (clsB (top 16)).getD 3 (.Pass ⟨0, 0, 0, 0⟩)
abbrev st_law_same : Stmt := top 25
abbrev st_law_is_name : Stmt := top 26
abbrev st_law_known : Stmt := top 21
abbrev st_law_least_rooms : Stmt := top 23
abbrev st_law_due : Stmt := top 27
abbrev st_law : Stmt := top 29
end VS
set_option Elab.async false
set_option linter.all false
set_option maxRecDepth 100000
set_option maxHeartbeats 0
namespace VS
open PySem PySem.Spec PyProof.Rows L2
def d_law_cell : VH.DefH := ⟨fun K => He.ga K "_law_cell", "_law_cell", "_law_cell", defArgs st_law_cell, defBody st_law_cell, defScope st_law_cell, [], []⟩
def d_law_digits : VH.DefH := ⟨fun K => He.ga K "_law_digits", "_law_digits", "_law_digits", defArgs st_law_digits, defBody st_law_digits, defScope st_law_digits, [], []⟩
def d_law_eight : VH.DefH := ⟨fun K => He.ga K "_law_eight", "_law_eight", "_law_eight", defArgs st_law_eight, defBody st_law_eight, defScope st_law_eight, [], []⟩
def d_law_rooms : VH.DefH := ⟨fun K => He.ga K "_law_rooms", "_law_rooms", "_law_rooms", defArgs st_law_rooms, defBody st_law_rooms, defScope st_law_rooms, [], []⟩
def d_law_bad : VH.DefH := ⟨fun K => He.ga K "_law_bad", "_law_bad", "_law_bad", defArgs st_law_bad, defBody st_law_bad, defScope st_law_bad, [], []⟩
def d_law_spoiled : VH.DefH := ⟨fun K => He.ga K "_law_spoiled", "_law_spoiled", "_law_spoiled", defArgs st_law_spoiled, defBody st_law_spoiled, defScope st_law_spoiled, [], []⟩
def d_is_name : VH.DefH := ⟨fun K => He.ga K "is_name", "is_name", "is_name", defArgs st_is_name, defBody st_is_name, defScope st_is_name, [], []⟩
def d_GateError___init__ : VH.DefH := ⟨fun K => He.ma K (He.ga K "GateError") "__init__", "__init__", "GateError.__init__", defArgs st_GateError___init__, defBody st_GateError___init__, defScope st_GateError___init__, [], []⟩
def d_check_rooms : VH.DefH := ⟨fun K => He.ga K "check_rooms", "check_rooms", "check_rooms", defArgs st_check_rooms, defBody st_check_rooms, defScope st_check_rooms, [], []⟩
def d_seen_events : VH.DefH := ⟨fun K => He.ga K "seen_events", "seen_events", "seen_events", defArgs st_seen_events, defBody st_seen_events, defScope st_seen_events, [], []⟩
def d_numbered : VH.DefH := ⟨fun K => He.ga K "numbered", "numbered", "numbered", defArgs st_numbered, defBody st_numbered, defScope st_numbered, [], []⟩
def d_room_classes : VH.DefH := ⟨fun K => He.ga K "room_classes", "room_classes", "room_classes", defArgs st_room_classes, defBody st_room_classes, defScope st_room_classes, [], []⟩
def d_least_rooms : VH.DefH := ⟨fun K => He.ga K "least_rooms", "least_rooms", "least_rooms", defArgs st_least_rooms, defBody st_least_rooms, defScope st_least_rooms, [], []⟩
def d_Keeper___init__ : VH.DefH := ⟨fun K => He.ma K (He.ga K "Keeper") "__init__", "__init__", "Keeper.__init__", defArgs st_Keeper___init__, defBody st_Keeper___init__, defScope st_Keeper___init__, [], []⟩
def d_Keeper___len__ : VH.DefH := ⟨fun K => He.ma K (He.ga K "Keeper") "__len__", "__len__", "Keeper.__len__", defArgs st_Keeper___len__, defBody st_Keeper___len__, defScope st_Keeper___len__, [], []⟩
def d_law_same : VH.DefH := ⟨fun K => He.ga K "_law_same", "_law_same", "_law_same", defArgs st_law_same, defBody st_law_same, defScope st_law_same, [], []⟩
def d_law_is_name : VH.DefH := ⟨fun K => He.ga K "_law_is_name", "_law_is_name", "_law_is_name", defArgs st_law_is_name, defBody st_law_is_name, defScope st_law_is_name, [], []⟩
def d_law_known : VH.DefH := ⟨fun K => He.ga K "_law_known", "_law_known", "_law_known", defArgs st_law_known, defBody st_law_known, defScope st_law_known, [], []⟩
def d_law_least_rooms : VH.DefH := ⟨fun K => He.ga K "_law_least_rooms", "_law_least_rooms", "_law_least_rooms", defArgs st_law_least_rooms, defBody st_law_least_rooms, defScope st_law_least_rooms, [], []⟩
def d_law_due : VH.DefH := ⟨fun K => He.ga K "_law_due", "_law_due", "_law_due", defArgs st_law_due, defBody st_law_due, defScope st_law_due, [], []⟩
def d_law : VH.DefH := ⟨fun K => He.ga K "law", "law", "law", defArgs st_law, defBody st_law, defScope st_law, [], []⟩
def fnD : List VH.DefH := [d_law_cell, d_law_digits, d_law_eight, d_law_rooms, d_law_bad, d_law_spoiled, d_is_name, d_GateError___init__, d_check_rooms, d_seen_events, d_numbered, d_room_classes, d_least_rooms, d_Keeper___init__, d_Keeper___len__, d_law_same, d_law_is_name, d_law_known, d_law_least_rooms, d_law_due, d_law]
def faD : List VH.FaH := [VH.faF (.glo "_law_cell"), VH.faF (.glo "_law_digits"), VH.faF (.glo "_law_eight"), VH.faF (.glo "_law_rooms"), VH.faF (.glo "_law_bad"), VH.faF (.glo "_law_spoiled"), VH.faF (.glo "is_name"), VH.faF (.glo "GateError"), VH.faF (.glo "check_rooms"), VH.faF (.glo "seen_events"), VH.faF (.glo "numbered"), VH.faF (.glo "room_classes"), VH.faF (.glo "least_rooms"), VH.faF (.glo "Keeper"), VH.faF (.mkr "Keeper"), VH.faF (.meth "Keeper" "__len__"), VH.faF (.glo "_law_same"), VH.faF (.glo "_law_is_name"), VH.faF (.glo "_law_known"), VH.faF (.glo "_law_least_rooms"), VH.faF (.glo "_law_due"), VH.faF (.glo "law"), VH.faF (.cls "Keeper"), VH.faF (.str "LETTERS" "abcdefghijklmnopqrstuvwxyz"), VH.faF (.int "LONGEST" 8), VH.etF "InvalidName" "InvalidName" true, VH.etF "InvalidStep" "InvalidName" false, VH.etF "InvalidName" "InvalidStep" false, VH.etF "InvalidStep" "InvalidStep" true, VH.faF (.free "ValueError"), VH.faF (.free "all"), VH.faF (.free "bool"), VH.faF (.free "dict"), VH.faF (.free "enumerate"), VH.faF (.free "int"), VH.faF (.free "isinstance"), VH.faF (.free "len"), VH.faF (.free "list"), VH.faF (.free "max"), VH.faF (.free "min"), VH.faF (.free "range"), VH.faF (.free "set"), VH.faF (.free "sorted"), VH.faF (.free "str"), VH.faF (.free "tuple"), VH.faF (.noat "Keeper" "rows"), VH.faF (.glo "InvalidName"), VH.xcF "InvalidName" "GateError", VH.faF (.glo "InvalidStep"), VH.xcF "InvalidStep" "GateError"]
abbrev rwD : PySem.W.OpenRow := PySem.W.OpenLaw.row PySem.Challenge.rw_seenbars_k19_errors_of_keepers
abbrev hkD : PySem.W.Hook := VH.hookL (List.range 1500) faD fnD
def obD (s : PySem.W.SharedT) : He.AlD := VH.obsHL (List.range 1500) faD fnD (HandSHeadRun.getT s)
theorem obD_eq (s : PySem.W.SharedT) : obD s = hkD.obs s.abs := VH.obsHL_eq (HandSHeadRun.getT_eq s)
theorem runD (w : World) : HandSHeadRun.RunEq rwD (PySem.W.view rwD.prog [29]) hkD obD 9000 ["_wall", "GateError", "InvalidName", "InvalidStep", "LETTERS", "LONGEST", "is_name", "check_rooms", "numbered", "seen_events", "room_classes", "least_rooms", "joined_rooms", "Keeper", "_law_cell", "_law_digits", "_law_eight", "_law_known", "_law_rooms", "_law_least_rooms", "_law_bad", "_law_same", "_law_is_name", "_law_due", "_law_spoiled"] w := by
  intro os
  kernel_rfl
end VS
set_option linter.all false
namespace VS
open PySem L2
section
variable {α β : Type} {e : En} {i : Nat} {m : M α} {k : α → M β}
@[simp] theorem e_bd : (m.bd k) e = (match m e with
  | .ok a e' => k a e'
  | .exc c u e' => .exc c u e'
  | .bad => .bad) := rfl
@[simp] theorem e_ret {a : α} : M.ret a e = .ok a e := rfl
@[simp] theorem e_bs {k : α → MS} : (m.bs k) e = (match m e with
  | .ok a e' => k a e'
  | .exc c u e' => .exc c u e'
  | .bad => .bad) := rfl
def gs : En → Nat → Sl
  | [], _ => none
  | s :: _, 0 => s
  | _ :: r, n + 1 => gs r n
@[simp] theorem gs_0 {s : Sl} {r : En} : gs (s :: r) 0 = s := rfl
@[simp] theorem gs_s {s : Sl} {r : En} {n : Nat} : gs (s :: r) (n + 1) = gs r n := rfl
theorem gs_eq : ∀ (e : En) (i : Nat), (e[i]?).getD none = gs e i
  | [], _ => rfl
  | s :: r, 0 => rfl
  | s :: r, i + 1 => by simp only [List.getElem?_cons_succ, gs]; exact gs_eq r i
theorem gs_some {e : En} {i : Nat} {x : Bool × U} : gs e i = some x ↔ e[i]? = some (some x) := by
  rw [← gs_eq]
  cases h : e[i]? with
  | none => simp
  | some s => simp
@[simp] theorem e_sl {i : Nat} : mSl i e = (match gs e i with | some _ => .ok (.sl i) e | none => .bad) := by
  unfold mSl
  rw [← gs_eq]
  cases h : e[i]? with
  | none => rfl
  | some s => cases s <;> rfl
@[simp] theorem rdO_sl {i : Nat} : rdO e (.sl i) = (match gs e i with | some r => some r.2 | none => none) := by
  unfold rdO
  rw [← gs_eq]
  dsimp only
  cases h : e[i]? with
  | none => rfl
  | some s =>
    cases s with
    | none => rfl
    | some r => obtain ⟨o, u⟩ := r; rfl
@[simp] theorem rdO_vl {u : U} : rdO e (.vl u) = some u := rfl
@[simp] theorem e_frz_vl {u : U} : frz (.vl u) e = .ok u e := rfl
@[simp] theorem e_frz_sl {i : Nat} : frz (.sl i) e = (match gs e i with | some (false, u) => .ok u e | some (true, u) => .ok u (e.set i (some (false, u))) | none => .bad) := by
  unfold frz
  rw [← gs_eq]
  dsimp only
  cases h : e[i]? with
  | none => rfl
  | some s =>
    cases s with
    | none => rfl
    | some r => obtain ⟨o, u⟩ := r; cases o <;> rfl
@[simp] theorem e_n {i : Nat} : mN i e = (match gs e i with | some (false, u) => .ok u e | some (true, u) => .ok u (e.set i (some (false, u))) | none => .bad) := by
  unfold mN
  rw [e_bd, e_sl]
  cases h : gs e i with
  | none => rfl
  | some r =>
    dsimp only
    rw [e_frz_sl, h]
@[simp] theorem e_ite {c : Prop} [Decidable c] {m k : M α} : (if c then m else k) e = if c then m e else k e := by split <;> rfl
@[simp] theorem e_R {m : M U} : mR m e = (m.bd fun u => M.ret (.vl u)) e := rfl
@[simp] theorem e_F {m : M (Bool × U)} : mF m e = (m.bd fun r => M.ret r.2) e := rfl
@[simp] theorem e_O {m : M U} : mO m e = (m.bd fun u => M.ret (false, u)) e := rfl
@[simp] theorem e_C {u : U} : mC u e = .ok u e := rfl
@[simp] theorem e_op2 {s : Op2} {x y : Od} : op2 s x y e = (match rdO e x, rdO e y with
  | some u, some w => match s u w with
    | some r => .ok r e
    | none => .bad
  | _, _ => .bad) := rfl
@[simp] theorem e_bin {s : Op2} {ra rb : M Od} : mBin s ra rb e = (ra.bd fun x => rb.bd fun y => op2 s x y) e := rfl
@[simp] theorem e_tst {m : M (Bool × U)} : mTst m e = (m.bd fun r => match r.2 with
  | .bl b => .ret b
  | _ => fun _ => .bad) e := rfl
@[simp] theorem e_tn {m : M Bool} : mTn m e = (m.bd fun b => M.ret (!b)) e := rfl
@[simp] theorem e_ta {m k : M Bool} : mTa m k e = (m.bd fun b => if b then k else .ret false) e := rfl
@[simp] theorem e_to {m k : M Bool} : mTo m k e = (m.bd fun b => if b then .ret true else k) e := rfl
@[simp] theorem e_tru {m : M Od} : mTru m e = (m.bd fun od e => match rdO e od with
  | some u => match truU u with
    | some b => .ok b e
    | none => .bad
  | none => .bad) e := rfl
@[simp] theorem e_and {m k : M (Bool × U)} : mAnd m k e = (m.bd fun r => match r with
  | (false, .bl b) => if b then k else .ret (false, .bl false)
  | _ => fun _ => .bad) e := rfl
@[simp] theorem e_not {m : M (Bool × U)} : mNot m e = (m.bd fun r => match r with
  | (false, .bl b) => .ret (false, .bl (!b))
  | _ => fun _ => .bad) e := rfl
@[simp] theorem e_chn {s t : Op2} {ra rb rc : M Od} : mChn s t ra rb rc e = (ra.bd fun x => rb.bd fun y => (op2 s x y).bd fun r => match r with
  | (false, .bl k) => if k then rc.bd fun z => op2 t y z else .ret (false, .bl false)
  | _ => fun _ => .bad) e := rfl
@[simp] theorem e_vn : mVn e = .ok [] e := rfl
@[simp] theorem e_vc {ma : M U} {mr : M (List U)} : mVc ma mr e = (ma.bd fun u => mr.bd fun us => M.ret (u :: us)) e := rfl
@[simp] theorem e_rn : mRn e = .ok [] e := rfl
@[simp] theorem e_rc {ma : M Od} {mr : M (List Od)} : mRc ma mr e = (ma.bd fun u => mr.bd fun us => M.ret (u :: us)) e := rfl
@[simp] theorem rdOs_nil : rdOs e [] = some [] := rfl
@[simp] theorem rdOs_cons {x : Od} {r : List Od} : rdOs e (x :: r) = (match rdO e x, rdOs e r with
  | some u, some us => some (u :: us)
  | _, _ => none) := rfl
@[simp] theorem e_cb {s : OpN} {m : M (List Od)} : mCB s m e = (m.bd fun ods => fun e => match rdOs e ods with
  | some us => match s us with
    | some z => .ok z e
    | none => .bad
  | none => .bad) e := rfl
@[simp] theorem e_lst {m : M (List U)} : mLst m e = (m.bd fun us => if us.length ≤ sizeLine then M.ret (true, .lst us) else fun _ => .bad) e := rfl
@[simp] theorem e_tup {m : M (List U)} : mTup m e = (m.bd fun us => if us.length ≤ sizeLine then M.ret (false, .tup us) else fun _ => .bad) e := rfl
@[simp] theorem e_dn : mDn e = .ok (true, .dct []) e := rfl
@[simp] theorem e_disp1 {mk mv : M U} : mDisp1 mk mv e = (mk.bd fun k => mv.bd fun w => if isK1 k then M.ret (true, .dct [(k, w)]) else fun _ => .bad) e := rfl
@[simp] theorem e_neg {m : M U} : mNeg m e = (m.bd fun u => match u with
  | .int i => M.ret (.int (-i))
  | _ => fun _ => .bad) e := rfl
@[simp] theorem e_isi {T : String} {m : M Od} : mIsi T m e = (m.bd fun od e => match rdO e od with
  | some u => match tyU u with
    | some t => .ok (false, .bl (subT t T)) e
    | none => .bad
  | none => .bad) e := rfl
@[simp] theorem e_p0 : mP0 e = .ok none e := rfl
@[simp] theorem e_p1 {m : M U} : mP1 m e = (m.bd fun u => match u with
  | .int i => M.ret (some i)
  | _ => fun _ => .bad) e := rfl
@[simp] theorem e_slc {s : Sl3} {ra : M Od} {ml mh : M (Option Int)} : mSlc s ra ml mh e = (ra.bd fun x => ml.bd fun l => mh.bd fun h => fun e => match rdO e x with
  | some u => match s u l h with
    | some z => .ok z e
    | none => .bad
  | none => .bad) e := rfl
@[simp] theorem e_fld {c f : Str} {m : M Od} : mFld c f m e = (m.bd fun od e => match rdO e od with
  | some (.ins c' fs) => if c' = c then match lkU f fs with
    | some u => .ok u e
    | none => .bad
    else .bad
  | _ => .bad) e := rfl
@[simp] theorem e_mr {isT : U → Bool} {s : U → List U → Option (Bool × U)} {mo : M Od} {ma : M (List U)} : mMr isT s mo ma e = (mo.bd fun od e => match rdO e od with
  | some u => if isT u then (ma.bd fun us e => match rdO e od with
      | some u => match s u us with
        | some r => .ok r e
        | none => .bad
      | none => .bad) e else .bad
  | none => .bad) e := rfl
@[simp] theorem e_call {n : Nat} {φ : Fs} {m : M (List Od)} : mCall n φ m e = (m.bd (callO n φ)) e := rfl
@[simp] theorem e_mk {c : Str} {n : Nat} {φ : Fs} {m : M (List Od)} : mMk c n φ m e = (m.bd (callMk c n φ)) e := rfl
theorem gs_no (h : e[i]? = none) : gs e i = none := by rw [← gs_eq, h]; rfl
theorem gs_of {s : Sl} (h : e[i]? = some s) : gs e i = s := by rw [← gs_eq, h]; rfl
@[simp] theorem e_mu {isT : U → Bool} {s : U → List U → Option (U × U)} {i : Nat} {ma : M (List U)} : mMu isT s i ma e = (match gs e i with
  | some (true, u) => if isT u then (ma.bd fun us e => match gs e i with
      | some (true, u) => match s u us with
        | some (u', r) => .ok (false, r) (e.set i (some (true, u')))
        | none => .bad
      | _ => .bad) e else .bad
  | _ => .bad) := by
  unfold mMu
  cases h : e[i]? with
  | none => rw [gs_no h]
  | some s1 =>
    rw [gs_of h]
    cases s1 with
    | none => rfl
    | some r =>
      obtain ⟨o, u⟩ := r
      cases o with
      | false => rfl
      | true =>
        dsimp only
        split
        · rw [e_bd, e_bd]
          cases ma e with
          | ok us e2 =>
            dsimp only
            cases h2 : e2[i]? with
            | none => rw [gs_no h2]
            | some s2 =>
              rw [gs_of h2]
              cases s2 with
              | none => rfl
              | some r => obtain ⟨o, u⟩ := r; cases o <;> rfl
          | _ => rfl
        · rfl
end
section
variable {e : En} {m k : MS}
@[simp] theorem s_nop : MS.nop e = .nx e := rfl
@[simp] theorem s_seq : (m.seq k) e = (match m e with | .nx e' => k e' | .rt o u e' => .rt o u e' | .bk e' => .bk e' | .ct e' => .ct e' | .exc c u e' => .exc c u e' | .bad => .bad) := by
  unfold MS.seq
  cases m e <;> rfl
@[simp] theorem s_ite {c : Prop} [Decidable c] {m k : MS} : (if c then m else k) e = if c then m e else k e := by split <;> rfl
@[simp] theorem s_drp {m : M U} : mDrp m e = (m.bs fun _ => MS.nop) e := rfl
@[simp] theorem s_ret {m : M (Bool × U)} : mRet m e = (m.bs fun r e => .rt r.1 r.2 e) e := rfl
@[simp] theorem s_retV {i : Nat} : mRetV i e = (match gs e i with | some (false, u) => .rt false u e | some (true, u) => .rt true u (e.set i none) | none => .bad) := by
  unfold mRetV
  rw [← gs_eq]
  cases h : e[i]? with
  | none => rfl
  | some s =>
    cases s with
    | none => rfl
    | some r => obtain ⟨o, u⟩ := r; cases o <;> rfl
@[simp] theorem s_set {i : Nat} {r : Bool × U} : sSet i r e = .nx (e.set i (some r)) := rfl
@[simp] theorem s_asg {i : Nat} {m : M (Bool × U)} : mAsg i m e = (m.bs fun r => sSet i r) e := rfl
@[simp] theorem s_if {c : M Bool} : mIf c m k e = (c.bs fun b => if b then m else k) e := rfl
@[simp] theorem s_for {m : M Src} {t : MT} {b : MS} : mFor m t b e = (m.bs fun s => forL t b s.g s.src s.items) e := rfl
@[simp] theorem s_aug {i : Nat} {m : M U} : mAug i m e = (match gs e i with
  | some (false, .int a) => (m.bs fun u e => match u with
      | .int b => .nx (e.set i (some (false, .int (a + b))))
      | _ => .bad) e
  | _ => .bad) := by
  unfold mAug
  rw [← gs_eq]
  cases h : e[i]? with
  | none => rfl
  | some s =>
    cases s with
    | none => rfl
    | some r =>
      obtain ⟨o, u⟩ := r
      cases o <;> cases u <;> rfl
@[simp] theorem s_sto {i : Nat} {mk mv : M U} : mSto i mk mv e = (mv.bs fun w e => match gs e i with
  | some (true, _) => (mk.bs fun k e => match gs e i with
      | some (true, u) => match sSto u k w with
        | some u' => .nx (e.set i (some (true, u')))
        | none => .bad
      | _ => .bad) e
  | _ => .bad) e := by
  unfold mSto
  rw [e_bs, e_bs]
  cases mv e with
  | ok w e1 =>
    dsimp only
    cases h : e1[i]? with
    | none => rw [gs_no h]
    | some s1 =>
      rw [gs_of h]
      cases s1 with
      | none => rfl
      | some r =>
        obtain ⟨o, u⟩ := r
        cases o with
        | false => rfl
        | true =>
          dsimp only
          rw [e_bs, e_bs]
          cases mk e1 with
          | ok k e2 =>
            dsimp only
            cases h2 : e2[i]? with
            | none => rw [gs_no h2]
            | some s2 =>
              rw [gs_of h2]
              cases s2 with
              | none => rfl
              | some r => obtain ⟨o, u⟩ := r; cases o <;> rfl
          | _ => rfl
  | _ => rfl
@[simp] theorem s_fst {c f : Str} {i : Nat} {mv : M U} : mFst c f i mv e = (mv.bs fun w e => match gs e i with
  | some (true, .ins c' fs) => if c' = c ∧ fs.length < 1000 then .nx (e.set i (some (true, .ins c' (putU f w fs)))) else .bad
  | _ => .bad) e := by
  unfold mFst
  rw [e_bs, e_bs]
  cases mv e with
  | ok w e1 =>
    dsimp only
    rw [← gs_eq]
    cases h : e1[i]? with
    | none => rfl
    | some s =>
      cases s with
      | none => rfl
      | some r => obtain ⟨o, u⟩ := r; cases o <;> cases u <;> rfl
  | _ => rfl
end
section
variable {e : En}
@[simp] theorem t_n {i : Nat} {u : U} : tgN i u e = some (e.set i (some (false, u))) := rfl
@[simp] theorem t_s0 : tgs0 [] e = some e := rfl
@[simp] theorem t_sC {t : MT} {r : MTs} {u : U} {us : List U} : tgsC t r (u :: us) e = (match t u e with | some e' => r us e' | none => none) := rfl
@[simp] theorem t_T {n : Nat} {r : MTs} {us : List U} : tgT n r (.tup us) e = if us.length = n then r us e else none := rfl
@[simp] theorem i_A {m : M U} : mItA m e = (m.bd srcA) e := rfl
@[simp] theorem srcA_l {us : List U} : srcA (.lst us) e = .ok ⟨us, [], none⟩ e := rfl
@[simp] theorem srcA_t {us : List U} : srcA (.tup us) e = .ok ⟨us, [], none⟩ e := rfl
@[simp] theorem srcA_td {us : List U} : srcA (.tpd us) e = .ok ⟨us, [], none⟩ e := rfl
@[simp] theorem srcA_s {x : Str} : srcA (.str x) e = .ok ⟨strL x, [], none⟩ e := rfl
@[simp] theorem srcA_c {ns : List Int} : srcA (.scr ns) e = .ok ⟨ns.map .int, [], none⟩ e := rfl
@[simp] theorem i_rg1 {m : M U} : mRg1 m e = (m.bd fun u => match u with
  | .int j => if lim62 j then M.ret ⟨irange 0 j.toNat, [], none⟩ else fun _ => .bad
  | _ => fun _ => .bad) e := rfl
@[simp] theorem gOK_none {src : List U} : gOK none src e = True := rfl
end
@[simp] theorem sLen_l {us : List U} : sLen [.lst us] = some (false, .int us.length) := rfl
@[simp] theorem sLen_t {us : List U} : sLen [.tup us] = some (false, .int us.length) := rfl
@[simp] theorem sLen_c {us : List Int} : sLen [.scr us] = some (false, .int us.length) := rfl
@[simp] theorem sLen_s {x : Str} : sLen [.str x] = if x.length ≤ sizeLine then some (false, .int x.length) else none := rfl
@[simp] theorem ii_ii {g : Int → Int → U} {i j : Int} : iiS g (.int i) (.int j) = some (false, g i j) := rfl
@[simp] theorem sLt_ii {i j : Int} : sLtI (.int i) (.int j) = some (false, .bl (decide (i < j))) := rfl
@[simp] theorem sLe_ii {i j : Int} : sLeI (.int i) (.int j) = some (false, .bl (decide (i ≤ j))) := rfl
@[simp] theorem sGt_ii {i j : Int} : sGtI (.int i) (.int j) = some (false, .bl (decide (j < i))) := rfl
@[simp] theorem sGe_ii {i j : Int} : sGeI (.int i) (.int j) = some (false, .bl (decide (j ≤ i))) := rfl
@[simp] theorem sSub_ii {i j : Int} : sSub (.int i) (.int j) = some (false, .int (i - j)) := rfl
@[simp] theorem sAdd_ii {i j : Int} : sAdd (.int i) (.int j) = some (false, .int (i + j)) := rfl
end VS
set_option linter.all false
namespace VS
open PySem L2
open Classical in
noncomputable def lcR (t : MT) (tt : M Bool) (te : M U) (vs : List Nat) (s : Src) (e : En) : R (Bool × U) :=
  if gOK s.g s.src (wipeE e vs) then match lcL t tt te vs s.g s.src s.items [] (wipeE e vs) with
    | some (acc, e') => .ok (true, .lst acc) (resE e e' vs)
    | none => .bad
  else .bad
@[simp] theorem e_lc {m : M Src} {t : MT} {tt : M Bool} {te : M U} {vs : List Nat} {e : En} : mLc m t tt te vs e = (m.bd fun s e => lcR t tt te vs s e) e := rfl
theorem resE_self (e e' : En) (vs : List Nat) (h : ∀ i, i ∈ vs → ∀ o u, e[i]? = some (some (o, u)) → o = false) (k : wipeE e vs = e') : resE e e' vs = e := by
  subst k
  have key : ∀ (ws : List Nat), (∀ i, i ∈ ws → i ∈ vs) → ∀ j, (resE e (wipeE e vs) ws)[j]? = if j ∈ ws ∨ j ∉ vs then e[j]? else (wipeE e vs)[j]? := by
    have hw : ∀ (ws : List Nat) (j : Nat), (wipeE e ws).length = e.length := by
      intro ws j
      induction ws with
      | nil => rfl
      | cons w ws ih => unfold wipeE; rw [List.length_set]; exact ih
    have hn : ∀ (ws : List Nat) (j : Nat), j ∉ ws → (wipeE e ws)[j]? = e[j]? := by
      intro ws j hj
      induction ws with
      | nil => rfl
      | cons w ws ih =>
        unfold wipeE
        rw [List.getElem?_set_ne (by intro q; subst q; exact hj List.mem_cons_self)]
        exact ih fun q => hj (List.mem_cons_of_mem _ q)
    intro ws
    induction ws with
    | nil =>
      intro _ j
      unfold resE
      by_cases hj : j ∈ vs
      · simp [hj]
      · simp [hj, hn vs j hj]
    | cons w ws ih =>
      intro hsub j
      unfold resE
      have ih' := ih fun i hi => hsub i (List.mem_cons_of_mem _ hi)
      have hl : (resE e (wipeE e vs) ws).length = e.length := by
        have : ∀ zs, (resE e (wipeE e vs) zs).length = (wipeE e vs).length := by
          intro zs
          induction zs with
          | nil => rfl
          | cons z zs ih => unfold resE; rw [List.length_set]; exact ih
        rw [this, hw vs 0]
      by_cases q : w = j
      · subst q
        by_cases hl2 : w < e.length
        · rw [List.getElem?_set_self (by rw [hl]; exact hl2)]
          simp only [List.mem_cons, true_or, if_true]
          cases z : e[w]? with
          | none => rw [List.getElem?_eq_none_iff] at z; omega
          | some s =>
            cases s with
            | none => rfl
            | some r =>
              obtain ⟨o, u⟩ := r
              have := h w (hsub w List.mem_cons_self) o u z
              subst this
              rfl
        · rw [List.getElem?_eq_none (by rw [List.length_set, hl]; omega)]
          simp only [List.mem_cons, true_or, if_true]
          rw [List.getElem?_eq_none (by omega)]
      · rw [List.getElem?_set_ne q, ih' j]
        by_cases hj : j ∈ ws
        · simp [hj]
        · simp [hj, Ne.symm q]
  apply List.ext_getElem?
  intro j
  rw [key vs (fun i hi => hi) j]
  by_cases hj : j ∈ vs <;> simp [hj]
def clr (e : En) (vs : List Nat) : Prop := ∀ i, i ∈ vs → ∀ o u, e[i]? = some (some (o, u)) → o = false
theorem clr_iff {e : En} {vs : List Nat} : clr e vs ↔ ∀ i, i ∈ vs → (match gs e i with | some (true, _) => False | _ => True) := by
  unfold clr
  constructor
  · intro h i hi
    cases z : gs e i with
    | none => trivial
    | some r =>
      obtain ⟨o, u⟩ := r
      have := h i hi o u (gs_some.mp z)
      subst this
      trivial
  · intro h i hi o u z
    have := h i hi
    rw [gs_some.mpr z] at this
    cases o with
    | false => rfl
    | true => exact this.elim
theorem lc_filter {t : MT} {tt : M Bool} {te : M U} {vs : List Nat} {s : Src} {e : En} {X : R (Bool × U)} {α β : Type} (hX : lcR t tt te vs s e = X) (hg : s.g = none) (xs : List α) (g : α → U) (hi : s.items = xs.map g) (p : α → Bool) (en : β → U) (Q : α → β → Prop) (hl : xs.length ≤ sizeLine) (hc : clr e vs)
    (hs : ∀ x, x ∈ xs → ∃ e1, t (g x) (wipeE e vs) = some e1 ∧ ∃ e2, tt e1 = .ok (p x) e2 ∧ ((p x = false ∧ wipeE e2 vs = wipeE e vs) ∨ p x = true ∧ ∃ y e3, te e2 = .ok (en y) e3 ∧ Q x y ∧ wipeE e3 vs = wipeE e vs)) :
    ∃ ys : List β, X = .ok (true, .lst (ys.map en)) e ∧ Paired Q (xs.filter p) ys := by
  subst hX
  unfold lcR
  rw [hg, hi]
  rw [if_pos (show gOK none s.src _ from trivial)]
  have key : ∀ (rest : List α) (acc : List U), (∀ x, x ∈ rest → x ∈ xs) → acc.length + rest.length ≤ sizeLine → ∃ ys : List β, lcL t tt te vs none s.src (rest.map g) acc (wipeE e vs) = some (acc ++ ys.map en, wipeE e vs) ∧ Paired Q (rest.filter p) ys := by
    intro rest
    induction rest with
    | nil =>
      intro acc _ _
      refine ⟨[], ?_, .nil⟩
      simp [lcL]
    | cons x rest ih =>
      intro acc hm hz
      obtain ⟨e1, h1, e2, h2, h3⟩ := hs x (hm x List.mem_cons_self)
      have hm' := fun x hx => hm x (List.mem_cons_of_mem _ hx)
      rw [List.length_cons] at hz
      rcases h3 with ⟨h3, h4⟩ | ⟨h3, y, e3, h4, h5, h6⟩
      · obtain ⟨ys, q1, q2⟩ := ih acc hm' (by omega)
        refine ⟨ys, ?_, ?_⟩
        · rw [List.map_cons]
          unfold lcL
          simp only [h1, h2, h3]
          rw [if_pos (show gOK none s.src _ from trivial), h4]
          exact q1
        · rw [List.filter_cons_of_neg (by simp [h3])]
          exact q2
      · obtain ⟨ys, q1, q2⟩ := ih (acc ++ [en y]) hm' (by rw [List.length_append, List.length_singleton]; omega)
        refine ⟨y :: ys, ?_, ?_⟩
        · rw [List.map_cons]
          unfold lcL
          simp only [h1, h2, h3, h4]
          rw [if_pos ⟨by omega, trivial⟩, h6, q1]
          simp
        · rw [List.filter_cons_of_pos (by simp [h3])]
          exact .cons h5 q2
  obtain ⟨ys, q1, q2⟩ := key xs [] (fun _ h => h) (by simpa using hl)
  refine ⟨ys, ?_, q2⟩
  rw [q1]
  dsimp only
  rw [resE_self e _ vs hc rfl, List.nil_append]
theorem lc_map {t : MT} {te : M U} {vs : List Nat} {s : Src} {e : En} {X : R (Bool × U)} {α β : Type} (hX : lcR t (M.ret true) te vs s e = X) (hg : s.g = none) (xs : List α) (g : α → U) (hi : s.items = xs.map g) (en : β → U) (Q : α → β → Prop) (hl : xs.length ≤ sizeLine) (hc : clr e vs)
    (hs : ∀ x, x ∈ xs → ∃ e1, t (g x) (wipeE e vs) = some e1 ∧ ∃ y e3, te e1 = .ok (en y) e3 ∧ Q x y ∧ wipeE e3 vs = wipeE e vs) :
    ∃ ys : List β, X = .ok (true, .lst (ys.map en)) e ∧ Paired Q xs ys := by
  obtain ⟨ys, h1, h2⟩ := lc_filter hX hg xs g hi (fun _ => true) en Q hl hc fun x hx => by
    obtain ⟨e1, h1, y, e3, h2, h3, h4⟩ := hs x hx
    exact ⟨e1, h1, e1, rfl, .inr ⟨rfl, y, e3, h2, h3, h4⟩⟩
  refine ⟨ys, h1, ?_⟩
  rwa [List.filter_eq_self.mpr (fun _ _ => rfl)] at h2
end VS
set_option linter.all false
namespace KM
theorem nodup_len {α : Type} : ∀ {xs ys : List α}, xs.Nodup → (∀ x ∈ xs, x ∈ ys) → xs.length ≤ ys.length
  | [], _, _, _ => Nat.zero_le _
  | x :: xs, ys, hn, hs => by
    obtain ⟨l1, l2, rfl⟩ := List.append_of_mem (hs x List.mem_cons_self)
    obtain ⟨nx, hn⟩ := List.nodup_cons.mp hn
    have := nodup_len (xs := xs) (ys := l1 ++ l2) hn fun y hy => by
      have h := hs y (List.mem_cons_of_mem _ hy)
      rw [List.mem_append, List.mem_cons] at h
      rw [List.mem_append]
      rcases h with h | h | h
      · exact .inl h
      · exact absurd (h ▸ hy) nx
      · exact .inr h
    rw [List.length_append] at this
    simp only [List.length_cons, List.length_append]
    omega
theorem nodup_lt {xs : List Nat} {m : Nat} (hn : xs.Nodup) (h : ∀ x ∈ xs, x < m) : xs.length ≤ m := by
  have := nodup_len hn (ys := List.range m) fun x hx => List.mem_range.mpr (h x hx)
  rwa [List.length_range] at this
theorem same_part {n mc mp : Nat} {c p : Nat → Nat} (hc : ∀ i, i < n → c i < mc) (hp : ∀ v, v < mp → ∃ i, i < n ∧ p i = v) (hq : ∀ i, i < n → p i < mp) (hr : ∀ i j, i < n → j < n → c i = c j → p i = p j) (hm : mc ≤ mp) :
    ∀ i j, i < n → j < n → p i = p j → c i = c j := by
  intro i j hi hj h
  apply Classical.byContradiction
  intro ne
  let r : Nat → Nat := fun v => if h : v < mp then (hp v h).choose else 0
  have r1 : ∀ v, v < mp → r v < n ∧ p (r v) = v := fun v hv => by
    simp only [r, dif_pos hv]
    exact (hp v hv).choose_spec
  have key : ∃ k, k < n ∧ ∀ v, v < mp → c (r v) ≠ c k := by
    have hv0 : p i < mp := hq i hi
    obtain ⟨a1, a2⟩ := r1 _ hv0
    by_cases z : c (r (p i)) = c i
    · refine ⟨j, hj, fun v hv q => ?_⟩
      obtain ⟨b1, b2⟩ := r1 v hv
      have e := hr _ _ b1 hj q
      rw [b2, ← h] at e
      subst e
      exact ne (z ▸ q)
    · refine ⟨i, hi, fun v hv q => ?_⟩
      obtain ⟨b1, b2⟩ := r1 v hv
      have e := hr _ _ b1 hi q
      rw [b2] at e
      subst e
      exact z q
  obtain ⟨k, hk, nk⟩ := key
  have nd : (c k :: (List.range mp).map fun v => c (r v)).Nodup := by
    rw [List.nodup_cons]
    refine ⟨fun z => ?_, ?_⟩
    · obtain ⟨v, hv, e⟩ := List.mem_map.mp z
      exact nk v (List.mem_range.mp hv) e
    · have inj : ∀ v w, v < mp → w < mp → c (r v) = c (r w) → v = w := fun v w hv hw q => by
        have := hr _ _ (r1 v hv).1 (r1 w hw).1 q
        rwa [(r1 v hv).2, (r1 w hw).2] at this
      unfold List.Nodup
      rw [List.pairwise_map]
      refine List.Pairwise.imp_of_mem ?_ (List.nodup_range (n := mp))
      intro v w hv hw nvw q
      exact nvw (inj v w (List.mem_range.mp hv) (List.mem_range.mp hw) q)
  have := nodup_lt (m := mc) nd fun x hx => by
    rcases List.mem_cons.mp hx with e | hx
    · rw [e]; exact hc k hk
    · obtain ⟨v, hv, e⟩ := List.mem_map.mp hx
      rw [← e]
      exact hc _ (r1 v (List.mem_range.mp hv)).1
  simp only [List.length_cons, List.length_map, List.length_range] at this
  omega
section
variable {α : Type} [DecidableEq α]
def nub (xs : List α) : List α := xs.foldl (fun acc x => if x ∈ acc then acc else acc ++ [x]) []
theorem nub_snoc {xs : List α} {x : α} : nub (xs ++ [x]) = if x ∈ nub xs then nub xs else nub xs ++ [x] := by
  unfold nub; rw [List.foldl_append]; rfl
theorem list_snoc_ind {P : List α → Prop} (h0 : P []) (hs : ∀ xs x, P xs → P (xs ++ [x])) : ∀ xs, P xs := by
  intro xs
  rw [← List.reverse_reverse xs]
  induction xs.reverse with
  | nil => exact h0
  | cons x r ih => rw [List.reverse_cons]; exact hs _ _ ih
theorem mem_nub {xs : List α} {y : α} : y ∈ nub xs ↔ y ∈ xs := by
  induction xs using list_snoc_ind with
  | h0 => rfl
  | hs xs x ih =>
    rw [nub_snoc]
    split
    · rename_i h
      rw [ih, List.mem_append, List.mem_singleton]
      exact ⟨.inl, fun z => z.elim id fun e => by subst e; exact ih.mp h⟩
    · rw [List.mem_append, List.mem_append, ih]
theorem nodup_nub {xs : List α} : (nub xs).Nodup := by
  induction xs using list_snoc_ind with
  | h0 => exact List.nodup_nil
  | hs xs x ih =>
    rw [nub_snoc]
    split
    · exact ih
    · rename_i h
      rw [List.nodup_append]
      exact ⟨ih, by simp, fun a ha b hb e => h (by rw [List.mem_singleton] at hb; rw [← hb, ← e]; exact ha)⟩
theorem nub_len {xs : List α} : (nub xs).length ≤ xs.length := nodup_len nodup_nub fun x h => mem_nub.mp h
def numb (xs : List α) : List Nat := xs.map fun x => (nub xs).idxOf x
theorem numb_len {xs : List α} : (numb xs).length = xs.length := List.length_map _
theorem numb_get {xs : List α} {i : Nat} (h : i < xs.length) : (numb xs)[i]'(by rw [numb_len]; exact h) = (nub xs).idxOf xs[i] := by
  simp only [numb, List.getElem_map]
theorem idx_inj {xs : List α} {x y : α} (hx : x ∈ xs) (h : xs.idxOf x = xs.idxOf y) : x = y := by
  have h1 := List.idxOf_lt_length_of_mem hx
  have e1 := List.getElem_idxOf h1
  have h2 : xs.idxOf y < xs.length := h ▸ h1
  have e2 := List.getElem_idxOf h2
  rw [← e1, ← e2]
  congr 1
def nf (xs : List α) (i : Nat) : Nat := (numb xs).getD i 0
theorem nf_eq {xs : List α} {i : Nat} (h : i < xs.length) : nf xs i = (nub xs).idxOf xs[i] := by
  unfold nf
  rw [List.getD_eq_getElem?_getD, List.getElem?_eq_getElem (by rw [numb_len]; exact h), Option.getD_some, numb_get h]
theorem nf_lt {xs : List α} {i : Nat} (h : i < xs.length) : nf xs i < (nub xs).length := by
  rw [nf_eq h]
  exact List.idxOf_lt_length_of_mem (mem_nub.mpr (List.getElem_mem h))
theorem nf_iff {xs : List α} {i j : Nat} (hi : i < xs.length) (hj : j < xs.length) : nf xs i = nf xs j ↔ xs[i] = xs[j] := by
  rw [nf_eq hi, nf_eq hj]
  exact ⟨idx_inj (mem_nub.mpr (List.getElem_mem hi)), fun h => by rw [h]⟩
theorem nf_sur {xs : List α} {v : Nat} (h : v < (nub xs).length) : ∃ i, i < xs.length ∧ nf xs i = v := by
  have : (nub xs)[v] ∈ xs := mem_nub.mp (List.getElem_mem h)
  obtain ⟨i, hi, e⟩ := List.mem_iff_getElem.mp this
  refine ⟨i, hi, ?_⟩
  rw [nf_eq hi, e]
  exact nodup_nub.idxOf_getElem v h
end
end KM
set_option linter.all false
namespace KM
section
variable {β ε : Type} [DecidableEq β] [DecidableEq ε]
abbrev Rows (β ε : Type) := List (β × List (ε × Nat))
def lk (s : List (ε × Nat)) (e : ε) : Option Nat := (s.find? fun p => decide (p.1 = e)).map (·.2)
def stp (rows : Rows β ε) (r : Nat) : List (ε × Nat) := (rows[r]?.map (·.2)).getD []
def blk (rows : Rows β ε) (r : Nat) : Option β := rows[r]?.map (·.1)
def goal (rows : Rows β ε) (r : Nat) (e : ε) : Nat := (lk (stp rows r) e).getD r
def Fit (rows : Rows β ε) : Prop := ∀ r p, p ∈ stp rows r → p.2 < rows.length
theorem lk_mem {s : List (ε × Nat)} {e : ε} {k : Nat} (h : lk s e = some k) : (e, k) ∈ s := by
  unfold lk at h
  obtain ⟨p, h1, h2⟩ := Option.map_eq_some_iff.mp h
  have m := List.mem_of_find?_eq_some h1
  have q := List.find?_some h1
  simp only [decide_eq_true_eq] at q
  obtain ⟨a, b⟩ := p
  dsimp only at q h2
  subst q h2
  exact m
theorem goal_lt {rows : Rows β ε} (hf : Fit rows) {r : Nat} {e : ε} (hr : r < rows.length) : goal rows r e < rows.length := by
  unfold goal
  cases h : lk (stp rows r) e with
  | none => exact hr
  | some k => exact hf r _ (lk_mem h)
def cf (c : List Nat) (i : Nat) : Nat := c.getD i 0
structure Cl (n m : Nat) (c : Nat → Nat) : Prop where
  lt : ∀ i, i < n → c i < m
  sur : ∀ v, v < m → ∃ i, i < n ∧ c i = v
structure Bis (rows : Rows β ε) (ev : List ε) (E : Nat → Nat → Prop) : Prop where
  b : ∀ i j, E i j → blk rows i = blk rows j
  g : ∀ i j e, e ∈ ev → E i j → E (goal rows i e) (goal rows j e)
  l : ∀ i j, E i j → i < rows.length ∧ j < rows.length
structure Good (rows : Rows β ε) (ev : List ε) (m : Nat) (c : Nat → Nat) : Prop where
  cl : Cl rows.length m c
  b : ∀ i j, i < rows.length → j < rows.length → c i = c j → blk rows i = blk rows j
  co : ∀ E, Bis rows ev E → ∀ i j, E i j → c i = c j
theorem cl_nf {α : Type} [DecidableEq α] (xs : List α) : Cl xs.length (nub xs).length (nf xs) := ⟨fun i h => nf_lt h, fun v h => nf_sur h⟩
theorem Cl.le {n m : Nat} {c : Nat → Nat} (h : Cl n m c) : m ≤ n := by
  let r : Nat → Nat := fun v => if q : v < m then (h.sur v q).choose else 0
  have r1 : ∀ v, v < m → r v < n ∧ c (r v) = v := fun v hv => by
    simp only [r, dif_pos hv]; exact (h.sur v hv).choose_spec
  have nd : ((List.range m).map r).Nodup := by
    unfold List.Nodup
    rw [List.pairwise_map]
    refine List.Pairwise.imp_of_mem ?_ (List.nodup_range (n := m))
    intro v w hv hw ne q
    apply ne
    have a := (r1 v (List.mem_range.mp hv)).2
    have b := (r1 w (List.mem_range.mp hw)).2
    rw [← a, ← b, q]
  have := nodup_lt (m := n) nd fun x hx => by
    obtain ⟨v, hv, e⟩ := List.mem_map.mp hx
    rw [← e]; exact (r1 v (List.mem_range.mp hv)).1
  simpa using this
def blks (rows : Rows β ε) : List β := rows.map (·.1)
theorem good0 (rows : Rows β ε) (ev : List ε) : Good rows ev (nub (blks rows)).length (nf (blks rows)) := by
  have hl : (blks rows).length = rows.length := List.length_map _
  have hb : ∀ i, i < rows.length → blk rows i = (blks rows)[i]? := fun i hi => by unfold blk blks; rw [List.getElem?_map]
  refine ⟨hl ▸ cl_nf _, fun i j hi hj h => ?_, fun E hE i j h => ?_⟩
  · rw [nf_iff (by omega) (by omega)] at h
    rw [hb i hi, hb j hj, List.getElem?_eq_getElem (by omega), List.getElem?_eq_getElem (by omega), h]
  · obtain ⟨hi, hj⟩ := hE.l i j h
    have := hE.b i j h
    rw [hb i hi, hb j hj, List.getElem?_eq_getElem (by omega), List.getElem?_eq_getElem (by omega)] at this
    rw [nf_iff (by omega) (by omega)]
    exact Option.some.inj this
def mark (rows : Rows β ε) (ev : List ε) (c : Nat → Nat) (r : Nat) : Nat × List Nat := (c r, ev.map fun e => c (goal rows r e))
def marks (rows : Rows β ε) (ev : List ε) (c : Nat → Nat) : List (Nat × List Nat) := (List.range rows.length).map (mark rows ev c)
theorem marks_len {rows : Rows β ε} {ev : List ε} {c : Nat → Nat} : (marks rows ev c).length = rows.length := by simp [marks]
theorem marks_get {rows : Rows β ε} {ev : List ε} {c : Nat → Nat} {i : Nat} (h : i < (marks rows ev c).length) : (marks rows ev c)[i] = mark rows ev c i := by simp [marks]
theorem nf_marks {rows : Rows β ε} {ev : List ε} {c : Nat → Nat} {i j : Nat} (hi : i < rows.length) (hj : j < rows.length) : nf (marks rows ev c) i = nf (marks rows ev c) j ↔ mark rows ev c i = mark rows ev c j := by
  have l := marks_len (rows := rows) (ev := ev) (c := c)
  rw [nf_iff (by omega) (by omega), marks_get, marks_get]
theorem mark_iff {rows : Rows β ε} {ev : List ε} {c : Nat → Nat} {i j : Nat} : mark rows ev c i = mark rows ev c j ↔ c i = c j ∧ ∀ e ∈ ev, c (goal rows i e) = c (goal rows j e) := by
  unfold mark
  rw [Prod.mk.injEq, List.map_inj_left]
theorem good_step {rows : Rows β ε} {ev : List ε} {m : Nat} {c : Nat → Nat} (h : Good rows ev m c) : Good rows ev (nub (marks rows ev c)).length (nf (marks rows ev c)) := by
  refine ⟨marks_len (rows := rows) (ev := ev) (c := c) ▸ cl_nf _, fun i j hi hj q => ?_, fun E hE i j q => ?_⟩
  · rw [nf_marks hi hj, mark_iff] at q
    exact h.b i j hi hj q.1
  · obtain ⟨hi, hj⟩ := hE.l i j q
    rw [nf_marks hi hj, mark_iff]
    exact ⟨h.co E hE i j q, fun e he => h.co E hE _ _ (hE.g i j e he q)⟩
structure Stable (rows : Rows β ε) (ev : List ε) (c : Nat → Nat) : Prop where
  b : ∀ i j, i < rows.length → j < rows.length → c i = c j → blk rows i = blk rows j
  g : ∀ i j e, i < rows.length → j < rows.length → e ∈ ev → c i = c j → c (goal rows i e) = c (goal rows j e)
  co : ∀ E, Bis rows ev E → ∀ i j, E i j → c i = c j
theorem stable_of {rows : Rows β ε} {ev : List ε} {m : Nat} {p : Nat → Nat} (hf : Fit rows) (h : Good rows ev m p) (hm : (nub (marks rows ev p)).length ≤ m) : Stable rows ev (nf (marks rows ev p)) := by
  have G := good_step h
  have key := same_part (n := rows.length) G.cl.lt h.cl.sur h.cl.lt (fun i j hi hj q => by
    rw [nf_marks hi hj, mark_iff] at q; exact q.1) hm
  refine ⟨G.b, fun i j e hi hj he q => ?_, G.co⟩
  rw [nf_marks hi hj, mark_iff] at q
  exact key _ _ (goal_lt hf hi) (goal_lt hf hj) (q.2 e he)
theorem Stable.same {rows : Rows β ε} {ev : List ε} {c d : Nat → Nat} (hf : Fit rows) (h : Stable rows ev c) (k : Stable rows ev d) {i j : Nat} (hi : i < rows.length) (hj : j < rows.length) (q : c i = c j) : d i = d j := by
  refine k.co (fun i j => i < rows.length ∧ j < rows.length ∧ c i = c j) ⟨fun i j z => h.b i j z.1 z.2.1 z.2.2, fun i j e he z => ⟨goal_lt hf z.1, goal_lt hf z.2.1, h.g i j e z.1 z.2.1 he z.2.2⟩, fun i j z => ⟨z.1, z.2.1⟩⟩ i j ⟨hi, hj, q⟩
def ixc (c : Nat → Nat) (order : List Nat) (g : Nat) : Nat := (order.map c).idxOf (c g)
def ord1 (rows : Rows β ε) (c : Nat → Nat) (r : Nat) (order : List Nat) (e : ε) : List Nat :=
  if c (goal rows r e) ≠ c r ∧ c (goal rows r e) ∉ order.map c then order ++ [goal rows r e] else order
def ords (rows : Rows β ε) (c : Nat → Nat) (r : Nat) (ev : List ε) (order : List Nat) : List Nat := ev.foldl (ord1 rows c r) order
theorem ords_snoc {rows : Rows β ε} {c : Nat → Nat} {r : Nat} {ev : List ε} {e : ε} {order : List Nat} : ords rows c r (ev ++ [e]) order = ord1 rows c r (ords rows c r ev order) e := by
  unfold ords; rw [List.foldl_append]; rfl
theorem ord1_ext {rows : Rows β ε} {c : Nat → Nat} {r : Nat} {order : List Nat} {e : ε} : ∃ t, ord1 rows c r order e = order ++ t := by
  unfold ord1
  split
  · exact ⟨_, rfl⟩
  · exact ⟨[], by simp⟩
theorem ords_ext {rows : Rows β ε} {c : Nat → Nat} {r : Nat} {order : List Nat} : ∀ {ev : List ε}, ∃ t, ords rows c r ev order = order ++ t := by
  intro ev
  induction ev using list_snoc_ind with
  | h0 => exact ⟨[], by simp [ords]⟩
  | hs ev e ih =>
    obtain ⟨t, h⟩ := ih
    obtain ⟨t', h'⟩ := ord1_ext (rows := rows) (c := c) (r := r) (order := ords rows c r ev order) (e := e)
    exact ⟨t ++ t', by rw [ords_snoc, h', h, List.append_assoc]⟩
theorem ixc_ext {c : Nat → Nat} {order t : List Nat} {g : Nat} (h : c g ∈ order.map c) : ixc c (order ++ t) g = ixc c order g := by
  unfold ixc
  rw [List.map_append, List.idxOf_append, if_pos h]
def stepsOf (rows : Rows β ε) (c : Nat → Nat) (order : List Nat) (r : Nat) (ev : List ε) : List (ε × Nat) :=
  (ev.filter fun e => decide (c (goal rows r e) ≠ c r)).map fun e => (e, ixc c order (goal rows r e))
structure Ord (rows : Rows β ε) (c : Nat → Nat) (order : List Nat) : Prop where
  nd : (order.map c).Nodup
  lt : ∀ r ∈ order, r < rows.length
  hd : order[0]? = some 0
theorem Ord.len {rows : Rows β ε} {c : Nat → Nat} {order : List Nat} (h : Ord rows c order) : order.length ≤ rows.length := by
  have : order.Nodup := by
    have := h.nd
    unfold List.Nodup at this ⊢
    rw [List.pairwise_map] at this
    exact this.imp fun q e => q (by rw [e])
  exact nodup_lt this h.lt
theorem Ord.step {rows : Rows β ε} {c : Nat → Nat} {order : List Nat} (hf : Fit rows) (h : Ord rows c order) {r : Nat} (hr : r < rows.length) {e : ε} : Ord rows c (ord1 rows c r order e) := by
  unfold ord1
  split
  · rename_i q
    refine ⟨?_, fun x hx => ?_, ?_⟩
    · rw [List.map_append, List.nodup_append]
      refine ⟨h.nd, by simp, fun a ha b hb e' => ?_⟩
      simp only [List.map_cons, List.map_nil, List.mem_singleton] at hb
      rw [hb] at e'
      rw [e'] at ha
      exact q.2 ha
    · rcases List.mem_append.mp hx with hx | hx
      · exact h.lt x hx
      · rw [List.mem_singleton.mp hx]; exact goal_lt hf hr
    · have := h.hd
      rw [List.getElem?_append, if_pos (List.getElem?_eq_some_iff.mp this).1]
      exact this
  · exact h
theorem Ord.steps {rows : Rows β ε} {c : Nat → Nat} {order : List Nat} (hf : Fit rows) (h : Ord rows c order) {r : Nat} (hr : r < rows.length) {ev : List ε} : Ord rows c (ords rows c r ev order) := by
  induction ev using list_snoc_ind with
  | h0 => exact h
  | hs ev e ih => rw [ords_snoc]; exact ih.step hf hr
def Has (rows : Rows β ε) (c : Nat → Nat) (order : List Nat) (r : Nat) (ev : List ε) : Prop := ∀ e ∈ ev, c (goal rows r e) ≠ c r → c (goal rows r e) ∈ order.map c
theorem Has.ext {rows : Rows β ε} {c : Nat → Nat} {order t : List Nat} {r : Nat} {ev : List ε} (h : Has rows c order r ev) : Has rows c (order ++ t) r ev := fun e he q => by
  rw [List.map_append]; exact List.mem_append.mpr (.inl (h e he q))
theorem has_ords {rows : Rows β ε} {c : Nat → Nat} {order : List Nat} {r : Nat} {ev : List ε} : Has rows c (ords rows c r ev order) r ev := by
  induction ev using list_snoc_ind with
  | h0 => intro e h; cases h
  | hs ev e ih =>
    intro x hx q
    rw [ords_snoc]
    rcases List.mem_append.mp hx with hx | hx
    · obtain ⟨t, h⟩ := ord1_ext (rows := rows) (c := c) (r := r) (order := ords rows c r ev order) (e := e)
      rw [h]
      exact (ih.ext (t := t)) x hx q
    · rw [List.mem_singleton] at hx
      subst hx
      unfold ord1
      split
      · simp
      · rename_i z
        exact Classical.byContradiction fun w => z ⟨q, w⟩
theorem stepsOf_ext {rows : Rows β ε} {c : Nat → Nat} {order t : List Nat} {r : Nat} {ev : List ε} (h : Has rows c order r ev) : stepsOf rows c (order ++ t) r ev = stepsOf rows c order r ev := by
  unfold stepsOf
  rw [List.map_inj_left]
  intro e he
  obtain ⟨h1, h2⟩ := List.mem_filter.mp he
  rw [ixc_ext (h e h1 (by simpa using h2))]
theorem stepsOf_snoc {rows : Rows β ε} {c : Nat → Nat} {order : List Nat} {r : Nat} {ev : List ε} {e : ε} : stepsOf rows c order r (ev ++ [e]) = stepsOf rows c order r ev ++ (if c (goal rows r e) ≠ c r then [(e, ixc c order (goal rows r e))] else []) := by
  unfold stepsOf
  rw [List.filter_append, List.map_append]
  by_cases h : c (goal rows r e) = c r
  · simp [h]
  · simp [h]
inductive Bfs (rows : Rows β ε) (c : Nat → Nat) (ev : List ε) : Nat → List Nat → Prop
  | zero : Bfs rows c ev 0 [0]
  | succ {k : Nat} {order : List Nat} (r : Nat) (h : Bfs rows c ev k order) (hr : order[k]? = some r) : Bfs rows c ev (k + 1) (ords rows c r ev order)
theorem Bfs.ord {rows : Rows β ε} {c : Nat → Nat} {ev : List ε} (hf : Fit rows) (hn : 0 < rows.length) {k : Nat} {order : List Nat} (h : Bfs rows c ev k order) : Ord rows c order ∧ k ≤ order.length := by
  induction h with
  | zero => exact ⟨⟨by simp, fun r hr => by rw [List.mem_singleton.mp hr]; exact hn, rfl⟩, by simp⟩
  | succ r h hr ih =>
    have l := (List.getElem?_eq_some_iff.mp hr).1
    refine ⟨ih.1.steps hf (ih.1.lt r (List.mem_of_getElem? hr)), ?_⟩
    obtain ⟨t, q⟩ := ords_ext (rows := rows) (c := c) (r := r) (ev := ev)
    rw [q, List.length_append]
    omega
theorem Bfs.has {rows : Rows β ε} {c : Nat → Nat} {ev : List ε} {k : Nat} {order : List Nat} (h : Bfs rows c ev k order) : ∀ (j r : Nat), j < k → order[j]? = some r → Has rows c order r ev := by
  induction h with
  | zero => intro j r hj; omega
  | @succ k order r h hr ih =>
    intro j x hj hx
    obtain ⟨t, q⟩ := ords_ext (rows := rows) (c := c) (r := r) (order := order) (ev := ev)
    have l := (List.getElem?_eq_some_iff.mp hr).1
    by_cases z : j = k
    · subst z
      rw [q, List.getElem?_append, if_pos l, hr] at hx
      cases hx
      exact has_ords
    · rw [q] at hx ⊢
      rw [List.getElem?_append, if_pos (by omega)] at hx
      exact (ih j x (by omega) hx).ext
def least (rows : Rows β ε) (c : Nat → Nat) (ev : List ε) (order : List Nat) : List (Option β × List (ε × Nat)) := order.map fun r => (blk rows r, stepsOf rows c order r ev)
theorem Bfs.pre {rows : Rows β ε} {c : Nat → Nat} {ev : List ε} {k : Nat} {order : List Nat} (h : Bfs rows c ev k order) : ∀ j, j ≤ k → ∃ o, Bfs rows c ev j o ∧ (j < k → j < o.length) ∧ (j = k → o = order) := by
  induction h with
  | zero => intro j hj; exact ⟨[0], by have : j = 0 := by omega
                                       subst this; exact .zero, fun z => by omega, fun _ => rfl⟩
  | @succ k order r h hr ih =>
    intro j hj
    by_cases z : j = k + 1
    · subst z; exact ⟨_, .succ r h hr, fun w => by omega, fun _ => rfl⟩
    · obtain ⟨o, h1, h2, h3⟩ := ih j (by omega)
      refine ⟨o, h1, fun _ => ?_, fun w => absurd w z⟩
      by_cases w : j = k
      · subst w; rw [h3 rfl]; exact (List.getElem?_eq_some_iff.mp hr).1
      · exact h2 (by omega)
theorem Bfs.det {rows : Rows β ε} {c : Nat → Nat} {ev : List ε} {k : Nat} {order order' : List Nat} (h : Bfs rows c ev k order) (h' : Bfs rows c ev k order') : order = order' := by
  induction h generalizing order' with
  | zero => cases h'; rfl
  | succ r h hr ih =>
    cases h' with
    | succ r' h2 hr2 =>
      have := ih h2
      subst this
      rw [hr] at hr2
      cases hr2
      rfl
theorem Bfs.unique {rows : Rows β ε} {c : Nat → Nat} {ev : List ε} {k k' : Nat} {order order' : List Nat} (h : Bfs rows c ev k order) (e : k = order.length) (h' : Bfs rows c ev k' order') (e' : k' = order'.length) : order = order' := by
  have key : ∀ {k k' : Nat} {o o' : List Nat}, Bfs rows c ev k o → k = o.length → Bfs rows c ev k' o' → k ≤ k' → k = k' := by
    intro k k' o o' h e h' l
    apply Classical.byContradiction
    intro ne
    obtain ⟨o2, h1, h2, _⟩ := h'.pre k l
    have := h.det h1
    subst this
    have := h2 (by omega)
    omega
  have : k = k' := by
    rcases Nat.le_total k k' with l | l
    · exact key h e h' l
    · exact (key h' e' h l).symm
  subst this
  exact h.det h'
def walk (rows : Rows β ε) (r : Nat) (view : List ε) : Nat := view.foldl (goal rows) r
theorem walk_lt {rows : Rows β ε} (hf : Fit rows) {view : List ε} : ∀ {r : Nat}, r < rows.length → walk rows r view < rows.length := by
  induction view with
  | nil => intro r h; exact h
  | cons e v ih => intro r h; exact ih (goal_lt hf h)
theorem lk_stepsOf {rows : Rows β ε} {c : Nat → Nat} {order : List Nat} {r : Nat} {e : ε} : ∀ {ev : List ε}, lk (stepsOf rows c order r ev) e = if e ∈ ev ∧ c (goal rows r e) ≠ c r then some (ixc c order (goal rows r e)) else none
  | [] => by simp [stepsOf, lk]
  | x :: ev => by
    have ih := lk_stepsOf (rows := rows) (c := c) (order := order) (r := r) (e := e) (ev := ev)
    unfold stepsOf lk at ih ⊢
    rw [List.filter_cons]
    by_cases q : c (goal rows r x) = c r
    · simp only [q, ne_eq, not_true_eq_false, decide_false, Bool.false_eq_true, if_false] at ih ⊢
      simp only [ne_eq, decide_not] at ih
      rw [show (fun e => decide ¬c (goal rows r e) = c r) = (fun e => !decide (c (goal rows r e) = c r)) from by funext e; simp]
      rw [ih]
      by_cases z : e = x
      · subst z; simp [q]
      · simp [z]
    · simp only [ne_eq, q, not_false_eq_true, decide_true, if_true, List.map_cons]
      by_cases z : x = e
      · subst z; simp [q]
      · rw [List.find?_cons]
        simp only [z, decide_false]
        rw [ih]
        simp [Ne.symm z]
theorem walk_least {rows : Rows β ε} {c : Nat → Nat} {ev : List ε} {order : List Nat} (hf : Fit rows) (hn : 0 < rows.length) (hs : Stable rows ev c) (hev : ∀ r e, e ∉ ev → lk (stp rows r) e = none) (h : Bfs rows c ev order.length order) (view : List ε) :
    ∃ r, order[walk (least rows c ev order) 0 view]? = some r ∧ c r = c (walk rows 0 view) ∧ r < rows.length := by
  obtain ⟨o, _⟩ := h.ord hf hn
  have one : ∀ (k r s : Nat) (e : ε), order[k]? = some r → s < rows.length → c r = c s → ∃ r', order[goal (least rows c ev order) k e]? = some r' ∧ c r' = c (goal rows s e) := by
    intro k r s e hk hsl q
    have hl := (List.getElem?_eq_some_iff.mp hk).1
    have rl := o.lt r (List.mem_of_getElem? hk)
    have st : stp (least rows c ev order) k = stepsOf rows c order r ev := by
      unfold stp least
      rw [List.getElem?_map, hk]; rfl
    unfold goal
    rw [st, lk_stepsOf]
    split
    · rename_i z
      have hm := h.has k r hl hk e z.1 z.2
      have il : ixc c order (goal rows r e) < (order.map c).length := List.idxOf_lt_length_of_mem hm
      have ig : (order.map c)[ixc c order (goal rows r e)]'il = c (goal rows r e) := List.getElem_idxOf il
      have il0 := il
      rw [List.length_map] at il
      refine ⟨order[ixc c order (goal rows r e)], List.getElem?_eq_getElem il, ?_⟩
      have ig2 : c (order[ixc c order (goal rows r e)]'il) = c (goal rows r e) := by
        rw [← ig, List.getElem_map]
      have e2 : c (goal rows r e) = c (goal rows s e) := hs.g r s e rl hsl z.1 q
      exact ig2.trans e2
    · rename_i z
      refine ⟨r, hk, ?_⟩
      show c r = c (goal rows s e)
      by_cases he : e ∈ ev
      · have e2 : c (goal rows r e) = c (goal rows s e) := hs.g r s e rl hsl he q
        rw [← e2]
        exact Classical.byContradiction fun w => z ⟨he, fun x => w x.symm⟩
      · unfold goal
        rw [hev s e he]
        exact q
  suffices ∀ (view : List ε) (k r s : Nat), order[k]? = some r → s < rows.length → c r = c s → ∃ r', order[walk (least rows c ev order) k view]? = some r' ∧ c r' = c (walk rows s view) ∧ r' < rows.length from
    this view 0 0 0 o.hd hn rfl
  intro view
  induction view with
  | nil => intro k r s h1 h2 h3; exact ⟨r, h1, h3, o.lt r (List.mem_of_getElem? h1)⟩
  | cons e v ih =>
    intro k r s h1 h2 h3
    obtain ⟨r', h4, h5⟩ := one k r s e h1 h2 h3
    exact ih _ r' _ h4 (goal_lt hf h2) h5
end
end KM
set_option linter.all false
set_option maxRecDepth 100000
namespace VS
open PySem L2
theorem map_snoc {α β : Type} (f : α → β) (xs : List α) (x : α) : xs.map f ++ [f x] = (xs ++ [x]).map f := by simp
theorem ixN_nat {n k : Nat} : ixN n (k : Int) = if k < n then some k else none := by
  unfold ixN
  by_cases h : k < n
  · simp [h]
  · simp [h]
theorem atI_int {α : Type} {us : List α} {i : Int} (h0 : 0 ≤ i) (h1 : i < us.length) : atI us i = some (us[i.toNat]'(by omega)) := by
  unfold atI ixN
  rw [if_pos h0, if_pos h1]
  exact List.getElem?_eq_getElem (by omega)
theorem atI_nat {α : Type} {us : List α} {k : Nat} : atI us (k : Int) = us[k]? := by
  unfold atI
  rw [ixN_nat]
  by_cases h : k < us.length
  · simp [h]
  · simp [h]
@[simp] theorem atI_0 {α : Type} {us : List α} : atI us (0 : Int) = us[0]? := atI_nat (k := 0)
@[simp] theorem atI_1 {α : Type} {us : List α} : atI us (1 : Int) = us[1]? := atI_nat (k := 1)
theorem atI_map {α β : Type} {us : List α} {g : α → β} {i : Int} : atI (us.map g) i = (atI us i).map g := by
  unfold atI
  rw [List.length_map]
  cases h : ixN us.length i with
  | none => rfl
  | some j =>
    show (us.map g)[j]? = Option.map g us[j]?
    rw [List.getElem?_map]
theorem atI_at {α β : Type} {xs : List α} {f : α → β} {k : Nat} {x : α} (h : xs[k]? = some x) : atI (xs.map f) (k : Int) = some (f x) := by
  rw [atI_nat, List.getElem?_map, h]; rfl
def dg (ds : List Int) (i : Int) : Int := ds.getD i.toNat 0
theorem atI_dg {ds : List Int} {i : Int} (h0 : 0 ≤ i) (h1 : i < ds.length) : atI ds i = some (dg ds i) := by
  rw [atI_int h0 h1]
  unfold dg
  rw [List.getD_eq_getElem?_getD, List.getElem?_eq_getElem (by omega)]
  rfl
def sg (ds : List Str) (i : Int) : Str := ds.getD i.toNat ""
theorem dg_mem {ds : List Int} {i : Int} (h0 : 0 ≤ i) (h1 : i < ds.length) : dg ds i ∈ ds := by
  unfold dg
  rw [List.getD_eq_getElem?_getD, List.getElem?_eq_getElem (by omega)]
  exact List.getElem_mem _
@[simp] theorem sIx_l {us : List U} {i : Int} : sIx (.lst us) (.int i) = (atI us i).map fun x => (false, x) := by
  simp only [sIx, orS, sIxL, sIxT, sIxS, sIxD]
  cases atI us i <;> rfl
@[simp] theorem sIx_c {us : List Int} {i : Int} : sIx (.scr us) (.int i) = (atI us i).map fun x => (false, .int x) := by
  simp only [sIx, orS, sIxL, sIxT, sIxS, sIxD]
  cases atI us i <;> rfl
@[simp] theorem sIx_t {us : List U} {i : Int} : sIx (.tup us) (.int i) = (atI us i).map fun x => (false, x) := by
  simp only [sIx, orS, sIxL, sIxT, sIxS, sIxD]
  cases atI us i <;> rfl
theorem sIx_s {x : Str} {i : Int} : sIx (.str x) (.int i) = if x.length ≤ sizeLine then (atI x.cps.toList i).map fun c => (false, .str ⟨#[c]⟩) else none := by
  simp only [sIx, orS, sIxL, sIxT, sIxS, sIxD]
  by_cases h : x.length ≤ sizeLine
  · rw [if_pos h]; cases atI x.cps.toList i <;> rfl
  · rw [if_neg h]
@[simp] theorem sIx_d {kvs : List (U × U)} {w : U} : sIx (.dct kvs) w = if okD kvs w then (dfind kvs w).map fun x => (false, x) else none := by
  simp only [sIx, orS, sIxL, sIxT, sIxS, sIxD]
@[simp] theorem sAdd_ss {x y : Str} : sAdd (.str x) (.str y) = if x.length + y.length ≤ sizeLine then some (false, .str (x ++ y)) else none := by
  simp only [sAdd, orS, sAddI, iiS, sAddS, sAddL]
  split <;> first | rfl | assumption | (rename_i h; rw [h])
@[simp] theorem sAdd_ll {x y : List U} : sAdd (.lst x) (.lst y) = if x.length + y.length ≤ sizeLine then some (true, .lst (x ++ y)) else none := by
  simp only [sAdd, orS, sAddI, iiS, sAddS, sAddL]
theorem sMul_ii {i j : Int} (h : mulOk i j = true) : sMul (.int i) (.int j) = some (false, .int (i * j)) := by
  simp only [sMul, orS, sMulI, iiC, h, if_true]
theorem mulOk_r {i j : Int} (h1 : -18446744073709551616 < j) (h2 : j < 18446744073709551616) : mulOk i j = true := by
  have e : lowB = 18446744073709551616 := by decide
  unfold mulOk
  simp [cdec_iff, e, h1, h2]
theorem mulOk_l {i j : Int} (h1 : -18446744073709551616 < i) (h2 : i < 18446744073709551616) : mulOk i j = true := by
  have e : lowB = 18446744073709551616 := by decide
  unfold mulOk
  simp [cdec_iff, e, h1, h2]
theorem sMul_l {i j : Int} (h1 : -18446744073709551616 < i) (h2 : i < 18446744073709551616) : sMul (.int i) (.int j) = some (false, .int (i * j)) := sMul_ii (mulOk_l h1 h2)
theorem sMul_r {i j : Int} (h1 : -18446744073709551616 < j) (h2 : j < 18446744073709551616) : sMul (.int i) (.int j) = some (false, .int (i * j)) := sMul_ii (mulOk_r h1 h2)
theorem sMod_ii {i j : Int} (h : 0 < j) : sMod (.int i) (.int j) = some (false, .int (i % j)) := by
  simp only [sMod, iiC]
  rw [if_pos (by rw [cdec_iff]; omega), Int.fmod_eq_emod_of_nonneg _ (by omega)]
theorem sDiv_ii {i j : Int} (h : 0 < j) (h2 : j < 1073741824) : sDiv (.int i) (.int j) = some (false, .int (i / j)) := by
  simp only [sDiv, iiC]
  rw [if_pos (by simp [divOk, cdec_iff]; omega), Int.fdiv_eq_ediv_of_nonneg _ (by omega)]
theorem sPow_ii {i j : Int} (h0 : 0 ≤ j) (h1 : j ≤ 1000000) (h2 : i.natAbs < 2 ^ 64) : sPow (.int i) (.int j) = some (false, .int (i ^ j.toNat)) := by
  simp only [sPow, iiC]
  rw [if_pos (by simp [powOk, cdec_iff, h0, h1]; exact h2)]
@[simp] theorem sMul_si {x : Str} {k : Int} : sMul (.str x) (.int k) = sMulS (.str x) (.int k) := by
  simp only [sMul, orS, sMulI, iiC, sMulL]
  cases sMulS (.str x) (.int k) <;> rfl
@[simp] theorem sMul_li {x : List U} {k : Int} : sMul (.lst x) (.int k) = sMulL (.lst x) (.int k) := by
  simp only [sMul, orS, sMulI, iiC, sMulS, sMulL]
@[simp] theorem sEq_ii {b : Bool} {i j : Int} : sEq b (.int i) (.int j) = some (false, .bl (if b then !decide (i = j) else decide (i = j))) := by
  have : (V.int i = V.int j) ↔ i = j := ⟨fun h => by injection h, fun h => by rw [h]⟩
  simp [sEq, scalU, flU, vOf, scal, this]
@[simp] theorem sEq_ss {b : Bool} {i j : Str} : sEq b (.str i) (.str j) = some (false, .bl (if b then !decide (i = j) else decide (i = j))) := by
  have : (V.str i = V.str j) ↔ i = j := ⟨fun h => by injection h, fun h => by rw [h]⟩
  simp [sEq, scalU, flU, vOf, scal, this]
@[simp] theorem inU_ss {x : Str} {ws : List Str} : inU (.str x) (ws.map U.str) = decide (x ∈ ws) := by
  unfold inU
  rw [List.any_map]
  induction ws with
  | nil => rfl
  | cons w ws ih =>
    have e : eqV (vOf (.str w)) (vOf (.str x)) = decide (x = w) := by
      simp only [vOf, eqV]
      by_cases h : w = x
      · subst h; simp
      · simp [h, Ne.symm h]
    simp only [List.any_cons, Function.comp, e, List.mem_cons] at ih ⊢
    rw [ih]
    by_cases h : x = w <;> simp [h]
theorem flU_strs {ws : List Str} : (ws.map U.str).all flU = true := by simp [flU]
@[simp] theorem sIn_sl {x : Str} {ws : List Str} : sIn (.str x) (.lst (ws.map U.str)) = some (false, .bl (decide (x ∈ ws))) := by
  simp only [sIn, orS, sInF, flU_strs, Bool.and_true, flU, if_true, inU_ss]
  simp
@[simp] theorem sNotIn_sl {x : Str} {ws : List Str} : sNotIn (.str x) (.lst (ws.map U.str)) = some (false, .bl (!decide (x ∈ ws))) := by
  simp only [sNotIn, orS, sInF, flU_strs, Bool.and_true, flU, if_true, inU_ss]
@[simp] theorem sIn_cs {c : Nat} {z : Str} : sIn (.str ⟨#[c]⟩) (.str z) = some (false, .bl (decide (c ∈ z.cps.toList))) := by
  simp [sIn, orS, sInF, sInS]
@[simp] theorem sIn_d {k : U} {kvs : List (U × U)} : sIn k (.dct kvs) = if okD kvs k then some (false, .bl (dfind kvs k).isSome) else none := by
  have h1 : sInF false k (.dct kvs) = none := by simp [sInF]
  have h2 : sInS false k (.dct kvs) = none := by cases k <;> rfl
  simp only [sIn, orS, h1, h2, sInD]
  simp
@[simp] theorem sNotIn_d {k : U} {kvs : List (U × U)} : sNotIn k (.dct kvs) = if okD kvs k then some (false, .bl (!(dfind kvs k).isSome)) else none := by
  have h1 : sInF true k (.dct kvs) = none := by simp [sInF]
  have h2 : sInS true k (.dct kvs) = none := by cases k <;> rfl
  simp only [sNotIn, orS, h1, h2, sInD]
  simp
@[simp] theorem sGetD_2 {k d : U} {kvs : List (U × U)} : sGetD (.dct kvs) [k, d] = if okD kvs k then some (false, (dfind kvs k).getD d) else none := rfl
@[simp] theorem sGetD_1 {k : U} {kvs : List (U × U)} : sGetD (.dct kvs) [k] = if okD kvs k then some (false, (dfind kvs k).getD .non) else none := rfl
@[simp] theorem isD_d {kvs : List (U × U)} : isD (.dct kvs) = true := rfl
@[simp] theorem isL_l {kvs : List U} : isL (.lst kvs) = true := rfl
@[simp] theorem isS_s {kvs : Str} : isS (.str kvs) = true := rfl
@[simp] theorem sApp_l {l : List U} {w : U} : sApp (.lst l) [w] = if l.length < sizeLine then some (.lst (l ++ [w]), .non) else none := rfl
@[simp] theorem sSto_d {kvs : List (U × U)} {k w : U} : sSto (.dct kvs) k w = if okD kvs k ∧ kvs.length < sizeLine then some (.dct (dset kvs k w)) else none := rfl
abbrev encD (s : List (Str × Nat)) : List (U × U) := s.map fun p => (.str p.1, .int (p.2 : Nat))
theorem dfind_map {α β : Type} [DecidableEq α] (f : α → U) (inj : ∀ a b, f a = f b → a = b) (g : β → U) (s : List (α × β)) (k : α) : dfind (s.map fun p => (f p.1, g p.2)) (f k) = (s.find? fun p => decide (p.1 = k)).map fun p => g p.2 := by
  induction s with
  | nil => rfl
  | cons p s ih =>
    rw [List.map_cons, dfind_cons, List.find?_cons, ih]
    by_cases h : p.1 = k
    · simp [h]
    · have h2 : ¬ f p.1 = f k := fun z => h (inj _ _ z)
      simp [h, h2]
theorem str_inj : ∀ a b : Str, U.str a = U.str b → a = b := fun a b h => by injection h
@[simp] theorem dfind_encD (s : List (Str × Nat)) (e : Str) : dfind (encD s) (.str e) = (KM.lk s e).map fun k => .int (k : Nat) := by
  unfold KM.lk
  rw [Option.map_map]
  exact dfind_map U.str str_inj (fun k : Nat => U.int k) s e
@[simp] theorem okD_encD (s : List (Str × Nat)) (e : Str) : okD (encD s) (.str e) = true := by
  simp [okD, encD, isK1]
theorem dset_new {kvs : List (U × U)} {k w : U} (h : dfind kvs k = none) : dset kvs k w = kvs ++ [(k, w)] := by
  unfold dset; rw [h]; rfl
theorem srcA_d {kvs : List (Str × Nat)} {e : En} : srcA (.dct (encD kvs)) e = .ok ⟨(kvs.map (·.1)).map .str, [], none⟩ e := by
  show R.ok _ _ = _
  simp [encD]
@[simp] theorem srcA_dc {kvs : List (U × U)} {e : En} : srcA (.dct kvs) e = .ok ⟨kvs.map (·.1), [], none⟩ e := rfl
@[simp] theorem orN_some {s t : OpN} {us : List U} {z : Bool × U} (h : s us = some z) : orN s t us = some z := by unfold orN; rw [h]
theorem orN_none {s t : OpN} {us : List U} (h : s us = none) : orN s t us = t us := by unfold orN; rw [h]
@[simp] theorem sSorted_strs {ns : List Str} : sSorted [.lst (ns.map U.str)] = if ns.length < 64 then some (true, .lst ((sortS ns).map .str)) else sSorted [.lst (ns.map U.str)] := by
  split
  · rename_i h
    simp [sSorted, orN, sSortS, asStrs_map, h]
  · rfl
theorem asStrs_keys (s : List (Str × Nat)) : asStrs ((encD s).map (·.1)) = some (s.map (·.1)) := by
  have : (encD s).map (·.1) = (s.map (·.1)).map U.str := by simp [encD]
  rw [this, asStrs_map]
theorem sSorted_d {s : List (Str × Nat)} (h : s.length < 64) : sSorted [.dct (encD s)] = some (true, .lst ((sortS (s.map (·.1))).map .str)) := by
  have h1 : sSortS [.dct (encD s)] = none := rfl
  have h2 : sSortI [.dct (encD s)] = none := rfl
  rw [show sSorted = orN sSortS (orN sSortI sSortD) from rfl, orN_none h1, orN_none h2]
  unfold sSortD
  dsimp only
  rw [asStrs_keys]
  simp [h]
@[simp] theorem sTuple_l {ws : List U} : sTuple [.lst ws] = some (false, .tup ws) := rfl
@[simp] theorem sTuple_t {ws : List U} : sTuple [.tup ws] = some (false, .tup ws) := rfl
@[simp] theorem sList_l {ws : List U} : sList [.lst ws] = some (true, .lst ws) := rfl
@[simp] theorem sList_t {ws : List U} : sList [.tup ws] = some (true, .lst ws) := rfl
@[simp] theorem sList_c {ws : List Int} : sList [.scr ws] = some (true, .lst (ws.map .int)) := rfl
@[simp] theorem sMin2_ii {i j : Int} : sMin2 [.int i, .int j] = some (false, .int (if j < i then j else i)) := rfl
@[simp] theorem sDictC_d {s : List (Str × Nat)} : sDictC [.dct (encD s)] = some (true, .dct (encD s)) := by
  simp [sDictC, encD, isK1]
@[simp] theorem sAll_bls {bs : List Bool} : sAll [.lst (bs.map U.bl)] = some (false, .bl (bs.all id)) := by
  simp [sAll, asBls_map]
@[simp] theorem sAll_map {α : Type} {xs : List α} {f : α → Bool} : sAll [.lst (xs.map fun c => U.bl (f c))] = some (false, .bl (xs.all f)) := by
  have : (xs.map fun c => U.bl (f c)) = (xs.map f).map U.bl := by rw [List.map_map]; rfl
  rw [this, sAll_bls]
  simp
theorem sMx_ints {ns : List Int} (h : ns ≠ []) : sMx [.lst (ns.map U.int)] = some (false, .int (maxI ns)) := by
  obtain ⟨n, r, rfl⟩ := List.exists_cons_of_ne_nil h
  simp only [sMx, orN, sMax1, asInts_map]
@[simp] theorem sLenU_l {us : List U} : sLenU [.lst us] = some (false, .int us.length) := rfl
@[simp] theorem sLenU_t {us : List U} : sLenU [.tup us] = some (false, .int us.length) := rfl
@[simp] theorem sLenU_c {us : List Int} : sLenU [.scr us] = some (false, .int us.length) := rfl
@[simp] theorem sLenU_d {us : List (U × U)} : sLenU [.dct us] = some (false, .int us.length) := rfl
@[simp] theorem sLenU_s {x : Str} : sLenU [.str x] = if x.length ≤ sizeLine then some (false, .int x.length) else none := by
  by_cases h : x.length ≤ sizeLine
  · simp [sLenU, orN, sLen, h]
  · simp [sLenU, orN, sLen, sLenD, h]
def nt : Sl → Prop
  | some (true, _) => False
  | _ => True
@[simp] theorem nt_f {u : U} : nt (some (false, u)) = True := rfl
@[simp] theorem nt_n : nt none = True := rfl
theorem clr_nt {e : En} {vs : List Nat} : clr e vs ↔ ∀ i, i ∈ vs → nt (gs e i) := by
  rw [clr_iff]
  constructor <;> (intro h i hi; have := h i hi; revert this; cases gs e i with
    | none => exact id
    | some r => obtain ⟨o, u⟩ := r; cases o <;> exact id)
theorem findOut_nil {k : Nat} {ods : List Od} : findOut k ods [] = none := by
  cases ods with
  | nil => rfl
  | cons o r => cases o <;> rfl
@[simp] theorem findOut_0 {k : Nat} {outs : En} : findOut k [] outs = none := by cases outs <;> rfl
@[simp] theorem findOut_v {k : Nat} {u : U} {r : List Od} {outs : En} : findOut k (.vl u :: r) outs = findOut k r outs.tail := by
  cases outs with
  | nil => rw [List.tail_nil, findOut_nil, findOut_nil]
  | cons o t => rfl
@[simp] theorem findOut_s {k i : Nat} {r : List Od} {outs : En} : findOut k (.sl i :: r) outs = if i = k then outs.head? else findOut k r outs.tail := by
  cases outs with
  | nil => rw [List.tail_nil, findOut_nil, findOut_nil]; simp
  | cons o t => rfl
@[simp] theorem updE_0 {ods : List Od} {outs : En} {k : Nat} : updE ods outs k [] = [] := rfl
theorem updE_n {ods : List Od} {outs : En} {k : Nat} {r : En} : updE ods outs k (none :: r) = none :: updE ods outs (k + 1) r := rfl
theorem updE_f {ods : List Od} {outs : En} {k : Nat} {u : U} {r : En} : updE ods outs k (some (false, u) :: r) = some (false, u) :: updE ods outs (k + 1) r := rfl
theorem updE_t {ods : List Od} {outs : En} {k : Nat} {u : U} {r : En} : updE ods outs k (some (true, u) :: r) = (match findOut k ods outs with | some o => o | none => some (true, u)) :: updE ods outs (k + 1) r := rfl
def uz : Sl → Option Sl → Sl
  | some (true, _), some x => x
  | s, _ => s
@[simp] theorem uz_no {s : Sl} : uz s none = s := by
  cases s with
  | none => rfl
  | some p => obtain ⟨o, u⟩ := p; cases o <;> rfl
@[simp] theorem uz_n {f : Option Sl} : uz none f = none := rfl
@[simp] theorem uz_f {u : U} {f : Option Sl} : uz (some (false, u)) f = some (false, u) := rfl
@[simp] theorem uz_t {u : U} {x : Sl} : uz (some (true, u)) (some x) = x := rfl
@[simp] theorem uz_nt {z : Sl} {f : Option Sl} (h : nt z) : uz z f = z := by
  cases z with
  | none => rfl
  | some p => obtain ⟨o, u⟩ := p; cases o with
    | false => rfl
    | true => exact h.elim
@[simp] theorem updE_c {ods : List Od} {outs : En} {k : Nat} {z : Sl} {r : En} : updE ods outs k (z :: r) = uz z (findOut k ods outs) :: updE ods outs (k + 1) r := by
  cases z with
  | none => rfl
  | some p => obtain ⟨o, u⟩ := p; cases o with
    | false => rfl
    | true =>
      show (match findOut k ods outs with | some o => o | none => some (true, u)) :: _ = _
      cases findOut k ods outs <;> rfl
def isVl : Od → Bool
  | .vl _ => true
  | _ => false
theorem findOut_all {k : Nat} {outs : En} : ∀ {ods : List Od}, ods.all isVl = true → findOut k ods outs = none := by
  intro ods
  induction ods generalizing outs with
  | nil => intro _; exact findOut_0
  | cons o r ih =>
    intro h
    rw [List.all_cons, Bool.and_eq_true] at h
    cases o with
    | sl i => exact absurd h.1 (by simp [isVl])
    | vl u => rw [findOut_v]; exact ih h.2
theorem updE_all {ods : List Od} {outs : En} (h : ods.all isVl = true) : ∀ (e : En) (k : Nat), updE ods outs k e = e
  | [], _ => rfl
  | none :: r, k => by rw [updE_n, updE_all h r]
  | some (false, u) :: r, k => by rw [updE_f, updE_all h r]
  | some (true, u) :: r, k => by rw [updE_t, updE_all h r, findOut_all h]
@[simp] theorem updE_v0 {outs e : En} {k : Nat} : updE [] outs k e = e := updE_all rfl e k
@[simp] theorem updE_v1 {a : U} {outs e : En} {k : Nat} : updE [.vl a] outs k e = e := updE_all rfl e k
@[simp] theorem updE_v2 {a b : U} {outs e : En} {k : Nat} : updE [.vl a, .vl b] outs k e = e := updE_all rfl e k
@[simp] theorem updE_v3 {a b c : U} {outs e : En} {k : Nat} : updE [.vl a, .vl b, .vl c] outs k e = e := updE_all rfl e k
@[simp] theorem updE_v4 {a b c d : U} {outs e : En} {k : Nat} : updE [.vl a, .vl b, .vl c, .vl d] outs k e = e := updE_all rfl e k
theorem argOf_sl {e : En} {i : Nat} : argOf e (.sl i) = gs e i := by
  unfold argOf
  rw [← gs_eq]
  dsimp only
  cases h : e[i]? with
  | none => rfl
  | some s => cases s <;> rfl
@[simp] theorem argsOf_0 {e : En} : argsOf e [] = some [] := rfl
@[simp] theorem argsOf_v {e : En} {u : U} {r : List Od} : argsOf e (.vl u :: r) = (argsOf e r).map fun as => (false, u) :: as := by
  show (match argOf e (.vl u), argsOf e r with | some a, some as => some (a :: as) | _, _ => none) = _
  cases argsOf e r <;> rfl
@[simp] theorem argsOf_s {e : En} {i : Nat} {r : List Od} : argsOf e (.sl i :: r) = (match gs e i, argsOf e r with | some a, some as => some (a :: as) | _, _ => none) := by
  show (match argOf e (.sl i), argsOf e r with | some a, some as => some (a :: as) | _, _ => none) = _
  rw [argOf_sl]
  cases gs e i <;> cases argsOf e r <;> rfl
@[simp] theorem ownIx_0 {e : En} : ownIx e [] = [] := rfl
@[simp] theorem ownIx_v {e : En} {u : U} {r : List Od} : ownIx e (.vl u :: r) = ownIx e r := rfl
@[simp] theorem ownIx_s {e : En} {i : Nat} {r : List Od} : ownIx e (.sl i :: r) = (match gs e i with | some (true, _) => i :: ownIx e r | _ => ownIx e r) := by
  show (match e[i]? with | some (some (true, _)) => i :: ownIx e r | _ => ownIx e r) = _
  rw [← gs_eq]
  cases h : e[i]? with
  | none => rfl
  | some s =>
    cases s with
    | none => rfl
    | some p => obtain ⟨o, u⟩ := p; cases o <;> rfl
@[simp] theorem e_callO {n : Nat} {φ : Fs} {ods : List Od} {e : En} : callO n φ ods e = (match argsOf e ods with
  | some as => if ods.length = n ∧ (ownIx e ods).Nodup then match φ as with
      | .ok r outs => .ok r (updE ods outs 0 e)
      | .exc c u outs => .exc c u (updE ods outs 0 e)
      | .bad => .bad
    else .bad
  | none => .bad) := rfl
@[simp] theorem wipeE_0 {e : En} : wipeE e [] = e := rfl
@[simp] theorem wipeE_s {e : En} {v : Nat} {vs : List Nat} : wipeE e (v :: vs) = (wipeE e vs).set v none := rfl
@[simp] theorem sl_eq : sizeLine = 16777216 := PySem.sizeLine_eq
end VS
set_option linter.all false
set_option maxRecDepth 100000
namespace VS
open PySem L2
structure Ks where
  N : En → Prop
  C : En → Prop
  K : En → Prop
  T : Bool → U → En → Prop
  E : Str → U → En → Prop
def RS.post (r : RS) (κ : Ks) : Prop := match r with
  | .nx e => κ.N e
  | .ct e => κ.C e
  | .bk e => κ.K e
  | .rt o u e => κ.T o u e
  | .exc c u e => κ.E c u e
  | .bad => False
section
variable {κ : Ks} {e : En} {o : Bool} {u : U} {c : Str} {m k : MS}
@[simp] theorem post_nx : (RS.nx e).post κ = κ.N e := rfl
@[simp] theorem post_ct : (RS.ct e).post κ = κ.C e := rfl
@[simp] theorem post_bk : (RS.bk e).post κ = κ.K e := rfl
@[simp] theorem post_rt : (RS.rt o u e).post κ = κ.T o u e := rfl
@[simp] theorem post_exc : (RS.exc c u e).post κ = κ.E c u e := rfl
@[simp] theorem post_bad : RS.bad.post κ = False := rfl
@[simp ↓] theorem post_seq : ((m.seq k) e).post κ = (m e).post { κ with N := fun e1 => (k e1).post κ } := by
  unfold MS.seq RS.post
  cases m e <;> rfl
@[simp ↓] theorem post_if {c : M Bool} : (mIf c m k e).post κ = (match c e with
  | .ok b e1 => if b = true then (m e1).post κ else (k e1).post κ
  | .exc c u e1 => κ.E c u e1
  | .bad => False) := by
  unfold mIf M.bs
  cases c e with
  | ok b e1 => cases b <;> rfl
  | exc c u e1 => rfl
  | bad => rfl
@[simp ↓] theorem post_for {m : M Src} {t : MT} {b : MS} : (mFor m t b e).post κ = (match m e with
  | .ok s e1 => (forL t b s.g s.src s.items e1).post κ
  | .exc c u e1 => κ.E c u e1
  | .bad => False) := by
  unfold mFor M.bs
  cases m e <;> rfl
end
def turn (t : MT) (b : MS) (u : U) (e : En) (κ : Ks) : Prop := match t u e with
  | some e1 => (b e1).post κ
  | none => False
theorem post_forL {t : MT} {b : MS} {src items : List U} {e : En} {κ : Ks} {α : Type} (xs : List α) (g : α → U) (hi : items = xs.map g) (I : List α → En → Prop) (h0 : I [] e)
    (hs : ∀ done x rest e, xs = done ++ x :: rest → I done e → turn t b (g x) e ⟨I (done ++ [x]), I (done ++ [x]), κ.N, κ.T, κ.E⟩) (hN : ∀ e', I xs e' → κ.N e') : (forL t b none src items e).post κ := by
  subst hi
  suffices h : ∀ (rest done : List α) (e : En), xs = done ++ rest → I done e → (forL t b none src (rest.map g) e).post κ from h xs [] e rfl h0
  intro rest
  induction rest with
  | nil =>
    intro done e h hI
    refine hN e ?_
    rw [h, List.append_nil]
    exact hI
  | cons x rest ih =>
    intro done e h hI
    have q := hs done x rest e h hI
    unfold turn at q
    rw [List.map_cons]
    unfold forL
    cases z : t (g x) e with
    | none => rw [z] at q; exact q.elim
    | some e1 =>
      rw [z] at q
      dsimp only at q ⊢
      cases y : b e1 with
      | nx e2 => rw [y] at q; dsimp only; rw [if_pos (show gOK none src e2 from trivial)]; exact ih (done ++ [x]) e2 (by rw [h]; simp) q
      | ct e2 => rw [y] at q; dsimp only; rw [if_pos (show gOK none src e2 from trivial)]; exact ih (done ++ [x]) e2 (by rw [h]; simp) q
      | bk e2 => rw [y] at q; exact q
      | rt o u e2 => rw [y] at q; exact q
      | exc c u e2 => rw [y] at q; exact q
      | bad => rw [y] at q; exact q.elim
def wturn (c : M Bool) (b : MS) (I : Nat → En → Prop) (n : Nat) (e : En) (κ : Ks) : Prop := match c e with
  | .ok k e1 => if k = true then (b e1).post ⟨fun e2 => ∃ m, m < n ∧ I m e2, fun e2 => ∃ m, m < n ∧ I m e2, κ.N, κ.T, κ.E⟩ else κ.N e1
  | .exc c u e1 => κ.E c u e1
  | .bad => False
theorem post_mWhl {c : M Bool} {b : MS} {e : En} {κ : Ks} (I : Nat → En → Prop) (n : Nat) (h0 : I n e)
    (hs : ∀ n e, I n e → wturn c b I n e κ) : (mWhl c b e).post κ := by
  suffices h : ∀ (n : Nat) (e : En), I n e → ∃ k r, whlN c b k e = some r ∧ r.post κ by
    obtain ⟨k, r, h1, h2⟩ := h n e h0
    rw [mWhl_eq h1]
    exact h2
  intro n
  induction n using Nat.strongRecOn with
  | ind n ih =>
    intro e hI
    have q := hs n e hI
    unfold wturn at q
    cases z : c e with
    | bad => rw [z] at q; exact q.elim
    | exc c u e1 => rw [z] at q; exact ⟨1, .exc c u e1, by unfold whlN; rw [z], q⟩
    | ok k e1 =>
      rw [z] at q
      dsimp only at q
      cases k with
      | false => exact ⟨1, .nx e1, by unfold whlN; rw [z], q⟩
      | true =>
        rw [if_pos rfl] at q
        cases y : b e1 with
        | nx e2 =>
          rw [y] at q
          obtain ⟨m, hm, h3⟩ := q
          obtain ⟨k, r, h4, h5⟩ := ih m hm e2 h3
          exact ⟨k + 1, r, by unfold whlN; simp only [z, y]; exact h4, h5⟩
        | ct e2 =>
          rw [y] at q
          obtain ⟨m, hm, h3⟩ := q
          obtain ⟨k, r, h4, h5⟩ := ih m hm e2 h3
          exact ⟨k + 1, r, by unfold whlN; simp only [z, y]; exact h4, h5⟩
        | bk e2 => rw [y] at q; exact ⟨1, .nx e2, by unfold whlN; simp only [z, y], q⟩
        | rt o u e2 => rw [y] at q; exact ⟨1, .rt o u e2, by unfold whlN; simp only [z, y], q⟩
        | exc c u e2 => rw [y] at q; exact ⟨1, .exc c u e2, by unfold whlN; simp only [z, y], q⟩
        | bad => rw [y] at q; exact q.elim
def R.post {α : Type} (r : R α) (Q : α → En → Prop) : Prop := match r with
  | .ok a e => Q a e
  | _ => False
@[simp] theorem rpost_ok {α : Type} {a : α} {e : En} {Q : α → En → Prop} : (R.ok a e).post Q = Q a e := rfl
@[simp] theorem rpost_bad {α : Type} {Q : α → En → Prop} : (R.bad : R α).post Q = False := rfl
def item (t : MT) (te : M U) (vs : List Nat) (u : U) (e : En) (y : U) : Prop := match t u (wipeE e vs) with
  | some e1 => match te e1 with
    | .ok y' e3 => y' = y ∧ wipeE e3 vs = wipeE e vs
    | _ => False
  | none => False
theorem lc_eq {t : MT} {te : M U} {vs : List Nat} {s : Src} {e : En} {α : Type} (xs : List α) (g : α → U) (f : α → U) (hg : s.g = none) (hi : s.items = xs.map g) (hl : xs.length ≤ sizeLine) (hc : clr e vs) (hs : ∀ x, x ∈ xs → item t te vs (g x) e (f x)) :
    lcR t (M.ret true) te vs s e = .ok (true, .lst (xs.map f)) e := by
  obtain ⟨ys, h1, h2⟩ := lc_map (X := lcR t (M.ret true) te vs s e) rfl hg xs g hi id (fun x y => y = f x) hl hc fun x hx => by
    have q := hs x hx
    unfold item at q
    cases z : t (g x) (wipeE e vs) with
    | none => rw [z] at q; exact q.elim
    | some e1 =>
      rw [z] at q
      dsimp only at q
      refine ⟨e1, rfl, ?_⟩
      cases y : te e1 with
      | ok y' e3 => rw [y] at q; exact ⟨y', e3, rfl, q.1, q.2⟩
      | _ => rw [y] at q; exact q.elim
  rw [h1]
  have : ∀ {xs : List α} {ys : List U}, Paired (fun x y => y = f x) xs ys → ys = xs.map f := by
    intro xs ys h
    induction h with
    | nil => rfl
    | cons h _ ih => rw [h, ih]; rfl
  rw [List.map_id, this h2]
def itemF (t : MT) (tt : M Bool) (te : M U) (vs : List Nat) (u : U) (e : En) (p : Bool) (y : U) : Prop := match t u (wipeE e vs) with
  | some e1 => match tt e1 with
    | .ok b e2 => b = p ∧ if b = true then (match te e2 with
      | .ok y' e3 => y' = y ∧ wipeE e3 vs = wipeE e vs
      | _ => False) else wipeE e2 vs = wipeE e vs
    | _ => False
  | none => False
theorem lcF_eq {t : MT} {tt : M Bool} {te : M U} {vs : List Nat} {s : Src} {e : En} {α : Type} (xs : List α) (g : α → U) (p : α → Bool) (f : α → U) (hg : s.g = none) (hi : s.items = xs.map g) (hl : xs.length ≤ sizeLine) (hc : clr e vs) (hs : ∀ x, x ∈ xs → itemF t tt te vs (g x) e (p x) (f x)) :
    lcR t tt te vs s e = .ok (true, .lst ((xs.filter p).map f)) e := by
  obtain ⟨ys, h1, h2⟩ := lc_filter (X := lcR t tt te vs s e) rfl hg xs g hi p id (fun x y => y = f x) hl hc fun x hx => by
    have q := hs x hx
    unfold itemF at q
    cases z : t (g x) (wipeE e vs) with
    | none => rw [z] at q; exact q.elim
    | some e1 =>
      rw [z] at q
      dsimp only at q
      refine ⟨e1, rfl, ?_⟩
      cases y : tt e1 with
      | ok b e2 =>
        rw [y] at q
        dsimp only at q
        obtain ⟨hb, q⟩ := q
        refine ⟨e2, by rw [hb], ?_⟩
        rw [← hb]
        cases b with
        | false => exact .inl ⟨rfl, q⟩
        | true =>
          rw [if_pos rfl] at q
          cases y2 : te e2 with
          | ok y' e3 => rw [y2] at q; exact .inr ⟨rfl, y', e3, rfl, q.1, q.2⟩
          | _ => rw [y2] at q; exact q.elim
      | _ => rw [y] at q; exact q.elim
  rw [h1]
  have : ∀ {xs : List α} {ys : List U}, Paired (fun x y => y = f x) xs ys → ys = xs.map f := by
    intro xs ys h
    induction h with
    | nil => rfl
    | cons h _ ih => rw [h, ih]; rfl
  rw [List.map_id, this h2]
def itemS (t : MT) (te : M U) (vs : List Nat) (u : U) (e : En) (y : Str) : Prop := match t u e with
  | some e1 => match te e1 with
    | .ok y' e3 => y' = .str y ∧ wipeE e3 vs = e
    | _ => False
  | none => False
theorem scI_eq {t1 : MT} {te : M U} {vs1 : List Nat} {e : En} {α : Type} (h : α → U) (f : α → Str) : ∀ (ys : List α) (acc : List Str), acc.length + ys.length < 4096 → (∀ y ∈ ys, itemS t1 te vs1 (h y) e (f y)) → scI t1 te vs1 (ys.map h) acc e = some (acc ++ ys.map f, e)
  | [], acc, _, _ => by simp [scI]
  | y :: ys, acc, hl, hs => by
    rw [List.length_cons] at hl
    have q := hs y List.mem_cons_self
    unfold itemS at q
    rw [List.map_cons]
    unfold scI
    cases z : t1 (h y) e with
    | none => rw [z] at q; exact q.elim
    | some e1 =>
      rw [z] at q
      dsimp only at q ⊢
      cases z2 : te e1 with
      | ok y' e3 =>
        rw [z2] at q
        obtain ⟨rfl, q⟩ := q
        dsimp only
        rw [if_pos (by unfold PySem.scanBound; omega), q, scI_eq h f ys _ (by rw [List.length_append, List.length_singleton]; omega) fun y hy => hs y (List.mem_cons_of_mem _ hy)]
        simp
      | _ => rw [z2] at q; exact q.elim
def itemO (t : MT) (m1 : M Src) (t1 : MT) (te : M U) (vs vs1 : List Nat) (u : U) (e : En) (us : List U) (fs : List Str) : Prop := match t u e with
  | some e1 => match m1 e1 with
    | .ok s e2 => s.g = none ∧ s.items = us ∧ us.length = fs.length ∧ (∀ i : Nat, ∀ (a : U) (b : Str), us[i]? = some a → fs[i]? = some b → itemS t1 te vs1 a (wipeE e2 vs1) b) ∧ wipeE (wipeE e2 vs1) vs = e
    | _ => False
  | none => False
theorem scI_eq2 {t1 : MT} {te : M U} {vs1 : List Nat} {e : En} {us : List U} {fs acc : List Str} (hl : acc.length + fs.length < 4096) (hn : us.length = fs.length) (hs : ∀ i : Nat, ∀ (a : U) (b : Str), us[i]? = some a → fs[i]? = some b → itemS t1 te vs1 a e b) : scI t1 te vs1 us acc e = some (acc ++ fs, e) := by
  have h1 : us = (us.zip fs).map (·.1) := by rw [List.map_fst_zip (by omega)]
  have h2 : fs = (us.zip fs).map (·.2) := by rw [List.map_snd_zip (by omega)]
  have := scI_eq (t1 := t1) (te := te) (vs1 := vs1) (e := e) (fun p : U × Str => p.1) (fun p => p.2) (us.zip fs) acc (by rw [List.length_zip, hn]; omega) (fun y hy => by
    obtain ⟨i, hi⟩ := List.mem_iff_getElem?.mp hy
    rw [List.getElem?_zip_eq_some] at hi
    exact hs i _ _ hi.1 hi.2)
  rw [← h1, ← h2] at this
  exact this
theorem scO_eq {t : MT} {m1 : M Src} {t1 : MT} {te : M U} {vs vs1 : List Nat} {e : En} {α : Type} (g : α → U) (us : α → List U) (fs : α → List Str) : ∀ (xs : List α) (acc : List Str), acc.length + (xs.flatMap fs).length < 4096 → (∀ x ∈ xs, itemO t m1 t1 te vs vs1 (g x) e (us x) (fs x)) →
    scO t m1 t1 te vs vs1 (xs.map g) acc e = some (acc ++ xs.flatMap fs, e)
  | [], acc, _, _ => by simp [scO]
  | x :: xs, acc, hl, hs => by
    rw [List.flatMap_cons, List.length_append] at hl
    have q := hs x List.mem_cons_self
    unfold itemO at q
    rw [List.map_cons]
    unfold scO
    cases z : t (g x) e with
    | none => rw [z] at q; exact q.elim
    | some e1 =>
      rw [z] at q
      dsimp only at q ⊢
      cases z2 : m1 e1 with
      | ok s e2 =>
        rw [z2] at q
        obtain ⟨q1, q2, q3, q4, q5⟩ := q
        dsimp only
        rw [q1, q2, scI_eq2 (by omega) q3 q4]
        dsimp only
        rw [q5, scO_eq g us fs xs _ (by rw [List.length_append]; omega) fun x hx => hs x (List.mem_cons_of_mem _ hx)]
        simp
      | _ => rw [z2] at q; exact q.elim
theorem sc2_eq' {m : M Src} {t : MT} {m1 : M Src} {t1 : MT} {te : M U} {vs vs1 : List Nat} {s : Src} {e e' : En} {α : Type} (xs : List α) (g : α → U) (us : α → List U) (fs : α → List Str) (hm : m e' = .ok s e) (hg : s.g = none) (hi : s.items = xs.map g) (hl0 : (xs.flatMap fs).length < 4096) (hl : (dedS (xs.flatMap fs)).length < 64) (hc : clr e vs)
    (hs : ∀ x ∈ xs, itemO t m1 t1 te vs vs1 (g x) (wipeE e vs) (us x) (fs x)) : mSc2 m t m1 t1 te vs vs1 e' = .ok (true, .lst ((sortS (dedS (xs.flatMap fs))).map .str)) e := by
  unfold mSc2
  rw [e_bd, hm]
  dsimp only
  rw [hg, hi]
  dsimp only
  rw [scO_eq g us fs xs [] (by simp; simp at hl0; omega) hs]
  dsimp only
  rw [List.nil_append, if_pos hl, resE_self e _ vs hc rfl]
section
variable {e : En}
@[simp] theorem e_callMk {c : Str} {n : Nat} {φ : Fs} {ods : List Od} : callMk c n φ ods e = (match argsOf e ods with
  | some as => if ods.length + 1 = n ∧ (ownIx e ods).Nodup then match φ ((true, .ins c []) :: as) with
      | .ok (false, .non) (some r :: outs) => .ok r (updE ods outs 0 e)
      | .exc c u (_ :: outs) => .exc c u (updE ods outs 0 e)
      | _ => .bad
    else .bad
  | none => .bad) := rfl
@[simp] theorem lkU_nil {f : Str} : lkU f [] = none := rfl
@[simp] theorem lkU_cons {f g : Str} {u : U} {r : List (Str × U)} : lkU f ((g, u) :: r) = if g = f then some u else lkU f r := rfl
@[simp] theorem putU_nil {f : Str} {u : U} : putU f u [] = [(f, u)] := rfl
@[simp] theorem putU_cons {f g : Str} {u x : U} {r : List (Str × U)} : putU f u ((g, x) :: r) = if g = f then (g, u) :: r else (g, x) :: putU f u r := rfl
@[simp] theorem sInt_i {i : Int} : sInt [.int i] = some (false, .int i) := rfl
@[simp] theorem sInt_b {b : Bool} : sInt [.bl b] = some (false, .int (if b then 1 else 0)) := rfl
@[simp] theorem irange_0 {n : Nat} : irange 0 n = (List.range n).map fun i : Nat => .int (i : Nat) := by
  unfold irange
  simp
@[simp] theorem asStrs_m {ns : List Str} : asStrs (ns.map U.str) = some ns := asStrs_map ns
theorem lim62_ok {i : Int} (h0 : 0 ≤ i) (h1 : i < 4611686018427387904) : lim62 i = true := by
  unfold lim62
  rw [Bool.and_eq_true, cdec_iff, cdec_iff]
  exact ⟨by omega, by omega⟩
end
theorem outS_eq {pr : Nat → Bool} {n : Nat} {e : En} : outS pr n e = (List.range n).map fun i => if pr i then gs e i else none := by
  unfold outS
  apply List.map_congr_left
  intro i _
  rw [gs_eq]
theorem fnS_post {N n : Nat} {pr : Nat → Bool} {b : MS} {as : List Ar} (R : RF → Prop) (h1 : as.length = n) (h2 : n ≤ N)
    (h : (b (enA as ++ List.replicate (N - n) none)).post ⟨fun e => R (.ok (false, .non) (outS pr n e)), fun _ => False, fun _ => False, fun o u e => R (.ok (o, u) (outS pr n e)), fun c u e => R (.exc c u (outS pr n e))⟩) : R (fnS N n pr b as) := by
  unfold fnS
  rw [if_pos ⟨h1, h2⟩]
  cases z : b (enA as ++ List.replicate (N - n) none) with
  | nx e => rw [z] at h; exact h
  | rt o u e => rw [z] at h; exact h
  | exc c u e => rw [z] at h; exact h
  | ct e => rw [z] at h; exact h.elim
  | bk e => rw [z] at h; exact h.elim
  | bad => rw [z] at h; exact h.elim
end VS
set_option Elab.async false
set_option linter.all false
set_option maxRecDepth 100000
namespace VS
open PySem L2
section
variable {e : En}
@[simp] theorem e_callO0 {n : Nat} {φ : Fs} {ods : List Od} : callO0 n φ ods e = (match callO n φ ods e with | .ok r e' => .ok r e' | _ => .bad) := rfl
@[simp] theorem e_lenX {c : Str} {φ : Fs} {m : M Od} : mLenX c φ m e = (m.bd fun od e => match rdO e od with
  | some (.ins c' _) => if c' = c then lenR (callO0 1 φ [od] e) else .bad
  | some u => match sLenU [u] with
    | some z => .ok z e
    | none => .bad
  | none => .bad) e := rfl
end
theorem sAdd2_of {u w : U} {z : Bool × U} (h : sAdd u w = some z) : sAdd2 u w = some z := by unfold sAdd2 orS; rw [h]
@[simp] theorem sAdd2_ii {i j : Int} : sAdd2 (.int i) (.int j) = some (false, .int (i + j)) := sAdd2_of sAdd_ii
@[simp] theorem sAdd2_ll {x y : List U} : sAdd2 (.lst x) (.lst y) = if x.length + y.length ≤ sizeLine then some (true, .lst (x ++ y)) else none := by
  unfold sAdd2 orS
  rw [sAdd_ll]
  split
  · rename_i h
    split at h
    · cases h
      rw [if_pos ‹_›]
    · cases h
  · rename_i h
    split at h
    · cases h
    · rw [if_neg ‹_›]
      rfl
@[simp] theorem sAdd2_tt {x y : List U} : sAdd2 (.tup x) (.tup y) = if x.length + y.length ≤ sizeLine then some (false, .tup (x ++ y)) else none := by
  have h : sAdd (.tup x) (.tup y) = none := rfl
  unfold sAdd2 orS
  rw [h]
  rfl
theorem sNotIn2_of {u w : U} {z : Bool × U} (h : sNotIn u w = some z) : sNotIn2 u w = some z := by unfold sNotIn2 orS; rw [h]
@[simp] theorem sNotIn2_d {k : U} {kvs : List (U × U)} : sNotIn2 k (.dct kvs) = if okD kvs k then some (false, .bl (!(dfind kvs k).isSome)) else none := by
  unfold sNotIn2 orS
  rw [sNotIn_d]
  split
  · rename_i h
    split at h
    · cases h; rw [if_pos ‹_›]
    · cases h
  · rename_i h
    split at h
    · cases h
    · rw [if_neg ‹_›]; rfl
@[simp] theorem sList2_l {ws : List U} : sList2 [.lst ws] = some (true, .lst ws) := rfl
@[simp] theorem sList2_t {ws : List U} : sList2 [.tup ws] = some (true, .lst ws) := rfl
@[simp] theorem sList2_d {s : List (Str × Nat)} : sList2 [.dct (encD s)] = some (true, .lst ((s.map (·.1)).map .str)) := by
  have h : sList [.dct (encD s)] = none := rfl
  unfold sList2 orN
  rw [h]
  unfold sListD
  dsimp only
  rw [if_pos (by simp [encD, isK1])]
  simp [encD]
mutual
theorem eqv_self : ∀ d : PyData, PyData.canLay0 d = true → PyData.eqv d d = true
  | .none, _ => rfl
  | .bool b, _ => by simp [PyData.eqv]
  | .int i, _ => by simp [PyData.eqv]
  | .str x, _ => by simp [PyData.eqv]
  | .list xs, h => by simp only [PyData.eqv]; exact eqvAll_self xs (by simpa [PyData.canLay0] using h)
  | .tuple xs, h => by simp only [PyData.eqv]; exact eqvAll_self xs (by simpa [PyData.canLay0] using h)
  | .dict _, h => by simp [PyData.canLay0] at h
theorem eqvAll_self : ∀ ds : List PyData, PyData.canLayAll0 ds = true → PyData.eqvAll ds ds = true
  | [], _ => rfl
  | d :: ds, h => by
    simp only [PyData.canLayAll0, Bool.and_eq_true] at h
    simp only [PyData.eqvAll, Bool.and_eq_true]
    exact ⟨eqv_self d h.1, eqvAll_self ds h.2⟩
end
end VS
set_option Elab.async false
set_option linter.all false
set_option maxRecDepth 100000
namespace VS
open PySem L2
def leafU : U → Bool
  | .non => true
  | .int _ => true
  | .str x => PyData.strOk x
  | _ => false
def dat : Nat → U → Bool
  | 0 => leafU
  | n + 1 => fun u => match u with
    | .tup us => us.all (dat n)
    | .lst us => us.all (dat n)
    | u => leafU u
theorem lay_all {us : List U} (h : ∀ u ∈ us, (toD u).canLay0 = true) : PyData.canLayAll0 (toDs us) = true := by
  induction us with
  | nil => rfl
  | cons u us ih =>
    simp only [toDs, PyData.canLayAll0, Bool.and_eq_true]
    exact ⟨h u List.mem_cons_self, ih fun x hx => h x (List.mem_cons_of_mem _ hx)⟩
theorem depth_all {us : List U} {n : Nat} (h : ∀ u ∈ us, (toD u).depth ≤ n) : PyData.depthAll (toDs us) ≤ n := by
  induction us with
  | nil => exact Nat.zero_le _
  | cons u us ih =>
    simp only [toDs, PyData.depthAll]
    exact Nat.max_le.mpr ⟨h u List.mem_cons_self, ih fun x hx => h x (List.mem_cons_of_mem _ hx)⟩
theorem dat_lay : ∀ (n : Nat) (u : U), dat n u = true → (toD u).canLay0 = true ∧ (toD u).depth ≤ n := by
  have leaf : ∀ (n : Nat) (u : U), leafU u = true → (toD u).canLay0 = true ∧ (toD u).depth ≤ n := fun n u h => by
    cases u <;> first | (exfalso; revert h; simp [leafU]; done) | (simp only [toD, PyData.canLay0, PyData.depth]; exact ⟨by first | exact h | trivial, Nat.zero_le _⟩)
  intro n
  induction n with
  | zero => exact fun u h => leaf 0 u h
  | succ n ih =>
    intro u h
    cases u with
    | tup us =>
      have h : us.all (dat n) = true := h
      rw [List.all_eq_true] at h
      simp only [toD, PyData.canLay0, PyData.depth]
      exact ⟨lay_all fun x hx => (ih x (h x hx)).1, Nat.succ_le_succ (depth_all fun x hx => (ih x (h x hx)).2)⟩
    | lst us =>
      have h : us.all (dat n) = true := h
      rw [List.all_eq_true] at h
      simp only [toD, PyData.canLay0, PyData.depth]
      exact ⟨lay_all fun x hx => (ih x (h x hx)).1, Nat.succ_le_succ (depth_all fun x hx => (ih x (h x hx)).2)⟩
    | _ => exact leaf (n + 1) _ h
theorem dat_shp {n : Nat} {u : U} (h : dat n u = true) (hn : n ≤ 64) : shp u = true := by
  obtain ⟨h1, h2⟩ := dat_lay n u h
  unfold shp SeqAt.shaped
  rw [h1, decide_eq_true (by omega)]
  rfl
theorem eqvAll_iff {us ws : List U} (h : ∀ u ∈ us, ∀ w ∈ ws, (PyData.eqv (toD u) (toD w) = true ↔ u = w)) : PyData.eqvAll (toDs us) (toDs ws) = true ↔ us = ws := by
  induction us generalizing ws with
  | nil => cases ws <;> simp [toDs, PyData.eqvAll]
  | cons u us ih =>
    cases ws with
    | nil => simp [toDs, PyData.eqvAll]
    | cons w ws =>
      simp only [toDs, PyData.eqvAll, Bool.and_eq_true, List.cons.injEq]
      rw [h u List.mem_cons_self w List.mem_cons_self, ih fun a ha b hb => h a (List.mem_cons_of_mem _ ha) b (List.mem_cons_of_mem _ hb)]
theorem dat_eqv : ∀ (n : Nat) (u w : U), dat n u = true → dat n w = true → (PyData.eqv (toD u) (toD w) = true ↔ u = w) := by
  have leaf : ∀ (u w : U), leafU u = true → leafU w = true → (PyData.eqv (toD u) (toD w) = true ↔ u = w) := fun u w h k => by
    cases u <;> first | (exfalso; revert h; simp [leafU]; done) | (cases w <;> first | (exfalso; revert k; simp [leafU]; done) | (simp [toD, PyData.eqv]; done))
  have mix : ∀ (u w : U), leafU u = true → (∃ us, w = .tup us ∨ w = .lst us) → (PyData.eqv (toD u) (toD w) = true ↔ u = w) := fun u w h k => by
    obtain ⟨us, rfl | rfl⟩ := k <;> (cases u <;> first | (exfalso; revert h; simp [leafU]; done) | (simp [toD, PyData.eqv]; done))
  have mix2 : ∀ (u w : U), leafU u = true → (∃ us, w = .tup us ∨ w = .lst us) → (PyData.eqv (toD w) (toD u) = true ↔ w = u) := fun u w h k => by
    obtain ⟨us, rfl | rfl⟩ := k <;> (cases u <;> first | (exfalso; revert h; simp [leafU]; done) | (simp [toD, PyData.eqv]; done))
  intro n
  induction n with
  | zero => exact fun u w h k => leaf u w h k
  | succ n ih =>
    intro u w h k
    have sub : ∀ us ws : List U, us.all (dat n) = true → ws.all (dat n) = true → (PyData.eqvAll (toDs us) (toDs ws) = true ↔ us = ws) := fun us ws h k => by
      rw [List.all_eq_true] at h k
      exact eqvAll_iff fun a ha b hb => ih a b (h a ha) (k b hb)
    cases u with
    | tup us =>
      cases w with
      | tup ws => simp only [toD, PyData.eqv, U.tup.injEq]; exact sub us ws h k
      | lst ws => simp [toD, PyData.eqv]
      | _ => exact mix2 _ _ k ⟨_, .inl rfl⟩
    | lst us =>
      cases w with
      | lst ws => simp only [toD, PyData.eqv, U.lst.injEq]; exact sub us ws h k
      | tup ws => simp [toD, PyData.eqv]
      | _ => exact mix2 _ _ k ⟨_, .inr rfl⟩
    | _ =>
      cases w with
      | tup ws => exact mix _ _ h ⟨_, .inl rfl⟩
      | lst ws => exact mix _ _ h ⟨_, .inr rfl⟩
      | _ => exact leaf _ _ h k
theorem any_toDs {ws : List U} {p : PyData → Bool} : (toDs ws).any p = ws.any fun w => p (toD w) := by
  induction ws with
  | nil => rfl
  | cons w ws ih => simp only [toDs, List.any_cons, ih]
theorem any_dat {n : Nat} {u : U} {ws : List U} (h : dat n u = true) (k : ∀ w ∈ ws, dat n w = true) : ((toDs ws).any fun z => PyData.eqv z (toD u)) = decide (u ∈ ws) := by
  rw [any_toDs]
  rw [Bool.eq_iff_iff, List.any_eq_true, decide_eq_true_eq]
  constructor
  · rintro ⟨w, hw, e⟩
    rw [dat_eqv n w u (k w hw) h] at e
    exact e ▸ hw
  · intro hu
    exact ⟨u, hu, (dat_eqv n u u h h).mpr rfl⟩
theorem dat_lst {n : Nat} {ws : List U} (k : ∀ w ∈ ws, dat n w = true) : dat (n + 1) (.lst ws) = true := by
  show ws.all (dat n) = true
  rw [List.all_eq_true]
  exact k
theorem sInF_tup {neg : Bool} {us ws : List U} : sInF neg (.tup us) (.lst ws) = none := by simp [sInF, flU]
theorem sNotIn2_dat {n : Nat} {us ws : List U} (hn : n ≤ 50) (h : dat n (.tup us) = true) (k : ∀ w ∈ ws, dat n w = true) : sNotIn2 (.tup us) (.lst ws) = some (false, .bl (!decide (U.tup us ∈ ws))) := by
  have h0 : sNotIn (.tup us) (.lst ws) = none := by
    unfold sNotIn orS
    rw [sInF_tup]
    rfl
  unfold sNotIn2 orS
  rw [h0]
  unfold sInA
  dsimp only
  rw [if_pos (by rw [dat_shp h (by omega), dat_shp (dat_lst k) (by omega)]; rfl), any_dat h k]
  rfl
theorem ixD_dat {n : Nat} {u : U} {ws : List U} (h : dat n u = true) (k : ∀ w ∈ ws, dat n w = true) (m : u ∈ ws) : ixD (toDs ws) (toD u) = some (ws.idxOf u) := by
  unfold ixD
  induction ws with
  | nil => cases m
  | cons w ws ih =>
    rw [toDs, List.findIdx?_cons, List.idxOf_cons]
    by_cases e : w = u
    · subst e
      have : PyData.eqv (toD w) (toD w) = true := (dat_eqv n w w h h).mpr rfl
      simp [this]
    · have e1 : PyData.eqv (toD w) (toD u) = false := by
        have := dat_eqv n w u (k w List.mem_cons_self) h
        cases z : PyData.eqv (toD w) (toD u) with
        | false => rfl
        | true => exact absurd (this.mp z) e
      have e2 : (w == u) = false := by simpa using e
      rw [e1, e2]
      have m2 : u ∈ ws := (List.mem_cons.mp m).resolve_left fun z => e z.symm
      rw [if_neg Bool.false_ne_true, ih (fun x hx => k x (List.mem_cons_of_mem _ hx)) m2]
      rfl
theorem sIndex_dat {n : Nat} {u : U} {ws : List U} (hn : n ≤ 50) (h : dat n u = true) (k : ∀ w ∈ ws, dat n w = true) (m : u ∈ ws) : sIndex (.lst ws) [u] = some (false, .int (ws.idxOf u : Nat)) := by
  unfold sIndex
  dsimp only
  rw [if_pos (by rw [dat_shp h (by omega), dat_shp (dat_lst k) (by omega)]; rfl), ixD_dat h k m]
end VS
set_option Elab.async false
set_option linter.all false
set_option maxRecDepth 100000
namespace VS
open PySem L2
@[simp] theorem i_N {i : Nat} {e : En} : mItN i e = (match gs e i with
  | some (true, .lst us) => .ok ⟨us, us, some i⟩ e
  | some (false, .lst us) => .ok ⟨us, [], none⟩ e
  | some (false, .scr ns) => .ok ⟨ns.map .int, [], none⟩ e
  | _ => .bad) := by
  unfold mItN
  rw [← gs_eq]
  cases h : e[i]? with
  | none => rfl
  | some s =>
    cases s with
    | none => rfl
    | some p => obtain ⟨o, u⟩ := p; cases o <;> cases u <;> rfl
theorem lcL_eq {t : MT} {te : M U} {vs : List Nat} {e : En} {g : Option Nat} {src : List U} {α : Type} (f : α → U) (gg : α → U) (hk : gOK g src (wipeE e vs)) : ∀ (xs : List α) (acc : List U), acc.length + xs.length ≤ sizeLine → (∀ x, x ∈ xs → item t te vs (gg x) e (f x)) →
    lcL t (M.ret true) te vs g src (xs.map gg) acc (wipeE e vs) = some (acc ++ xs.map f, wipeE e vs)
  | [], acc, _, _ => by simp [lcL]
  | x :: xs, acc, hl, hs => by
    have q := hs x List.mem_cons_self
    rw [List.length_cons] at hl
    unfold item at q
    rw [List.map_cons]
    unfold lcL
    cases z : t (gg x) (wipeE e vs) with
    | none => rw [z] at q; exact q.elim
    | some e1 =>
      rw [z] at q
      dsimp only [M.ret] at q ⊢
      cases y : te e1 with
      | ok y' e3 =>
        rw [y] at q
        obtain ⟨q1, q2⟩ := q
        dsimp only
        rw [q2, if_pos ⟨by omega, hk⟩, q1, lcL_eq f gg hk xs _ (by rw [List.length_append, List.length_singleton]; omega) fun x hx => hs x (List.mem_cons_of_mem _ hx)]
        simp
      | _ => rw [y] at q; exact q.elim
theorem lc_eqG {t : MT} {te : M U} {vs : List Nat} {s : Src} {e : En} {α : Type} (xs : List α) (g : α → U) (f : α → U) (hg : gOK s.g s.src (wipeE e vs)) (hi : s.items = xs.map g) (hl : xs.length ≤ sizeLine) (hc : clr e vs) (hs : ∀ x, x ∈ xs → item t te vs (g x) e (f x)) :
    lcR t (M.ret true) te vs s e = .ok (true, .lst (xs.map f)) e := by
  unfold lcR
  rw [if_pos hg, hi, lcL_eq f g hg xs [] (by simpa using hl) hs]
  dsimp only
  rw [List.nil_append, resE_self e _ vs hc rfl]
end VS
set_option linter.all false
set_option maxRecDepth 100000
namespace VS
open PySem L2
theorem orS_of {s t : Op2} {u w : U} {z : Bool × U} (h : s u w = some z) : orS s t u w = some z := by unfold orS; rw [h]
theorem orN_of {s t : OpN} {us : List U} {z : Bool × U} (h : s us = some z) : orN s t us = some z := by unfold orN; rw [h]
@[simp] theorem sGe2_ii {i j : Int} : sGe2 (.int i) (.int j) = some (false, .bl (decide (j ≤ i))) := orS_of sGe_ii
@[simp] theorem sGe2_ss {x y : Str} : sGe2 (.str x) (.str y) = some (false, .bl (!decide (x.cps.toList < y.cps.toList))) := rfl
end VS
set_option linter.all false
set_option maxRecDepth 100000
namespace VS
open PySem L2
section
variable {e : En} {κ : Ks}
@[simp] theorem e_raise {c : Str} {m : M U} : mRaise c m e = (m.bs fun u e => .exc c u e) e := rfl
end
end VS
namespace VS
end VS
set_option linter.all false
set_option maxRecDepth 100000
namespace VS
open PySem L2
end VS
set_option linter.all false
set_option maxRecDepth 100000
namespace VS
open PySem L2
section
variable {m k : MS} {c : M Bool} {e e1 : En} {κ : Ks}
end
end VS
set_option linter.all false
set_option maxRecDepth 100000
namespace VS
open PySem L2
section
variable {j : Nat} {m k a b : DS} {n : MS} {e e1 e' : En} {T : Cel} {κ κ' : Ou → Prop} {p : Addr} {u u' : U}
theorem wp_runP (h : (n e).post ⟨fun e => κ (.nx e T), fun e => κ (.ct e T), fun e => κ (.bk e T), fun o u e => κ (.rt o u e), fun c u e => κ (.exc c u e)⟩) : (dRun n).wp e T κ := by
  show outK T κ (n e)
  unfold RS.post at h
  unfold outK
  cases z : n e with
  | bad => rw [z] at h; exact h
  | _ => rw [z] at h; exact h
theorem wp_run (h : n e = .nx e1) (q : κ (.nx e1 T)) : (dRun n).wp e T κ := by
  show outK T κ (n e)
  rw [h]; exact q
theorem wp_seq (q : m.wp e T (seqK k κ)) : (m.seq k).wp e T κ := q
theorem wp_seqR (h : n e = .nx e1) (q : k.wp e1 T κ) : ((dRun n).seq k).wp e T κ := wp_run h q
theorem wp_with (h : gs e j = some (false, .adr p)) (hT : T p = some u) (q : m.wp (e.set j (some (true, u))) (cset T p none) (withK j p κ)) : (dWith j m).wp e T κ := by
  show withP j m e T κ e[j]?
  rw [gs_some.mp h]
  unfold withP
  dsimp only
  rw [hT]
  exact q
theorem cset_cset {T : Cel} {p : Addr} {x y : Option U} : cset (cset T p x) p y = cset T p y := by
  funext b
  by_cases z : b = p
  · subst z; rw [cset_same, cset_same]
  · rw [cset_ne z, cset_ne z, cset_ne z]
theorem cset_id {T : Cel} {p : Addr} {u : U} (h : T p = some u) : cset T p (some u) = T := by
  funext b
  by_cases z : b = p
  · subst z; rw [cset_same, h]
  · rw [cset_ne z]
theorem wp_put {mk : En → Cel → Ou} (hj : gs e j = some (true, u)) (ld : isLD u = true) (q : κ (mk (e.set j (some (false, .adr p))) (cset T p (some u)))) : putK j p κ mk e T := by
  unfold putK
  rw [gs_some.mp hj]
  exact ⟨ld, q⟩
theorem wp_withR (h : gs e j = some (false, .adr p)) (hT : T p = some u) (hm : n (e.set j (some (true, u))) = .nx e') (hj : gs e' j = some (true, u')) (ld : isLD u' = true) (q : κ (.nx (e'.set j (some (false, .adr p))) (cset T p (some u')))) : (dWith j (dRun n)).wp e T κ :=
  wp_with h hT (wp_run hm (show putK j p κ .nx e' (cset T p none) from wp_put hj ld (by rw [cset_cset]; exact q)))
theorem wp_withI (h : gs e j = some (false, .adr p)) (hT : T p = some u) (hm : n (e.set j (some (true, u))) = .nx e') (hj : gs e' j = some (true, u)) (ld : isLD u = true) (q : κ (.nx (e'.set j (some (false, .adr p))) T)) : (dWith j (dRun n)).wp e T κ :=
  wp_withR h hT hm hj ld (by rw [cset_id hT]; exact q)
theorem wp_ifT {c : M Bool} (h : c e = .ok true e1) (q : a.wp e1 T κ) : (dIf c a b).wp e T κ := by
  show ifK a b T κ (c e)
  rw [h]; exact q
theorem wp_ifF {c : M Bool} (h : c e = .ok false e1) (q : b.wp e1 T κ) : (dIf c a b).wp e T κ := by
  show ifK a b T κ (c e)
  rw [h]; exact q
theorem wp_res (q : m.wp (resC T e) emp κ) : (dRes m).wp e T κ := q
theorem wp_new {mm : M U} {i : Nat} (h : mm e = .ok u e1) (sk : skOk u = true) (q : ∀ w L, Sk u w L → (L.map (·.1)).Nodup → (∀ p ∈ L, T p.1 = none) → κ (.nx (e1.set i (some (false, w))) (addC T L))) : (dNew mm (sTk i)).wp e T κ := by
  show newK T κ (sTk i) (mm e)
  rw [h]
  exact ⟨sk, q⟩
theorem wp_for {ms : M Src} {t : MT} {s : Src} {α : Type} (h : ms e = .ok s e1) (hg : s.g = none) (xs : List α) (g : α → U) (hi : s.items = xs.map g) (J : List α → En → Cel → Prop) (h0 : J [] e1 T)
    (hs : ∀ done x rest e T, xs = done ++ x :: rest → J done e T → ∃ e2, t (g x) e = some e2 ∧ b.wp e2 T (forK none s.src κ (J (done ++ [x])))) (hN : ∀ e T, J xs e T → κ (.nx e T)) : (dFor ms t b).wp e T κ := by
  show dForK t b T κ (ms e)
  rw [h]
  show forD t b s.g s.src κ s.items e1 T
  rw [hg, hi]
  suffices h : ∀ (rest done : List α) (e : En) (T : Cel), xs = done ++ rest → J done e T → forD t b none s.src κ (rest.map g) e T from h xs [] e1 T rfl h0
  intro rest
  induction rest with
  | nil =>
    intro done e T h hJ
    refine hN e T ?_
    rw [h, List.append_nil]
    exact hJ
  | cons x rest ih =>
    intro done e T h hJ
    obtain ⟨e2, q1, q2⟩ := hs done x rest e T h hJ
    rw [List.map_cons]
    unfold forD
    rw [q1]
    refine b.mono (fun o ho => ?_) q2
    cases o with
    | nx e T => exact ⟨ho.1, ih _ e T (by rw [h]; simp) ho.2⟩
    | ct e T => exact ⟨ho.1, ih _ e T (by rw [h]; simp) ho.2⟩
    | bk e T => exact ho
    | rt o u e => exact ho
    | exc o u e => exact ho
end
theorem ldf_sk {u w : U} {L : List (Addr × U)} (h : flD u = true) (k : Sk u w L) : ∃ a, w = .adr a ∧ L = [(a, u)] := by
  cases u with
  | lst us =>
    simp only [Sk] at k
    obtain ⟨a, ws, L', e, k, e2⟩ := k
    obtain ⟨e3, e4⟩ := Sks.eqFlat h k
    exact ⟨a, e, by rw [e2, e3, e4]⟩
  | dct kvs =>
    simp only [Sk] at k
    obtain ⟨a, e, _, e2⟩ := k
    exact ⟨a, e, e2⟩
  | _ => cases h
mutual
theorem ldf_skOk : ∀ {u : U}, ldf u = true → skOk u = true
  | .tup us, l => ldfs_skOks (us := us) l
  | .non, l => l
  | .bl _, l => l
  | .int _, l => l
  | .str _, l => l
  | .tpd us, l => l
  | .ins c fs, l => l
  | .lst _, l => by cases l
  | .scr _, l => by cases l
  | .dct _, l => by cases l
  | .set _, l => by cases l
  | .adr _, l => by cases l
  | .xc _ _, l => by cases l
theorem ldfs_skOks : ∀ {us : List U}, ldfs us = true → skOks us = true
  | [], _ => rfl
  | u :: us, l => by
    simp only [ldfs, Bool.and_eq_true] at l
    simp only [skOks, Bool.and_eq_true]
    exact ⟨ldf_skOk l.1, ldfs_skOks l.2⟩
end
structure CsL (T : Cel) (r : Addr) (as : List Addr) (us : List U) : Prop where
  rt : T r = some (.lst (as.map .adr))
  ln : as.length = us.length
  nd : as.Nodup
  nr : r ∉ as
  at_ : ∀ (i : Nat) a u, as[i]? = some a → us[i]? = some u → T a = some u
theorem CsL.set {T : Cel} {r : Addr} {as : List Addr} {us : List U} (c : CsL T r as us) {i : Nat} {a : Addr} (h : as[i]? = some a) (u : U) : CsL (cset T a (some u)) r as (us.set i u) := by
  have am := List.mem_of_getElem? h
  refine ⟨by rw [cset_ne fun z => c.nr (by rw [z]; exact am)]; exact c.rt, by simp [c.ln], c.nd, c.nr, fun j b w h1 h2 => ?_⟩
  by_cases ij : i = j
  · subst ij
    rw [h] at h1
    cases h1
    rw [cset_same]
    rw [List.getElem?_set] at h2
    simp only [if_true] at h2
    split at h2
    · exact h2
    · cases h2
  · rw [List.getElem?_set_ne ij] at h2
    rw [cset_ne fun z => ij ?_]
    · exact c.at_ j b w h1 h2
    · subst z
      obtain ⟨l1, e1⟩ := List.getElem?_eq_some_iff.mp h
      obtain ⟨l2, e2⟩ := List.getElem?_eq_some_iff.mp h1
      have nd := c.nd
      unfold List.Nodup at nd
      rw [List.pairwise_iff_getElem] at nd
      rcases Nat.lt_trichotomy i j with q | q | q
      · exact absurd (e1.trans e2.symm) (nd i j l1 l2 q)
      · exact q
      · exact absurd (e2.trans e1.symm) (nd j i l2 l1 q)
theorem rs_flD {f : Addr → U} {u : U} (h : flD u = true) : rs f u = u := by
  cases u with
  | lst us => show U.lst (rss f us) = _; rw [rss_flat h]
  | dct kvs =>
    show U.dct (rsd f kvs) = _
    rw [rsd_map]
    congr 1
    have h : (kvs.all fun p => ldf p.1 && ldf p.2) = true := h
    rw [List.all_eq_true] at h
    conv => rhs; rw [← List.map_id kvs]
    apply List.map_congr_left
    intro p hp
    have := h p hp
    rw [Bool.and_eq_true] at this
    rw [rs_flat this.2]
    rfl
  | _ => cases h
theorem CsL.res {T : Cel} {r : Addr} {as : List Addr} {us : List U} (c : CsL T r as us) (h : ∀ u ∈ us, flD u = true) : VS.res T (.adr r) = .lst us := by
  show resA T 6 r = _
  unfold resA
  rw [c.rt]
  show U.lst (rss _ _) = _
  rw [rss_map, List.map_map]
  congr 1
  apply List.ext_getElem
  · simp [c.ln]
  · intro i h1 h2
    have h3 : i < as.length := by simpa using h1
    rw [List.getElem_map]
    show resA T 5 (as[i]'h3) = _
    unfold resA
    have e := c.at_ i (as[i]'h3) us[i] (List.getElem?_eq_getElem _) (List.getElem?_eq_getElem h2)
    rw [e]
    dsimp only
    exact rs_flD (h _ (List.getElem_mem h2))
@[simp] theorem resC_nil {T : Cel} : resC T [] = [] := rfl
@[simp] theorem resC_none {T : Cel} {e : En} : resC T (none :: e) = none :: resC T e := rfl
@[simp] theorem resC_some {T : Cel} {o : Bool} {u : U} {e : En} : resC T (some (o, u) :: e) = some (o, res T u) :: resC T e := rfl
@[simp] theorem res_int {T : Cel} {i : Int} : res T (.int i) = .int i := rfl
@[simp] theorem res_str {T : Cel} {i : Str} : res T (.str i) = .str i := rfl
@[simp] theorem res_non {T : Cel} : res T .non = .non := rfl
@[simp] theorem res_bl {T : Cel} {i : Bool} : res T (.bl i) = .bl i := rfl
theorem res_flD {T : Cel} {u : U} (h : flD u = true) : res T u = u := rs_flD h
theorem res_lst {T : Cel} {us : List U} : res T (.lst us) = .lst (us.map (res T)) := by show U.lst (rss _ us) = _; rw [rss_map]
theorem res_tup {T : Cel} {us : List U} : res T (.tup us) = .tup (us.map (res T)) := by show U.tup (rss _ us) = _; rw [rss_map]
theorem res_lstI {T : Cel} {us : List U} (h : ∀ u ∈ us, res T u = u) : res T (.lst us) = .lst us := by
  rw [res_lst]
  congr 1
  conv => rhs; rw [← List.map_id us]
  exact List.map_congr_left fun u hu => h u hu
theorem res_tupI {T : Cel} {us : List U} (h : ∀ u ∈ us, res T u = u) : res T (.tup us) = .tup us := by
  rw [res_tup]
  congr 1
  conv => rhs; rw [← List.map_id us]
  exact List.map_congr_left fun u hu => h u hu
end VS
namespace VS
open PySem L2
@[simp] theorem e_dv {m : M (Bool × U)} {e : En} : mDv m e = (m.bd fun r e => if flD r.2 && r.1 then .ok r.2 e else .bad) e := rfl
@[simp] theorem e_dcs {ma : M U} {mr : M (List U)} {e : En} : mDcs ma mr e = (ma.bd fun r => mr.bd fun rs => M.ret (r :: rs)) e := rfl
@[simp] theorem e_dt {m : M (List U)} {e : En} : mDt m e = (m.bd fun us => if us.length ≤ sizeLine then M.ret (.tup us) else fun _ => .bad) e := rfl
end VS
namespace VS
open PySem L2
end VS
namespace VS
open PySem L2
end VS
namespace VS
open PySem L2
end VS
namespace VS
open PySem L2
end VS
namespace VS
open PySem L2
theorem withK_nx {j : Nat} {a : Addr} {κ : Ou → Prop} {e : En} {T : Cel} : withK j a κ (.nx e T) = putK j a κ .nx e T := rfl
end VS
set_option linter.all false
set_option maxRecDepth 100000
namespace VS
open PySem L2
theorem sEq_selfW (u : U) : sEq true u u = some (false, .bl false) ∨ sEq true u u = none := by
  unfold sEq
  split
  · left; simp
  · split
    · rename_i h
      rw [Bool.and_eq_true] at h
      left
      rw [if_pos rfl, eqv_self _ (shp_lay h.1)]
      rfl
    · exact .inr rfl
theorem sNe2_selfW {us : List U} (h : us.all (nice 50) = true) : sNe2 (.lst us) (.lst us) = some (false, .bl false) := by
  unfold sNe2 orS
  rcases sEq_selfW (.lst us) with q | q
  · rw [q]
  · rw [q]
    unfold sNeN
    dsimp only
    rw [if_pos (by rw [h]; simp [cdec_iff])]
end VS
set_option linter.all false
set_option maxRecDepth 100000
namespace VS
open PySem L2
end VS
set_option linter.all false
set_option maxRecDepth 100000
namespace VS
open PySem L2
theorem eqvD {n : Nat} {u w : U} (h : dat n u = true) (k : dat n w = true) : PyData.eqv (toD u) (toD w) = decide (u = w) := by
  have := dat_eqv n u w h k
  by_cases q : u = w
  · rw [decide_eq_true q]; exact this.mpr q
  · rw [decide_eq_false q]
    cases z : PyData.eqv (toD u) (toD w) with
    | false => rfl
    | true => exact absurd (this.mp z) q
theorem sEqD_ll {neg : Bool} {us ws : List U} {n : Nat} (hn : n ≤ 50) (h : dat n (.lst us) = true) (k : dat n (.lst ws) = true) : sEq neg (.lst us) (.lst ws) = some (false, .bl (if neg then !decide (us = ws) else decide (us = ws))) := by
  unfold sEq
  have s0 : scalU (.lst us) (.lst ws) = false := by simp [scalU, flU]
  rw [s0, dat_shp h (by omega), dat_shp k (by omega)]
  simp [eqvD h k]
theorem dat_all {n : Nat} {us : List U} (h : ∀ u ∈ us, dat n u = true) : dat (n + 1) (.lst us) = true := by
  show List.all _ _ = true
  rw [List.all_eq_true]
  exact h
end VS
set_option Elab.async false
set_option linter.all false
namespace KM
variable {β ε : Type} [DecidableEq β] [DecidableEq ε]
def beh (rows : Rows β ε) (i : Nat) (view : List ε) : Option β := blk rows (walk rows i view)
def Tells (rows : Rows β ε) (c : Nat → Nat) : Prop := ∀ i j, i < rows.length → j < rows.length → (c i = c j ↔ ∀ v, beh rows i v = beh rows j v)
theorem Stable.tells {rows : Rows β ε} {ev : List ε} {c : Nat → Nat} (hf : Fit rows) (h : Stable rows ev c) (hev : ∀ r e, e ∉ ev → lk (stp rows r) e = none) : Tells rows c := by
  intro i j hi hj
  constructor
  · intro q v
    have : ∀ (v : List ε) (i j : Nat), i < rows.length → j < rows.length → c i = c j → beh rows i v = beh rows j v := by
      intro v
      induction v with
      | nil => intro i j hi hj q; exact h.b i j hi hj q
      | cons e v ih =>
        intro i j hi hj q
        refine ih _ _ (goal_lt hf hi) (goal_lt hf hj) ?_
        by_cases he : e ∈ ev
        · exact h.g i j e hi hj he q
        · have a : goal rows i e = i := by unfold goal; rw [hev i e he]; rfl
          have b : goal rows j e = j := by unfold goal; rw [hev j e he]; rfl
          rw [a, b]
          exact q
    exact this v i j hi hj q
  · intro q
    refine h.co (fun i j => i < rows.length ∧ j < rows.length ∧ ∀ v, beh rows i v = beh rows j v) ⟨fun i j z => z.2.2 [], fun i j e he z => ⟨goal_lt hf z.1, goal_lt hf z.2.1, fun v => z.2.2 (e :: v)⟩, fun i j z => ⟨z.1, z.2.1⟩⟩ i j ⟨hi, hj, q⟩
def eff (rows : Rows β ε) (c : Nat → Nat) (r : Nat) (e : ε) : Bool := decide (c (goal rows r e) ≠ c r)
theorem ords_filter {rows : Rows β ε} {c : Nat → Nat} {r : Nat} : ∀ {ev : List ε} {order : List Nat}, ords rows c r ev order = ords rows c r (ev.filter (eff rows c r)) order
  | [], order => rfl
  | e :: ev, order => by
    by_cases q : c (goal rows r e) = c r
    · have f : eff rows c r e = false := by unfold eff; simp [q]
      rw [List.filter_cons, f, if_neg Bool.false_ne_true]
      have o : ord1 rows c r order e = order := by unfold ord1; rw [if_neg (fun z => z.1 q)]
      show ords rows c r ev (ord1 rows c r order e) = _
      rw [o]
      exact ords_filter
    · have f : eff rows c r e = true := by unfold eff; simp [q]
      rw [List.filter_cons, f, if_pos rfl]
      exact ords_filter (ev := ev) (order := ord1 rows c r order e)
inductive Pd (X : Nat → Nat → Prop) : List Nat → List Nat → Prop
  | nil : Pd X [] []
  | cons {a b : Nat} {xs ys : List Nat} : X a b → Pd X xs ys → Pd X (a :: xs) (b :: ys)
theorem Pd.len {X : Nat → Nat → Prop} {xs ys : List Nat} (h : Pd X xs ys) : xs.length = ys.length := by
  induction h with
  | nil => rfl
  | cons _ _ ih => rw [List.length_cons, List.length_cons, ih]
theorem Pd.snoc {X : Nat → Nat → Prop} {xs ys : List Nat} {a b : Nat} (h : Pd X xs ys) (q : X a b) : Pd X (xs ++ [a]) (ys ++ [b]) := by
  induction h with
  | nil => exact .cons q .nil
  | cons r _ ih => exact .cons r ih
theorem Pd.get {X : Nat → Nat → Prop} {xs ys : List Nat} (h : Pd X xs ys) : ∀ {k a : Nat}, xs[k]? = some a → ∃ b, ys[k]? = some b ∧ X a b := by
  induction h with
  | nil => intro k a h; simp at h
  | cons r _ ih =>
    intro k a h
    cases k with
    | zero => cases h; exact ⟨_, rfl, r⟩
    | succ k => exact ih h
section
variable {A B : Rows β ε} {c d : Nat → Nat} {ea eb : List ε}
def Xx (A B : Rows β ε) (a b : Nat) : Prop := a < A.length ∧ b < B.length ∧ ∀ v, beh A a v = beh B b v
theorem Xx.goal (fa : Fit A) (fb : Fit B) {a b : Nat} (h : Xx A B a b) (e : ε) : Xx A B (goal A a e) (goal B b e) := ⟨goal_lt fa h.1, goal_lt fb h.2.1, fun v => h.2.2 (e :: v)⟩
theorem Xx.same (ta : Tells A c) (tb : Tells B d) {a b a' b' : Nat} (h : Xx A B a b) (k : Xx A B a' b') : c a = c a' ↔ d b = d b' := by
  rw [ta a a' h.1 k.1, tb b b' h.2.1 k.2.1]
  constructor
  · intro q v; rw [← h.2.2 v, ← k.2.2 v]; exact q v
  · intro q v; rw [h.2.2 v, k.2.2 v]; exact q v
theorem pd_mem (ta : Tells A c) (tb : Tells B d) {oa ob : List Nat} (h : Pd (Xx A B) oa ob) {g k : Nat} (q : Xx A B g k) : c g ∈ oa.map c ↔ d k ∈ ob.map d := by
  induction h with
  | nil => simp
  | cons r _ ih =>
    rw [List.map_cons, List.map_cons, List.mem_cons, List.mem_cons, ih, Xx.same ta tb q r]
theorem pd_idx (ta : Tells A c) (tb : Tells B d) {oa ob : List Nat} (h : Pd (Xx A B) oa ob) {g k : Nat} (q : Xx A B g k) : ixc c oa g = ixc d ob k := by
  unfold ixc
  induction h with
  | nil => rfl
  | @cons a b xs ys r _ ih =>
    rw [List.map_cons, List.map_cons, List.idxOf_cons, List.idxOf_cons, ih]
    have e := Xx.same ta tb r q
    by_cases z : c a = c g
    · have z2 := e.mp z
      simp [z, z2]
    · have z2 : ¬ d b = d k := fun w => z (e.mpr w)
      have b1 : (c a == c g) = false := by simpa using z
      have b2 : (d b == d k) = false := by simpa using z2
      rw [b1, b2]
theorem pd_ord1 (fa : Fit A) (fb : Fit B) (ta : Tells A c) (tb : Tells B d) {oa ob : List Nat} (h : Pd (Xx A B) oa ob) {r s : Nat} (q : Xx A B r s) (e : ε) : Pd (Xx A B) (ord1 A c r oa e) (ord1 B d s ob e) := by
  have g := q.goal fa fb e
  have e1 := Xx.same ta tb g q
  have e2 := pd_mem ta tb h g
  unfold ord1
  by_cases z : c (KM.goal A r e) ≠ c r ∧ c (KM.goal A r e) ∉ oa.map c
  · rw [if_pos z, if_pos ⟨fun w => z.1 (e1.mpr w), fun w => z.2 (e2.mpr w)⟩]
    exact h.snoc g
  · rw [if_neg z, if_neg fun w => z ⟨fun y => w.1 (e1.mp y), fun y => w.2 (e2.mp y)⟩]
    exact h
theorem pd_ords (fa : Fit A) (fb : Fit B) (ta : Tells A c) (tb : Tells B d) {r s : Nat} (q : Xx A B r s) : ∀ {ev : List ε} {oa ob : List Nat}, Pd (Xx A B) oa ob → Pd (Xx A B) (ords A c r ev oa) (ords B d s ev ob)
  | [], _, _, h => h
  | e :: ev, oa, ob, h => (show Pd (Xx A B) (ords A c r ev (ord1 A c r oa e)) (ords B d s ev (ord1 B d s ob e)) from pd_ords fa fb ta tb q (pd_ord1 fa fb ta tb h q e))
theorem eff_same (fa : Fit A) (fb : Fit B) (ta : Tells A c) (tb : Tells B d) {r s : Nat} (q : Xx A B r s) (e : ε) : eff A c r e = eff B d s e := by
  have e1 := Xx.same ta tb (q.goal fa fb e) q
  unfold eff
  by_cases z : c (KM.goal A r e) = c r
  · simp [z, e1.mp z]
  · have z2 : ¬ d (KM.goal B s e) = d s := fun w => z (e1.mpr w)
    simp [z, z2]
theorem Bfs.lock (fa : Fit A) (fb : Fit B) (ta : Tells A c) (tb : Tells B d) (h0 : Xx A B 0 0) (hE : ∀ r s, Xx A B r s → ea.filter (eff A c r) = eb.filter (eff B d s)) {k : Nat} {oa : List Nat} (h : Bfs A c ea k oa) : ∃ ob, Bfs B d eb k ob ∧ Pd (Xx A B) oa ob := by
  induction h with
  | zero => exact ⟨[0], .zero, .cons h0 .nil⟩
  | succ r h hr ih =>
    obtain ⟨ob, h1, h2⟩ := ih
    obtain ⟨s, hs, x⟩ := h2.get hr
    refine ⟨_, .succ s h1 hs, ?_⟩
    rw [ords_filter, ords_filter (rows := B), ← hE r s x]
    exact pd_ords fa fb ta tb x h2
theorem Bfs.both (fa : Fit A) (fb : Fit B) (ta : Tells A c) (tb : Tells B d) (h0 : Xx A B 0 0) (hE : ∀ r s, Xx A B r s → ea.filter (eff A c r) = eb.filter (eff B d s)) {oa ob : List Nat} (h : Bfs A c ea oa.length oa) (k : Bfs B d eb ob.length ob) : Pd (Xx A B) oa ob := by
  obtain ⟨o, h1, h2⟩ := h.lock fa fb ta tb h0 hE
  have := Bfs.unique h1 h2.len k rfl
  rw [this] at h2
  exact h2
theorem steps_same (fa : Fit A) (fb : Fit B) (ta : Tells A c) (tb : Tells B d) (hE : ∀ r s, Xx A B r s → ea.filter (eff A c r) = eb.filter (eff B d s)) {oa ob : List Nat} (h : Pd (Xx A B) oa ob) {r s : Nat} (q : Xx A B r s) : stepsOf A c oa r ea = stepsOf B d ob s eb := by
  unfold stepsOf
  have := hE r s q
  unfold eff at this
  rw [this]
  apply List.map_congr_left
  intro e _
  rw [pd_idx ta tb h (q.goal fa fb e)]
end
end KM
set_option Elab.async false
set_option linter.all false
set_option maxRecDepth 100000
namespace VS
open PySem L2
structure Fr (K : PySem.W.Frag) (mg : Str → Option Value) (C_InvalidName : Addr) (C_InvalidStep : Addr) (C_Keeper : Addr) (I_X : Addr) : Prop where
  cl_Keeper : ClsV K mg "Keeper" C_Keeper
  k_LETTERS : ∃ t, mg "LETTERS" = some (.str "abcdefghijklmnopqrstuvwxyz" t)
  k_LONGEST : ∃ t, mg "LONGEST" = some (.int 8 t)
  et_InvalidName : ExT K mg (.ref C_InvalidName) [("InvalidName", true), ("InvalidStep", false)]
  et_InvalidStep : ExT K mg (.ref C_InvalidStep) [("InvalidName", false), ("InvalidStep", true)]
  f_ValueError : mg "ValueError" = none
  f_all : mg "all" = none
  f_bool : mg "bool" = none
  f_dict : mg "dict" = none
  f_enumerate : mg "enumerate" = none
  f_int : mg "int" = none
  f_isinstance : mg "isinstance" = none
  f_len : mg "len" = none
  f_list : mg "list" = none
  f_max : mg "max" = none
  f_min : mg "min" = none
  f_range : mg "range" = none
  f_set : mg "set" = none
  f_sorted : mg "sorted" = none
  f_str : mg "str" = none
  f_tuple : mg "tuple" = none
  na_Keeper_rows : NoAttr K C_Keeper "rows"
  xc_InvalidName : XcV K mg "InvalidName" C_InvalidName I_X
  xc_InvalidStep : XcV K mg "InvalidStep" C_InvalidStep I_X
theorem Fr.c_LETTERS {X : Cx} {W : WXX} {pos : Pos} {C_InvalidName : Addr} {C_InvalidStep : Addr} {C_Keeper : Addr} {I_X : Addr} (fr : Fr X.K X.mg C_InvalidName C_InvalidStep C_Keeper I_X) (hg : Gl X "LETTERS") : PV X W (.Name "LETTERS" pos) (mC (.str "abcdefghijklmnopqrstuvwxyz")) := by
  obtain ⟨t, h⟩ := fr.k_LETTERS
  exact pv_glob hg h (v := .str "abcdefghijklmnopqrstuvwxyz") ⟨t, rfl⟩ (fun B => by simp only [rep])
theorem Fr.c_LONGEST {X : Cx} {W : WXX} {pos : Pos} {C_InvalidName : Addr} {C_InvalidStep : Addr} {C_Keeper : Addr} {I_X : Addr} (fr : Fr X.K X.mg C_InvalidName C_InvalidStep C_Keeper I_X) (hg : Gl X "LONGEST") : PV X W (.Name "LONGEST" pos) (mC (.int 8)) := by
  obtain ⟨t, h⟩ := fr.k_LONGEST
  exact pv_glob hg h (v := .int 8) ⟨t, rfl⟩ (fun B => by simp only [rep])
abbrev N_law_cell : List Str := ["_law_script", "_law_k"]
theorem sc_law_cell : FnScope N_law_cell ["_law_script", "_law_k"] (defScope st_law_cell) := ⟨rfl, rfl, rfl, by decide +kernel, rfl, by decide +kernel, by decide +kernel⟩
noncomputable def b_law_cell : MS :=
 ((mIf (mTst (mBin sLtI (mSl 1) (mR (mF (mCB sLenU (mRc (mSl 0) mRn))))))
 (mRet (mBin sIx (mSl 0) (mSl 1)))
 MS.nop).seq
 (mRet (mO (mC (.int 0)))))
noncomputable def φ_law_cell : Fs := fnS 2 2 (prL [0, 1]) b_law_cell
abbrev N_law_digits : List Str := ["_law_cell_here", "_law_many", "_law_most", "_law_rest", "_law_great", "_law_stir", "_law_row", "_law_k"]
theorem sc_law_digits : FnScope N_law_digits ["_law_cell_here", "_law_many"] (defScope st_law_digits) := ⟨rfl, rfl, rfl, by decide +kernel, rfl, by decide +kernel, by decide +kernel⟩
noncomputable def b_law_digits : MS :=
 ((mAsg 2 (mBin sPow (mR (mC (.int 10))) (mR (mC (.int 64))))).seq
 ((mAsg 3 (mBin sMod (mR (mF (mCB sInt (mRc (mSl 0) mRn)))) (mR (mF (mBin sMul (mR (mF (mBin sMul (mR (mF (mBin sMul (mR (mF (mBin sMul (mR (mF (mBin sMul (mSl 2) (mSl 2)))) (mSl 2)))) (mSl 2)))) (mSl 2)))) (mSl 2)))))).seq
 ((mAsg 4 (mBin sGe2 (mSl 3) (mR (mF (mBin sPow (mR (mC (.int 10))) (mR (mC (.int 18)))))))).seq
 ((mAsg 5 (mBin sMod (mSl 3) (mR (mC (.int 2147483647))))).seq
 ((mIf (mTru (mSl 4))
 (mAsg 3 (mBin sSub (mSl 3) (mR (mF (mBin sPow (mR (mC (.int 10))) (mR (mC (.int 18))))))))
 MS.nop).seq
 ((mAsg 6 (mLst mVn)).seq
 ((mFor (mRg1 (mN 1)) (tgN 7)
 (mIf (mTru (mSl 4))
 ((mDrp (mF (mMu isL sApp 6 (mVc (mF (mBin sMod (mSl 3) (mR (mC (.int 60))))) mVn)))).seq
 (mAsg 3 (mBin sDiv (mSl 3) (mR (mC (.int 60))))))
 ((mAsg 5 (mBin sMod (mR (mF (mBin sMul (mR (mF (mBin sAdd (mR (mF (mBin sAdd (mR (mF (mBin sAdd (mSl 5) (mSl 3)))) (mR (mF (mBin sMul (mR (mC (.int 40503))) (mSl 7))))))) (mR (mC (.int 271)))))) (mR (mC (.int 48271)))))) (mR (mC (.int 2147483647))))).seq
 ((mAsg 5 (mBin sMod (mR (mF (mBin sAdd (mR (mF (mBin sMul (mSl 5) (mSl 5)))) (mR (mF (mBin sMul (mR (mC (.int 7))) (mSl 7))))))) (mR (mC (.int 2147483629))))).seq
 (mDrp (mF (mMu isL sApp 6 (mVc (mF (mBin sMod (mR (mF (mBin sDiv (mSl 5) (mR (mC (.int 16)))))) (mR (mC (.int 60))))) mVn)))))))).seq
 (mRetV 6))))))))
noncomputable def φ_law_digits : Fs := fnS 8 2 (prL [0, 1]) b_law_digits
abbrev N_law_eight : List Str := ["_law_row", "_law_letters", "_law_word", "_law_step", "_law_signs", "_law_mark", "_law_spots", "_law_at", "_law_size", "_law_k", "_law_digit", "_law_sign"]
theorem sc_law_eight : FnScope N_law_eight ["_law_row"] (defScope st_law_eight) := ⟨rfl, rfl, rfl, by decide +kernel, rfl, by decide +kernel, by decide +kernel⟩
noncomputable def b_law_eight : MS :=
 ((mAsg 1 (mO (mC (.str "abcdefghijklmnopqrstuvwxyz")))).seq
 ((mAsg 2 (mMr isS sJoin (mR (mC (.str ""))) (mVc (mF (mLc (mItA (mF (mSlc (orSl sSlL sSlS) (mSl 0) mP0 (mP1 (mC (.int 8)))))) (tgN 10) (M.ret true) (mF (mBin sIx (mSl 1) (mR (mF (mBin sMod (mSl 10) (mR (mC (.int 26)))))))) [10])) mVn))).seq
 ((mAsg 3 (mBin sAdd (mR (mC (.int 1))) (mR (mF (mBin sMul (mR (mC (.int 2))) (mR (mF (mBin sMod (mR (mF (mBin sIx (mSl 0) (mR (mC (.int 10)))))) (mR (mC (.int 4))))))))))).seq
 ((mIf (mTst (mBin (sEq false) (mR (mF (mBin sMod (mR (mF (mBin sIx (mSl 0) (mR (mC (.int 8)))))) (mR (mC (.int 4)))))) (mR (mC (.int 0)))))
 (mRet (mLc (mRg1 (mC (.int 8))) (tgN 9) (M.ret true) (mF (mSlc (orSl sSlL sSlS) (mSl 2) mP0 (mP1 (mF (mBin sAdd (mR (mC (.int 1))) (mR (mF (mBin sMod (mR (mF (mBin sAdd (mR (mF (mBin sIx (mSl 0) (mR (mC (.int 9)))))) (mR (mF (mBin sMul (mSl 9) (mSl 3))))))) (mR (mC (.int 8))))))))))) [9]))
 MS.nop).seq
 ((mIf (mTst (mBin (sEq false) (mR (mF (mBin sMod (mR (mF (mBin sIx (mSl 0) (mR (mC (.int 8)))))) (mR (mC (.int 4)))))) (mR (mC (.int 3)))))
 ((mAsg 5 (mBin sIx (mSl 1) (mR (mF (mBin sMod (mR (mF (mBin sAdd (mR (mF (mBin sAdd (mR (mF (mBin sIx (mSl 0) (mR (mC (.int 0)))))) (mR (mC (.int 1)))))) (mR (mF (mBin sMod (mR (mF (mBin sIx (mSl 0) (mR (mC (.int 9)))))) (mR (mC (.int 25))))))))) (mR (mC (.int 26)))))))).seq
 ((mAsg 6 (mLc (mRg1 (mC (.int 8))) (tgN 9) (M.ret true) (mF (mBin sMod (mR (mF (mBin sAdd (mR (mF (mBin sIx (mSl 0) (mR (mC (.int 11)))))) (mR (mF (mBin sMul (mSl 9) (mSl 3))))))) (mR (mC (.int 8))))) [9])).seq
 (mRet (mLc (mItA (mN 6)) (tgN 7) (M.ret true) (mF (mBin sAdd (mR (mF (mBin sAdd (mR (mF (mBin sMul (mR (mF (mSlc (orSl sSlL sSlS) (mSl 2) mP0 (mP1 (mC (.int 1)))))) (mSl 7)))) (mSl 5)))) (mR (mF (mBin sMul (mR (mF (mSlc (orSl sSlL sSlS) (mSl 2) mP0 (mP1 (mC (.int 1)))))) (mR (mF (mBin sSub (mR (mC (.int 7))) (mSl 7))))))))) [7]))))
 MS.nop).seq
 ((mAsg 4 (mLc (mRg1 (mC (.int 8))) (tgN 9) (M.ret true) (mF (mBin sIx (mSl 1) (mR (mF (mBin sMod (mR (mF (mBin sAdd (mR (mF (mBin sIx (mSl 0) (mR (mC (.int 9)))))) (mR (mF (mBin sMul (mSl 9) (mR (mF (mBin sAdd (mR (mC (.int 1))) (mR (mF (mBin sMod (mR (mF (mBin sIx (mSl 0) (mR (mC (.int 10)))))) (mR (mC (.int 5))))))))))))))) (mR (mC (.int 26)))))))) [9])).seq
 ((mIf (mTst (mBin (sEq false) (mR (mF (mBin sMod (mR (mF (mBin sIx (mSl 0) (mR (mC (.int 8)))))) (mR (mC (.int 4)))))) (mR (mC (.int 1)))))
 ((mAsg 7 (mBin sMod (mR (mF (mBin sIx (mSl 0) (mR (mC (.int 11)))))) (mR (mC (.int 7))))).seq
 ((mAsg 8 (mBin sAdd (mSl 7) (mR (mF (mBin sMod (mR (mF (mBin sIx (mSl 0) (mR (mC (.int 12)))))) (mR (mC (.int 7)))))))).seq
 (mRet (mLc (mItA (mN 4)) (tgN 11) (M.ret true) (mF (mBin sAdd (mR (mF (mBin sAdd (mR (mF (mSlc (orSl sSlL sSlS) (mSl 2) mP0 (mP1 (mN 7))))) (mSl 11)))) (mR (mF (mSlc (orSl sSlL sSlS) (mSl 2) (mP1 (mN 7)) (mP1 (mF (mCB sMin2 (mRc (mSl 8) (mRc (mR (mC (.int 7))) mRn)))))))))) [11]))))
 MS.nop).seq
 (mRet (mLc (mRg1 (mC (.int 8))) (tgN 9) (M.ret true) (mF (mBin sAdd (mR (mF (mSlc (orSl sSlL sSlS) (mSl 2) mP0 (mP1 (mF (mBin sMod (mR (mF (mBin sIx (mSl 0) (mR (mF (mBin sAdd (mR (mC (.int 11))) (mSl 9))))))) (mR (mC (.int 8))))))))) (mR (mF (mBin sIx (mSl 4) (mSl 9)))))) [9])))))))))
noncomputable def φ_law_eight : Fs := fnS 12 1 (prL [0]) b_law_eight
abbrev N_law_rooms : List Str := ["_law_row", "_law_words", "_law_free", "_law_size", "_law_rooms_here", "_law_k", "_law_kind", "_law_steps", "_law_j", "_law_digit"]
theorem sc_law_rooms : FnScope N_law_rooms ["_law_row", "_law_words", "_law_free"] (defScope st_law_rooms) := ⟨rfl, rfl, rfl, by decide +kernel, rfl, by decide +kernel, by decide +kernel⟩
noncomputable def b_law_rooms : MS :=
 ((mAsg 3 (mBin sAdd (mR (mC (.int 1))) (mR (mF (mBin sMod (mR (mF (mBin sIx (mSl 0) (mR (mC (.int 0)))))) (mR (mC (.int 6)))))))).seq
 ((mAsg 4 (mLst mVn)).seq
 ((mFor (mRg1 (mN 3)) (tgN 5)
 ((mAsg 6 (mBin sMod (mR (mF (mBin sIx (mSl 0) (mR (mF (mBin sAdd (mR (mC (.int 98))) (mSl 5))))))) (mR (mF (mBin sAdd (mR (mC (.int 1))) (mR (mF (mBin sMod (mR (mF (mBin sIx (mSl 0) (mR (mC (.int 97)))))) (mR (mC (.int 6))))))))))).seq
 ((mAsg 7 mDn).seq
 ((mFor (mRg1 (mF (mCB sLenU (mRc (mSl 1) mRn)))) (tgN 8)
 ((mAsg 9 (mBin sIx (mSl 0) (mR (mF (mBin sAdd (mR (mF (mBin sAdd (mR (mC (.int 49))) (mR (mF (mBin sMul (mR (mC (.int 8))) (mSl 5))))))) (mSl 8)))))).seq
 (mIf (mTst (mBin sGtI (mR (mF (mBin sMod (mSl 9) (mR (mC (.int 4)))))) (mR (mC (.int 0)))))
 (mSto 7 (mF (mBin sIx (mSl 1) (mSl 8))) (mF (mBin sMod (mR (mF (mBin sDiv (mSl 9) (mR (mC (.int 4)))))) (mSl 3))))
 MS.nop))).seq
 (mDrp (mF (mMu isL sApp 4 (mVc (mF (mTup (mVc (mF (mLc (mRg1 (mF (mCB sLenU (mRc (mSl 2) mRn)))) (tgN 8) (mTst (mBin (sEq false) (mR (mF (mBin sMod (mR (mF (mBin sIx (mSl 0) (mR (mF (mBin sAdd (mR (mF (mBin sAdd (mR (mC (.int 1))) (mR (mF (mBin sMul (mR (mC (.int 8))) (mSl 6))))))) (mSl 8))))))) (mR (mC (.int 2)))))) (mR (mC (.int 1))))) (mF (mBin sIx (mSl 2) (mSl 8))) [8])) (mVc (mN 7) mVn)))) mVn)))))))).seq
 (mRetV 4))))
noncomputable def φ_law_rooms : Fs := fnS 10 3 (prL [0, 1, 2]) b_law_rooms
abbrev N_law_bad : List Str := ["_law_names", "_law_row", "_law_word", "_law_at", "_law_sign"]
theorem sc_law_bad : FnScope N_law_bad ["_law_names", "_law_row"] (defScope st_law_bad) := ⟨rfl, rfl, rfl, by decide +kernel, rfl, by decide +kernel, by decide +kernel⟩
noncomputable def b_law_bad : MS :=
 ((mAsg 2 (mBin sIx (mSl 0) (mR (mF (mBin sMod (mR (mF (mBin sIx (mSl 1) (mR (mC (.int 0)))))) (mR (mC (.int 5)))))))).seq
 ((mIf (mTst (mBin (sEq false) (mR (mF (mBin sMod (mR (mF (mBin sIx (mSl 1) (mR (mC (.int 1)))))) (mR (mC (.int 5)))))) (mR (mC (.int 0)))))
 (mRet (mO (mC (.str ""))))
 MS.nop).seq
 ((mIf (mTst (mBin (sEq false) (mR (mF (mBin sMod (mR (mF (mBin sIx (mSl 1) (mR (mC (.int 1)))))) (mR (mC (.int 5)))))) (mR (mC (.int 1)))))
 (mRet (mSlc (orSl sSlL sSlS) (mR (mF (mBin sMul (mSl 2) (mR (mC (.int 9)))))) mP0 (mP1 (mF (mBin sAdd (mR (mC (.int 9))) (mR (mF (mBin sMul (mR (mF (mBin sMod (mR (mF (mBin sIx (mSl 1) (mR (mC (.int 2)))))) (mR (mC (.int 3)))))) (mR (mF (mCB sInt (mRc (mR (mF (mBin sGtI (mR (mF (mCB sLenU (mRc (mSl 2) mRn)))) (mR (mC (.int 1)))))) mRn))))))))))))
 MS.nop).seq
 ((mAsg 3 (mBin sMod (mR (mF (mBin sIx (mSl 1) (mR (mC (.int 2)))))) (mR (mF (mBin sAdd (mR (mF (mCB sLenU (mRc (mSl 2) mRn)))) (mR (mC (.int 1)))))))).seq
 ((mAsg 4 (mBin sIx (mR (mC (.str " -AZ09_.{`/&\x40["))) (mR (mF (mBin sMod (mR (mF (mBin sIx (mSl 1) (mR (mC (.int 3)))))) (mR (mC (.int 14)))))))).seq
 (mRet (mSlc (orSl sSlL sSlS) (mR (mF (mBin sAdd (mR (mF (mBin sAdd (mR (mF (mSlc (orSl sSlL sSlS) (mSl 2) mP0 (mP1 (mN 3))))) (mSl 4)))) (mR (mF (mSlc (orSl sSlL sSlS) (mSl 2) (mP1 (mN 3)) mP0)))))) mP0 (mP1 (mF (mBin sAdd (mR (mC (.int 8))) (mR (mF (mBin sMod (mR (mF (mBin sIx (mSl 1) (mR (mC (.int 4)))))) (mR (mC (.int 2))))))))))))))))
noncomputable def φ_law_bad : Fs := fnS 5 2 (prL [0, 1]) b_law_bad
abbrev N_law_spoiled : List Str := ["_law_rooms_here", "_law_names", "_law_row", "_law_cell_here", "_law_found", "_law_k", "_law_more", "_law_shut", "_law_steps", "_law_word", "_law_room", "_law_far"]
theorem sc_law_spoiled : FnScope N_law_spoiled ["_law_rooms_here", "_law_names", "_law_row", "_law_cell_here"] (defScope st_law_spoiled) := ⟨rfl, rfl, rfl, by decide +kernel, rfl, by decide +kernel, by decide +kernel⟩
noncomputable def b_law_spoiled : DS :=
 ((dNew (mLcD (mItA (mN 0)) (tgN 10) (M.ret true) (mDt (mDcs (mDv (mCB sList (mRc (mR (mF (mBin sIx (mSl 10) (mR (mC (.int 0)))))) mRn))) (mDcs (mDv (mCB sDict2 (mRc (mR (mF (mBin sIx (mSl 10) (mR (mC (.int 1)))))) mRn))) (M.ret [])))) [10]) (sTk 4)).seq
 ((dFor (mRg1 (mF (mBin sIx (mR (mF (mLst (mVc (mC (.int 0)) (mVc (mC (.int 1)) (mVc (mC (.int 1)) (mVc (mC (.int 1)) (mVc (mC (.int 2)) (mVc (mC (.int 3)) mVn))))))))) (mR (mF (mBin sMod (mR (mF (mBin sIx (mSl 2) (mR (mC (.int 0)))))) (mR (mC (.int 6))))))))) (tgN 5)
 ((dRun (mAsg 6 (mSlc (orSl sSlL sSlS) (mSl 2) (mP1 (mF (mBin sAdd (mR (mC (.int 1))) (mR (mF (mBin sMul (mR (mC (.int 9))) (mSl 5))))))) (mP1 (mF (mBin sAdd (mR (mC (.int 10))) (mR (mF (mBin sMul (mR (mC (.int 9))) (mSl 5)))))))))).seq
 ((dWith 4 (dRun (mAsg 7 (mBin sIx (mR (mF (mBin sIx (mSl 4) (mR (mF (mBin sMod (mR (mF (mBin sIx (mSl 6) (mR (mC (.int 0)))))) (mR (mF (mCB sLenU (mRc (mSl 4) mRn)))))))))) (mR (mC (.int 0))))))).seq
 ((dWith 4 (dRun (mAsg 8 (mBin sIx (mR (mF (mBin sIx (mSl 4) (mR (mF (mBin sMod (mR (mF (mBin sIx (mSl 6) (mR (mC (.int 0)))))) (mR (mF (mCB sLenU (mRc (mSl 4) mRn)))))))))) (mR (mC (.int 1))))))).seq
 ((dRun (mAsg 9 (mCall 2 φ_law_bad (mRc (mSl 1) (mRc (mR (mF (mSlc (orSl sSlL sSlS) (mSl 6) (mP1 (mC (.int 1))) (mP1 (mC (.int 6)))))) mRn))))).seq
 (dIf (mTst (mBin (sEq false) (mR (mF (mBin sMod (mR (mF (mBin sIx (mSl 6) (mR (mC (.int 6)))))) (mR (mC (.int 3)))))) (mR (mC (.int 0)))))
 (dWith 7 (dRun (mDrp (mF (mMu isL sInsL 7 (mVc (mF (mBin sMod (mR (mF (mBin sIx (mSl 6) (mR (mC (.int 7)))))) (mR (mF (mBin sAdd (mR (mF (mCB sLenU (mRc (mSl 7) mRn)))) (mR (mC (.int 1)))))))) (mVc (mN 9) mVn)))))))
 (dIf (mTst (mBin (sEq false) (mR (mF (mBin sMod (mR (mF (mBin sIx (mSl 6) (mR (mC (.int 6)))))) (mR (mC (.int 3)))))) (mR (mC (.int 1)))))
 (dWith 4 (dWith 8 (dRun (mSto 8 (mN 9) (mF (mBin sSub (mR (mF (mBin sMod (mR (mF (mBin sIx (mSl 6) (mR (mC (.int 7)))))) (mR (mF (mBin sAdd (mR (mF (mCB sLenU (mRc (mSl 4) mRn)))) (mR (mC (.int 2))))))))) (mR (mF (mBin sMod (mR (mF (mBin sIx (mSl 6) (mR (mC (.int 8)))))) (mR (mC (.int 2))))))))))))
 ((dWith 4 (dRun (mAsg 11 (mBin sIx (mR (mF (mLst (mVc (mNeg (mC (.int 1))) (mVc (mF (mCB sLenU (mRc (mSl 4) mRn))) (mVc (mF (mBin sAdd (mR (mF (mBin sAdd (mR (mF (mCB sLenU (mRc (mSl 4) mRn)))) (mR (mC (.int 1)))))) (mR (mF (mBin sMod (mR (mF (mCB sInt (mRc (mSl 3) mRn)))) (mR (mF (mBin sPow (mR (mC (.int 10))) (mR (mC (.int 30))))))))))) (mVc (mF (mBin sSub (mR (mNeg (mC (.int 2)))) (mR (mF (mBin sMod (mR (mF (mCB sInt (mRc (mSl 3) mRn)))) (mR (mF (mBin sPow (mR (mC (.int 10))) (mR (mC (.int 30))))))))))) mVn))))))) (mR (mF (mBin sMod (mR (mF (mBin sIx (mSl 6) (mR (mC (.int 8)))))) (mR (mC (.int 4)))))))))).seq
 (dWith 8 (dRun (mSto 8 (mF (mBin sIx (mSl 1) (mR (mF (mBin sMod (mR (mF (mBin sIx (mSl 6) (mR (mC (.int 7)))))) (mR (mC (.int 8)))))))) (mN 11)))))))))))).seq
 (dRes (dRun (mRetV 4)))))
noncomputable def φ_law_spoiled : Fs := fnC 12 4 (prL [0, 1, 2, 3]) b_law_spoiled
abbrev N_is_name : List Str := ["text", "sign"]
theorem sc_is_name : FnScope N_is_name ["text"] (defScope st_is_name) := ⟨rfl, rfl, rfl, by decide +kernel, rfl, by decide +kernel, by decide +kernel⟩
noncomputable def b_is_name : MS :=
 (mRet (mAnd (mChn sLtI sLeI (mR (mC (.int 0))) (mR (mF (mCB sLenU (mRc (mSl 0) mRn)))) (mR (mC (.int 8)))) (mCB sAll (mRc (mR (mF (mLc (mItA (mN 0)) (tgN 1) (M.ret true) (mF (mBin sIn (mSl 1) (mR (mC (.str "abcdefghijklmnopqrstuvwxyz"))))) [1]))) mRn))))
noncomputable def φ_is_name : Fs := fnS 2 1 (prL [0]) b_is_name
abbrev N_GateError___init__ : List Str := ["self", "value"]
theorem sc_GateError___init__ : FnScope N_GateError___init__ ["self", "value"] (defScope st_GateError___init__) := ⟨rfl, rfl, rfl, by decide +kernel, rfl, by decide +kernel, by decide +kernel⟩
abbrev N_check_rooms : List Str := ["rooms", "room", "event", "blocked", "steps"]
theorem sc_check_rooms : FnScope N_check_rooms ["rooms"] (defScope st_check_rooms) := ⟨rfl, rfl, rfl, by decide +kernel, rfl, by decide +kernel, by decide +kernel⟩
noncomputable def b_check_rooms : MS :=
 (mFor (mItE2 (mN 0)) (tgT 2 (tgsC (tgN 1) (tgsC (tgT 2 (tgsC (tgN 3) (tgsC (tgN 4) tgs0))) tgs0)))
 ((mFor (mItA (mN 3)) (tgN 2)
 (mIf (mTn (mTst (mCall 1 φ_is_name (mRc (mSl 2) mRn))))
 (mRaise "InvalidName" (mN 2))
 MS.nop)).seq
 (mFor (mItA (mF (mCB sSorted (mRc (mSl 4) mRn)))) (tgN 2)
 ((mIf (mTn (mTst (mCall 1 φ_is_name (mRc (mSl 2) mRn))))
 (mRaise "InvalidName" (mN 2))
 MS.nop).seq
 (mIf (mTn (mTst (mChn sLeI sLtI (mR (mC (.int 0))) (mR (mF (mBin sIx (mSl 4) (mSl 2)))) (mR (mF (mCB sLenU (mRc (mSl 0) mRn)))))))
 (mRaise "InvalidStep" (mF (mTup (mVc (mN 1) (mVc (mN 2) mVn)))))
 MS.nop)))))
noncomputable def φ_check_rooms : Fs := fnS 5 1 (prL [0]) b_check_rooms
abbrev N_seen_events : List Str := ["rows", "event", "blocked", "steps"]
theorem sc_seen_events : FnScope N_seen_events ["rows"] (defScope st_seen_events) := ⟨rfl, rfl, rfl, by decide +kernel, rfl, by decide +kernel, by decide +kernel⟩
noncomputable def b_seen_events : MS :=
 (mRet (mSc2 (mItA (mN 0)) (tgT 2 (tgsC (tgN 2) (tgsC (tgN 3) tgs0))) (mItA (mN 3)) (tgN 1) (mN 1) [2, 3, 1] [1]))
noncomputable def φ_seen_events : Fs := fnS 4 1 (prL [0]) b_seen_events
abbrev N_numbered : List Str := ["marks", "numbers", "mark"]
theorem sc_numbered : FnScope N_numbered ["marks"] (defScope st_numbered) := ⟨rfl, rfl, rfl, by decide +kernel, rfl, by decide +kernel, by decide +kernel⟩
noncomputable def b_numbered : MS :=
 ((mAsg 1 mDn).seq
 ((mFor (mItA (mN 0)) (tgN 2)
 (mIf (mTst (mBin sNotIn (mSl 2) (mSl 1)))
 (mSto 1 (mN 2) (mF (mCB sLenU (mRc (mSl 1) mRn))))
 MS.nop)).seq
 (mRet (mLc (mItA (mN 0)) (tgN 2) (M.ret true) (mF (mBin sIx (mSl 1) (mSl 2))) [2]))))
noncomputable def φ_numbered : Fs := fnS 3 1 (prL [0]) b_numbered
abbrev N_room_classes : List Str := ["rows", "events", "classes", "count", "marks", "room", "blocked", "steps", "event"]
theorem sc_room_classes : FnScope N_room_classes ["rows"] (defScope st_room_classes) := ⟨rfl, rfl, rfl, by decide +kernel, rfl, by decide +kernel, by decide +kernel⟩
noncomputable def b_room_classes : MS :=
 ((mAsg 1 (mCall 1 φ_seen_events (mRc (mSl 0) mRn))).seq
 ((mAsg 2 (mCall 1 φ_numbered (mRc (mR (mF (mLc (mItA (mN 0)) (tgT 2 (tgsC (tgN 6) (tgsC (tgN 7) tgs0))) (M.ret true) (mN 6) [6, 7]))) mRn))).seq
 ((mAsg 3 (mO (mC (.int 0)))).seq
 ((mWhl (mTst (mBin sGtI (mR (mF (mBin sAdd (mR (mF (mCB sMx (mRc (mSl 2) mRn)))) (mR (mC (.int 1)))))) (mSl 3)))
 ((mAsg 3 (mBin sAdd (mR (mF (mCB sMx (mRc (mSl 2) mRn)))) (mR (mC (.int 1))))).seq
 ((mAsg 4 (mLst mVn)).seq
 ((mFor (mItE2 (mN 0)) (tgT 2 (tgsC (tgN 5) (tgsC (tgT 2 (tgsC (tgN 6) (tgsC (tgN 7) tgs0))) tgs0)))
 (mDrp (mF (mMu isL sApp 4 (mVc (mF (mTup (mVc (mF (mBin sIx (mSl 2) (mSl 5))) (mVc (mF (mCB sTuple (mRc (mR (mF (mLc (mItA (mN 1)) (tgN 8) (M.ret true) (mF (mBin sIx (mSl 2) (mR (mF (mMr isD sGetD (mSl 7) (mVc (mN 8) (mVc (mN 5) mVn))))))) [8]))) mRn))) mVn)))) mVn))))).seq
 (mAsg 2 (mCall 1 φ_numbered (mRc (mSl 4) mRn))))))).seq
 (mRetV 2)))))
noncomputable def φ_room_classes : Fs := fnS 9 1 (prL [0]) b_room_classes
abbrev N_least_rooms : List Str := ["rows", "events", "classes", "order", "numbers", "found", "at", "room", "steps", "event", "goal"]
theorem sc_least_rooms : FnScope N_least_rooms ["rows"] (defScope st_least_rooms) := ⟨rfl, rfl, rfl, by decide +kernel, rfl, by decide +kernel, by decide +kernel⟩
noncomputable def b_least_rooms : MS :=
 ((mAsg 1 (mCall 1 φ_seen_events (mRc (mSl 0) mRn))).seq
 ((mAsg 2 (mCall 1 φ_room_classes (mRc (mSl 0) mRn))).seq
 ((mAsg 3 (mLst (mVc (mC (.int 0)) mVn))).seq
 ((mAsg 4 (mDisp1 (mF (mBin sIx (mSl 2) (mR (mC (.int 0))))) (mC (.int 0)))).seq
 ((mAsg 5 (mLst mVn)).seq
 ((mAsg 6 (mO (mC (.int 0)))).seq
 ((mWhl (mTst (mBin sLtI (mSl 6) (mR (mF (mCB sLenU (mRc (mSl 3) mRn))))))
 ((mAsg 7 (mBin sIx (mSl 3) (mSl 6))).seq
 ((mAsg 8 mDn).seq
 ((mFor (mItA (mN 1)) (tgN 9)
 ((mAsg 10 (mMr isD sGetD (mR (mF (mBin sIx (mR (mF (mBin sIx (mSl 0) (mSl 7)))) (mR (mC (.int 1)))))) (mVc (mN 9) (mVc (mN 7) mVn)))).seq
 (mIf (mTst (mBin (sEq true) (mR (mF (mBin sIx (mSl 2) (mSl 10)))) (mR (mF (mBin sIx (mSl 2) (mSl 7))))))
 ((mIf (mTst (mBin sNotIn (mR (mF (mBin sIx (mSl 2) (mSl 10)))) (mSl 4)))
 ((mSto 4 (mF (mBin sIx (mSl 2) (mSl 10))) (mF (mCB sLenU (mRc (mSl 3) mRn)))).seq
 (mDrp (mF (mMu isL sApp 3 (mVc (mN 10) mVn)))))
 MS.nop).seq
 (mSto 8 (mN 9) (mF (mBin sIx (mSl 4) (mR (mF (mBin sIx (mSl 2) (mSl 10))))))))
 MS.nop))).seq
 ((mDrp (mF (mMu isL sApp 5 (mVc (mF (mTup (mVc (mF (mBin sIx (mR (mF (mBin sIx (mSl 0) (mSl 7)))) (mR (mC (.int 0))))) (mVc (mN 8) mVn)))) mVn)))).seq
 (mAug 6 (mC (.int 1)))))))).seq
 (mRetV 5))))))))
noncomputable def φ_least_rooms : Fs := fnS 11 1 (prL [0]) b_least_rooms
abbrev N_Keeper___init__ : List Str := ["self", "rooms", "rows", "blocked", "steps"]
theorem sc_Keeper___init__ : FnScope N_Keeper___init__ ["self", "rooms"] (defScope st_Keeper___init__) := ⟨rfl, rfl, rfl, by decide +kernel, rfl, by decide +kernel, by decide +kernel⟩
noncomputable def b_Keeper___init__ : MS :=
 ((mDrp (mF (mCall 1 φ_check_rooms (mRc (mSl 1) mRn)))).seq
 ((mAsg 2 (mLc (mItA (mN 1)) (tgT 2 (tgsC (tgN 3) (tgsC (tgN 4) tgs0))) (M.ret true) (mF (mTup (mVc (mF (mCB sTuple (mRc (mR (mF (mSS2 (mSl 3)))) mRn))) (mVc (mF (mCB sDict2 (mRc (mSl 4) mRn))) mVn)))) [3, 4])).seq
 (mFst "Keeper" "rows" 0 (mF (mCall 1 φ_least_rooms (mRc (mSl 2) mRn))))))
noncomputable def φ_Keeper___init__ : Fs := fnS 5 2 (prL [0, 1]) b_Keeper___init__
abbrev N_Keeper___len__ : List Str := ["self"]
theorem sc_Keeper___len__ : FnScope N_Keeper___len__ ["self"] (defScope st_Keeper___len__) := ⟨rfl, rfl, rfl, by decide +kernel, rfl, by decide +kernel, by decide +kernel⟩
noncomputable def b_Keeper___len__ : MS :=
 (mRet (mCB sLenU (mRc (mR (mFld "Keeper" "rows" (mSl 0))) mRn)))
noncomputable def φ_Keeper___len__ : Fs := fnS 1 1 (prL [0]) b_Keeper___len__
abbrev N_law_same : List Str := ["_law_told", "_law_due_here", "_law_k"]
theorem sc_law_same : FnScope N_law_same ["_law_told", "_law_due_here"] (defScope st_law_same) := ⟨rfl, rfl, rfl, by decide +kernel, rfl, by decide +kernel, by decide +kernel⟩
noncomputable def b_law_same (φ_law_same : Fs) : MS :=
 ((mIf (mTo (mTa (mTst (mIsi "list" (mSl 1))) (mTn (mTst (mIsi "list" (mSl 0))))) (mTa (mTst (mIsi "tuple" (mSl 1))) (mTn (mTst (mIsi "tuple" (mSl 0))))))
 (mRet (mO (mC (.bl false))))
 MS.nop).seq
 ((mIf (mTst (mIsi "bool" (mSl 1)))
 (mRet (mAnd (mIsi "bool" (mSl 0)) (mBin (sEq false) (mSl 0) (mSl 1))))
 MS.nop).seq
 ((mIf (mTst (mIsi "int" (mSl 1)))
 (mRet (mAnd (mIsi "int" (mSl 0)) (mAnd (mNot (mIsi "bool" (mSl 0))) (mBin (sEq false) (mSl 0) (mSl 1)))))
 MS.nop).seq
 ((mIf (mTst (mIsi "str" (mSl 1)))
 (mRet (mAnd (mIsi "str" (mSl 0)) (mBin (sEq false) (mSl 0) (mSl 1))))
 MS.nop).seq
 ((mIf (mTst (mBin (sIsN false) (mSl 1) (mR (mC .non))))
 (mRet (mBin (sIsN false) (mSl 0) (mR (mC .non))))
 MS.nop).seq
 ((mIf (mTst (mBin (sEq true) (mR (mF (mCB sLenU (mRc (mSl 0) mRn)))) (mR (mF (mCB sLenU (mRc (mSl 1) mRn))))))
 (mRet (mO (mC (.bl false))))
 MS.nop).seq
 ((mFor (mRg1 (mF (mCB sLenU (mRc (mSl 1) mRn)))) (tgN 2)
 (mIf (mTn (mTst (mCall 2 φ_law_same (mRc (mR (mF (mBin sIx (mSl 0) (mSl 2)))) (mRc (mR (mF (mBin sIx (mSl 1) (mSl 2)))) mRn)))))
 (mRet (mO (mC (.bl false))))
 MS.nop)).seq
 (mRet (mO (mC (.bl true)))))))))))
noncomputable def φ_law_same : Nat → Fs
  | 0 => fun _ => .bad
  | n + 1 => fnS 3 2 (prL [0, 1]) (b_law_same (φ_law_same n))
abbrev N_law_is_name : List Str := ["_law_word", "_law_sign"]
theorem sc_law_is_name : FnScope N_law_is_name ["_law_word"] (defScope st_law_is_name) := ⟨rfl, rfl, rfl, by decide +kernel, rfl, by decide +kernel, by decide +kernel⟩
noncomputable def b_law_is_name : MS :=
 ((mIf (mTo (mTst (mBin sLtI (mR (mF (mCB sLenU (mRc (mSl 0) mRn)))) (mR (mC (.int 1))))) (mTst (mBin sGtI (mR (mF (mCB sLenU (mRc (mSl 0) mRn)))) (mR (mC (.int 8))))))
 (mRet (mO (mC (.bl false))))
 MS.nop).seq
 (mRet (mBin (sEq false) (mR (mF (mLc (mItA (mN 0)) (tgN 1) (mTst (mBin sNotIn (mSl 1) (mR (mC (.str "abcdefghijklmnopqrstuvwxyz"))))) (mN 1) [1]))) (mR (mF (mLst mVn))))))
noncomputable def φ_law_is_name : Fs := fnS 2 1 (prL [0]) b_law_is_name
abbrev N_law_known : List Str := ["_law_rows", "_law_found", "_law_row", "_law_event"]
theorem sc_law_known : FnScope N_law_known ["_law_rows"] (defScope st_law_known) := ⟨rfl, rfl, rfl, by decide +kernel, rfl, by decide +kernel, by decide +kernel⟩
noncomputable def b_law_known : MS :=
 ((mAsg 1 (mLst mVn)).seq
 ((mFor (mItA (mN 0)) (tgN 2)
 (mFor (mItA (mN 2)) (tgN 3)
 (mIf (mTst (mBin sNotIn (mSl 3) (mSl 1)))
 (mDrp (mF (mMu isL sApp 1 (mVc (mN 3) mVn))))
 MS.nop))).seq
 (mRet (mCB sSorted (mRc (mSl 1) mRn)))))
noncomputable def φ_law_known : Fs := fnS 4 1 (prL [0]) b_law_known
abbrev N_law_least_rooms : List Str := ["_law_rooms_here", "_law_words", "_law_kinds", "_law_many", "_law_order", "_law_found", "_law_at", "_law_marks", "_law_finer", "_law_k", "_law_steps", "_law_word", "_law_room", "_law_mark", "_law_goal"]
theorem sc_law_least_rooms : FnScope N_law_least_rooms ["_law_rooms_here"] (defScope st_law_least_rooms) := ⟨rfl, rfl, rfl, by decide +kernel, rfl, by decide +kernel, by decide +kernel⟩
noncomputable def b_law_least_rooms : MS :=
 ((mAsg 1 (mCall 1 φ_law_known (mRc (mR (mF (mLc (mItA (mN 0)) (tgN 12) (M.ret true) (mF (mBin sIx (mSl 12) (mR (mC (.int 1))))) [12]))) mRn))).seq
 ((mAsg 2 (mLc (mItA (mN 0)) (tgN 12) (M.ret true) (mC (.int 0)) [12])).seq
 ((mAsg 3 (mO (mC (.int 0)))).seq
 ((mWhl (mTst (mBin sLtI (mSl 3) (mR (mF (mBin sAdd2 (mR (mF (mCB sMx (mRc (mSl 2) mRn)))) (mR (mC (.int 1))))))))
 ((mAsg 3 (mBin sAdd2 (mR (mF (mCB sMx (mRc (mSl 2) mRn)))) (mR (mC (.int 1))))).seq
 ((mAsg 7 (mLst mVn)).seq
 ((mAsg 8 (mLst mVn)).seq
 ((mFor (mRg1 (mF (mCB sLenU (mRc (mSl 0) mRn)))) (tgN 9)
 ((mAsg 13 (mTup (mVc (mF (mBin sIx (mSl 2) (mSl 9))) (mVc (mF (mSS2 (mR (mF (mBin sIx (mR (mF (mBin sIx (mSl 0) (mSl 9)))) (mR (mC (.int 0)))))))) (mVc (mF (mLc (mItA (mN 1)) (tgN 11) (M.ret true) (mF (mBin sIx (mSl 2) (mR (mF (mMr isD sGetD (mR (mF (mBin sIx (mR (mF (mBin sIx (mSl 0) (mSl 9)))) (mR (mC (.int 1)))))) (mVc (mN 11) (mVc (mN 9) mVn))))))) [11])) mVn))))).seq
 ((mIf (mTst (mBin sNotIn2 (mSl 13) (mSl 7)))
 (mDrp (mF (mMu isL sApp 7 (mVc (mN 13) mVn))))
 MS.nop).seq
 (mDrp (mF (mMu isL sApp 8 (mVc (mF (mMr isL sIndex (mSl 7) (mVc (mN 13) mVn))) mVn))))))).seq
 (mAsg 2 (mO (mN 8)))))))).seq
 ((mAsg 4 (mLst (mVc (mC (.int 0)) mVn))).seq
 ((mAsg 5 (mLst mVn)).seq
 ((mAsg 6 (mO (mC (.int 0)))).seq
 ((mWhl (mTst (mBin sLtI (mSl 6) (mR (mF (mCB sLenU (mRc (mSl 4) mRn))))))
 ((mAsg 10 (mLst mVn)).seq
 ((mFor (mItA (mN 1)) (tgN 11)
 ((mAsg 14 (mMr isD sGetD (mR (mF (mBin sIx (mR (mF (mBin sIx (mSl 0) (mR (mF (mBin sIx (mSl 4) (mSl 6))))))) (mR (mC (.int 1)))))) (mVc (mN 11) (mVc (mF (mBin sIx (mSl 4) (mSl 6))) mVn)))).seq
 (mIf (mTst (mBin sNe2 (mR (mF (mBin sIx (mSl 2) (mSl 14)))) (mR (mF (mBin sIx (mSl 2) (mR (mF (mBin sIx (mSl 4) (mSl 6)))))))))
 ((mIf (mTst (mBin sNotIn2 (mR (mF (mBin sIx (mSl 2) (mSl 14)))) (mR (mF (mLc (mItN 4) (tgN 9) (M.ret true) (mF (mBin sIx (mSl 2) (mSl 9))) [9])))))
 (mDrp (mF (mMu isL sApp 4 (mVc (mN 14) mVn))))
 MS.nop).seq
 (mDrp (mF (mMu isL sApp 10 (mVc (mF (mTup (mVc (mN 11) (mVc (mF (mMr isL sIndex (mR (mF (mLc (mItN 4) (tgN 9) (M.ret true) (mF (mBin sIx (mSl 2) (mSl 9))) [9]))) (mVc (mF (mBin sIx (mSl 2) (mSl 14))) mVn))) mVn)))) mVn)))))
 MS.nop))).seq
 ((mDrp (mF (mMu isL sApp 5 (mVc (mF (mTup (mVc (mF (mSS2 (mR (mF (mBin sIx (mR (mF (mBin sIx (mSl 0) (mR (mF (mBin sIx (mSl 4) (mSl 6))))))) (mR (mC (.int 0)))))))) (mVc (mN 10) mVn)))) mVn)))).seq
 (mAsg 6 (mBin sAdd2 (mSl 6) (mR (mC (.int 1))))))))).seq
 (mRetV 5)))))))))
noncomputable def φ_law_least_rooms : Fs := fnS 15 1 (prL [0]) b_law_least_rooms
abbrev N_law_due : List Str := ["_law_rooms_here", "_law_k", "_law_word"]
theorem sc_law_due : FnScope N_law_due ["_law_rooms_here"] (defScope st_law_due) := ⟨rfl, rfl, rfl, by decide +kernel, rfl, by decide +kernel, by decide +kernel⟩
noncomputable def b_law_due : MS :=
 ((mFor (mRg1 (mF (mCB sLenU (mRc (mSl 0) mRn)))) (tgN 1)
 ((mFor (mItA (mF (mBin sIx (mR (mF (mBin sIx (mSl 0) (mSl 1)))) (mR (mC (.int 0)))))) (tgN 2)
 (mIf (mTn (mTst (mCall 1 φ_law_is_name (mRc (mSl 2) mRn))))
 (mRet (mTup (mVc (mC (.str "name")) (mVc (mN 2) mVn))))
 MS.nop)).seq
 (mFor (mItA (mF (mCB sSorted (mRc (mR (mF (mBin sIx (mR (mF (mBin sIx (mSl 0) (mSl 1)))) (mR (mC (.int 1)))))) mRn)))) (tgN 2)
 ((mIf (mTn (mTst (mCall 1 φ_law_is_name (mRc (mSl 2) mRn))))
 (mRet (mTup (mVc (mC (.str "name")) (mVc (mN 2) mVn))))
 MS.nop).seq
 (mIf (mTo (mTst (mBin sLtI (mR (mF (mBin sIx (mR (mF (mBin sIx (mR (mF (mBin sIx (mSl 0) (mSl 1)))) (mR (mC (.int 1)))))) (mSl 2)))) (mR (mC (.int 0))))) (mTst (mBin sGe2 (mR (mF (mBin sIx (mR (mF (mBin sIx (mR (mF (mBin sIx (mSl 0) (mSl 1)))) (mR (mC (.int 1)))))) (mSl 2)))) (mR (mF (mCB sLenU (mRc (mSl 0) mRn)))))))
 (mRet (mTup (mVc (mC (.str "step")) (mVc (mF (mTup (mVc (mN 1) (mVc (mN 2) mVn)))) mVn))))
 MS.nop))))).seq
 (mRet (mTup (mVc (mC (.str "keeper")) (mVc (mF (mCB sLenU (mRc (mR (mF (mCall 1 φ_law_least_rooms (mRc (mSl 0) mRn)))) mRn))) mVn)))))
noncomputable def φ_law_due : Fs := fnS 3 1 (prL [0]) b_law_due
abbrev N_law : List Str := ["_law_script", "_law_cell_here", "_law_row", "_law_names", "_law_rooms_here", "_law_handed", "_law_told", "_law_keeper", "e", "_law_room"]
theorem sc_law : FnScope N_law ["_law_script"] (defScope st_law) := ⟨rfl, rfl, rfl, by decide +kernel, rfl, by decide +kernel, by decide +kernel⟩
noncomputable def b_law : MS :=
 ((mFor (mItA (mF (mBin sAdd2 (mR (mF (mLst (mVc (mF (mCall 2 φ_law_cell (mRc (mSl 0) (mRc (mR (mC (.int 0))) mRn)))) mVn)))) (mR (mF (mSlc (orSl sSlL sSlS) (mSl 0) (mP1 (mC (.int 1))) (mP1 (mC (.int 40))))))))) (tgN 1)
 ((mAsg 2 (mCall 2 φ_law_digits (mRc (mSl 1) (mRc (mR (mC (.int 154))) mRn)))).seq
 ((mAsg 3 (mCall 1 φ_law_eight (mRc (mR (mF (mSlc (orSl sSlL sSlS) (mSl 2) mP0 (mP1 (mC (.int 19)))))) mRn))).seq
 ((mAsg 4 (mCall 3 φ_law_rooms (mRc (mR (mF (mSlc (orSl sSlL sSlS) (mSl 2) (mP1 (mC (.int 19))) (mP1 (mC (.int 123)))))) (mRc (mR (mF (mSlc (orSl sSlL sSlS) (mSl 3) mP0 (mP1 (mF (mBin sMod (mR (mF (mBin sIx (mSl 2) (mR (mC (.int 123)))))) (mR (mC (.int 9))))))))) (mRc (mR (mF (mSlc (orSl sSlL sSlS) (mSl 3) (mP1 (mF (mBin sSub (mR (mC (.int 8))) (mR (mF (mBin sMod (mR (mF (mBin sIx (mSl 2) (mR (mC (.int 124)))))) (mR (mC (.int 9))))))))) mP0))) mRn))))).seq
 ((mAsg 4 (mCall 4 φ_law_spoiled (mRc (mSl 4) (mRc (mSl 3) (mRc (mR (mF (mSlc (orSl sSlL sSlS) (mSl 2) (mP1 (mC (.int 125))) (mP1 (mC (.int 153)))))) (mRc (mSl 1) mRn)))))).seq
 ((mAsg 5 (mLc (mItA (mN 4)) (tgN 9) (M.ret true) (mF (mTup (mVc (mF (mCB sList2 (mRc (mR (mF (mBin sIx (mSl 9) (mR (mC (.int 0)))))) mRn))) (mVc (mF (mCB sDict2 (mRc (mR (mF (mBin sIx (mSl 9) (mR (mC (.int 1)))))) mRn))) mVn)))) [9])).seq
 ((mAsg 6 (mO (mC .non))).seq
 ((mAsg 7 (mO (mC .non))).seq
 ((mTryN [([("InvalidName", true), ("InvalidStep", false)], "name"), ([("InvalidName", false), ("InvalidStep", true)], "step")] 8 6 (mAsg 7 (mMk "Keeper" 2 φ_Keeper___init__ (mRc (mSl 5) mRn)))).seq
 ((mIf (mTst (mBin (sIsN false) (mSl 6) (mR (mC .non))))
 (mAsg 6 (mTup (mVc (mC (.str "keeper")) (mVc (mF (mLenX "Keeper" φ_Keeper___len__ (mSl 7))) mVn))))
 MS.nop).seq
 (mIf (mTo (mTn (mTst (mCall 2 (φ_law_same 8) (mRc (mSl 6) (mRc (mR (mF (mCall 1 φ_law_due (mRc (mSl 4) mRn)))) mRn))))) (mTst (mBin sNe2 (mSl 5) (mSl 4))))
 (mRet (mO (mC (.bl false))))
 MS.nop))))))))))).seq
 (mRet (mO (mC (.bl true)))))
noncomputable def φ_law : Fs := fnS 10 1 (prL [0]) b_law
theorem ok_law_cell {P : Program} {w : World} {K : PySem.W.Frag} {mg : Str → Option Value} {base : Heap} {f : Addr} {fd : FuncData} {C_InvalidName : Addr} {C_InvalidStep : Addr} {C_Keeper : Addr} {I_X : Addr} (fr : Fr K mg C_InvalidName C_InvalidStep C_Keeper I_X) (hm : mg "_law_cell" = some (.ref f)) (F : FunD K "_law_cell" "_law_cell" (defArgs st_law_cell) (defBody st_law_cell) (defScope st_law_cell) [] [] f fd) : FnV P w K mg base 1 "_law_cell" 2 φ_law_cell :=
  fn_rule (k := 0) (N := N_law_cell) (pr := prL [0, 1]) hm F sc_law_cell (fun _ _ _ _ _ _ us hl => match us, hl with | [_, _], _ => rfl) fun cdv A outer s H E ct =>
 (bv_cons (sv_if (pt_cmp' ok_ltI (pr_n 1) (pr_of (pv_of (po_callB ok_lenU rfl fr.f_len bt_len (prs_cons (pr_n 0) prs_nil)))) (by first | exact nomark _ | with_unfolding_all rfl))
 (bv_one (sv_ret (po_ix (ok_ix ct.hr.units) (pr_n 0) (pr_n 1) (by intro _ _; rfl))))
 bv_nil)
 (bv_one (sv_ret (po_of pv_int))))
theorem ok_law_digits {P : Program} {w : World} {K : PySem.W.Frag} {mg : Str → Option Value} {base : Heap} {f : Addr} {fd : FuncData} {C_InvalidName : Addr} {C_InvalidStep : Addr} {C_Keeper : Addr} {I_X : Addr} (fr : Fr K mg C_InvalidName C_InvalidStep C_Keeper I_X) (hm : mg "_law_digits" = some (.ref f)) (F : FunD K "_law_digits" "_law_digits" (defArgs st_law_digits) (defBody st_law_digits) (defScope st_law_digits) [] [] f fd) : FnV P w K mg base 1 "_law_digits" 2 φ_law_digits :=
  fn_rule (k := 0) (N := N_law_digits) (pr := prL [0, 1]) hm F sc_law_digits (fun _ _ _ _ _ _ us hl => match us, hl with | [_, _], _ => rfl) fun cdv A outer s H E ct =>
 (bv_cons (sv_set (i := 2) ct.hN rfl (by first | exact Or.inl rfl | exact Or.inr rfl) rfl (po_bin ok_pow (pr_of pv_int) (pr_of pv_int)))
 (bv_cons (sv_set (i := 3) ct.hN rfl (by first | exact Or.inl rfl | exact Or.inr rfl) rfl (po_bin ok_mod (pr_of (pv_of (po_callTy ok_int rfl fr.f_int bt_int (prs_cons (pr_n 0) prs_nil)))) (pr_of (pv_of (po_bin ok_mul (pr_of (pv_of (po_bin ok_mul (pr_of (pv_of (po_bin ok_mul (pr_of (pv_of (po_bin ok_mul (pr_of (pv_of (po_bin ok_mul (pr_n 2) (pr_n 2)))) (pr_n 2)))) (pr_n 2)))) (pr_n 2)))) (pr_n 2))))))
 (bv_cons (sv_set (i := 4) ct.hN rfl (by first | exact Or.inl rfl | exact Or.inr rfl) rfl (po_cmp ok_ge2 (pr_n 3) (pr_of (pv_of (po_bin ok_pow (pr_of pv_int) (pr_of pv_int)))) (by first | exact nomark _ | with_unfolding_all rfl)))
 (bv_cons (sv_set (i := 5) ct.hN rfl (by first | exact Or.inl rfl | exact Or.inr rfl) rfl (po_bin ok_mod (pr_n 3) (pr_of pv_int)))
 (bv_cons (sv_if (pt_tru (pr_n 4))
 (bv_one (sv_set (i := 3) ct.hN rfl (by first | exact Or.inl rfl | exact Or.inr rfl) rfl (po_bin ok_sub (pr_n 3) (pr_of (pv_of (po_bin ok_pow (pr_of pv_int) (pr_of pv_int)))))))
 bv_nil)
 (bv_cons (sv_set (i := 6) ct.hN rfl (by first | exact Or.inl rfl | exact Or.inr rfl) rfl (po_lst pvs_nil))
 (bv_cons (sv_for (pr' := prL [0, 1]) ct.ps ct.hc (iv_range1 rfl fr.f_range (pv_n 1)) nog_rg1.src (prL_sub rfl) (gv_n 7 ct)
 (bv_one (sv_if (pt_tru (pr_n 4))
 (bv_cons (sv_exprO (po_mu ok_append PySem.F.plainAttrs_list PySem.F.slot_list_append PySem.F.type_list_append (i := 6) rfl (by first | exact Or.inl rfl | exact Or.inr (Or.inl rfl) | exact Or.inr (Or.inr rfl)) (pvs_cons (pv_of (po_bin ok_mod (pr_n 3) (pr_of pv_int))) pvs_nil)))
 (bv_one (sv_set (i := 3) ct.hN rfl (by first | exact Or.inl rfl | exact Or.inr rfl) rfl (po_bin ok_div (pr_n 3) (pr_of pv_int)))))
 (bv_cons (sv_set (i := 5) ct.hN rfl (by first | exact Or.inl rfl | exact Or.inr rfl) rfl (po_bin ok_mod (pr_of (pv_of (po_bin ok_mul (pr_of (pv_of (po_bin ok_add (pr_of (pv_of (po_bin ok_add (pr_of (pv_of (po_bin ok_add (pr_n 5) (pr_n 3)))) (pr_of (pv_of (po_bin ok_mul (pr_of pv_int) (pr_n 7))))))) (pr_of pv_int)))) (pr_of pv_int)))) (pr_of pv_int)))
 (bv_cons (sv_set (i := 5) ct.hN rfl (by first | exact Or.inl rfl | exact Or.inr rfl) rfl (po_bin ok_mod (pr_of (pv_of (po_bin ok_add (pr_of (pv_of (po_bin ok_mul (pr_n 5) (pr_n 5)))) (pr_of (pv_of (po_bin ok_mul (pr_of pv_int) (pr_n 7))))))) (pr_of pv_int)))
 (bv_one (sv_exprO (po_mu ok_append PySem.F.plainAttrs_list PySem.F.slot_list_append PySem.F.type_list_append (i := 6) rfl (by first | exact Or.inl rfl | exact Or.inr (Or.inl rfl) | exact Or.inr (Or.inr rfl)) (pvs_cons (pv_of (po_bin ok_mod (pr_of (pv_of (po_bin ok_div (pr_n 5) (pr_of pv_int)))) (pr_of pv_int))) pvs_nil)))))))))
 (bv_one (sv_retV (i := 6) rfl (by first | exact Or.inl rfl | exact Or.inr (Or.inl rfl)))))))))))
theorem ok_law_eight {P : Program} {w : World} {K : PySem.W.Frag} {mg : Str → Option Value} {base : Heap} {f : Addr} {fd : FuncData} {C_InvalidName : Addr} {C_InvalidStep : Addr} {C_Keeper : Addr} {I_X : Addr} (fr : Fr K mg C_InvalidName C_InvalidStep C_Keeper I_X) (hm : mg "_law_eight" = some (.ref f)) (F : FunD K "_law_eight" "_law_eight" (defArgs st_law_eight) (defBody st_law_eight) (defScope st_law_eight) [] [] f fd) : FnV P w K mg base 1 "_law_eight" 1 φ_law_eight :=
  fn_rule (k := 0) (N := N_law_eight) (pr := prL [0]) hm F sc_law_eight (fun _ _ _ _ _ _ us hl => match us, hl with | [_], _ => rfl) fun cdv A outer s H E ct =>
 (bv_cons (sv_set (i := 1) ct.hN rfl (by first | exact Or.inl rfl | exact Or.inr rfl) rfl (po_of pv_str))
 (bv_cons (sv_set (i := 2) ct.hN rfl (by first | exact Or.inl rfl | exact Or.inr rfl) rfl (po_mr ok_join PySem.F.plainAttrs_str PySem.F.slot_str_join PySem.F.type_str_join (pr_of pv_str) (pvs_cons (pv_of (po_lc ct.hc ct.hN (iv_any (pv_of (po_slc (ok_slL.or ok_slS) (pr_n 0) pp_none (pp_some pv_int)))) (blkOk_by (own := [("_law_digit", 10)]) (by first | (show blkC N_law_eight (defScope st_law_eight) _ _ = true; decide +kernel) | rfl)) rfl (fun _ _ _ _ _ => (gv_n 10 ct.blk)) (fun _ _ _ _ _ => cv_nil) (fun _ _ _ _ _ => (pv_of (po_ix (ok_ix ct.hr.units) (pr_n 1) (pr_of (pv_of (po_bin ok_mod (pr_n 10) (pr_of pv_int)))) (by intro _ _; rfl)))))) pvs_nil)))
 (bv_cons (sv_set (i := 3) ct.hN rfl (by first | exact Or.inl rfl | exact Or.inr rfl) rfl (po_bin ok_add (pr_of pv_int) (pr_of (pv_of (po_bin ok_mul (pr_of pv_int) (pr_of (pv_of (po_bin ok_mod (pr_of (pv_of (po_ix (ok_ix ct.hr.units) (pr_n 0) (pr_of pv_int) (by intro _ _; rfl)))) (pr_of pv_int)))))))))
 (bv_cons (sv_if (pt_cmp' (ok_eq ct.hr.units) (pr_of (pv_of (po_bin ok_mod (pr_of (pv_of (po_ix (ok_ix ct.hr.units) (pr_n 0) (pr_of pv_int) (by intro _ _; rfl)))) (pr_of pv_int)))) (pr_of pv_int) (by first | exact nomark _ | with_unfolding_all rfl))
 (bv_one (sv_ret (po_lc ct.hc ct.hN (iv_range1 rfl fr.f_range pv_int) (blkOk_by (own := [("_law_k", 9)]) (by first | (show blkC N_law_eight (defScope st_law_eight) _ _ = true; decide +kernel) | rfl)) rfl (fun _ _ _ _ _ => (gv_n 9 ct.blk)) (fun _ _ _ _ _ => cv_nil) (fun _ _ _ _ _ => (pv_of (po_slc (ok_slL.or ok_slS) (pr_n 2) pp_none (pp_some (pv_of (po_bin ok_add (pr_of pv_int) (pr_of (pv_of (po_bin ok_mod (pr_of (pv_of (po_bin ok_add (pr_of (pv_of (po_ix (ok_ix ct.hr.units) (pr_n 0) (pr_of pv_int) (by intro _ _; rfl)))) (pr_of (pv_of (po_bin ok_mul (pr_n 9) (pr_n 3))))))) (pr_of pv_int)))))))))))))
 bv_nil)
 (bv_cons (sv_if (pt_cmp' (ok_eq ct.hr.units) (pr_of (pv_of (po_bin ok_mod (pr_of (pv_of (po_ix (ok_ix ct.hr.units) (pr_n 0) (pr_of pv_int) (by intro _ _; rfl)))) (pr_of pv_int)))) (pr_of pv_int) (by first | exact nomark _ | with_unfolding_all rfl))
 (bv_cons (sv_set (i := 5) ct.hN rfl (by first | exact Or.inl rfl | exact Or.inr rfl) rfl (po_ix (ok_ix ct.hr.units) (pr_n 1) (pr_of (pv_of (po_bin ok_mod (pr_of (pv_of (po_bin ok_add (pr_of (pv_of (po_bin ok_add (pr_of (pv_of (po_ix (ok_ix ct.hr.units) (pr_n 0) (pr_of pv_int) (by intro _ _; rfl)))) (pr_of pv_int)))) (pr_of (pv_of (po_bin ok_mod (pr_of (pv_of (po_ix (ok_ix ct.hr.units) (pr_n 0) (pr_of pv_int) (by intro _ _; rfl)))) (pr_of pv_int))))))) (pr_of pv_int)))) (by intro _ _; rfl)))
 (bv_cons (sv_setLc (i := 6) ct.hc ct.hN rfl rfl rfl (sw_true rfl rfl rfl rfl) (iv_range1 rfl fr.f_range pv_int) (blkOk_by (own := [("_law_k", 9)]) (by first | (show blkC N_law_eight (defScope st_law_eight) _ _ = true; decide +kernel) | rfl)) rfl (fun _ _ _ _ _ => (gv_n 9 ct.blk)) (fun _ _ _ _ _ => cv_nil) (fun _ _ _ _ _ => (pv_of (po_bin ok_mod (pr_of (pv_of (po_bin ok_add (pr_of (pv_of (po_ix (ok_ix ct.hr.units) (pr_n 0) (pr_of pv_int) (by intro _ _; rfl)))) (pr_of (pv_of (po_bin ok_mul (pr_n 9) (pr_n 3))))))) (pr_of pv_int)))))
 (bv_one (sv_ret (po_lc ct.hc ct.hN (iv_any (pv_n 6)) (blkOk_by (own := [("_law_at", 7)]) (by first | (show blkC N_law_eight (defScope st_law_eight) _ _ = true; decide +kernel) | rfl)) rfl (fun _ _ _ _ _ => (gv_n 7 ct.blk)) (fun _ _ _ _ _ => cv_nil) (fun _ _ _ _ _ => (pv_of (po_bin ok_add (pr_of (pv_of (po_bin ok_add (pr_of (pv_of (po_bin ok_mul (pr_of (pv_of (po_slc (ok_slL.or ok_slS) (pr_n 2) pp_none (pp_some pv_int)))) (pr_n 7)))) (pr_n 5)))) (pr_of (pv_of (po_bin ok_mul (pr_of (pv_of (po_slc (ok_slL.or ok_slS) (pr_n 2) pp_none (pp_some pv_int)))) (pr_of (pv_of (po_bin ok_sub (pr_of pv_int) (pr_n 7)))))))))))))))
 bv_nil)
 (bv_cons (sv_set (i := 4) ct.hN rfl (by first | exact Or.inl rfl | exact Or.inr rfl) rfl (po_lc ct.hc ct.hN (iv_range1 rfl fr.f_range pv_int) (blkOk_by (own := [("_law_k", 9)]) (by first | (show blkC N_law_eight (defScope st_law_eight) _ _ = true; decide +kernel) | rfl)) rfl (fun _ _ _ _ _ => (gv_n 9 ct.blk)) (fun _ _ _ _ _ => cv_nil) (fun _ _ _ _ _ => (pv_of (po_ix (ok_ix ct.hr.units) (pr_n 1) (pr_of (pv_of (po_bin ok_mod (pr_of (pv_of (po_bin ok_add (pr_of (pv_of (po_ix (ok_ix ct.hr.units) (pr_n 0) (pr_of pv_int) (by intro _ _; rfl)))) (pr_of (pv_of (po_bin ok_mul (pr_n 9) (pr_of (pv_of (po_bin ok_add (pr_of pv_int) (pr_of (pv_of (po_bin ok_mod (pr_of (pv_of (po_ix (ok_ix ct.hr.units) (pr_n 0) (pr_of pv_int) (by intro _ _; rfl)))) (pr_of pv_int))))))))))))) (pr_of pv_int)))) (by intro _ _; rfl))))))
 (bv_cons (sv_if (pt_cmp' (ok_eq ct.hr.units) (pr_of (pv_of (po_bin ok_mod (pr_of (pv_of (po_ix (ok_ix ct.hr.units) (pr_n 0) (pr_of pv_int) (by intro _ _; rfl)))) (pr_of pv_int)))) (pr_of pv_int) (by first | exact nomark _ | with_unfolding_all rfl))
 (bv_cons (sv_set (i := 7) ct.hN rfl (by first | exact Or.inl rfl | exact Or.inr rfl) rfl (po_bin ok_mod (pr_of (pv_of (po_ix (ok_ix ct.hr.units) (pr_n 0) (pr_of pv_int) (by intro _ _; rfl)))) (pr_of pv_int)))
 (bv_cons (sv_set (i := 8) ct.hN rfl (by first | exact Or.inl rfl | exact Or.inr rfl) rfl (po_bin ok_add (pr_n 7) (pr_of (pv_of (po_bin ok_mod (pr_of (pv_of (po_ix (ok_ix ct.hr.units) (pr_n 0) (pr_of pv_int) (by intro _ _; rfl)))) (pr_of pv_int))))))
 (bv_one (sv_ret (po_lc ct.hc ct.hN (iv_any (pv_n 4)) (blkOk_by (own := [("_law_sign", 11)]) (by first | (show blkC N_law_eight (defScope st_law_eight) _ _ = true; decide +kernel) | rfl)) rfl (fun _ _ _ _ _ => (gv_n 11 ct.blk)) (fun _ _ _ _ _ => cv_nil) (fun _ _ _ _ _ => (pv_of (po_bin ok_add (pr_of (pv_of (po_bin ok_add (pr_of (pv_of (po_slc (ok_slL.or ok_slS) (pr_n 2) pp_none (pp_some (pv_n 7))))) (pr_n 11)))) (pr_of (pv_of (po_slc (ok_slL.or ok_slS) (pr_n 2) (pp_some (pv_n 7)) (pp_some (pv_of (po_callB (ok_min2 ct.blk.hc) rfl fr.f_min bt_min (prs_cons (pr_n 8) (prs_cons (pr_of pv_int) prs_nil))))))))))))))))
 bv_nil)
 (bv_one (sv_ret (po_lc ct.hc ct.hN (iv_range1 rfl fr.f_range pv_int) (blkOk_by (own := [("_law_k", 9)]) (by first | (show blkC N_law_eight (defScope st_law_eight) _ _ = true; decide +kernel) | rfl)) rfl (fun _ _ _ _ _ => (gv_n 9 ct.blk)) (fun _ _ _ _ _ => cv_nil) (fun _ _ _ _ _ => (pv_of (po_bin ok_add (pr_of (pv_of (po_slc (ok_slL.or ok_slS) (pr_n 2) pp_none (pp_some (pv_of (po_bin ok_mod (pr_of (pv_of (po_ix (ok_ix ct.hr.units) (pr_n 0) (pr_of (pv_of (po_bin ok_add (pr_of pv_int) (pr_n 9)))) (by intro _ _; rfl)))) (pr_of pv_int))))))) (pr_of (pv_of (po_ix (ok_ix ct.hr.units) (pr_n 4) (pr_n 9) (by intro _ _; rfl)))))))))))))))))
theorem ok_law_rooms {P : Program} {w : World} {K : PySem.W.Frag} {mg : Str → Option Value} {base : Heap} {f : Addr} {fd : FuncData} {C_InvalidName : Addr} {C_InvalidStep : Addr} {C_Keeper : Addr} {I_X : Addr} (fr : Fr K mg C_InvalidName C_InvalidStep C_Keeper I_X) (hm : mg "_law_rooms" = some (.ref f)) (F : FunD K "_law_rooms" "_law_rooms" (defArgs st_law_rooms) (defBody st_law_rooms) (defScope st_law_rooms) [] [] f fd) : FnV P w K mg base 1 "_law_rooms" 3 φ_law_rooms :=
  fn_rule (k := 0) (N := N_law_rooms) (pr := prL [0, 1, 2]) hm F sc_law_rooms (fun _ _ _ _ _ _ us hl => match us, hl with | [_, _, _], _ => rfl) fun cdv A outer s H E ct =>
 (bv_cons (sv_set (i := 3) ct.hN rfl (by first | exact Or.inl rfl | exact Or.inr rfl) rfl (po_bin ok_add (pr_of pv_int) (pr_of (pv_of (po_bin ok_mod (pr_of (pv_of (po_ix (ok_ix ct.hr.units) (pr_n 0) (pr_of pv_int) (by intro _ _; rfl)))) (pr_of pv_int))))))
 (bv_cons (sv_set (i := 4) ct.hN rfl (by first | exact Or.inl rfl | exact Or.inr rfl) rfl (po_lst pvs_nil))
 (bv_cons (sv_for (pr' := prL [0, 1, 2]) ct.ps ct.hc (iv_range1 rfl fr.f_range (pv_n 3)) nog_rg1.src (prL_sub rfl) (gv_n 5 ct)
 (bv_cons (sv_set (i := 6) ct.hN rfl (by first | exact Or.inl rfl | exact Or.inr rfl) rfl (po_bin ok_mod (pr_of (pv_of (po_ix (ok_ix ct.hr.units) (pr_n 0) (pr_of (pv_of (po_bin ok_add (pr_of pv_int) (pr_n 5)))) (by intro _ _; rfl)))) (pr_of (pv_of (po_bin ok_add (pr_of pv_int) (pr_of (pv_of (po_bin ok_mod (pr_of (pv_of (po_ix (ok_ix ct.hr.units) (pr_n 0) (pr_of pv_int) (by intro _ _; rfl)))) (pr_of pv_int)))))))))
 (bv_cons (sv_set (i := 7) ct.hN rfl (by first | exact Or.inl rfl | exact Or.inr rfl) rfl po_dn)
 (bv_cons (sv_for (pr' := prL [0, 1, 2]) ct.ps ct.hc (iv_range1 rfl fr.f_range (pv_of (po_callB ok_lenU rfl fr.f_len bt_len (prs_cons (pr_n 1) prs_nil)))) nog_rg1.src (prL_sub rfl) (gv_n 8 ct)
 (bv_cons (sv_set (i := 9) ct.hN rfl (by first | exact Or.inl rfl | exact Or.inr rfl) rfl (po_ix (ok_ix ct.hr.units) (pr_n 0) (pr_of (pv_of (po_bin ok_add (pr_of (pv_of (po_bin ok_add (pr_of pv_int) (pr_of (pv_of (po_bin ok_mul (pr_of pv_int) (pr_n 5))))))) (pr_n 8)))) (by intro _ _; rfl)))
 (bv_one (sv_if (pt_cmp' ok_gtI (pr_of (pv_of (po_bin ok_mod (pr_n 9) (pr_of pv_int)))) (pr_of pv_int) (by first | exact nomark _ | with_unfolding_all rfl))
 (bv_one (sv_sto (i := 7) ct.hr.units rfl (by first | exact Or.inl rfl | exact Or.inr (Or.inl rfl)) (pv_of (po_ix (ok_ix ct.hr.units) (pr_n 1) (pr_n 8) (by intro _ _; rfl))) (pv_of (po_bin ok_mod (pr_of (pv_of (po_bin ok_div (pr_n 9) (pr_of pv_int)))) (pr_n 3)))))
 bv_nil))))
 (bv_one (sv_exprO (po_mu ok_append PySem.F.plainAttrs_list PySem.F.slot_list_append PySem.F.type_list_append (i := 4) rfl (by first | exact Or.inl rfl | exact Or.inr (Or.inl rfl) | exact Or.inr (Or.inr rfl)) (pvs_cons (pv_of (po_tup (pvs_cons (pv_of (po_lc ct.hc ct.hN (iv_range1 rfl fr.f_range (pv_of (po_callB ok_lenU rfl fr.f_len bt_len (prs_cons (pr_n 2) prs_nil)))) (blkOk_by (own := [("_law_j", 8)]) (by first | (show blkC N_law_rooms (defScope st_law_rooms) _ _ = true; decide +kernel) | rfl)) rfl (fun _ _ _ _ _ => (gv_n 8 ct.blk)) (fun _ _ _ _ _ => (cv_one (pt_cmp' (ok_eq ct.hr.units) (pr_of (pv_of (po_bin ok_mod (pr_of (pv_of (po_ix (ok_ix ct.hr.units) (pr_n 0) (pr_of (pv_of (po_bin ok_add (pr_of (pv_of (po_bin ok_add (pr_of pv_int) (pr_of (pv_of (po_bin ok_mul (pr_of pv_int) (pr_n 6))))))) (pr_n 8)))) (by intro _ _; rfl)))) (pr_of pv_int)))) (pr_of pv_int) (by first | exact nomark _ | with_unfolding_all rfl)))) (fun _ _ _ _ _ => (pv_of (po_ix (ok_ix ct.hr.units) (pr_n 2) (pr_n 8) (by intro _ _; rfl)))))) (pvs_cons (pv_n 7) pvs_nil)))) pvs_nil))))))))
 (bv_one (sv_retV (i := 4) rfl (by first | exact Or.inl rfl | exact Or.inr (Or.inl rfl)))))))
theorem ok_law_bad {P : Program} {w : World} {K : PySem.W.Frag} {mg : Str → Option Value} {base : Heap} {f : Addr} {fd : FuncData} {C_InvalidName : Addr} {C_InvalidStep : Addr} {C_Keeper : Addr} {I_X : Addr} (fr : Fr K mg C_InvalidName C_InvalidStep C_Keeper I_X) (hm : mg "_law_bad" = some (.ref f)) (F : FunD K "_law_bad" "_law_bad" (defArgs st_law_bad) (defBody st_law_bad) (defScope st_law_bad) [] [] f fd) : FnV P w K mg base 1 "_law_bad" 2 φ_law_bad :=
  fn_rule (k := 0) (N := N_law_bad) (pr := prL [0, 1]) hm F sc_law_bad (fun _ _ _ _ _ _ us hl => match us, hl with | [_, _], _ => rfl) fun cdv A outer s H E ct =>
 (bv_cons (sv_set (i := 2) ct.hN rfl (by first | exact Or.inl rfl | exact Or.inr rfl) rfl (po_ix (ok_ix ct.hr.units) (pr_n 0) (pr_of (pv_of (po_bin ok_mod (pr_of (pv_of (po_ix (ok_ix ct.hr.units) (pr_n 1) (pr_of pv_int) (by intro _ _; rfl)))) (pr_of pv_int)))) (by intro _ _; rfl)))
 (bv_cons (sv_if (pt_cmp' (ok_eq ct.hr.units) (pr_of (pv_of (po_bin ok_mod (pr_of (pv_of (po_ix (ok_ix ct.hr.units) (pr_n 1) (pr_of pv_int) (by intro _ _; rfl)))) (pr_of pv_int)))) (pr_of pv_int) (by first | exact nomark _ | with_unfolding_all rfl))
 (bv_one (sv_ret (po_of pv_str)))
 bv_nil)
 (bv_cons (sv_if (pt_cmp' (ok_eq ct.hr.units) (pr_of (pv_of (po_bin ok_mod (pr_of (pv_of (po_ix (ok_ix ct.hr.units) (pr_n 1) (pr_of pv_int) (by intro _ _; rfl)))) (pr_of pv_int)))) (pr_of pv_int) (by first | exact nomark _ | with_unfolding_all rfl))
 (bv_one (sv_ret (po_slc (ok_slL.or ok_slS) (pr_of (pv_of (po_bin ok_mul (pr_n 2) (pr_of pv_int)))) pp_none (pp_some (pv_of (po_bin ok_add (pr_of pv_int) (pr_of (pv_of (po_bin ok_mul (pr_of (pv_of (po_bin ok_mod (pr_of (pv_of (po_ix (ok_ix ct.hr.units) (pr_n 1) (pr_of pv_int) (by intro _ _; rfl)))) (pr_of pv_int)))) (pr_of (pv_of (po_callTy ok_int rfl fr.f_int bt_int (prs_cons (pr_of (pv_of (po_cmp ok_gtI (pr_of (pv_of (po_callB ok_lenU rfl fr.f_len bt_len (prs_cons (pr_n 2) prs_nil)))) (pr_of pv_int) (by first | exact nomark _ | with_unfolding_all rfl)))) prs_nil)))))))))))))
 bv_nil)
 (bv_cons (sv_set (i := 3) ct.hN rfl (by first | exact Or.inl rfl | exact Or.inr rfl) rfl (po_bin ok_mod (pr_of (pv_of (po_ix (ok_ix ct.hr.units) (pr_n 1) (pr_of pv_int) (by intro _ _; rfl)))) (pr_of (pv_of (po_bin ok_add (pr_of (pv_of (po_callB ok_lenU rfl fr.f_len bt_len (prs_cons (pr_n 2) prs_nil)))) (pr_of pv_int))))))
 (bv_cons (sv_set (i := 4) ct.hN rfl (by first | exact Or.inl rfl | exact Or.inr rfl) rfl (po_ix (ok_ix ct.hr.units) (pr_of pv_str) (pr_of (pv_of (po_bin ok_mod (pr_of (pv_of (po_ix (ok_ix ct.hr.units) (pr_n 1) (pr_of pv_int) (by intro _ _; rfl)))) (pr_of pv_int)))) (by intro _ _; rfl)))
 (bv_one (sv_ret (po_slc (ok_slL.or ok_slS) (pr_of (pv_of (po_bin ok_add (pr_of (pv_of (po_bin ok_add (pr_of (pv_of (po_slc (ok_slL.or ok_slS) (pr_n 2) pp_none (pp_some (pv_n 3))))) (pr_n 4)))) (pr_of (pv_of (po_slc (ok_slL.or ok_slS) (pr_n 2) (pp_some (pv_n 3)) pp_none)))))) pp_none (pp_some (pv_of (po_bin ok_add (pr_of pv_int) (pr_of (pv_of (po_bin ok_mod (pr_of (pv_of (po_ix (ok_ix ct.hr.units) (pr_n 1) (pr_of pv_int) (by intro _ _; rfl)))) (pr_of pv_int)))))))))))))))
theorem ok_law_spoiled {P : Program} {w : World} {K : PySem.W.Frag} {mg : Str → Option Value} {base : Heap} {f : Addr} {fd : FuncData} {C_InvalidName : Addr} {C_InvalidStep : Addr} {C_Keeper : Addr} {I_X : Addr} (fr : Fr K mg C_InvalidName C_InvalidStep C_Keeper I_X) (hm : mg "_law_spoiled" = some (.ref f)) (F : FunD K "_law_spoiled" "_law_spoiled" (defArgs st_law_spoiled) (defBody st_law_spoiled) (defScope st_law_spoiled) [] [] f fd) (F_law_bad : FnV P w K mg base 1 "_law_bad" 2 φ_law_bad) : FnV P w K mg base 2 "_law_spoiled" 4 φ_law_spoiled :=
  fnC_rule (k := 1) (N := N_law_spoiled) (pr := prL [0, 1, 2, 3]) hm F sc_law_spoiled (fun _ _ _ _ _ _ us hl => match us, hl with | [_, _, _, _], _ => rfl) fun cdv A outer s H E ct =>
 (bd_cons (dt_newLc (i := 4) ct.hc ct.hN rfl rfl rfl (sw_true rfl rfl rfl rfl) (iv_any (pv_n 0)) (blkOk_by (own := [("_law_room", 10)]) (by first | (show blkC N_law_spoiled (defScope st_law_spoiled) _ _ = true; decide +kernel) | rfl)) rfl (fun _ _ _ _ _ => (gv_n 10 ct.blk)) (fun _ _ _ _ _ => cv_nil) (fun _ _ _ _ _ => (pd_tup (pds_cons (pd_of (po_callTy ok_list rfl fr.f_list bt_list (prs_cons (pr_of (pv_of (po_ix (ok_ix ct.hr.units) (pr_n 10) (pr_of pv_int) (by intro _ _; rfl)))) prs_nil))) (pds_cons (pd_of (po_callTy (ok_dict2 ct.blk.hc) rfl fr.f_dict bt_dict (prs_cons (pr_of (pv_of (po_ix (ok_ix ct.hr.units) (pr_n 10) (pr_of pv_int) (by intro _ _; rfl)))) prs_nil))) pds_nil)))))
 (bd_cons (dt_for (pr' := prL [0, 1, 2, 3]) ct.ps ct.hc (iv_range1 rfl fr.f_range (pv_of (po_ix (ok_ix ct.hr.units) (pr_of (pv_of (po_lst (pvs_cons pv_int (pvs_cons pv_int (pvs_cons pv_int (pvs_cons pv_int (pvs_cons pv_int (pvs_cons pv_int pvs_nil))))))))) (pr_of (pv_of (po_bin ok_mod (pr_of (pv_of (po_ix (ok_ix ct.hr.units) (pr_n 2) (pr_of pv_int) (by intro _ _; rfl)))) (pr_of pv_int)))) (by intro _ _; rfl)))) nog_rg1.src (prL_sub rfl) (gv_n 5 ct)
 (bd_cons (dt_run (sv_set (i := 6) ct.hN rfl (by first | exact Or.inl rfl | exact Or.inr rfl) rfl (po_slc (ok_slL.or ok_slS) (pr_n 2) (pp_some (pv_of (po_bin ok_add (pr_of pv_int) (pr_of (pv_of (po_bin ok_mul (pr_of pv_int) (pr_n 5))))))) (pp_some (pv_of (po_bin ok_add (pr_of pv_int) (pr_of (pv_of (po_bin ok_mul (pr_of pv_int) (pr_n 5))))))))))
 (bd_cons (dt_with (pr' := prL [4, 0, 1, 2, 3]) (j := 4) rfl (prL_sub rfl) (dt_run (sv_set (i := 7) ct.hN rfl (by first | exact Or.inl rfl | exact Or.inr rfl) rfl (po_ix (ok_ix ct.hr.units) (pr_of (pv_of (po_ix (ok_ix ct.hr.units) (pr_n 4) (pr_of (pv_of (po_bin ok_mod (pr_of (pv_of (po_ix (ok_ix ct.hr.units) (pr_n 6) (pr_of pv_int) (by intro _ _; rfl)))) (pr_of (pv_of (po_callB ok_lenU rfl fr.f_len bt_len (prs_cons (pr_n 4) prs_nil))))))) (by intro _ _; rfl)))) (pr_of pv_int) (by intro _ _; rfl)))))
 (bd_cons (dt_with (pr' := prL [4, 0, 1, 2, 3]) (j := 4) rfl (prL_sub rfl) (dt_run (sv_set (i := 8) ct.hN rfl (by first | exact Or.inl rfl | exact Or.inr rfl) rfl (po_ix (ok_ix ct.hr.units) (pr_of (pv_of (po_ix (ok_ix ct.hr.units) (pr_n 4) (pr_of (pv_of (po_bin ok_mod (pr_of (pv_of (po_ix (ok_ix ct.hr.units) (pr_n 6) (pr_of pv_int) (by intro _ _; rfl)))) (pr_of (pv_of (po_callB ok_lenU rfl fr.f_len bt_len (prs_cons (pr_n 4) prs_nil))))))) (by intro _ _; rfl)))) (pr_of pv_int) (by intro _ _; rfl)))))
 (bd_cons (dt_run (sv_set (i := 9) ct.hN rfl (by first | exact Or.inl rfl | exact Or.inr rfl) rfl (po_call ct F_law_bad (by omega) rfl (prs_cons (pr_n 1) (prs_cons (pr_of (pv_of (po_slc (ok_slL.or ok_slS) (pr_n 6) (pp_some pv_int) (pp_some pv_int)))) prs_nil)))))
 (bd_one (dt_if (pt_cmp' (ok_eq ct.hr.units) (pr_of (pv_of (po_bin ok_mod (pr_of (pv_of (po_ix (ok_ix ct.hr.units) (pr_n 6) (pr_of pv_int) (by intro _ _; rfl)))) (pr_of pv_int)))) (pr_of pv_int) (by first | exact nomark _ | with_unfolding_all rfl))
 (bd_one (dt_with (pr' := prL [7, 0, 1, 2, 3]) (j := 7) rfl (prL_sub rfl) (dt_run (sv_exprO (po_mu ok_insert PySem.F.plainAttrs_list PySem.F.slot_list_insert PySem.F.type_list_insert (i := 7) rfl (by first | exact Or.inl rfl | exact Or.inr (Or.inl rfl) | exact Or.inr (Or.inr rfl)) (pvs_cons (pv_of (po_bin ok_mod (pr_of (pv_of (po_ix (ok_ix ct.hr.units) (pr_n 6) (pr_of pv_int) (by intro _ _; rfl)))) (pr_of (pv_of (po_bin ok_add (pr_of (pv_of (po_callB ok_lenU rfl fr.f_len bt_len (prs_cons (pr_n 7) prs_nil)))) (pr_of pv_int)))))) (pvs_cons (pv_n 9) pvs_nil)))))))
 (bd_one (dt_if (pt_cmp' (ok_eq ct.hr.units) (pr_of (pv_of (po_bin ok_mod (pr_of (pv_of (po_ix (ok_ix ct.hr.units) (pr_n 6) (pr_of pv_int) (by intro _ _; rfl)))) (pr_of pv_int)))) (pr_of pv_int) (by first | exact nomark _ | with_unfolding_all rfl))
 (bd_one (dt_with (pr' := prL [4, 0, 1, 2, 3]) (j := 4) rfl (prL_sub rfl) (dt_with (pr' := prL [8, 4, 0, 1, 2, 3]) (j := 8) rfl (prL_sub rfl) (dt_run (sv_sto (i := 8) ct.hr.units rfl (by first | exact Or.inl rfl | exact Or.inr (Or.inl rfl)) (pv_n 9) (pv_of (po_bin ok_sub (pr_of (pv_of (po_bin ok_mod (pr_of (pv_of (po_ix (ok_ix ct.hr.units) (pr_n 6) (pr_of pv_int) (by intro _ _; rfl)))) (pr_of (pv_of (po_bin ok_add (pr_of (pv_of (po_callB ok_lenU rfl fr.f_len bt_len (prs_cons (pr_n 4) prs_nil)))) (pr_of pv_int))))))) (pr_of (pv_of (po_bin ok_mod (pr_of (pv_of (po_ix (ok_ix ct.hr.units) (pr_n 6) (pr_of pv_int) (by intro _ _; rfl)))) (pr_of pv_int)))))))))))
 (bd_cons (dt_with (pr' := prL [4, 0, 1, 2, 3]) (j := 4) rfl (prL_sub rfl) (dt_run (sv_set (i := 11) ct.hN rfl (by first | exact Or.inl rfl | exact Or.inr rfl) rfl (po_ix (ok_ix ct.hr.units) (pr_of (pv_of (po_lst (pvs_cons (pv_neg pv_int) (pvs_cons (pv_of (po_callB ok_lenU rfl fr.f_len bt_len (prs_cons (pr_n 4) prs_nil))) (pvs_cons (pv_of (po_bin ok_add (pr_of (pv_of (po_bin ok_add (pr_of (pv_of (po_callB ok_lenU rfl fr.f_len bt_len (prs_cons (pr_n 4) prs_nil)))) (pr_of pv_int)))) (pr_of (pv_of (po_bin ok_mod (pr_of (pv_of (po_callTy ok_int rfl fr.f_int bt_int (prs_cons (pr_n 3) prs_nil)))) (pr_of (pv_of (po_bin ok_pow (pr_of pv_int) (pr_of pv_int))))))))) (pvs_cons (pv_of (po_bin ok_sub (pr_of (pv_neg pv_int)) (pr_of (pv_of (po_bin ok_mod (pr_of (pv_of (po_callTy ok_int rfl fr.f_int bt_int (prs_cons (pr_n 3) prs_nil)))) (pr_of (pv_of (po_bin ok_pow (pr_of pv_int) (pr_of pv_int))))))))) pvs_nil))))))) (pr_of (pv_of (po_bin ok_mod (pr_of (pv_of (po_ix (ok_ix ct.hr.units) (pr_n 6) (pr_of pv_int) (by intro _ _; rfl)))) (pr_of pv_int)))) (by intro _ _; rfl)))))
 (bd_one (dt_with (pr' := prL [8, 0, 1, 2, 3]) (j := 8) rfl (prL_sub rfl) (dt_run (sv_sto (i := 8) ct.hr.units rfl (by first | exact Or.inl rfl | exact Or.inr (Or.inl rfl)) (pv_of (po_ix (ok_ix ct.hr.units) (pr_n 1) (pr_of (pv_of (po_bin ok_mod (pr_of (pv_of (po_ix (ok_ix ct.hr.units) (pr_n 6) (pr_of pv_int) (by intro _ _; rfl)))) (pr_of pv_int)))) (by intro _ _; rfl))) (pv_n 11)))))))))))))))
 (ds_res (ds_run (bv_one (sv_retV (i := 4) rfl (by first | exact Or.inl rfl | exact Or.inr (Or.inl rfl))))))))
theorem ok_is_name {P : Program} {w : World} {K : PySem.W.Frag} {mg : Str → Option Value} {base : Heap} {f : Addr} {fd : FuncData} {C_InvalidName : Addr} {C_InvalidStep : Addr} {C_Keeper : Addr} {I_X : Addr} (fr : Fr K mg C_InvalidName C_InvalidStep C_Keeper I_X) (hm : mg "is_name" = some (.ref f)) (F : FunD K "is_name" "is_name" (defArgs st_is_name) (defBody st_is_name) (defScope st_is_name) [] [] f fd) : FnV P w K mg base 1 "is_name" 1 φ_is_name :=
  fn_rule (k := 0) (N := N_is_name) (pr := prL [0]) hm F sc_is_name (fun _ _ _ _ _ _ us hl => match us, hl with | [_], _ => rfl) fun cdv A outer s H E ct =>
 (bv_one (sv_ret (po_and (po_chn ok_ltI ok_leI (pr_of pv_int) (pr_of (pv_of (po_callB ok_lenU rfl fr.f_len bt_len (prs_cons (pr_n 0) prs_nil)))) (pr_of (fr.c_LONGEST rfl))) (po_one (po_callB (ok_all ct.hc) rfl fr.f_all bt_all (prs_cons (pr_of (pv_of (po_lc ct.hc ct.hN (iv_any (pv_n 0)) (blkOk_by (own := [("sign", 1)]) (by first | (show blkC N_is_name (defScope st_is_name) _ _ = true; decide +kernel) | rfl)) rfl (fun _ _ _ _ _ => (gv_n 1 ct.blk)) (fun _ _ _ _ _ => cv_nil) (fun _ _ _ _ _ => (pv_of (po_cmp (ok_in ct.hr.units) (pr_n 1) (pr_of (fr.c_LETTERS rfl)) (by first | exact nomark _ | with_unfolding_all rfl))))))) prs_nil))))))
theorem ok_GateError___init__ {P : Program} {w : World} {K : PySem.W.Frag} {mg : Str → Option Value} {base : Heap} {f : Addr} {fd : FuncData} {C_InvalidName : Addr} {C_InvalidStep : Addr} {C_Keeper : Addr} {I_X : Addr} (fr : Fr K mg C_InvalidName C_InvalidStep C_Keeper I_X) (F : FunD K "__init__" "GateError.__init__" (defArgs st_GateError___init__) (defBody st_GateError___init__) (defScope st_GateError___init__) [] [] f fd) : XiV P w K mg base 1 f :=
  xi_rule F sc_GateError___init__ (fun _ _ _ _ _ _ us hl => match us, hl with | [_, _], _ => rfl) fun cdv A outer s H E => pss_cons (ps_expr (pe_veinit rfl fr.f_ValueError (VH.ve_init K) (pa_cons (pe_var (i := 0) rfl (Or.inl rfl)) (pa_cons pe_str pa_nil)))) (pss_one (ps_ost (f := "value") (pe_var (i := 0) rfl (Or.inl rfl)) (pe_var (i := 1) rfl (Or.inl rfl))))
theorem ok_check_rooms {P : Program} {w : World} {K : PySem.W.Frag} {mg : Str → Option Value} {base : Heap} {f : Addr} {fd : FuncData} {C_InvalidName : Addr} {C_InvalidStep : Addr} {C_Keeper : Addr} {I_X : Addr} (fr : Fr K mg C_InvalidName C_InvalidStep C_Keeper I_X) (hm : mg "check_rooms" = some (.ref f)) (F : FunD K "check_rooms" "check_rooms" (defArgs st_check_rooms) (defBody st_check_rooms) (defScope st_check_rooms) [] [] f fd) (F_is_name : FnV P w K mg base 1 "is_name" 1 φ_is_name) (F_GateError___init__ : XiV P w K mg base 1 I_X) : FnV P w K mg base 3 "check_rooms" 1 φ_check_rooms :=
  fn_rule (k := 2) (N := N_check_rooms) (pr := prL [0]) hm F sc_check_rooms (fun _ _ _ _ _ _ us hl => match us, hl with | [_], _ => rfl) fun cdv A outer s H E ct =>
 (bv_one (sv_for (pr' := prL [0]) ct.ps ct.hc (iv_enum2 rfl fr.f_enumerate (pv_n 0)) nog_enum2.src (prL_sub rfl) (gv_tup ct.hc (gvs_cons (gv_n 1 ct) (gvs_cons (gv_tup ct.hc (gvs_cons (gv_n 3 ct) (gvs_cons (gv_n 4 ct) gvs_nil))) gvs_nil)))
 (bv_cons (sv_for (pr' := prL [0]) ct.ps ct.hc (iv_any (pv_n 3)) nog_any.src (prL_sub rfl) (gv_n 2 ct)
 (bv_one (sv_if (pt_not' (pt_vb (po_call ct F_is_name (by omega) rfl (prs_cons (pr_n 2) prs_nil))))
 (bv_one (sv_raise ct F_GateError___init__ (by omega) fr.xc_InvalidName rfl (pv_n 2)))
 bv_nil)))
 (bv_one (sv_for (pr' := prL [0]) ct.ps ct.hc (iv_any (pv_of (po_callB (ok_sorted ct.hc) rfl fr.f_sorted bt_sorted (prs_cons (pr_n 4) prs_nil)))) nog_any.src (prL_sub rfl) (gv_n 2 ct)
 (bv_cons (sv_if (pt_not' (pt_vb (po_call ct F_is_name (by omega) rfl (prs_cons (pr_n 2) prs_nil))))
 (bv_one (sv_raise ct F_GateError___init__ (by omega) fr.xc_InvalidName rfl (pv_n 2)))
 bv_nil)
 (bv_one (sv_if (pt_not' (pt_chn ok_leI ok_ltI (pr_of pv_int) (pr_of (pv_of (po_ix (ok_ix ct.hr.units) (pr_n 4) (pr_n 2) (by intro _ _; rfl)))) (pr_of (pv_of (po_callB ok_lenU rfl fr.f_len bt_len (prs_cons (pr_n 0) prs_nil))))))
 (bv_one (sv_raise ct F_GateError___init__ (by omega) fr.xc_InvalidStep rfl (pv_of (po_tup (pvs_cons (pv_n 1) (pvs_cons (pv_n 2) pvs_nil))))))
 bv_nil))))))))
theorem ok_seen_events {P : Program} {w : World} {K : PySem.W.Frag} {mg : Str → Option Value} {base : Heap} {f : Addr} {fd : FuncData} {C_InvalidName : Addr} {C_InvalidStep : Addr} {C_Keeper : Addr} {I_X : Addr} (fr : Fr K mg C_InvalidName C_InvalidStep C_Keeper I_X) (hm : mg "seen_events" = some (.ref f)) (F : FunD K "seen_events" "seen_events" (defArgs st_seen_events) (defBody st_seen_events) (defScope st_seen_events) [] [] f fd) : FnV P w K mg base 1 "seen_events" 1 φ_seen_events :=
  fn_rule (k := 0) (N := N_seen_events) (pr := prL [0]) hm F sc_seen_events (fun _ _ _ _ _ _ us hl => match us, hl with | [_], _ => rfl) fun cdv A outer s H E ct =>
 (bv_one (sv_ret (po_sc2 ct.hc ct.hN rfl fr.f_sorted (iv_any (pv_n 0)) (blkOk_by (own := [("blocked", 2), ("steps", 3), ("event", 1)]) (by first | (show blkC N_seen_events (defScope st_seen_events) _ _ = true; decide +kernel) | rfl)) rfl (by decide) (fun _ _ _ _ _ => (gv_tup ct.blk.hc (gvs_cons (gv_n 2 ct.blk) (gvs_cons (gv_n 3 ct.blk) gvs_nil)))) (fun _ _ _ _ _ => (iv_any (pv_n 3))) (fun _ _ _ _ _ => (gv_n 1 ct.blk)) (fun _ _ _ _ _ => (pv_n 1)))))
theorem ok_numbered {P : Program} {w : World} {K : PySem.W.Frag} {mg : Str → Option Value} {base : Heap} {f : Addr} {fd : FuncData} {C_InvalidName : Addr} {C_InvalidStep : Addr} {C_Keeper : Addr} {I_X : Addr} (fr : Fr K mg C_InvalidName C_InvalidStep C_Keeper I_X) (hm : mg "numbered" = some (.ref f)) (F : FunD K "numbered" "numbered" (defArgs st_numbered) (defBody st_numbered) (defScope st_numbered) [] [] f fd) : FnV P w K mg base 1 "numbered" 1 φ_numbered :=
  fn_rule (k := 0) (N := N_numbered) (pr := prL [0]) hm F sc_numbered (fun _ _ _ _ _ _ us hl => match us, hl with | [_], _ => rfl) fun cdv A outer s H E ct =>
 (bv_cons (sv_set (i := 1) ct.hN rfl (by first | exact Or.inl rfl | exact Or.inr rfl) rfl po_dn)
 (bv_cons (sv_for (pr' := prL [0]) ct.ps ct.hc (iv_any (pv_n 0)) nog_any.src (prL_sub rfl) (gv_n 2 ct)
 (bv_one (sv_if (pt_cmp' (ok_notIn ct.hr.units) (pr_n 2) (pr_n 1) (by first | exact nomark _ | with_unfolding_all rfl))
 (bv_one (sv_sto (i := 1) ct.hr.units rfl (by first | exact Or.inl rfl | exact Or.inr (Or.inl rfl)) (pv_n 2) (pv_of (po_callB ok_lenU rfl fr.f_len bt_len (prs_cons (pr_n 1) prs_nil)))))
 bv_nil)))
 (bv_one (sv_ret (po_lc ct.hc ct.hN (iv_any (pv_n 0)) (blkOk_by (own := [("mark", 2)]) (by first | (show blkC N_numbered (defScope st_numbered) _ _ = true; decide +kernel) | rfl)) rfl (fun _ _ _ _ _ => (gv_n 2 ct.blk)) (fun _ _ _ _ _ => cv_nil) (fun _ _ _ _ _ => (pv_of (po_ix (ok_ix ct.hr.units) (pr_n 1) (pr_n 2) (by intro _ _; rfl)))))))))
theorem ok_room_classes {P : Program} {w : World} {K : PySem.W.Frag} {mg : Str → Option Value} {base : Heap} {f : Addr} {fd : FuncData} {C_InvalidName : Addr} {C_InvalidStep : Addr} {C_Keeper : Addr} {I_X : Addr} (fr : Fr K mg C_InvalidName C_InvalidStep C_Keeper I_X) (hm : mg "room_classes" = some (.ref f)) (F : FunD K "room_classes" "room_classes" (defArgs st_room_classes) (defBody st_room_classes) (defScope st_room_classes) [] [] f fd) (F_seen_events : FnV P w K mg base 1 "seen_events" 1 φ_seen_events) (F_numbered : FnV P w K mg base 1 "numbered" 1 φ_numbered) : FnV P w K mg base 2 "room_classes" 1 φ_room_classes :=
  fn_rule (k := 1) (N := N_room_classes) (pr := prL [0]) hm F sc_room_classes (fun _ _ _ _ _ _ us hl => match us, hl with | [_], _ => rfl) fun cdv A outer s H E ct =>
 (bv_cons (sv_set (i := 1) ct.hN rfl (by first | exact Or.inl rfl | exact Or.inr rfl) rfl (po_call ct F_seen_events (by omega) rfl (prs_cons (pr_n 0) prs_nil)))
 (bv_cons (sv_set (i := 2) ct.hN rfl (by first | exact Or.inl rfl | exact Or.inr rfl) rfl (po_call ct F_numbered (by omega) rfl (prs_cons (pr_of (pv_of (po_lc ct.hc ct.hN (iv_any (pv_n 0)) (blkOk_by (own := [("blocked", 6), ("steps", 7)]) (by first | (show blkC N_room_classes (defScope st_room_classes) _ _ = true; decide +kernel) | rfl)) rfl (fun _ _ _ _ _ => (gv_tup ct.blk.hc (gvs_cons (gv_n 6 ct.blk) (gvs_cons (gv_n 7 ct.blk) gvs_nil)))) (fun _ _ _ _ _ => cv_nil) (fun _ _ _ _ _ => (pv_n 6))))) prs_nil)))
 (bv_cons (sv_set (i := 3) ct.hN rfl (by first | exact Or.inl rfl | exact Or.inr rfl) rfl (po_of pv_int))
 (bv_cons (sv_while ct.ps (pt_cmp' ok_gtI (pr_of (pv_of (po_bin ok_add (pr_of (pv_of (po_callB (ok_mx ct.hc) rfl fr.f_max bt_max (prs_cons (pr_n 2) prs_nil)))) (pr_of pv_int)))) (pr_n 3) (by first | exact nomark _ | with_unfolding_all rfl))
 (bv_cons (sv_set (i := 3) ct.hN rfl (by first | exact Or.inl rfl | exact Or.inr rfl) rfl (po_bin ok_add (pr_of (pv_of (po_callB (ok_mx ct.hc) rfl fr.f_max bt_max (prs_cons (pr_n 2) prs_nil)))) (pr_of pv_int)))
 (bv_cons (sv_set (i := 4) ct.hN rfl (by first | exact Or.inl rfl | exact Or.inr rfl) rfl (po_lst pvs_nil))
 (bv_cons (sv_for (pr' := prL [0]) ct.ps ct.hc (iv_enum2 rfl fr.f_enumerate (pv_n 0)) nog_enum2.src (prL_sub rfl) (gv_tup ct.hc (gvs_cons (gv_n 5 ct) (gvs_cons (gv_tup ct.hc (gvs_cons (gv_n 6 ct) (gvs_cons (gv_n 7 ct) gvs_nil))) gvs_nil)))
 (bv_one (sv_exprO (po_mu ok_append PySem.F.plainAttrs_list PySem.F.slot_list_append PySem.F.type_list_append (i := 4) rfl (by first | exact Or.inl rfl | exact Or.inr (Or.inl rfl) | exact Or.inr (Or.inr rfl)) (pvs_cons (pv_of (po_tup (pvs_cons (pv_of (po_ix (ok_ix ct.hr.units) (pr_n 2) (pr_n 5) (by intro _ _; rfl))) (pvs_cons (pv_of (po_callTy ok_tuple rfl fr.f_tuple bt_tuple (prs_cons (pr_of (pv_of (po_lc ct.hc ct.hN (iv_any (pv_n 1)) (blkOk_by (own := [("event", 8)]) (by first | (show blkC N_room_classes (defScope st_room_classes) _ _ = true; decide +kernel) | rfl)) rfl (fun _ _ _ _ _ => (gv_n 8 ct.blk)) (fun _ _ _ _ _ => cv_nil) (fun _ _ _ _ _ => (pv_of (po_ix (ok_ix ct.hr.units) (pr_n 2) (pr_of (pv_of (po_mr (ok_getD ct.hr.units) PySem.F.plainAttrs_dict PySem.F.slot_dict_get PySem.F.type_dict_get (pr_n 7) (pvs_cons (pv_n 8) (pvs_cons (pv_n 5) pvs_nil))))) (by intro _ _; rfl))))))) prs_nil))) pvs_nil)))) pvs_nil)))))
 (bv_one (sv_set (i := 2) ct.hN rfl (by first | exact Or.inl rfl | exact Or.inr rfl) rfl (po_call ct F_numbered (by omega) rfl (prs_cons (pr_n 4) prs_nil))))))))
 (bv_one (sv_retV (i := 2) rfl (by first | exact Or.inl rfl | exact Or.inr (Or.inl rfl))))))))
theorem ok_least_rooms {P : Program} {w : World} {K : PySem.W.Frag} {mg : Str → Option Value} {base : Heap} {f : Addr} {fd : FuncData} {C_InvalidName : Addr} {C_InvalidStep : Addr} {C_Keeper : Addr} {I_X : Addr} (fr : Fr K mg C_InvalidName C_InvalidStep C_Keeper I_X) (hm : mg "least_rooms" = some (.ref f)) (F : FunD K "least_rooms" "least_rooms" (defArgs st_least_rooms) (defBody st_least_rooms) (defScope st_least_rooms) [] [] f fd) (F_seen_events : FnV P w K mg base 1 "seen_events" 1 φ_seen_events) (F_room_classes : FnV P w K mg base 2 "room_classes" 1 φ_room_classes) : FnV P w K mg base 3 "least_rooms" 1 φ_least_rooms :=
  fn_rule (k := 2) (N := N_least_rooms) (pr := prL [0]) hm F sc_least_rooms (fun _ _ _ _ _ _ us hl => match us, hl with | [_], _ => rfl) fun cdv A outer s H E ct =>
 (bv_cons (sv_set (i := 1) ct.hN rfl (by first | exact Or.inl rfl | exact Or.inr rfl) rfl (po_call ct F_seen_events (by omega) rfl (prs_cons (pr_n 0) prs_nil)))
 (bv_cons (sv_set (i := 2) ct.hN rfl (by first | exact Or.inl rfl | exact Or.inr rfl) rfl (po_call ct F_room_classes (by omega) rfl (prs_cons (pr_n 0) prs_nil)))
 (bv_cons (sv_set (i := 3) ct.hN rfl (by first | exact Or.inl rfl | exact Or.inr rfl) rfl (po_lst (pvs_cons pv_int pvs_nil)))
 (bv_cons (sv_set (i := 4) ct.hN rfl (by first | exact Or.inl rfl | exact Or.inr rfl) rfl (po_disp1 (pv_of (po_ix (ok_ix ct.hr.units) (pr_n 2) (pr_of pv_int) (by intro _ _; rfl))) pv_int))
 (bv_cons (sv_set (i := 5) ct.hN rfl (by first | exact Or.inl rfl | exact Or.inr rfl) rfl (po_lst pvs_nil))
 (bv_cons (sv_set (i := 6) ct.hN rfl (by first | exact Or.inl rfl | exact Or.inr rfl) rfl (po_of pv_int))
 (bv_cons (sv_while ct.ps (pt_cmp' ok_ltI (pr_n 6) (pr_of (pv_of (po_callB ok_lenU rfl fr.f_len bt_len (prs_cons (pr_n 3) prs_nil)))) (by first | exact nomark _ | with_unfolding_all rfl))
 (bv_cons (sv_set (i := 7) ct.hN rfl (by first | exact Or.inl rfl | exact Or.inr rfl) rfl (po_ix (ok_ix ct.hr.units) (pr_n 3) (pr_n 6) (by intro _ _; rfl)))
 (bv_cons (sv_set (i := 8) ct.hN rfl (by first | exact Or.inl rfl | exact Or.inr rfl) rfl po_dn)
 (bv_cons (sv_for (pr' := prL [0]) ct.ps ct.hc (iv_any (pv_n 1)) nog_any.src (prL_sub rfl) (gv_n 9 ct)
 (bv_cons (sv_set (i := 10) ct.hN rfl (by first | exact Or.inl rfl | exact Or.inr rfl) rfl (po_mr (ok_getD ct.hr.units) PySem.F.plainAttrs_dict PySem.F.slot_dict_get PySem.F.type_dict_get (pr_of (pv_of (po_ix (ok_ix ct.hr.units) (pr_of (pv_of (po_ix (ok_ix ct.hr.units) (pr_n 0) (pr_n 7) (by intro _ _; rfl)))) (pr_of pv_int) (by intro _ _; rfl)))) (pvs_cons (pv_n 9) (pvs_cons (pv_n 7) pvs_nil))))
 (bv_one (sv_if (pt_cmp' (ok_ne ct.hr.units) (pr_of (pv_of (po_ix (ok_ix ct.hr.units) (pr_n 2) (pr_n 10) (by intro _ _; rfl)))) (pr_of (pv_of (po_ix (ok_ix ct.hr.units) (pr_n 2) (pr_n 7) (by intro _ _; rfl)))) (by first | exact nomark _ | with_unfolding_all rfl))
 (bv_cons (sv_if (pt_cmp' (ok_notIn ct.hr.units) (pr_of (pv_of (po_ix (ok_ix ct.hr.units) (pr_n 2) (pr_n 10) (by intro _ _; rfl)))) (pr_n 4) (by first | exact nomark _ | with_unfolding_all rfl))
 (bv_cons (sv_sto (i := 4) ct.hr.units rfl (by first | exact Or.inl rfl | exact Or.inr (Or.inl rfl)) (pv_of (po_ix (ok_ix ct.hr.units) (pr_n 2) (pr_n 10) (by intro _ _; rfl))) (pv_of (po_callB ok_lenU rfl fr.f_len bt_len (prs_cons (pr_n 3) prs_nil))))
 (bv_one (sv_exprO (po_mu ok_append PySem.F.plainAttrs_list PySem.F.slot_list_append PySem.F.type_list_append (i := 3) rfl (by first | exact Or.inl rfl | exact Or.inr (Or.inl rfl) | exact Or.inr (Or.inr rfl)) (pvs_cons (pv_n 10) pvs_nil)))))
 bv_nil)
 (bv_one (sv_sto (i := 8) ct.hr.units rfl (by first | exact Or.inl rfl | exact Or.inr (Or.inl rfl)) (pv_n 9) (pv_of (po_ix (ok_ix ct.hr.units) (pr_n 4) (pr_of (pv_of (po_ix (ok_ix ct.hr.units) (pr_n 2) (pr_n 10) (by intro _ _; rfl)))) (by intro _ _; rfl))))))
 bv_nil))))
 (bv_cons (sv_exprO (po_mu ok_append PySem.F.plainAttrs_list PySem.F.slot_list_append PySem.F.type_list_append (i := 5) rfl (by first | exact Or.inl rfl | exact Or.inr (Or.inl rfl) | exact Or.inr (Or.inr rfl)) (pvs_cons (pv_of (po_tup (pvs_cons (pv_of (po_ix (ok_ix ct.hr.units) (pr_of (pv_of (po_ix (ok_ix ct.hr.units) (pr_n 0) (pr_n 7) (by intro _ _; rfl)))) (pr_of pv_int) (by intro _ _; rfl))) (pvs_cons (pv_n 8) pvs_nil)))) pvs_nil)))
 (bv_one (sv_aug (i := 6) ct.hN rfl (by first | exact Or.inl rfl | exact Or.inr rfl) rfl pv_int)))))))
 (bv_one (sv_retV (i := 5) rfl (by first | exact Or.inl rfl | exact Or.inr (Or.inl rfl)))))))))))
theorem ok_Keeper___init__ {P : Program} {w : World} {K : PySem.W.Frag} {mg : Str → Option Value} {base : Heap} {f : Addr} {fd : FuncData} {C_InvalidName : Addr} {C_InvalidStep : Addr} {C_Keeper : Addr} {I_X : Addr} (fr : Fr K mg C_InvalidName C_InvalidStep C_Keeper I_X) {C : Addr} (hm : mg "Keeper" = some (.ref C)) (M : Mk K C f) (F : FunD K "__init__" "Keeper.__init__" (defArgs st_Keeper___init__) (defBody st_Keeper___init__) (defScope st_Keeper___init__) [] [] f fd) (F_check_rooms : FnV P w K mg base 3 "check_rooms" 1 φ_check_rooms) (F_least_rooms : FnV P w K mg base 3 "least_rooms" 1 φ_least_rooms) : MkV P w K mg base 4 "Keeper" 2 φ_Keeper___init__ :=
  mk_rule (k := 3) (N := N_Keeper___init__) (pr := prL [0, 1]) hm M F sc_Keeper___init__ (fun _ _ _ _ _ _ us hl => match us, hl with | [_, _], _ => rfl) fun cdv A outer s H E ct =>
 (bv_cons (sv_exprO (po_call ct F_check_rooms (by omega) rfl (prs_cons (pr_n 1) prs_nil)))
 (bv_cons (sv_setLc (i := 2) ct.hc ct.hN rfl rfl rfl (sw_true rfl rfl rfl rfl) (iv_any (pv_n 1)) (blkOk_by (own := [("blocked", 3), ("steps", 4)]) (by first | (show blkC N_Keeper___init__ (defScope st_Keeper___init__) _ _ = true; decide +kernel) | rfl)) rfl (fun _ _ _ _ _ => (gv_tup ct.blk.hc (gvs_cons (gv_n 3 ct.blk) (gvs_cons (gv_n 4 ct.blk) gvs_nil)))) (fun _ _ _ _ _ => cv_nil) (fun _ _ _ _ _ => (pv_of (po_tup (pvs_cons (pv_of (po_callTy ok_tuple rfl fr.f_tuple bt_tuple (prs_cons (pr_of (pv_of (po_sortSet2 ct.blk.hc rfl fr.f_sorted rfl fr.f_set (pr_n 3)))) prs_nil))) (pvs_cons (pv_of (po_callTy (ok_dict2 ct.blk.hc) rfl fr.f_dict bt_dict (prs_cons (pr_n 4) prs_nil))) pvs_nil))))))
 (bv_one (sv_fst (i := 0) fr.cl_Keeper fr.na_Keeper_rows rfl (by first | exact Or.inl rfl | exact Or.inr (Or.inl rfl)) (pv_of (po_call ct F_least_rooms (by omega) rfl (prs_cons (pr_n 2) prs_nil)))))))
theorem ok_Keeper___len__ {P : Program} {w : World} {K : PySem.W.Frag} {mg : Str → Option Value} {base : Heap} {f : Addr} {fd : FuncData} {C_InvalidName : Addr} {C_InvalidStep : Addr} {C_Keeper : Addr} {I_X : Addr} (fr : Fr K mg C_InvalidName C_InvalidStep C_Keeper I_X) (M : Meth K C_Keeper "__len__" f) (F : FunD K "__len__" "Keeper.__len__" (defArgs st_Keeper___len__) (defBody st_Keeper___len__) (defScope st_Keeper___len__) [] [] f fd) : MtV P w K mg base 1 C_Keeper "__len__" 1 φ_Keeper___len__ :=
  mt_rule (k := 0) (N := N_Keeper___len__) (pr := prL [0]) M F sc_Keeper___len__ (fun _ _ _ _ _ _ us hl => match us, hl with | [_], _ => rfl) fun cdv A outer s H E ct =>
 (bv_one (sv_ret (po_callB ok_lenU rfl fr.f_len bt_len (prs_cons (pr_of (pv_fld fr.cl_Keeper fr.na_Keeper_rows (pr_n 0))) prs_nil))))
theorem ok_law_same {P : Program} {w : World} {K : PySem.W.Frag} {mg : Str → Option Value} {base : Heap} {f : Addr} {fd : FuncData} {C_InvalidName : Addr} {C_InvalidStep : Addr} {C_Keeper : Addr} {I_X : Addr} (fr : Fr K mg C_InvalidName C_InvalidStep C_Keeper I_X) (hm : mg "_law_same" = some (.ref f)) (F : FunD K "_law_same" "_law_same" (defArgs st_law_same) (defBody st_law_same) (defScope st_law_same) [] [] f fd) : ∀ n : Nat, FnV P w K mg base (0 + 1 + n) "_law_same" 2 (φ_law_same n)
  | 0 => fn_bad (k := 0) hm F sc_law_same (fun _ _ _ _ _ _ us hl => match us, hl with | [_, _], _ => rfl)
  | n + 1 => by
    have F_law_same := ok_law_same (P := P) (w := w) (base := base) fr hm F n
    exact fn_rule (k := 0 + 1 + n) (N := N_law_same) (pr := prL [0, 1]) hm F sc_law_same (fun _ _ _ _ _ _ us hl => match us, hl with | [_, _], _ => rfl) fun cdv A outer s H E ct =>
 (bv_cons (sv_if (pt_of (pwb_or (pt_of (pwb_and (pt_vb (po_isi (by simp) rfl fr.f_isinstance rfl fr.f_list bt_list (pr_n 1))) (pwb_and1 (pt_not' (pt_vb (po_isi (by simp) rfl fr.f_isinstance rfl fr.f_list bt_list (pr_n 0))))))) (pwb_or1 (pt_of (pwb_and (pt_vb (po_isi (by simp) rfl fr.f_isinstance rfl fr.f_tuple bt_tuple (pr_n 1))) (pwb_and1 (pt_not' (pt_vb (po_isi (by simp) rfl fr.f_isinstance rfl fr.f_tuple bt_tuple (pr_n 0))))))))))
 (bv_one (sv_ret (po_of pv_bl)))
 bv_nil)
 (bv_cons (sv_if (pt_vb (po_isi (by simp) rfl fr.f_isinstance rfl fr.f_bool bt_bool (pr_n 1)))
 (bv_one (sv_ret (po_and (po_isi (by simp) rfl fr.f_isinstance rfl fr.f_bool bt_bool (pr_n 0)) (po_one (po_cmp (ok_eq ct.hr.units) (pr_n 0) (pr_n 1) (by first | exact nomark _ | with_unfolding_all rfl))))))
 bv_nil)
 (bv_cons (sv_if (pt_vb (po_isi (by simp) rfl fr.f_isinstance rfl fr.f_int bt_int (pr_n 1)))
 (bv_one (sv_ret (po_and (po_isi (by simp) rfl fr.f_isinstance rfl fr.f_int bt_int (pr_n 0)) (po_and (po_not (po_isi (by simp) rfl fr.f_isinstance rfl fr.f_bool bt_bool (pr_n 0))) (po_one (po_cmp (ok_eq ct.hr.units) (pr_n 0) (pr_n 1) (by first | exact nomark _ | with_unfolding_all rfl)))))))
 bv_nil)
 (bv_cons (sv_if (pt_vb (po_isi (by simp) rfl fr.f_isinstance rfl fr.f_str bt_str (pr_n 1)))
 (bv_one (sv_ret (po_and (po_isi (by simp) rfl fr.f_isinstance rfl fr.f_str bt_str (pr_n 0)) (po_one (po_cmp (ok_eq ct.hr.units) (pr_n 0) (pr_n 1) (by first | exact nomark _ | with_unfolding_all rfl))))))
 bv_nil)
 (bv_cons (sv_if (pt_cmp' ok_isN (pr_n 1) (pr_of pv_non) (by first | exact nomark _ | with_unfolding_all rfl))
 (bv_one (sv_ret (po_cmp ok_isN (pr_n 0) (pr_of pv_non) (by first | exact nomark _ | with_unfolding_all rfl))))
 bv_nil)
 (bv_cons (sv_if (pt_cmp' (ok_ne ct.hr.units) (pr_of (pv_of (po_callB ok_lenU rfl fr.f_len bt_len (prs_cons (pr_n 0) prs_nil)))) (pr_of (pv_of (po_callB ok_lenU rfl fr.f_len bt_len (prs_cons (pr_n 1) prs_nil)))) (by first | exact nomark _ | with_unfolding_all rfl))
 (bv_one (sv_ret (po_of pv_bl)))
 bv_nil)
 (bv_cons (sv_for (pr' := prL [0, 1]) ct.ps ct.hc (iv_range1 rfl fr.f_range (pv_of (po_callB ok_lenU rfl fr.f_len bt_len (prs_cons (pr_n 1) prs_nil)))) nog_rg1.src (prL_sub rfl) (gv_n 2 ct)
 (bv_one (sv_if (pt_not' (pt_vb (po_call ct F_law_same (by omega) rfl (prs_cons (pr_of (pv_of (po_ix (ok_ix ct.hr.units) (pr_n 0) (pr_n 2) (by intro _ _; rfl)))) (prs_cons (pr_of (pv_of (po_ix (ok_ix ct.hr.units) (pr_n 1) (pr_n 2) (by intro _ _; rfl)))) prs_nil)))))
 (bv_one (sv_ret (po_of pv_bl)))
 bv_nil)))
 (bv_one (sv_ret (po_of pv_bl))))))))))
theorem ok_law_is_name {P : Program} {w : World} {K : PySem.W.Frag} {mg : Str → Option Value} {base : Heap} {f : Addr} {fd : FuncData} {C_InvalidName : Addr} {C_InvalidStep : Addr} {C_Keeper : Addr} {I_X : Addr} (fr : Fr K mg C_InvalidName C_InvalidStep C_Keeper I_X) (hm : mg "_law_is_name" = some (.ref f)) (F : FunD K "_law_is_name" "_law_is_name" (defArgs st_law_is_name) (defBody st_law_is_name) (defScope st_law_is_name) [] [] f fd) : FnV P w K mg base 1 "_law_is_name" 1 φ_law_is_name :=
  fn_rule (k := 0) (N := N_law_is_name) (pr := prL [0]) hm F sc_law_is_name (fun _ _ _ _ _ _ us hl => match us, hl with | [_], _ => rfl) fun cdv A outer s H E ct =>
 (bv_cons (sv_if (pt_of (pwb_or (pt_cmp' ok_ltI (pr_of (pv_of (po_callB ok_lenU rfl fr.f_len bt_len (prs_cons (pr_n 0) prs_nil)))) (pr_of pv_int) (by first | exact nomark _ | with_unfolding_all rfl)) (pwb_or1 (pt_cmp' ok_gtI (pr_of (pv_of (po_callB ok_lenU rfl fr.f_len bt_len (prs_cons (pr_n 0) prs_nil)))) (pr_of pv_int) (by first | exact nomark _ | with_unfolding_all rfl)))))
 (bv_one (sv_ret (po_of pv_bl)))
 bv_nil)
 (bv_one (sv_ret (po_cmp (ok_eq ct.hr.units) (pr_of (pv_of (po_lc ct.hc ct.hN (iv_any (pv_n 0)) (blkOk_by (own := [("_law_sign", 1)]) (by first | (show blkC N_law_is_name (defScope st_law_is_name) _ _ = true; decide +kernel) | rfl)) rfl (fun _ _ _ _ _ => (gv_n 1 ct.blk)) (fun _ _ _ _ _ => (cv_one (pt_cmp' (ok_notIn ct.hr.units) (pr_n 1) (pr_of pv_str) (by first | exact nomark _ | with_unfolding_all rfl)))) (fun _ _ _ _ _ => (pv_n 1))))) (pr_of (pv_of (po_lst pvs_nil))) (by first | exact nomark _ | with_unfolding_all rfl)))))
theorem ok_law_known {P : Program} {w : World} {K : PySem.W.Frag} {mg : Str → Option Value} {base : Heap} {f : Addr} {fd : FuncData} {C_InvalidName : Addr} {C_InvalidStep : Addr} {C_Keeper : Addr} {I_X : Addr} (fr : Fr K mg C_InvalidName C_InvalidStep C_Keeper I_X) (hm : mg "_law_known" = some (.ref f)) (F : FunD K "_law_known" "_law_known" (defArgs st_law_known) (defBody st_law_known) (defScope st_law_known) [] [] f fd) : FnV P w K mg base 1 "_law_known" 1 φ_law_known :=
  fn_rule (k := 0) (N := N_law_known) (pr := prL [0]) hm F sc_law_known (fun _ _ _ _ _ _ us hl => match us, hl with | [_], _ => rfl) fun cdv A outer s H E ct =>
 (bv_cons (sv_set (i := 1) ct.hN rfl (by first | exact Or.inl rfl | exact Or.inr rfl) rfl (po_lst pvs_nil))
 (bv_cons (sv_for (pr' := prL [0]) ct.ps ct.hc (iv_any (pv_n 0)) nog_any.src (prL_sub rfl) (gv_n 2 ct)
 (bv_one (sv_for (pr' := prL [0]) ct.ps ct.hc (iv_any (pv_n 2)) nog_any.src (prL_sub rfl) (gv_n 3 ct)
 (bv_one (sv_if (pt_cmp' (ok_notIn ct.hr.units) (pr_n 3) (pr_n 1) (by first | exact nomark _ | with_unfolding_all rfl))
 (bv_one (sv_exprO (po_mu ok_append PySem.F.plainAttrs_list PySem.F.slot_list_append PySem.F.type_list_append (i := 1) rfl (by first | exact Or.inl rfl | exact Or.inr (Or.inl rfl) | exact Or.inr (Or.inr rfl)) (pvs_cons (pv_n 3) pvs_nil))))
 bv_nil)))))
 (bv_one (sv_ret (po_callB (ok_sorted ct.hc) rfl fr.f_sorted bt_sorted (prs_cons (pr_n 1) prs_nil))))))
theorem ok_law_least_rooms {P : Program} {w : World} {K : PySem.W.Frag} {mg : Str → Option Value} {base : Heap} {f : Addr} {fd : FuncData} {C_InvalidName : Addr} {C_InvalidStep : Addr} {C_Keeper : Addr} {I_X : Addr} (fr : Fr K mg C_InvalidName C_InvalidStep C_Keeper I_X) (hm : mg "_law_least_rooms" = some (.ref f)) (F : FunD K "_law_least_rooms" "_law_least_rooms" (defArgs st_law_least_rooms) (defBody st_law_least_rooms) (defScope st_law_least_rooms) [] [] f fd) (F_law_known : FnV P w K mg base 1 "_law_known" 1 φ_law_known) : FnV P w K mg base 2 "_law_least_rooms" 1 φ_law_least_rooms :=
  fn_rule (k := 1) (N := N_law_least_rooms) (pr := prL [0]) hm F sc_law_least_rooms (fun _ _ _ _ _ _ us hl => match us, hl with | [_], _ => rfl) fun cdv A outer s H E ct =>
 (bv_cons (sv_set (i := 1) ct.hN rfl (by first | exact Or.inl rfl | exact Or.inr rfl) rfl (po_call ct F_law_known (by omega) rfl (prs_cons (pr_of (pv_of (po_lc ct.hc ct.hN (iv_any (pv_n 0)) (blkOk_by (own := [("_law_room", 12)]) (by first | (show blkC N_law_least_rooms (defScope st_law_least_rooms) _ _ = true; decide +kernel) | rfl)) rfl (fun _ _ _ _ _ => (gv_n 12 ct.blk)) (fun _ _ _ _ _ => cv_nil) (fun _ _ _ _ _ => (pv_of (po_ix (ok_ix ct.hr.units) (pr_n 12) (pr_of pv_int) (by intro _ _; rfl))))))) prs_nil)))
 (bv_cons (sv_set (i := 2) ct.hN rfl (by first | exact Or.inl rfl | exact Or.inr rfl) rfl (po_lc ct.hc ct.hN (iv_any (pv_n 0)) (blkOk_by (own := [("_law_room", 12)]) (by first | (show blkC N_law_least_rooms (defScope st_law_least_rooms) _ _ = true; decide +kernel) | rfl)) rfl (fun _ _ _ _ _ => (gv_n 12 ct.blk)) (fun _ _ _ _ _ => cv_nil) (fun _ _ _ _ _ => pv_int)))
 (bv_cons (sv_set (i := 3) ct.hN rfl (by first | exact Or.inl rfl | exact Or.inr rfl) rfl (po_of pv_int))
 (bv_cons (sv_while ct.ps (pt_cmp' ok_ltI (pr_n 3) (pr_of (pv_of (po_bin ok_add2 (pr_of (pv_of (po_callB (ok_mx ct.hc) rfl fr.f_max bt_max (prs_cons (pr_n 2) prs_nil)))) (pr_of pv_int)))) (by first | exact nomark _ | with_unfolding_all rfl))
 (bv_cons (sv_set (i := 3) ct.hN rfl (by first | exact Or.inl rfl | exact Or.inr rfl) rfl (po_bin ok_add2 (pr_of (pv_of (po_callB (ok_mx ct.hc) rfl fr.f_max bt_max (prs_cons (pr_n 2) prs_nil)))) (pr_of pv_int)))
 (bv_cons (sv_set (i := 7) ct.hN rfl (by first | exact Or.inl rfl | exact Or.inr rfl) rfl (po_lst pvs_nil))
 (bv_cons (sv_set (i := 8) ct.hN rfl (by first | exact Or.inl rfl | exact Or.inr rfl) rfl (po_lst pvs_nil))
 (bv_cons (sv_for (pr' := prL [0]) ct.ps ct.hc (iv_range1 rfl fr.f_range (pv_of (po_callB ok_lenU rfl fr.f_len bt_len (prs_cons (pr_n 0) prs_nil)))) nog_rg1.src (prL_sub rfl) (gv_n 9 ct)
 (bv_cons (sv_set (i := 13) ct.hN rfl (by first | exact Or.inl rfl | exact Or.inr rfl) rfl (po_tup (pvs_cons (pv_of (po_ix (ok_ix ct.hr.units) (pr_n 2) (pr_n 9) (by intro _ _; rfl))) (pvs_cons (pv_of (po_sortSet2 ct.hc rfl fr.f_sorted rfl fr.f_set (pr_of (pv_of (po_ix (ok_ix ct.hr.units) (pr_of (pv_of (po_ix (ok_ix ct.hr.units) (pr_n 0) (pr_n 9) (by intro _ _; rfl)))) (pr_of pv_int) (by intro _ _; rfl)))))) (pvs_cons (pv_of (po_lc ct.hc ct.hN (iv_any (pv_n 1)) (blkOk_by (own := [("_law_word", 11)]) (by first | (show blkC N_law_least_rooms (defScope st_law_least_rooms) _ _ = true; decide +kernel) | rfl)) rfl (fun _ _ _ _ _ => (gv_n 11 ct.blk)) (fun _ _ _ _ _ => cv_nil) (fun _ _ _ _ _ => (pv_of (po_ix (ok_ix ct.hr.units) (pr_n 2) (pr_of (pv_of (po_mr (ok_getD ct.hr.units) PySem.F.plainAttrs_dict PySem.F.slot_dict_get PySem.F.type_dict_get (pr_of (pv_of (po_ix (ok_ix ct.hr.units) (pr_of (pv_of (po_ix (ok_ix ct.hr.units) (pr_n 0) (pr_n 9) (by intro _ _; rfl)))) (pr_of pv_int) (by intro _ _; rfl)))) (pvs_cons (pv_n 11) (pvs_cons (pv_n 9) pvs_nil))))) (by intro _ _; rfl)))))) pvs_nil)))))
 (bv_cons (sv_if (pt_cmp' (ok_notIn2 (u65 ct.hr)) (pr_n 13) (pr_n 7) (by first | exact nomark _ | with_unfolding_all rfl))
 (bv_one (sv_exprO (po_mu ok_append PySem.F.plainAttrs_list PySem.F.slot_list_append PySem.F.type_list_append (i := 7) rfl (by first | exact Or.inl rfl | exact Or.inr (Or.inl rfl) | exact Or.inr (Or.inr rfl)) (pvs_cons (pv_n 13) pvs_nil))))
 bv_nil)
 (bv_one (sv_exprO (po_mu ok_append PySem.F.plainAttrs_list PySem.F.slot_list_append PySem.F.type_list_append (i := 8) rfl (by first | exact Or.inl rfl | exact Or.inr (Or.inl rfl) | exact Or.inr (Or.inr rfl)) (pvs_cons (pv_of (po_mr (ok_index (u65 ct.hr)) PySem.F.plainAttrs_list PySem.F.slot_list_index PySem.F.type_list_index (pr_n 7) (pvs_cons (pv_n 13) pvs_nil))) pvs_nil)))))))
 (bv_one (sv_set (i := 2) ct.hN rfl (by first | exact Or.inl rfl | exact Or.inr rfl) rfl (po_of (pv_n 8)))))))))
 (bv_cons (sv_set (i := 4) ct.hN rfl (by first | exact Or.inl rfl | exact Or.inr rfl) rfl (po_lst (pvs_cons pv_int pvs_nil)))
 (bv_cons (sv_set (i := 5) ct.hN rfl (by first | exact Or.inl rfl | exact Or.inr rfl) rfl (po_lst pvs_nil))
 (bv_cons (sv_set (i := 6) ct.hN rfl (by first | exact Or.inl rfl | exact Or.inr rfl) rfl (po_of pv_int))
 (bv_cons (sv_while ct.ps (pt_cmp' ok_ltI (pr_n 6) (pr_of (pv_of (po_callB ok_lenU rfl fr.f_len bt_len (prs_cons (pr_n 4) prs_nil)))) (by first | exact nomark _ | with_unfolding_all rfl))
 (bv_cons (sv_set (i := 10) ct.hN rfl (by first | exact Or.inl rfl | exact Or.inr rfl) rfl (po_lst pvs_nil))
 (bv_cons (sv_for (pr' := prL [0]) ct.ps ct.hc (iv_any (pv_n 1)) nog_any.src (prL_sub rfl) (gv_n 11 ct)
 (bv_cons (sv_set (i := 14) ct.hN rfl (by first | exact Or.inl rfl | exact Or.inr rfl) rfl (po_mr (ok_getD ct.hr.units) PySem.F.plainAttrs_dict PySem.F.slot_dict_get PySem.F.type_dict_get (pr_of (pv_of (po_ix (ok_ix ct.hr.units) (pr_of (pv_of (po_ix (ok_ix ct.hr.units) (pr_n 0) (pr_of (pv_of (po_ix (ok_ix ct.hr.units) (pr_n 4) (pr_n 6) (by intro _ _; rfl)))) (by intro _ _; rfl)))) (pr_of pv_int) (by intro _ _; rfl)))) (pvs_cons (pv_n 11) (pvs_cons (pv_of (po_ix (ok_ix ct.hr.units) (pr_n 4) (pr_n 6) (by intro _ _; rfl))) pvs_nil))))
 (bv_one (sv_if (pt_cmp' (ok_ne2 ct.hr.units) (pr_of (pv_of (po_ix (ok_ix ct.hr.units) (pr_n 2) (pr_n 14) (by intro _ _; rfl)))) (pr_of (pv_of (po_ix (ok_ix ct.hr.units) (pr_n 2) (pr_of (pv_of (po_ix (ok_ix ct.hr.units) (pr_n 4) (pr_n 6) (by intro _ _; rfl)))) (by intro _ _; rfl)))) (by first | exact nomark _ | with_unfolding_all rfl))
 (bv_cons (sv_if (pt_cmp' (ok_notIn2 (u65 ct.hr)) (pr_of (pv_of (po_ix (ok_ix ct.hr.units) (pr_n 2) (pr_n 14) (by intro _ _; rfl)))) (pr_of (pv_of (po_lc ct.hc ct.hN (iv_name (i := 4) rfl (by first | exact Or.inl rfl | exact Or.inr (Or.inl rfl) | exact Or.inr (Or.inr rfl))) (blkOk_by (own := [("_law_k", 9)]) (by first | (show blkC N_law_least_rooms (defScope st_law_least_rooms) _ _ = true; decide +kernel) | rfl)) rfl (fun _ _ _ _ _ => (gv_n 9 ct.blk)) (fun _ _ _ _ _ => cv_nil) (fun _ _ _ _ _ => (pv_of (po_ix (ok_ix ct.hr.units) (pr_n 2) (pr_n 9) (by intro _ _; rfl))))))) (by first | exact nomark _ | with_unfolding_all rfl))
 (bv_one (sv_exprO (po_mu ok_append PySem.F.plainAttrs_list PySem.F.slot_list_append PySem.F.type_list_append (i := 4) rfl (by first | exact Or.inl rfl | exact Or.inr (Or.inl rfl) | exact Or.inr (Or.inr rfl)) (pvs_cons (pv_n 14) pvs_nil))))
 bv_nil)
 (bv_one (sv_exprO (po_mu ok_append PySem.F.plainAttrs_list PySem.F.slot_list_append PySem.F.type_list_append (i := 10) rfl (by first | exact Or.inl rfl | exact Or.inr (Or.inl rfl) | exact Or.inr (Or.inr rfl)) (pvs_cons (pv_of (po_tup (pvs_cons (pv_n 11) (pvs_cons (pv_of (po_mr (ok_index (u65 ct.hr)) PySem.F.plainAttrs_list PySem.F.slot_list_index PySem.F.type_list_index (pr_of (pv_of (po_lc ct.hc ct.hN (iv_name (i := 4) rfl (by first | exact Or.inl rfl | exact Or.inr (Or.inl rfl) | exact Or.inr (Or.inr rfl))) (blkOk_by (own := [("_law_k", 9)]) (by first | (show blkC N_law_least_rooms (defScope st_law_least_rooms) _ _ = true; decide +kernel) | rfl)) rfl (fun _ _ _ _ _ => (gv_n 9 ct.blk)) (fun _ _ _ _ _ => cv_nil) (fun _ _ _ _ _ => (pv_of (po_ix (ok_ix ct.hr.units) (pr_n 2) (pr_n 9) (by intro _ _; rfl))))))) (pvs_cons (pv_of (po_ix (ok_ix ct.hr.units) (pr_n 2) (pr_n 14) (by intro _ _; rfl))) pvs_nil))) pvs_nil)))) pvs_nil)))))
 bv_nil))))
 (bv_cons (sv_exprO (po_mu ok_append PySem.F.plainAttrs_list PySem.F.slot_list_append PySem.F.type_list_append (i := 5) rfl (by first | exact Or.inl rfl | exact Or.inr (Or.inl rfl) | exact Or.inr (Or.inr rfl)) (pvs_cons (pv_of (po_tup (pvs_cons (pv_of (po_sortSet2 ct.hc rfl fr.f_sorted rfl fr.f_set (pr_of (pv_of (po_ix (ok_ix ct.hr.units) (pr_of (pv_of (po_ix (ok_ix ct.hr.units) (pr_n 0) (pr_of (pv_of (po_ix (ok_ix ct.hr.units) (pr_n 4) (pr_n 6) (by intro _ _; rfl)))) (by intro _ _; rfl)))) (pr_of pv_int) (by intro _ _; rfl)))))) (pvs_cons (pv_n 10) pvs_nil)))) pvs_nil)))
 (bv_one (sv_set (i := 6) ct.hN rfl (by first | exact Or.inl rfl | exact Or.inr rfl) rfl (po_bin ok_add2 (pr_n 6) (pr_of pv_int))))))))
 (bv_one (sv_retV (i := 5) rfl (by first | exact Or.inl rfl | exact Or.inr (Or.inl rfl))))))))))))
theorem ok_law_due {P : Program} {w : World} {K : PySem.W.Frag} {mg : Str → Option Value} {base : Heap} {f : Addr} {fd : FuncData} {C_InvalidName : Addr} {C_InvalidStep : Addr} {C_Keeper : Addr} {I_X : Addr} (fr : Fr K mg C_InvalidName C_InvalidStep C_Keeper I_X) (hm : mg "_law_due" = some (.ref f)) (F : FunD K "_law_due" "_law_due" (defArgs st_law_due) (defBody st_law_due) (defScope st_law_due) [] [] f fd) (F_law_is_name : FnV P w K mg base 1 "_law_is_name" 1 φ_law_is_name) (F_law_least_rooms : FnV P w K mg base 2 "_law_least_rooms" 1 φ_law_least_rooms) : FnV P w K mg base 3 "_law_due" 1 φ_law_due :=
  fn_rule (k := 2) (N := N_law_due) (pr := prL [0]) hm F sc_law_due (fun _ _ _ _ _ _ us hl => match us, hl with | [_], _ => rfl) fun cdv A outer s H E ct =>
 (bv_cons (sv_for (pr' := prL [0]) ct.ps ct.hc (iv_range1 rfl fr.f_range (pv_of (po_callB ok_lenU rfl fr.f_len bt_len (prs_cons (pr_n 0) prs_nil)))) nog_rg1.src (prL_sub rfl) (gv_n 1 ct)
 (bv_cons (sv_for (pr' := prL [0]) ct.ps ct.hc (iv_any (pv_of (po_ix (ok_ix ct.hr.units) (pr_of (pv_of (po_ix (ok_ix ct.hr.units) (pr_n 0) (pr_n 1) (by intro _ _; rfl)))) (pr_of pv_int) (by intro _ _; rfl)))) nog_any.src (prL_sub rfl) (gv_n 2 ct)
 (bv_one (sv_if (pt_not' (pt_vb (po_call ct F_law_is_name (by omega) rfl (prs_cons (pr_n 2) prs_nil))))
 (bv_one (sv_ret (po_tup (pvs_cons pv_str (pvs_cons (pv_n 2) pvs_nil)))))
 bv_nil)))
 (bv_one (sv_for (pr' := prL [0]) ct.ps ct.hc (iv_any (pv_of (po_callB (ok_sorted ct.hc) rfl fr.f_sorted bt_sorted (prs_cons (pr_of (pv_of (po_ix (ok_ix ct.hr.units) (pr_of (pv_of (po_ix (ok_ix ct.hr.units) (pr_n 0) (pr_n 1) (by intro _ _; rfl)))) (pr_of pv_int) (by intro _ _; rfl)))) prs_nil)))) nog_any.src (prL_sub rfl) (gv_n 2 ct)
 (bv_cons (sv_if (pt_not' (pt_vb (po_call ct F_law_is_name (by omega) rfl (prs_cons (pr_n 2) prs_nil))))
 (bv_one (sv_ret (po_tup (pvs_cons pv_str (pvs_cons (pv_n 2) pvs_nil)))))
 bv_nil)
 (bv_one (sv_if (pt_of (pwb_or (pt_cmp' ok_ltI (pr_of (pv_of (po_ix (ok_ix ct.hr.units) (pr_of (pv_of (po_ix (ok_ix ct.hr.units) (pr_of (pv_of (po_ix (ok_ix ct.hr.units) (pr_n 0) (pr_n 1) (by intro _ _; rfl)))) (pr_of pv_int) (by intro _ _; rfl)))) (pr_n 2) (by intro _ _; rfl)))) (pr_of pv_int) (by first | exact nomark _ | with_unfolding_all rfl)) (pwb_or1 (pt_cmp' ok_ge2 (pr_of (pv_of (po_ix (ok_ix ct.hr.units) (pr_of (pv_of (po_ix (ok_ix ct.hr.units) (pr_of (pv_of (po_ix (ok_ix ct.hr.units) (pr_n 0) (pr_n 1) (by intro _ _; rfl)))) (pr_of pv_int) (by intro _ _; rfl)))) (pr_n 2) (by intro _ _; rfl)))) (pr_of (pv_of (po_callB ok_lenU rfl fr.f_len bt_len (prs_cons (pr_n 0) prs_nil)))) (by first | exact nomark _ | with_unfolding_all rfl)))))
 (bv_one (sv_ret (po_tup (pvs_cons pv_str (pvs_cons (pv_of (po_tup (pvs_cons (pv_n 1) (pvs_cons (pv_n 2) pvs_nil)))) pvs_nil)))))
 bv_nil)))))))
 (bv_one (sv_ret (po_tup (pvs_cons pv_str (pvs_cons (pv_of (po_callB ok_lenU rfl fr.f_len bt_len (prs_cons (pr_of (pv_of (po_call ct F_law_least_rooms (by omega) rfl (prs_cons (pr_n 0) prs_nil)))) prs_nil))) pvs_nil))))))
theorem ok_law {P : Program} {w : World} {K : PySem.W.Frag} {mg : Str → Option Value} {base : Heap} {f : Addr} {fd : FuncData} {C_InvalidName : Addr} {C_InvalidStep : Addr} {C_Keeper : Addr} {I_X : Addr} (fr : Fr K mg C_InvalidName C_InvalidStep C_Keeper I_X) (F : FunD K "law" "law" (defArgs st_law) (defBody st_law) (defScope st_law) [] [] f fd) (F_law_cell : FnV P w K mg base 1 "_law_cell" 2 φ_law_cell) (F_law_digits : FnV P w K mg base 1 "_law_digits" 2 φ_law_digits) (F_law_eight : FnV P w K mg base 1 "_law_eight" 1 φ_law_eight) (F_law_rooms : FnV P w K mg base 1 "_law_rooms" 3 φ_law_rooms) (F_law_spoiled : FnV P w K mg base 2 "_law_spoiled" 4 φ_law_spoiled) (F_Keeper___init__ : MkV P w K mg base 4 "Keeper" 2 φ_Keeper___init__) (F_Keeper___len__ : MtV P w K mg base 1 C_Keeper "__len__" 1 φ_Keeper___len__) (F_law_same : FnV P w K mg base 9 "_law_same" 2 (φ_law_same 8)) (F_law_due : FnV P w K mg base 3 "_law_due" 1 φ_law_due) : FnOk P w K mg base CX0 10 f fd ["_law_script"] (spL ⟨P, w, K, mg⟩ 1 φ_law) :=
  law_rule (k := 9) (N := N_law) (pr := prL [0]) F sc_law fun cdv A outer s H E ct =>
 (bv_cons (sv_for (pr' := prL [0]) ct.ps ct.hc (iv_any (pv_of (po_bin ok_add2 (pr_of (pv_of (po_lst (pvs_cons (pv_of (po_call ct F_law_cell (by omega) rfl (prs_cons (pr_n 0) (prs_cons (pr_of pv_int) prs_nil)))) pvs_nil)))) (pr_of (pv_of (po_slc (ok_slL.or ok_slS) (pr_n 0) (pp_some pv_int) (pp_some pv_int))))))) nog_any.src (prL_sub rfl) (gv_n 1 ct)
 (bv_cons (sv_set (i := 2) ct.hN rfl (by first | exact Or.inl rfl | exact Or.inr rfl) rfl (po_call ct F_law_digits (by omega) rfl (prs_cons (pr_n 1) (prs_cons (pr_of pv_int) prs_nil))))
 (bv_cons (sv_set (i := 3) ct.hN rfl (by first | exact Or.inl rfl | exact Or.inr rfl) rfl (po_call ct F_law_eight (by omega) rfl (prs_cons (pr_of (pv_of (po_slc (ok_slL.or ok_slS) (pr_n 2) pp_none (pp_some pv_int)))) prs_nil)))
 (bv_cons (sv_set (i := 4) ct.hN rfl (by first | exact Or.inl rfl | exact Or.inr rfl) rfl (po_call ct F_law_rooms (by omega) rfl (prs_cons (pr_of (pv_of (po_slc (ok_slL.or ok_slS) (pr_n 2) (pp_some pv_int) (pp_some pv_int)))) (prs_cons (pr_of (pv_of (po_slc (ok_slL.or ok_slS) (pr_n 3) pp_none (pp_some (pv_of (po_bin ok_mod (pr_of (pv_of (po_ix (ok_ix ct.hr.units) (pr_n 2) (pr_of pv_int) (by intro _ _; rfl)))) (pr_of pv_int))))))) (prs_cons (pr_of (pv_of (po_slc (ok_slL.or ok_slS) (pr_n 3) (pp_some (pv_of (po_bin ok_sub (pr_of pv_int) (pr_of (pv_of (po_bin ok_mod (pr_of (pv_of (po_ix (ok_ix ct.hr.units) (pr_n 2) (pr_of pv_int) (by intro _ _; rfl)))) (pr_of pv_int))))))) pp_none))) prs_nil)))))
 (bv_cons (sv_set (i := 4) ct.hN rfl (by first | exact Or.inl rfl | exact Or.inr rfl) rfl (po_call ct F_law_spoiled (by omega) rfl (prs_cons (pr_n 4) (prs_cons (pr_n 3) (prs_cons (pr_of (pv_of (po_slc (ok_slL.or ok_slS) (pr_n 2) (pp_some pv_int) (pp_some pv_int)))) (prs_cons (pr_n 1) prs_nil))))))
 (bv_cons (sv_setLc (i := 5) ct.hc ct.hN rfl rfl rfl (sw_true rfl rfl rfl rfl) (iv_any (pv_n 4)) (blkOk_by (own := [("_law_room", 9)]) (by first | (show blkC N_law (defScope st_law) _ _ = true; decide +kernel) | rfl)) rfl (fun _ _ _ _ _ => (gv_n 9 ct.blk)) (fun _ _ _ _ _ => cv_nil) (fun _ _ _ _ _ => (pv_of (po_tup (pvs_cons (pv_of (po_callTy (ok_list2 ct.blk.hc) rfl fr.f_list bt_list (prs_cons (pr_of (pv_of (po_ix (ok_ix ct.hr.units) (pr_n 9) (pr_of pv_int) (by intro _ _; rfl)))) prs_nil))) (pvs_cons (pv_of (po_callTy (ok_dict2 ct.blk.hc) rfl fr.f_dict bt_dict (prs_cons (pr_of (pv_of (po_ix (ok_ix ct.hr.units) (pr_n 9) (pr_of pv_int) (by intro _ _; rfl)))) prs_nil))) pvs_nil))))))
 (bv_cons (sv_set (i := 6) ct.hN rfl (by first | exact Or.inl rfl | exact Or.inr rfl) rfl (po_of pv_non))
 (bv_cons (sv_set (i := 7) ct.hN rfl (by first | exact Or.inl rfl | exact Or.inr rfl) rfl (po_of pv_non))
 (bv_cons (sv_tryN (i := 8) (j := 6) ct (HdV.cons ⟨rfl, by decide, Or.inl fr.xc_InvalidName.at_⟩ fr.et_InvalidName (HdV.cons ⟨rfl, by decide, Or.inl fr.xc_InvalidStep.at_⟩ fr.et_InvalidStep HdV.nil)) rfl rfl (by decide) rfl rfl (fun _ _ _ ct => (bv_one (sv_set (i := 7) ct.hN rfl (by first | exact Or.inl rfl | exact Or.inr rfl) rfl (po_mk ct F_Keeper___init__ (by omega) rfl (prs_cons (pr_n 5) prs_nil))))))
 (bv_cons (sv_if (pt_cmp' ok_isN (pr_n 6) (pr_of pv_non) (by first | exact nomark _ | with_unfolding_all rfl))
 (bv_one (sv_set (i := 6) ct.hN rfl (by first | exact Or.inl rfl | exact Or.inr rfl) rfl (po_tup (pvs_cons pv_str (pvs_cons (pv_of (po_lenX ct fr.cl_Keeper F_Keeper___len__ (by omega) rfl fr.f_len (pr_n 7))) pvs_nil)))))
 bv_nil)
 (bv_one (sv_if (pt_of (pwb_or (pt_not' (pt_vb (po_call ct F_law_same (by omega) rfl (prs_cons (pr_n 6) (prs_cons (pr_of (pv_of (po_call ct F_law_due (by omega) rfl (prs_cons (pr_n 4) prs_nil)))) prs_nil))))) (pwb_or1 (pt_cmp' (ok_ne2 ct.hr.units) (pr_n 5) (pr_n 4) (by first | exact nomark _ | with_unfolding_all rfl)))))
 (bv_one (sv_ret (po_of pv_bl)))
 bv_nil))))))))))))
 (bv_one (sv_ret (po_of pv_bl))))
end VS
set_option linter.all false
set_option maxRecDepth 100000
namespace VS
open PySem L2
theorem dfind_zip (g : Nat → Nat) (ks : List U) (k : U) : ∀ s : Nat, dfind ((ks.zipIdx s).map fun p => (p.1, U.int (p.2 : Nat))) k = if k ∈ ks then some (.int ((s + ks.idxOf k : Nat))) else none := by
  induction ks with
  | nil => intro s; rfl
  | cons x ks ih =>
    intro s
    rw [List.zipIdx_cons, List.map_cons, dfind_cons, ih (s + 1)]
    by_cases h : x = k
    · subst h; simp
    · rw [if_neg h]
      simp only [List.mem_cons, Ne.symm h, false_or]
      split
      · rw [List.idxOf_cons]
        have : (x == k) = false := by simpa using h
        rw [this]
        simp only [cond_false]
        congr 3
        omega
      · rfl
def encN (ks : List U) : List (U × U) := ks.zipIdx.map fun p => (p.1, U.int (p.2 : Nat))
theorem encN_len (ks : List U) : (encN ks).length = ks.length := by simp [encN]
theorem encN_snoc (ks : List U) (k : U) : encN (ks ++ [k]) = encN ks ++ [(k, .int (ks.length : Nat))] := by
  simp [encN, List.zipIdx_append]
theorem dfind_encN (ks : List U) (k : U) : dfind (encN ks) k = if k ∈ ks then some (.int (ks.idxOf k : Nat)) else none := by
  have := dfind_zip id ks k 0
  simpa [encN] using this
def Keys (ms : List U) : Prop := ∀ (ks : List U) (k : U), (∀ x ∈ ks, x ∈ ms) → k ∈ ms → okD (encN ks) k = true
theorem ev_numbered (o : Bool) (ms : List U) (hk : Keys ms) (hl : ms.length < sizeLine) : φ_numbered [(o, .lst ms)] = .ok (true, .lst ((KM.numb ms).map fun k => .int (k : Nat))) [some (false, .lst ms)] := by
  rw [sl_eq] at hl
  refine fnS_post (fun r => r = .ok (true, .lst ((KM.numb ms).map fun k => .int (k : Nat))) [some (false, .lst ms)]) rfl (by decide) ?_
  have ha : ∀ (b : Bool) (k : Ks), (b_numbered [some (b, .lst ms), none, none]).post k = (b_numbered [some (false, .lst ms), none, none]).post k := by
    intro b k
    cases b
    · rfl
    · unfold b_numbered; simp
  show (b_numbered [some (o, .lst ms), none, none]).post _
  rw [ha o]
  unfold b_numbered
  simp
  refine post_forL ms id (by simp) (fun done e => ∃ z, nt z ∧ e = [some (false, .lst ms), some (true, .dct (encN (KM.nub done))), z]) ⟨none, trivial, rfl⟩ ?_ ?_
  · rintro done x rest e hms ⟨z, hz, rfl⟩
    have hsub : ∀ y ∈ KM.nub done, y ∈ ms := fun y hy => by rw [hms]; exact List.mem_append.mpr (.inl (KM.mem_nub.mp hy))
    have hx : x ∈ ms := by rw [hms]; simp
    have ok := hk _ _ hsub hx
    have ln : (KM.nub done).length < 16777216 := by
      have := KM.nub_len (xs := done)
      have := congrArg List.length hms
      simp at this
      omega
    by_cases h : x ∈ KM.nub done
    · simp [turn, ok, dfind_encN, h, KM.nub_snoc]
    · have : dset (encN (KM.nub done)) x (.int (KM.nub done).length) = encN (KM.nub done ++ [x]) := by
        rw [dset_new (by rw [dfind_encN, if_neg h]), encN_snoc]
      simp [turn, ok, dfind_encN, h, KM.nub_snoc, this, encN_len, ln]
  · rintro e ⟨z, hz, rfl⟩
    simp
    rw [lc_eq ms id (fun m => .int ((KM.nub ms).idxOf m : Nat)) rfl (by simp) (by rw [sl_eq]; omega)]
    · simp [KM.numb, outS_eq, prL, List.range_succ]
    · rw [clr_nt]; simp [hz]
    · intro x hx
      have ok := hk _ _ (fun y hy => KM.mem_nub.mp hy) hx
      simp [item, ok, dfind_encN, KM.mem_nub, hx]
end VS
set_option linter.all false
set_option maxRecDepth 100000
namespace VS
open PySem L2
def isNm (x : Str) : Bool := decide (0 < x.length ∧ x.length ≤ 8) && x.cps.toList.all fun c => decide (c ∈ ("abcdefghijklmnopqrstuvwxyz" : Str).cps.toList)
theorem ev_is_name (x : Str) (hx : x.length ≤ sizeLine) : φ_is_name [(false, .str x)] = .ok (false, .bl (isNm x)) [some (false, .str x)] := by
  rw [sl_eq] at hx
  refine fnS_post (fun r => r = .ok (false, .bl (isNm x)) [some (false, .str x)]) rfl (by decide) ?_
  have hl : (x.cps.toList).length = x.length := by simp [Str.length]
  unfold b_is_name
  simp [hx]
  have hc := lc_eq (t := tgN 1) (te := mF (mBin sIn (mSl 1) (mR (mC (.str "abcdefghijklmnopqrstuvwxyz"))))) (vs := [1]) (s := ⟨strL x, [], none⟩) (e := [some (false, .str x), none]) x.cps.toList (fun c => .str ⟨#[c]⟩) (fun c => .bl (decide (c ∈ ("abcdefghijklmnopqrstuvwxyz" : Str).cps.toList))) rfl rfl (by rw [sl_eq]; omega) (by rw [clr_nt]; simp) (by
    intro c hc
    simp [item])
  by_cases h1 : 0 < x.length
  · by_cases h2 : (x.length : Int) ≤ 8
    · have h3 : x.length ≤ 8 := by omega
      simp [h1, h2, hc, isNm, h3, outS_eq, prL]
    · have h3 : ¬ x.length ≤ 8 := by omega
      simp [h1, h2, isNm, h3, outS_eq, prL]
  · simp [h1, isNm, outS_eq, prL]
theorem isNm_len {x : Str} (h : isNm x = true) : x.length ≤ 8 := by
  unfold isNm at h
  simp at h
  exact h.1.2
abbrev RowsS := KM.Rows (List Str) Str
abbrev encHr (p : List Str × List (Str × Nat)) : U := .tup [.lst (p.1.map .str), .dct (encD p.2)]
abbrev encH (rows : RowsS) : U := .lst (rows.map encHr)
abbrev encRr (p : List Str × List (Str × Nat)) : U := .tup [.tup (p.1.map .str), .dct (encD p.2)]
abbrev encR (rows : RowsS) : U := .lst (rows.map encRr)
theorem enumL_map {α : Type} (g : α → U) (xs : List α) : enumL (xs.map g) = xs.zipIdx.map fun p => .tup [.int (p.2 : Nat), g p.1] := by
  unfold enumL
  rw [List.zipIdx_map, List.map_map]
  rfl
theorem mem_sortS {xs : List Str} {x : Str} : x ∈ sortS xs ↔ x ∈ xs := by unfold sortS; rw [List.mem_mergeSort]
theorem sortS_len {xs : List Str} : (sortS xs).length = xs.length := by unfold sortS; rw [List.length_mergeSort]
theorem lk_of_mem {s : List (Str × Nat)} {e : Str} (h : e ∈ s.map (·.1)) : ∃ k, KM.lk s e = some k ∧ (e, k) ∈ s := by
  obtain ⟨p, hp, rfl⟩ := List.mem_map.mp h
  have : (s.find? fun q => decide (q.1 = p.1)).isSome := by
    rw [List.find?_isSome]
    exact ⟨p, hp, by simp⟩
  obtain ⟨q, hq⟩ := Option.isSome_iff_exists.mp this
  have e1 : KM.lk s p.1 = some q.2 := by unfold KM.lk; rw [hq]; rfl
  exact ⟨q.2, e1, KM.lk_mem e1⟩
structure RowsOk (rows : RowsS) : Prop where
  n0 : 0 < rows.length
  n1 : rows.length ≤ 1000
  bl : ∀ r ∈ rows, ∀ x ∈ r.1, isNm x = true
  bn : ∀ r ∈ rows, r.1.length < 64
  st : ∀ r ∈ rows, ∀ p ∈ r.2, isNm p.1 = true ∧ p.2 < rows.length
  sn : ∀ r ∈ rows, r.2.length < 64
  sm : (rows.map fun r => r.2.length).sum < 4096
  sd : (dedS (rows.flatMap fun r => r.2.map (·.1))).length < 64
theorem ev_check_rooms (o : Bool) (rows : RowsS) (h : RowsOk rows) : φ_check_rooms [(o, encH rows)] = .ok (false, .non) [some (false, encH rows)] := by
  refine fnS_post (fun r => r = .ok (false, .non) [some (false, encH rows)]) rfl (by decide) ?_
  have ha : ∀ (b : Bool) (k : Ks), (b_check_rooms [some (b, encH rows), none, none, none, none]).post k = (b_check_rooms [some (false, encH rows), none, none, none, none]).post k := by
    intro b k
    cases b
    · rfl
    · unfold b_check_rooms; simp
  show (b_check_rooms [some (o, encH rows), none, none, none, none]).post _
  rw [ha o]
  unfold b_check_rooms
  simp only [encH]
  simp [enumL_map]
  refine post_forL rows.zipIdx _ rfl (fun done e => ∃ z1 z2 z3 z4, e = [some (false, encH rows), z1, z2, z3, z4]) ⟨_, _, _, _, rfl⟩ ?_ ?_
  · rintro done x rest e hms ⟨z1, z2, z3, z4, rfl⟩
    have hx : x ∈ rows.zipIdx := by rw [hms]; simp
    obtain ⟨r, i⟩ := x
    have hr : r ∈ rows := (List.mem_zipIdx hx).2.2 ▸ List.getElem_mem _
    simp [turn]
    refine post_forL r.1 U.str rfl (fun done e => ∃ z2, e = [some (false, encH rows), some (false, .int (i : Nat)), z2, some (false, .lst (r.1.map .str)), some (false, .dct (encD r.2))]) ⟨_, rfl⟩ ?_ ?_
    · rintro done x rest e hms ⟨z2, rfl⟩
      have hx : x ∈ r.1 := by rw [hms]; simp
      have hn := h.bl r hr x hx
      have hl := isNm_len hn
      have := ev_is_name x (by rw [sl_eq]; omega)
      simp [turn, this, hn]
    · rintro e ⟨z2, rfl⟩
      simp [sSorted_d (h.sn r hr)]
      refine post_forL (sortS (r.2.map (·.1))) U.str rfl (fun done e => ∃ z2, e = [some (false, encH rows), some (false, .int (i : Nat)), z2, some (false, .lst (r.1.map .str)), some (false, .dct (encD r.2))]) ⟨_, rfl⟩ ?_ ?_
      · rintro done x rest e hms ⟨z2, rfl⟩
        have hx : x ∈ sortS (r.2.map (·.1)) := by rw [hms]; simp
        rw [mem_sortS] at hx
        obtain ⟨k, hk, hm⟩ := lk_of_mem hx
        obtain ⟨hn, hk2⟩ : isNm x = true ∧ k < rows.length := h.st r hr _ hm
        have hl := isNm_len hn
        have := ev_is_name x (by rw [sl_eq]; omega)
        simp [turn, this, hn, hk, hk2]
      · rintro e ⟨z2, rfl⟩
        simp
  · rintro e ⟨z1, z2, z3, z4, rfl⟩
    simp [outS_eq, prL]
def evs (rows : RowsS) : List Str := sortS (dedS (rows.flatMap fun r => r.2.map (·.1)))
theorem flat_len (rows : RowsS) : (rows.flatMap fun r => r.2.map (·.1)).length = (rows.map fun r => r.2.length).sum := by
  rw [List.length_flatMap]
  simp
theorem ev_seen_events (o : Bool) (rows : RowsS) (h : RowsOk rows) : φ_seen_events [(o, encR rows)] = .ok (true, .lst ((evs rows).map .str)) [some (false, encR rows)] := by
  refine fnS_post (fun r => r = .ok (true, .lst ((evs rows).map .str)) [some (false, encR rows)]) rfl (by decide) ?_
  show (b_seen_events [some (o, encR rows), none, none, none]).post _
  unfold b_seen_events
  have := sc2_eq' (m := mItA (mN 0)) (t := tgT 2 (tgsC (tgN 2) (tgsC (tgN 3) tgs0))) (m1 := mItA (mN 3)) (t1 := tgN 1) (te := mN 1) (vs := [2, 3, 1]) (vs1 := [1]) (s := ⟨rows.map encRr, [], none⟩) (e := [some (false, encR rows), none, none, none]) (e' := [some (o, encR rows), none, none, none]) rows encRr (fun r => (r.2.map (·.1)).map .str) (fun r => r.2.map (·.1))
    (by cases o <;> simp) rfl rfl (by rw [flat_len]; exact h.sm) h.sd (by rw [clr_nt]; simp) (by
      intro r hr
      simp [itemO, srcA_d]
      intro i a b x k q1 q2 k' q3
      rw [q1] at q3
      cases q3
      simp [itemS, ← q2])
  simp [this]
  simp [outS_eq, prL, evs]
end VS
set_option linter.all false
set_option maxRecDepth 100000
namespace VS
open PySem L2
theorem nub_map {α β : Type} [DecidableEq α] [DecidableEq β] (g : α → β) (inj : ∀ a b, g a = g b → a = b) (xs : List α) : KM.nub (xs.map g) = (KM.nub xs).map g := by
  induction xs using KM.list_snoc_ind with
  | h0 => rfl
  | hs xs x ih =>
    rw [List.map_append, List.map_cons, List.map_nil, KM.nub_snoc, KM.nub_snoc, ih]
    have : g x ∈ (KM.nub xs).map g ↔ x ∈ KM.nub xs := by
      rw [List.mem_map]
      exact ⟨fun ⟨y, hy, e⟩ => inj _ _ e ▸ hy, fun h => ⟨x, h, rfl⟩⟩
    by_cases h : x ∈ KM.nub xs
    · rw [if_pos (this.mpr h), if_pos h]
    · rw [if_neg (fun z => h (this.mp z)), if_neg h]; simp
theorem idxOf_map {α β : Type} [DecidableEq α] [DecidableEq β] (g : α → β) (inj : ∀ a b, g a = g b → a = b) (x : α) : ∀ xs : List α, (xs.map g).idxOf (g x) = xs.idxOf x
  | [] => rfl
  | y :: r => by
    rw [List.map_cons, List.idxOf_cons, List.idxOf_cons, idxOf_map g inj x r]
    by_cases h : y = x
    · subst h; simp
    · have h2 : ¬ g y = g x := fun z => h (inj _ _ z)
      rw [show (g y == g x) = false from by simpa using h2, show (y == x) = false from by simpa using h]
theorem numb_map {α β : Type} [DecidableEq α] [DecidableEq β] (g : α → β) (inj : ∀ a b, g a = g b → a = b) (xs : List α) : KM.numb (xs.map g) = KM.numb xs := by
  unfold KM.numb
  rw [List.map_map, nub_map g inj]
  apply List.map_congr_left
  intro x _
  exact idxOf_map g inj x _
theorem strs_inj {a b : List Str} (h : a.map U.str = b.map U.str) : a = b := by
  induction a generalizing b with
  | nil => cases b with
    | nil => rfl
    | cons => simp at h
  | cons x a ih => cases b with
    | nil => simp at h
    | cons y b =>
      simp only [List.map_cons, List.cons.injEq, U.str.injEq] at h
      rw [h.1, ih h.2]
theorem nats_inj {a b : List Nat} (h : a.map (fun k => U.int (k : Nat)) = b.map fun k => U.int (k : Nat)) : a = b := by
  induction a generalizing b with
  | nil => cases b with
    | nil => rfl
    | cons => simp at h
  | cons x a ih => cases b with
    | nil => simp at h
    | cons y b =>
      simp only [List.map_cons, List.cons.injEq, U.int.injEq] at h
      rw [Int.ofNat.inj h.1, ih h.2]
abbrev encC (c : List Nat) : U := .lst (c.map fun k => .int (k : Nat))
def encM (m : Nat × List Nat) : U := .tup [.int (m.1 : Nat), .tup (m.2.map fun k => .int (k : Nat))]
theorem encM_inj : ∀ a b, encM a = encM b → a = b := by
  rintro ⟨a1, a2⟩ ⟨b1, b2⟩ h
  unfold encM at h
  injection h with h
  simp only [List.cons.injEq, U.int.injEq, U.tup.injEq, and_true] at h
  rw [Int.ofNat.inj h.1, nats_inj h.2]
def encB (b : List Str) : U := .tup (b.map .str)
theorem encB_inj : ∀ a b, encB a = encB b → a = b := fun a b h => by
  unfold encB at h
  injection h with h
  exact strs_inj h
theorem okD_x {ks : List U} {k : U} (hk : isKx k = true) (h : ∀ x ∈ ks, isKx x = true ∧ cmpU x k = true) : okD (encN ks) k = true := by
  unfold okD
  rw [Bool.or_eq_true]
  right
  rw [Bool.and_eq_true]
  refine ⟨hk, ?_⟩
  rw [List.all_eq_true]
  intro p hp
  unfold encN at hp
  obtain ⟨q, hq, rfl⟩ := List.mem_map.mp hp
  have := h q.1 (List.mem_zipIdx hq |>.2.2 ▸ List.getElem_mem _)
  simp [this.1, this.2]
theorem keys_B (bs : List (List Str)) : Keys (bs.map encB) := by
  intro ks k hks hk
  have one : ∀ x ∈ bs.map encB, ∃ b : List Str, x = encB b := fun x hx => by
    obtain ⟨b, _, rfl⟩ := List.mem_map.mp hx; exact ⟨b, rfl⟩
  have kx : ∀ b : List Str, isKx (encB b) = true := fun b => by
    show List.all _ _ = true
    rw [List.all_eq_true]
    intro u hu
    obtain ⟨x, _, rfl⟩ := List.mem_map.mp hu
    rfl
  have ki : ∀ b : List Str, kd lfI 8 (encB b) = true := fun b => by
    show List.all _ _ = true
    rw [List.all_eq_true]
    intro u hu
    obtain ⟨x, _, rfl⟩ := List.mem_map.mp hu
    rfl
  have km : ∀ a b : List Str, cmpU (encB a) (encB b) = true := fun a b => by
    unfold cmpU
    rw [ki, ki]
    rfl
  obtain ⟨b, rfl⟩ := one k hk
  exact okD_x (kx b) fun x hx => by
    obtain ⟨a, rfl⟩ := one x (hks x hx)
    exact ⟨kx a, km a b⟩
theorem keys_M (ms : List (Nat × List Nat)) : Keys (ms.map encM) := by
  intro ks k hks hk
  have one : ∀ x ∈ ms.map encM, ∃ b, x = encM b := fun x hx => by
    obtain ⟨b, _, rfl⟩ := List.mem_map.mp hx; exact ⟨b, rfl⟩
  have in_ : ∀ (n : Nat) (p : U → Bool) (b : Nat × List Nat), (∀ i, p (.int i) = true) → kd p (n + 3) (encM b) = true := fun n p b hp => by
    have h1 : ∀ (m : Nat) (ks : List Nat), (ks.map fun k : Nat => U.int (k : Nat)).all (kd p (m + 1)) = true := fun m ks => by
      rw [List.all_eq_true]
      intro u hu
      obtain ⟨x, _, rfl⟩ := List.mem_map.mp hu
      exact hp _
    show List.all _ _ = true
    rw [List.all_eq_true]
    intro u hu
    simp only [List.mem_cons, List.not_mem_nil, or_false] at hu
    rcases hu with rfl | rfl
    · exact hp _
    · exact h1 n b.2
  have kx : ∀ b, isKx (encM b) = true := fun b => by
    have := in_ 5 lfA b fun i => rfl
    exact this
  have km : ∀ a b, cmpU (encM a) (encM b) = true := fun a b => by
    unfold cmpU
    rw [in_ 5 lfI a fun i => rfl, in_ 5 lfI b fun i => rfl]
    rfl
  obtain ⟨b, rfl⟩ := one k hk
  exact okD_x (kx b) fun x hx => by
    obtain ⟨a, rfl⟩ := one x (hks x hx)
    exact ⟨kx a, km a b⟩
theorem atI_cf {c : List Nat} {g : Nat} (h : g < c.length) : atI (c.map fun k => U.int (k : Nat)) (g : Int) = some (.int (KM.cf c g : Nat)) := by
  rw [atI_nat, List.getElem?_map, List.getElem?_eq_getElem h]
  unfold KM.cf
  rw [List.getD_eq_getElem?_getD, List.getElem?_eq_getElem h]
  rfl
@[simp] theorem getD_int (o : Option Nat) (r : Nat) : (o.map fun k => U.int (k : Nat)).getD (.int (r : Nat)) = .int ((o.getD r : Nat)) := by cases o <;> rfl
theorem maxI_cl {n m : Nat} {c : List Nat} (hl : c.length = n) (hn : 0 < n) (h : KM.Cl n m (KM.cf c)) : maxI (c.map fun k : Nat => (k : Int)) = (m : Int) - 1 := by
  have hm : 0 < m := by have := h.lt 0 hn; omega
  refine (maxI_unique ?_ ?_).symm
  · obtain ⟨i, hi, e⟩ := h.sur (m - 1) (by omega)
    rw [List.mem_map]
    refine ⟨c[i]'(by omega), List.getElem_mem _, ?_⟩
    unfold KM.cf at e
    rw [List.getD_eq_getElem?_getD, List.getElem?_eq_getElem (by omega)] at e
    simp only [Option.getD_some] at e
    omega
  · intro y hy
    obtain ⟨k, hk, rfl⟩ := List.mem_map.mp hy
    obtain ⟨i, hi, rfl⟩ := List.mem_iff_getElem.mp hk
    have := h.lt i (by omega)
    unfold KM.cf at this
    rw [List.getD_eq_getElem?_getD, List.getElem?_eq_getElem (by omega)] at this
    simp only [Option.getD_some] at this
    omega
theorem sMx_c {c : List Nat} {n m : Nat} (hl : c.length = n) (hn : 0 < n) (h : KM.Cl n m (KM.cf c)) : sMx [encC c] = some (false, .int ((m : Int) - 1)) := by
  have := sMx_ints (ns := c.map fun k : Nat => (k : Int)) (by intro e; have := congrArg List.length e; simp at this; rw [this] at hl; simp at hl; omega)
  rw [maxI_cl hl hn h, List.map_map] at this
  exact this
theorem dedS_len : ∀ xs : List Str, (dedS xs).length ≤ xs.length
  | [] => Nat.le_refl _
  | x :: r => by
    have := dedS_len r
    unfold dedS
    split
    · rw [List.length_cons]; omega
    · rw [List.length_cons, List.length_cons]; omega
theorem evs_len {rows : RowsS} (h : RowsOk rows) : (evs rows).length < 64 := by
  unfold evs
  rw [sortS_len]
  exact h.sd
structure ClsSt (rows : RowsS) (k : Nat) (c : List Nat) : Prop where
  ln : c.length = rows.length
  go : ∃ m, KM.Good rows (evs rows) m (KM.cf c)
  or : k = 0 ∨ ∃ p, KM.Good rows (evs rows) k p ∧ c = KM.numb (KM.marks rows (evs rows) p)
theorem rows_get {rows : RowsS} {r : List Str × List (Str × Nat)} {i : Nat} (h : (r, i) ∈ rows.zipIdx) : rows[i]? = some r := by
  have := List.mem_zipIdx_iff_getElem?.mp h
  simpa using this
theorem fit_of {rows : RowsS} (h : RowsOk rows) : KM.Fit rows := by
  intro r p hp
  unfold KM.stp at hp
  cases z : rows[r]? with
  | none => rw [z] at hp; cases hp
  | some q =>
    rw [z] at hp
    exact (h.st q (List.mem_of_getElem? z) p hp).2
theorem goal_of {rows : RowsS} {r : List Str × List (Str × Nat)} {i : Nat} (h : rows[i]? = some r) (e : Str) : (KM.lk r.2 e).getD i = KM.goal rows i e := by
  unfold KM.goal KM.stp
  rw [h]
  rfl
theorem ev_room_classes (o : Bool) (rows : RowsS) (h : RowsOk rows) : ∃ c : List Nat, c.length = rows.length ∧ KM.Stable rows (evs rows) (KM.cf c) ∧ φ_room_classes [(o, encR rows)] = .ok (true, encC c) [some (false, encR rows)] := by
  refine fnS_post (fun r => ∃ c : List Nat, c.length = rows.length ∧ KM.Stable rows (evs rows) (KM.cf c) ∧ r = .ok (true, encC c) [some (false, encR rows)]) rfl (by decide) ?_
  show (b_room_classes [some (o, encR rows), none, none, none, none, none, none, none, none]).post _
  have hs : rows.length < sizeLine := by rw [sl_eq]; have := h.n1; omega
  have hf := fit_of h
  have n0 := h.n0
  have ha : ∀ (b : Bool) (k : Ks), (b_room_classes [some (b, encR rows), none, none, none, none, none, none, none, none]).post k = (b_room_classes [some (false, encR rows), none, none, none, none, none, none, none, none]).post k := by
    intro b k
    cases b
    · rfl
    · unfold b_room_classes; simp [ev_seen_events _ rows h]
  rw [ha o]
  unfold b_room_classes
  have se := ev_seen_events false rows h
  have bl := lc_eq (t := tgT 2 (tgsC (tgN 6) (tgsC (tgN 7) tgs0))) (te := mN 6) (vs := [6, 7]) (s := ⟨rows.map encRr, [], none⟩) (e := [some (false, encR rows), some (true, .lst ((evs rows).map .str)), none, none, none, none, none, none, none]) rows encRr (fun r => encB r.1) rfl rfl (by omega) (by rw [clr_nt]; simp) (by
    intro r hr
    simp [item, encB])
  have nb := ev_numbered false (rows.map fun r => encB r.1) (by
    have := keys_B (rows.map (·.1))
    rwa [List.map_map] at this) (by simpa using hs)
  have nb2 : KM.numb (rows.map fun r => encB r.1) = KM.numb (KM.blks rows) := by
    rw [← numb_map encB encB_inj (KM.blks rows)]
    unfold KM.blks
    rw [List.map_map]
    rfl
  rw [nb2] at nb
  simp [se, bl, nb]
  obtain ⟨I, hI⟩ : ∃ I : Nat → En → Prop, ∀ n e, I n e ↔ ∃ (b1 : Bool) (k : Nat) (c : List Nat) (z4 z5 z6 z7 z8 : Sl), n + k = rows.length + 1 ∧ ClsSt rows k c ∧ (nt z5 ∧ nt z6 ∧ nt z7 ∧ nt z8) ∧ e = [some (false, encR rows), some (b1, .lst ((evs rows).map .str)), some (true, encC c), some (false, .int (k : Nat)), z4, z5, z6, z7, z8] := ⟨_, fun _ _ => Iff.rfl⟩
  refine post_mWhl I (rows.length + 1)
    ((hI _ _).mpr ⟨true, 0, _, none, none, none, none, none, rfl, ⟨by rw [KM.numb_len]; simp [KM.blks], ⟨_, KM.good0 rows (evs rows)⟩, .inl rfl⟩, ⟨trivial, trivial, trivial, trivial⟩, rfl⟩) ?_
  intro n e hin
  obtain ⟨b1, k, c, z4, z5, z6, z7, z8, hn, hc, ⟨hz5, hz6, hz7, hz8⟩, rfl⟩ := (hI _ _).mp hin
  obtain ⟨m, gm⟩ := hc.go
  have mx := sMx_c hc.ln n0 gm.cl
  have mn := gm.cl.le
  have cln := hc.ln
  unfold wturn
  simp [mx]
  split
  · rename_i hk
    obtain ⟨J, hJ⟩ : ∃ J : List ((List Str × List (Str × Nat)) × Nat) → En → Prop, ∀ done e, J done e ↔ ∃ (b1 : Bool) (z5 z6 z7 z8 : Sl), (nt z5 ∧ nt z6 ∧ nt z7 ∧ nt z8) ∧ e = [some (false, encR rows), some (b1, .lst ((evs rows).map .str)), some (true, encC c), some (false, .int (m : Nat)), some (true, .lst (done.map fun p => encM (KM.mark rows (evs rows) (KM.cf c) p.2))), z5, z6, z7, z8] := ⟨_, fun _ _ => Iff.rfl⟩
    refine post_forL rows.zipIdx _ (enumL_map _ _) J ((hJ _ _).mpr ⟨b1, z5, z6, z7, z8, ⟨hz5, hz6, hz7, hz8⟩, rfl⟩) ?_ ?_
    · intro done x rest e hms hin
      obtain ⟨b1, z5, z6, z7, z8, ⟨hz5, hz6, hz7, hz8⟩, rfl⟩ := (hJ _ _).mp hin
      have hx : x ∈ rows.zipIdx := by rw [hms]; simp
      obtain ⟨r, i⟩ := x
      have hri := rows_get hx
      have hi := (List.getElem?_eq_some_iff.mp hri).1
      have hl : done.length < 1000 := by
        have := congrArg List.length hms
        simp at this
        have := h.n1
        omega
      have lc := lc_eq (t := tgN 8) (te := mF (mBin sIx (mSl 2) (mR (mF (mMr isD sGetD (mSl 7) (mVc (mN 8) (mVc (mN 5) mVn))))))) (vs := [8]) (s := ⟨(evs rows).map U.str, [], none⟩) (e := [some (false, encR rows), some (false, .lst ((evs rows).map .str)), some (true, encC c), some (false, .int (m : Nat)), some (true, .lst (done.map fun p => encM (KM.mark rows (evs rows) (KM.cf c) p.2))), some (false, .int (i : Nat)), some (false, .tup (r.1.map .str)), some (false, .dct (encD r.2)), z8]) (evs rows) U.str (fun e => .int (KM.cf c (KM.goal rows i e) : Nat)) rfl rfl (by have := evs_len h; rw [sl_eq]; omega) (by rw [clr_nt]; simp [hz5, hz6, hz7, hz8]) (by
        intro e he
        have := KM.goal_lt hf hi (e := e)
        simp [item, goal_of hri, atI_cf, cln, this])
      have hl2 : done.length < 16777216 := by omega
      have hm2 : KM.mark rows (evs rows) (KM.cf c) i = (KM.cf c i, (evs rows).map fun e => KM.cf c (KM.goal rows i e)) := rfl
      cases b1
      all_goals
        simp [turn, lc, atI_cf, cln, hi, hl2]
        rw [hJ]
        refine ⟨false, some (false, .int (i : Nat)), some (false, .tup (r.1.map .str)), some (false, .dct (encD r.2)), z8, ⟨trivial, trivial, trivial, hz8⟩, ?_⟩
        rw [List.map_append, List.map_cons, List.map_nil, hm2]
        simp only [encM, List.map_map]
        rfl
    · intro e hin
      obtain ⟨b1, z5, z6, z7, z8, ⟨hz5, hz6, hz7, hz8⟩, rfl⟩ := (hJ _ _).mp hin
      have e1 : (rows.zipIdx.map fun p => encM (KM.mark rows (evs rows) (KM.cf c) p.2)) = (KM.marks rows (evs rows) (KM.cf c)).map encM := by
        unfold KM.marks
        rw [List.map_map]
        have : List.range rows.length = rows.zipIdx.map (·.2) := by rw [List.zipIdx_map_snd]; simp [List.range_eq_range']
        rw [this, List.map_map]
        rfl
      rw [e1]
      have nb := ev_numbered true ((KM.marks rows (evs rows) (KM.cf c)).map encM) (keys_M _) (by simp [KM.marks]; have := h.n1; omega)
      rw [numb_map encM encM_inj] at nb
      cases b1
      all_goals
       simp [nb, hz5, hz6, hz7, hz8]
       refine ⟨rows.length + 1 - m, by omega, (hI _ _).mpr ⟨_, m, KM.numb (KM.marks rows (evs rows) (KM.cf c)), _, z5, z6, z7, z8, by omega, ⟨by rw [KM.numb_len, KM.marks_len], ⟨_, KM.good_step gm⟩, .inr ⟨_, gm, rfl⟩⟩, ⟨hz5, hz6, hz7, hz8⟩, rfl⟩⟩
  · rename_i hk
    simp [outS_eq, prL]
    refine ⟨c, hc.ln, ?_, rfl⟩
    rcases hc.or with e0 | ⟨p, gp, e0⟩
    · have := gm.cl.lt 0 n0
      omega
    · have gp2 := KM.good_step gp
      have e2 : KM.cf c = KM.nf (KM.marks rows (evs rows) p) := by rw [e0]; rfl
      have hm : (KM.nub (KM.marks rows (evs rows) p)).length ≤ k := by
        have c1 := gm.cl
        rw [e2] at c1
        have c3 : ∀ v, v < (KM.nub (KM.marks rows (evs rows) p)).length → v < m := fun v hv => by
          obtain ⟨i, hi, e4⟩ := gp2.cl.sur v hv
          have := c1.lt i hi
          omega
        apply Classical.byContradiction
        intro q
        have := c3 k (by omega)
        omega
      rw [e0]
      exact KM.stable_of hf gp hm
end VS
set_option linter.all false
set_option maxRecDepth 100000
namespace VS
open PySem L2
abbrev encO (order : List Nat) : U := .lst (order.map fun k => .int (k : Nat))
def numK (c : Nat → Nat) (order : List Nat) : List U := (order.map c).map fun k => U.int (k : Nat)
theorem int_inj : ∀ a b : Nat, U.int (a : Nat) = U.int (b : Nat) → a = b := fun a b h => by injection h with h; exact Int.ofNat.inj h
theorem mem_numK {c : Nat → Nat} {order : List Nat} {k : Nat} : U.int (k : Nat) ∈ numK c order ↔ k ∈ order.map c := by
  unfold numK
  rw [List.mem_map]
  exact ⟨fun ⟨a, h, e⟩ => int_inj _ _ e ▸ h, fun h => ⟨k, h, rfl⟩⟩
theorem idx_numK {c : Nat → Nat} {order : List Nat} {g : Nat} : (numK c order).idxOf (U.int (c g : Nat)) = KM.ixc c order g := by
  unfold numK KM.ixc
  exact idxOf_map (fun k : Nat => U.int (k : Nat)) int_inj _ _
theorem okD_numK {c : Nat → Nat} {order : List Nat} {k : Nat} : okD (encN (numK c order)) (.int (k : Nat)) = true := by
  unfold okD
  rw [Bool.or_eq_true]
  left
  simp only [isK1, Bool.true_and, List.all_eq_true]
  intro p hp
  unfold encN at hp
  obtain ⟨q, hq, rfl⟩ := List.mem_map.mp hp
  have := (List.mem_zipIdx hq).2.2 ▸ List.getElem_mem _
  unfold numK at this
  obtain ⟨a, _, e⟩ := List.mem_map.mp this
  rw [← e]
theorem numK_snoc {c : Nat → Nat} {order : List Nat} {g : Nat} : numK c (order ++ [g]) = numK c order ++ [.int (c g : Nat)] := by simp [numK]
theorem encD_snoc {s : List (Str × Nat)} {x : Str} {k : Nat} : encD s ++ [(.str x, .int (k : Nat))] = encD (s ++ [(x, k)]) := by simp [encD]
def rw0 (rows : RowsS) (r : Nat) : List Str := (rows.getD r ([], [])).1
def lrow (rows : RowsS) (c : Nat → Nat) (order : List Nat) (r : Nat) : List Str × List (Str × Nat) := (rw0 rows r, KM.stepsOf rows c order r (evs rows))
def lrows (rows : RowsS) (c : Nat → Nat) (order : List Nat) : RowsS := order.map (lrow rows c order)
theorem evs_nodup (rows : RowsS) : (evs rows).Nodup := by
  unfold evs sortS
  exact (List.mergeSort_perm _ _).nodup_iff.mpr (nodup_dedS _)
theorem rw0_eq {rows : RowsS} {r : Nat} {p : List Str × List (Str × Nat)} (h : rows[r]? = some p) : rw0 rows r = p.1 := by
  unfold rw0; rw [List.getD_eq_getElem?_getD, h]; rfl
theorem ev_least_rooms (o : Bool) (rows : RowsS) (h : RowsOk rows) : ∃ (c : List Nat) (order : List Nat), c.length = rows.length ∧ KM.Stable rows (evs rows) (KM.cf c) ∧ KM.Bfs rows (KM.cf c) (evs rows) order.length order ∧
    φ_least_rooms [(o, encR rows)] = .ok (true, encR (lrows rows (KM.cf c) order)) [some (false, encR rows)] := by
  refine fnS_post (fun r => ∃ (c : List Nat) (order : List Nat), c.length = rows.length ∧ KM.Stable rows (evs rows) (KM.cf c) ∧ KM.Bfs rows (KM.cf c) (evs rows) order.length order ∧ r = .ok (true, encR (lrows rows (KM.cf c) order)) [some (false, encR rows)]) rfl (by decide) ?_
  show (b_least_rooms [some (o, encR rows), none, none, none, none, none, none, none, none, none, none]).post _
  have hf := fit_of h
  have n0 := h.n0
  have n1 := h.n1
  have ha : ∀ (b : Bool) (k : Ks), (b_least_rooms [some (b, encR rows), none, none, none, none, none, none, none, none, none, none]).post k = (b_least_rooms [some (false, encR rows), none, none, none, none, none, none, none, none, none, none]).post k := by
    intro b k
    cases b
    · rfl
    · unfold b_least_rooms; simp [ev_seen_events _ rows h]
  rw [ha o]
  obtain ⟨c, cln, st, rc⟩ := ev_room_classes false rows h
  have se := ev_seen_events false rows h
  unfold b_least_rooms
  have h0 : atI (c.map fun k => U.int (k : Nat)) (0 : Int) = some (.int (KM.cf c 0 : Nat)) := atI_cf (g := 0) (by omega)
  simp only [atI_0, List.getElem?_map] at h0
  simp [se, rc, h0, isK1]
  obtain ⟨I, hI⟩ : ∃ I : Nat → En → Prop, ∀ n e, I n e ↔ ∃ (b1 : Bool) (k : Nat) (order : List Nat) (z7 z8 z9 z10 : Sl), n + k = rows.length ∧ KM.Bfs rows (KM.cf c) (evs rows) k order ∧ (nt z7 ∧ nt z8 ∧ nt z9 ∧ nt z10) ∧
    e = [some (false, encR rows), some (b1, .lst ((evs rows).map .str)), some (true, encC c), some (true, encO order), some (true, .dct (encN (numK (KM.cf c) order))), some (true, .lst ((order.map fun r => encRr (lrow rows (KM.cf c) order r)).take k)), some (false, .int (k : Nat)), z7, z8, z9, z10] := ⟨_, fun _ _ => Iff.rfl⟩
  refine post_mWhl I rows.length ((hI _ _).mpr ⟨true, 0, [0], none, none, none, none, rfl, .zero, ⟨trivial, trivial, trivial, trivial⟩, rfl⟩) ?_
  intro n e hin
  obtain ⟨b1, k, order, z7, z8, z9, z10, hn, bf, ⟨hz7, hz8, hz9, hz10⟩, rfl⟩ := (hI _ _).mp hin
  obtain ⟨od, odl⟩ := bf.ord hf n0
  have ol := od.len
  unfold wturn
  simp
  split
  · rename_i hk
    have hr : order[k]? = some order[k] := List.getElem?_eq_getElem hk
    generalize hrr : order[k] = r at hr
    have rl := od.lt r (List.mem_of_getElem? hr)
    have rg : rows[r]? = some rows[r] := List.getElem?_eq_getElem rl
    simp [atI_at hr]
    have rb : rows[r]? = some (rows[r].1, rows[r].2) := rg
    obtain ⟨J, hJ⟩ : ∃ J : List Str → En → Prop, ∀ done e, J done e ↔ ∃ (z9 z10 : Sl), (nt z9 ∧ nt z10) ∧
      e = [some (false, encR rows), some (false, .lst ((evs rows).map .str)), some (true, encC c), some (true, encO (KM.ords rows (KM.cf c) r done order)), some (true, .dct (encN (numK (KM.cf c) (KM.ords rows (KM.cf c) r done order)))), some (true, .lst ((order.map fun r => encRr (lrow rows (KM.cf c) order r)).take k)), some (false, .int (k : Nat)), some (false, .int (r : Nat)), some (true, .dct (encD (KM.stepsOf rows (KM.cf c) (KM.ords rows (KM.cf c) r done order) r done))), z9, z10] := ⟨_, fun _ _ => Iff.rfl⟩
    have fin : ∀ κ : Ks, (∀ e, J (evs rows) e → κ.N e) → (forL (tgN 9)
                ((mAsg 10
                      (mMr isD sGetD (mR (mF (mBin sIx (mR (mF (mBin sIx (mSl 0) (mSl 7)))) (mR (mC (U.int 1))))))
                        (mVc (mN 9) (mVc (mN 7) mVn)))).seq
                  (mIf
                    (mTst (mBin (sEq true) (mR (mF (mBin sIx (mSl 2) (mSl 10)))) (mR (mF (mBin sIx (mSl 2) (mSl 7))))))
                    ((mIf (mTst (mBin sNotIn (mR (mF (mBin sIx (mSl 2) (mSl 10)))) (mSl 4)))
                          ((mSto 4 (mF (mBin sIx (mSl 2) (mSl 10))) (mF (mCB sLenU (mRc (mSl 3) mRn)))).seq
                            (mDrp (mF (mMu isL sApp 3 (mVc (mN 10) mVn)))))
                          MS.nop).seq
                      (mSto 8 (mN 9) (mF (mBin sIx (mSl 4) (mR (mF (mBin sIx (mSl 2) (mSl 10))))))))
                    MS.nop)) none [] ((evs rows).map .str) [some (false, encR rows), some (false, .lst ((evs rows).map .str)), some (true, encC c), some (true, encO order), some (true, .dct (encN (numK (KM.cf c) order))), some (true, .lst ((order.map fun r => encRr (lrow rows (KM.cf c) order r)).take k)), some (false, .int (k : Nat)), some (false, .int (r : Nat)), some (true, .dct []), z9, z10]).post κ := by
      intro κ hκ
      refine post_forL (evs rows) U.str rfl J ((hJ _ _).mpr ⟨z9, z10, ⟨hz9, hz10⟩, rfl⟩) ?_ hκ
      intro done x rest e hms hin
      obtain ⟨z9, z10, ⟨hz9, hz10⟩, rfl⟩ := (hJ _ _).mp hin
      have nd := evs_nodup rows
      rw [hms] at nd
      have hx : x ∉ done := fun z => by
        rw [List.nodup_append] at nd
        exact nd.2.2 x z x List.mem_cons_self rfl
      have gl := KM.goal_lt hf rl (e := x)
      generalize hg : KM.goal rows r x = g at gl
      have hg2 : (KM.lk rows[r].2 x).getD r = g := by rw [goal_of rg, hg]
      generalize ho : KM.ords rows (KM.cf c) r done order = o1
      have od1 : KM.Ord rows (KM.cf c) o1 := ho ▸ od.steps hf rl
      have o1l := od1.len
      have has1 : KM.Has rows (KM.cf c) o1 r done := ho ▸ KM.has_ords
      have lkn : KM.lk (KM.stepsOf rows (KM.cf c) o1 r done) x = none := by
        rw [KM.lk_stepsOf, if_neg (fun z => hx z.1)]
      have c1 : atI (c.map fun k => U.int (k : Nat)) (g : Int) = some (.int (KM.cf c g : Nat)) := atI_cf (by omega)
      have c2 : atI (c.map fun k => U.int (k : Nat)) (r : Int) = some (.int (KM.cf c r : Nat)) := atI_cf (by omega)
      have dn : (done.length : Nat) < 64 := by
        have := evs_len h
        rw [hms] at this
        simp at this
        omega
      have sl : (KM.stepsOf rows (KM.cf c) o1 r done).length < 16777216 := by
        have : (KM.stepsOf rows (KM.cf c) o1 r done).length ≤ done.length := by
          unfold KM.stepsOf; rw [List.length_map]; exact List.length_filter_le _ _
        omega
      have dfn : dfind (encD (KM.stepsOf rows (KM.cf c) o1 r done)) (.str x) = none := by rw [dfind_encD, lkn]; rfl
      by_cases q : KM.cf c g = KM.cf c r
      · simp [turn, atI_at rg, hg2, c1, c2, q]
        refine (hJ _ _).mpr ⟨some (false, .str x), some (false, .int (g : Nat)), ⟨trivial, trivial⟩, ?_⟩
        have e1 : KM.ords rows (KM.cf c) r (done ++ [x]) order = o1 := by
          rw [KM.ords_snoc, ho]; unfold KM.ord1; rw [hg, if_neg (fun z => z.1 q)]
        rw [e1, KM.stepsOf_snoc, hg, if_neg (fun z => z q), List.append_nil]
      · have q' : ¬ ((KM.cf c g : Int) = (KM.cf c r : Int)) := by omega
        have kl : (encN (numK (KM.cf c) o1)).length < 16777216 := by rw [encN_len]; simp [numK]; omega
        have ol2 : o1.length < 16777216 := by omega
        by_cases q2 : KM.cf c g ∈ o1.map (KM.cf c)
        · have m1 : U.int (KM.cf c g : Nat) ∈ numK (KM.cf c) o1 := mem_numK.mpr q2
          simp only [turn]
          simp [atI_at rg, hg2, c1, c2, q', okD_numK, dfind_encN, m1, idx_numK, dset_new dfn, sl, kl, ol2]
          refine (hJ _ _).mpr ⟨some (false, .str x), some (false, .int (g : Nat)), ⟨trivial, trivial⟩, ?_⟩
          have e1 : KM.ords rows (KM.cf c) r (done ++ [x]) order = o1 := by
            rw [KM.ords_snoc, ho]; unfold KM.ord1; rw [hg, if_neg (fun z => z.2 q2)]
          rw [e1, KM.stepsOf_snoc, hg, if_pos q, encD_snoc]
        · have m1 : ¬ U.int (KM.cf c g : Nat) ∈ numK (KM.cf c) o1 := fun z => q2 (mem_numK.mp z)
          have d2 : dset (encN (numK (KM.cf c) o1)) (.int (KM.cf c g : Nat)) (.int (o1.length : Nat)) = encN (numK (KM.cf c) (o1 ++ [g])) := by
            rw [dset_new (by rw [dfind_encN, if_neg m1]), numK_snoc, encN_snoc]
            simp [numK]
          have e3 : KM.ixc (KM.cf c) (o1 ++ [g]) g = o1.length := by
            unfold KM.ixc
            rw [List.map_append, List.idxOf_append, if_neg q2]
            simp
          have m2 : U.int (KM.cf c g : Nat) ∈ numK (KM.cf c) (o1 ++ [g]) := mem_numK.mpr (by simp)
          simp only [turn]
          simp [atI_at rg, hg2, c1, c2, q', okD_numK, dfind_encN, m1, m2, e3, idx_numK, dset_new dfn, sl, d2, kl, ol2]
          refine (hJ _ _).mpr ⟨some (false, .str x), some (false, .int (g : Nat)), ⟨trivial, trivial⟩, ?_⟩
          have e1 : KM.ords rows (KM.cf c) r (done ++ [x]) order = o1 ++ [g] := by
            rw [KM.ords_snoc, ho]; unfold KM.ord1; rw [hg, if_pos ⟨q, q2⟩]
          have e2 : KM.stepsOf rows (KM.cf c) (o1 ++ [g]) r done = KM.stepsOf rows (KM.cf c) o1 r done := KM.stepsOf_ext has1
          rw [e1, KM.stepsOf_snoc, hg, if_pos q, e2, e3, encD_snoc]
          simp only [encO, List.map_append, List.map_cons, List.map_nil]
    have bf2 : KM.Bfs rows (KM.cf c) (evs rows) (k + 1) (KM.ords rows (KM.cf c) r (evs rows) order) := .succ r bf hr
    obtain ⟨tt, ht⟩ := KM.ords_ext (rows := rows) (c := KM.cf c) (r := r) (order := order) (ev := evs rows)
    generalize ho : KM.ords rows (KM.cf c) r (evs rows) order = o2 at bf2 ht
    have fnd : (List.take k (order.map fun r => encRr (lrow rows (KM.cf c) order r))) ++ [.tup [.tup (rows[r].1.map U.str), .dct (encD (KM.stepsOf rows (KM.cf c) o2 r (evs rows)))]] = (o2.map fun r => encRr (lrow rows (KM.cf c) o2 r)).take (k + 1) := by
      have hr2 : o2[k]? = some r := by rw [ht, List.getElem?_append, if_pos hk]; exact hr
      have hl2 := (List.getElem?_eq_some_iff.mp hr2).1
      rw [List.take_succ, List.getElem?_map, hr2]
      simp only [Option.map_some, Option.toList_some]
      congr 1
      · rw [ht, List.map_append, List.take_append_of_le_length (by simp; omega), ← List.map_take, ← List.map_take]
        apply List.map_congr_left
        intro x hx
        obtain ⟨j, hj⟩ := List.mem_iff_getElem?.mp hx
        rw [List.getElem?_take] at hj
        split at hj
        · rename_i hjk
          have hs := bf.has j x hjk hj
          have := KM.stepsOf_ext (t := tt) hs
          unfold lrow
          rw [this]
        · cases hj
      · unfold lrow
        rw [rw0_eq rg]
    have ok2 : order.length < 16777216 := by omega
    have len2 : k < 16777216 := by omega
    cases b1
    all_goals
      simp [atI_at rg]
      refine fin _ ?_
      intro e he
      obtain ⟨z9, z10, ⟨hz9, hz10⟩, rfl⟩ := (hJ _ _).mp he
      rw [ho]
      have mn : min k order.length < 16777216 := by omega
      simp [atI_at rg, mn, fnd]
      refine ⟨n - 1, by omega, (hI _ _).mpr ⟨false, k + 1, o2, some (false, .int (r : Nat)), some (false, .dct (encD (KM.stepsOf rows (KM.cf c) o2 r (evs rows)))), z9, z10, by omega, bf2, ⟨trivial, trivial, hz9, hz10⟩, ?_⟩⟩
      rw [← List.map_take]
      rfl
  · rename_i hk
    have e1 : k = order.length := by omega
    subst e1
    simp [outS_eq, prL]
    refine ⟨c, cln, st, order, bf, ?_⟩
    rw [List.take_of_length_le (by simp)]
    simp [lrows]
end VS
set_option linter.all false
set_option maxRecDepth 100000
namespace VS
open PySem L2
def norm (rows : RowsS) : RowsS := rows.map fun r => (sortS (dedS r.1), r.2)
theorem norm_len {rows : RowsS} : (norm rows).length = rows.length := by simp [norm]
theorem norm_ok {rows : RowsS} (h : RowsOk rows) : RowsOk (norm rows) := by
  refine ⟨by rw [norm_len]; exact h.n0, by rw [norm_len]; exact h.n1, ?_, ?_, ?_, ?_, ?_, ?_⟩
  · intro r hr x hx
    obtain ⟨p, hp, rfl⟩ := List.mem_map.mp hr
    rw [mem_sortS, mem_dedS] at hx
    exact h.bl p hp x hx
  · intro r hr
    obtain ⟨p, hp, rfl⟩ := List.mem_map.mp hr
    rw [sortS_len]
    have := dedS_len p.1
    have := h.bn p hp
    omega
  · intro r hr q hq
    obtain ⟨p, hp, rfl⟩ := List.mem_map.mp hr
    rw [norm_len]
    exact h.st p hp q hq
  · intro r hr
    obtain ⟨p, hp, rfl⟩ := List.mem_map.mp hr
    exact h.sn p hp
  · have : ((norm rows).map fun r => r.2.length) = rows.map fun r => r.2.length := by
      unfold norm; rw [List.map_map]; rfl
    rw [this]
    exact h.sm
  · have : ((norm rows).flatMap fun r => r.2.map (·.1)) = rows.flatMap fun r => r.2.map (·.1) := by
      unfold norm; rw [List.flatMap_map]
    rw [this]
    exact h.sd
def encK (L : RowsS) : U := .ins "Keeper" [("rows", encR L)]
structure KeepOf (rows : RowsS) (L : RowsS) : Prop where
  ok : RowsOk rows
  ex : ∃ (c : List Nat) (order : List Nat), c.length = rows.length ∧ KM.Stable (norm rows) (evs (norm rows)) (KM.cf c) ∧ KM.Bfs (norm rows) (KM.cf c) (evs (norm rows)) order.length order ∧ L = lrows (norm rows) (KM.cf c) order
theorem isK1_encDQ {s : List (Str × Nat)} : ((encD s).all fun p => isK1 p.1) = true := by simp [encD, isK1]
theorem sDict2_d {s : List (Str × Nat)} : sDict2 [.dct (encD s)] = some (true, .dct (encD s)) := orN_of (by unfold sDictC; dsimp only; rw [if_pos isK1_encDQ])
theorem ev_keeper (o : Bool) (rows : RowsS) (h : RowsOk rows) : ∃ L, KeepOf rows L ∧ φ_Keeper___init__ [(true, .ins "Keeper" []), (o, encH rows)] = .ok (false, .non) [some (true, encK L), some (false, encH rows)] := by
  have ho := norm_ok h
  obtain ⟨c, order, h1, h2, h3, h4⟩ := ev_least_rooms true (norm rows) ho
  refine ⟨_, ⟨h, c, order, by rw [h1, norm_len], h2, h3, rfl⟩, ?_⟩
  refine fnS_post (fun r => r = .ok (false, .non) [some (true, encK _), some (false, encH rows)]) rfl (by decide) ?_
  show (b_Keeper___init__ [some (true, .ins "Keeper" []), some (o, encH rows), none, none, none]).post _
  have cr := ev_check_rooms o rows h
  have hs : rows.length ≤ sizeLine := by rw [sl_eq]; have := h.n1; omega
  have lc := lc_eq (t := tgT 2 (tgsC (tgN 3) (tgsC (tgN 4) tgs0))) (te := mF (mTup (mVc (mF (mCB sTuple (mRc (mR (mF (mSS2 (mSl 3)))) mRn))) (mVc (mF (mCB sDict2 (mRc (mSl 4) mRn))) mVn)))) (vs := [3, 4]) (s := ⟨rows.map encHr, [], none⟩) (e := [some (true, .ins "Keeper" []), some (false, encH rows), none, none, none]) rows encHr (fun r => encRr (sortS (dedS r.1), r.2)) rfl rfl hs (by rw [clr_nt]; simp) (by
    intro r hr
    have := h.bn r hr
    have ss := sSS_str (xs := r.1) (by omega) (by
      have := KM.nodup_len (nodup_dedS r.1) (ys := r.1) fun x hx => mem_dedS.mp hx
      omega)
    simp [-List.map_map, item, ss, sDict2_d])
  have e1 : (rows.map fun r => encRr (sortS (dedS r.1), r.2)) = (norm rows).map encRr := by unfold norm; rw [List.map_map]; rfl
  rw [e1] at lc
  unfold b_Keeper___init__
  cases o
  all_goals
    simp [cr, lc, h4]
    simp [outS_eq, prL, List.range_succ, encK]
end VS
set_option linter.all false
set_option maxRecDepth 100000
namespace VS
open PySem L2
theorem stp_lrows {rows : RowsS} {c : Nat → Nat} {order : List Nat} (k : Nat) : KM.stp (lrows rows c order) k = KM.stp (KM.least rows c (evs rows) order) k := by
  unfold KM.stp lrows KM.least lrow
  rw [List.getElem?_map, List.getElem?_map]
  cases order[k]? <;> rfl
theorem goal_lrows {rows : RowsS} {c : Nat → Nat} {order : List Nat} (k : Nat) (e : Str) : KM.goal (lrows rows c order) k e = KM.goal (KM.least rows c (evs rows) order) k e := by
  unfold KM.goal; rw [stp_lrows]
theorem walk_lrows {rows : RowsS} {c : Nat → Nat} {order : List Nat} (view : List Str) : ∀ k, KM.walk (lrows rows c order) k view = KM.walk (KM.least rows c (evs rows) order) k view := by
  induction view with
  | nil => intro k; rfl
  | cons e v ih =>
    intro k
    show KM.walk (lrows rows c order) (KM.goal (lrows rows c order) k e) v = KM.walk (KM.least rows c (evs rows) order) (KM.goal _ k e) v
    rw [ih, goal_lrows]
theorem evs_all {rows : RowsS} {r : Nat} {e : Str} (h : e ∉ evs rows) : KM.lk (KM.stp rows r) e = none := by
  cases z : KM.lk (KM.stp rows r) e with
  | none => rfl
  | some k =>
    exfalso
    apply h
    have m := KM.lk_mem z
    unfold KM.stp at m
    cases y : rows[r]? with
    | none => rw [y] at m; cases m
    | some p =>
      rw [y] at m
      unfold evs
      rw [mem_sortS, mem_dedS, List.mem_flatMap]
      exact ⟨p, List.mem_of_getElem? y, List.mem_map.mpr ⟨_, m, rfl⟩⟩
theorem fit_lrows {rows : RowsS} {c : Nat → Nat} {order : List Nat} (b : KM.Bfs rows c (evs rows) order.length order) : KM.Fit (lrows rows c order) := by
  intro r p hp
  have hl : (lrows rows c order).length = order.length := by simp [lrows]
  rw [hl]
  unfold KM.stp lrows at hp
  rw [List.getElem?_map] at hp
  cases z : order[r]? with
  | none => rw [z] at hp; cases hp
  | some s =>
    rw [z] at hp
    have hp : p ∈ KM.stepsOf rows c order s (evs rows) := hp
    unfold KM.stepsOf at hp
    obtain ⟨e, he, rfl⟩ := List.mem_map.mp hp
    obtain ⟨h1, h2⟩ := List.mem_filter.mp he
    have := b.has r s (List.getElem?_eq_some_iff.mp z).1 z e h1 (by simpa using h2)
    have := List.idxOf_lt_length_of_mem this
    rw [List.length_map] at this
    exact this
theorem KeepOf.good {rows L : RowsS} (h : KeepOf rows L) : KM.Fit L ∧ 0 < L.length ∧ ∀ view, rw0 L (KM.walk L 0 view) = rw0 (norm rows) (KM.walk (norm rows) 0 view) := by
  obtain ⟨c, order, h1, h2, h3, rfl⟩ := h.ex
  have ho := norm_ok h.ok
  have hf := fit_of ho
  have od := (h3.ord hf ho.n0).1
  refine ⟨fit_lrows h3, ?_, fun view => ?_⟩
  · have := (List.getElem?_eq_some_iff.mp od.hd).1
    simpa [lrows] using this
  · obtain ⟨r, q1, q2, q3⟩ := KM.walk_least hf ho.n0 h2 (fun r e => evs_all) h3 view
    rw [walk_lrows]
    have wl := KM.walk_lt hf (view := view) ho.n0
    have e1 := h2.b _ _ q3 wl q2
    have e2 : rw0 (lrows (norm rows) (KM.cf c) order) (KM.walk (KM.least (norm rows) (KM.cf c) (evs (norm rows)) order) 0 view) = rw0 (norm rows) r := by
      rw [rw0_eq (p := lrow (norm rows) (KM.cf c) order r) (by unfold lrows; rw [List.getElem?_map, q1]; rfl)]
      rfl
    rw [e2]
    unfold KM.blk at e1
    rw [List.getElem?_eq_getElem q3, List.getElem?_eq_getElem wl] at e1
    rw [rw0_eq (List.getElem?_eq_getElem q3), rw0_eq (List.getElem?_eq_getElem wl)]
    exact Option.some.inj e1
theorem goal_norm {rows : RowsS} (k : Nat) (e : Str) : KM.goal (norm rows) k e = KM.goal rows k e := by
  unfold KM.goal KM.stp norm
  rw [List.getElem?_map]
  cases rows[k]? <;> rfl
theorem walk_norm {rows : RowsS} (view : List Str) : ∀ k, KM.walk (norm rows) k view = KM.walk rows k view := by
  induction view with
  | nil => intro k; rfl
  | cons e v ih =>
    intro k
    show KM.walk (norm rows) (KM.goal (norm rows) k e) v = KM.walk rows (KM.goal rows k e) v
    rw [ih, goal_norm]
theorem rw0_norm {rows : RowsS} {k : Nat} (h : k < rows.length) : rw0 (norm rows) k = sortS (dedS (rw0 rows k)) := by
  rw [rw0_eq (List.getElem?_eq_getElem h), rw0_eq (p := (sortS (dedS rows[k].1), rows[k].2)) (by unfold norm; rw [List.getElem?_map, List.getElem?_eq_getElem h]; rfl)]
end VS
set_option linter.all false
set_option maxRecDepth 100000
namespace VS
open PySem L2
theorem ev_law_cell (ns : List Int) (k : Nat) : ∃ n outs, φ_law_cell [(false, .scr ns), (false, .int k)] = .ok (false, .int n) outs := by
  by_cases h : k < ns.length
  · have hx : ns[k]? = some ns[k] := List.getElem?_eq_getElem h
    refine ⟨ns[k], ?_⟩
    refine fnS_post (fun r => ∃ outs, r = .ok (false, .int ns[k]) outs) rfl (by decide) ?_
    unfold b_law_cell
    simp [atI_nat, hx, h]
  · refine ⟨0, ?_⟩
    refine fnS_post (fun r => ∃ outs, r = .ok (false, .int 0) outs) rfl (by decide) ?_
    unfold b_law_cell
    simp [h]
structure Digs (ds : List Int) (n : Nat) : Prop where
  ln : ds.length = n
  lo : ∀ d ∈ ds, 0 ≤ d ∧ d < 60
theorem big_pow : sPow (.int 10) (.int 64) = some (false, .int (10 ^ 64)) := sPow_ii (i := 10) (j := 64) (by decide) (by decide) (by decide)
theorem pow18 : sPow (.int 10) (.int 18) = some (false, .int (10 ^ 18)) := sPow_ii (i := 10) (j := 18) (by decide) (by decide) (by decide)
theorem nb_mul {i j : Int} {a b : Nat} (h : i.natAbs < 2 ^ a) (k : j.natAbs < 2 ^ b) : (i * j).natAbs < 2 ^ (a + b) := by
  rw [Int.natAbs_mul, Nat.pow_add]
  exact Nat.mul_lt_mul'' h k
theorem sMul_w {i j : Int} {a b : Nat} (h : i.natAbs < 2 ^ a) (k : j.natAbs < 2 ^ b) (ha : a ≤ 100000) (hb : b ≤ 100000) : sMul (.int i) (.int j) = some (false, .int (i * j)) := by
  refine sMul_ii ?_
  have h2 : i.natAbs < wideB := Nat.lt_of_lt_of_le h (Nat.pow_le_pow_right (by decide) ha)
  have k2 : j.natAbs < wideB := Nat.lt_of_lt_of_le k (Nat.pow_le_pow_right (by decide) hb)
  unfold mulOk
  simp [cdec_iff, h2, k2]
theorem Digs.snoc {ds : List Int} {n : Nat} (h : Digs ds n) {d : Int} (h0 : 0 ≤ d) (h1 : d < 60) : Digs (ds ++ [d]) (n + 1) := by
  refine ⟨by rw [List.length_append, h.ln]; rfl, fun x hx => ?_⟩
  rcases List.mem_append.mp hx with hx | hx
  · exact h.lo x hx
  · rw [List.mem_singleton.mp hx]; exact ⟨h0, h1⟩
theorem ev_law_digits (n : Int) (many : Nat) (hm : many < 1000) : ∃ ds outs, Digs ds many ∧ φ_law_digits [(false, .int n), (false, .int many)] = .ok (true, .lst (ds.map .int)) outs := by
  refine fnS_post (fun r => ∃ ds outs, Digs ds many ∧ r = .ok (true, .lst (ds.map .int)) outs) rfl (by decide) ?_
  have l6 : lim62 (many : Int) = true := lim62_ok (by omega) (by omega)
  obtain ⟨M, hM⟩ : ∃ M : Int, M = 10 ^ 64 := ⟨_, rfl⟩
  have p1 : sPow (.int 10) (.int 64) = some (false, .int M) := by rw [hM]; exact big_pow
  obtain ⟨T, hT⟩ : ∃ T : Int, T = 10 ^ 18 := ⟨_, rfl⟩
  have p2 : sPow (.int 10) (.int 18) = some (false, .int T) := by rw [hT]; exact pow18
  have b1 : M.natAbs < 2 ^ 213 := by rw [hM]; decide
  have pos : 0 < M := by rw [hM]; decide
  have m1 := sMul_w b1 b1 (by decide) (by decide)
  have m2 := sMul_w (nb_mul b1 b1) b1 (by decide) (by decide)
  have m3 := sMul_w (nb_mul (nb_mul b1 b1) b1) b1 (by decide) (by decide)
  have m4 := sMul_w (nb_mul (nb_mul (nb_mul b1 b1) b1) b1) b1 (by decide) (by decide)
  have m5 := sMul_w (nb_mul (nb_mul (nb_mul (nb_mul b1 b1) b1) b1) b1) b1 (by decide) (by decide)
  obtain ⟨N, hN⟩ : ∃ N : Int, N = M * M * M * M * M * M := ⟨_, rfl⟩
  have pN : 0 < N := by
    rw [hN]
    exact Int.mul_pos (Int.mul_pos (Int.mul_pos (Int.mul_pos (Int.mul_pos pos pos) pos) pos) pos) pos
  rw [← hN] at m5
  have md : ∀ x : Int, sMod (.int x) (.int N) = some (false, .int (x % N)) := fun x => sMod_ii pN
  have m60 : ∀ x : Int, sMod (.int x) (.int 60) = some (false, .int (x % 60)) := fun x => sMod_ii (by decide)
  have d60 : ∀ x : Int, sDiv (.int x) (.int 60) = some (false, .int (x / 60)) := fun x => sDiv_ii (by decide) (by decide)
  have d16 : ∀ x : Int, sDiv (.int x) (.int 16) = some (false, .int (x / 16)) := fun x => sDiv_ii (by decide) (by decide)
  have ma : ∀ x : Int, sMod (.int x) (.int 2147483647) = some (false, .int (x % 2147483647)) := fun x => sMod_ii (by decide)
  have mb : ∀ x : Int, sMod (.int x) (.int 2147483629) = some (false, .int (x % 2147483629)) := fun x => sMod_ii (by decide)
  have k1 : ∀ x : Int, sMul (.int 40503) (.int x) = some (false, .int (40503 * x)) := fun x => sMul_l (by decide) (by decide)
  have k2 : ∀ x : Int, sMul (.int x) (.int 48271) = some (false, .int (x * 48271)) := fun x => sMul_r (by decide) (by decide)
  have k3 : ∀ x : Int, sMul (.int 7) (.int x) = some (false, .int (7 * x)) := fun x => sMul_l (by decide) (by decide)
  obtain ⟨J, hJ⟩ : ∃ J : Bool → List Nat → En → Prop, ∀ g done e, J g done e ↔ ∃ (rest stir : Int) (ds : List Int) (z : Sl), Digs ds done.length ∧ (0 ≤ stir ∧ stir < 2147483647) ∧ e = [some (false, .int n), some (false, .int many), some (false, .int M), some (false, .int rest), some (false, .bl g), some (false, .int stir), some (true, .lst (ds.map .int)), z] := ⟨_, fun _ _ _ => Iff.rfl⟩
  have mkJ : ∀ {g : Bool} {done : List Nat} {rest stir : Int} {ds : List Int} {z : Sl}, Digs ds done.length → 0 ≤ stir → stir < 2147483647 → J g done [some (false, .int n), some (false, .int many), some (false, .int M), some (false, .int rest), some (false, .bl g), some (false, .int stir), some (true, .lst (ds.map .int)), z] := fun h1 h2 h3 => (hJ _ _ _).mpr ⟨_, _, _, _, h1, ⟨h2, h3⟩, rfl⟩
  have lp : ∀ (g : Bool) (κ : Ks) (e : En), J g [] e → (∀ e, J g (List.range many) e → κ.N e) → (forL (tgN 7)
 (mIf (mTru (mSl 4))
 ((mDrp (mF (mMu isL sApp 6 (mVc (mF (mBin sMod (mSl 3) (mR (mC (.int 60))))) mVn)))).seq
 (mAsg 3 (mBin sDiv (mSl 3) (mR (mC (.int 60))))))
 ((mAsg 5 (mBin sMod (mR (mF (mBin sMul (mR (mF (mBin sAdd (mR (mF (mBin sAdd (mR (mF (mBin sAdd (mSl 5) (mSl 3)))) (mR (mF (mBin sMul (mR (mC (.int 40503))) (mSl 7))))))) (mR (mC (.int 271)))))) (mR (mC (.int 48271)))))) (mR (mC (.int 2147483647))))).seq
 ((mAsg 5 (mBin sMod (mR (mF (mBin sAdd (mR (mF (mBin sMul (mSl 5) (mSl 5)))) (mR (mF (mBin sMul (mR (mC (.int 7))) (mSl 7))))))) (mR (mC (.int 2147483629))))).seq
 (mDrp (mF (mMu isL sApp 6 (mVc (mF (mBin sMod (mR (mF (mBin sDiv (mSl 5) (mR (mC (.int 16)))))) (mR (mC (.int 60))))) mVn))))))) none [] ((List.range many).map fun i : Nat => .int (i : Nat)) e).post κ := by
    intro g κ e he hκ
    refine post_forL (List.range many) (fun i : Nat => .int (i : Nat)) rfl (J g) he ?_ hκ
    intro done i rest e hms hin
    obtain ⟨rs, st, ds, z, dd, ⟨s0, s1⟩, rfl⟩ := (hJ _ _ _).mp hin
    have hl : done.length < many := by
      have := congrArg List.length hms
      simp at this
      omega
    have dl : ds.length < 16777216 := by rw [dd.ln]; omega
    cases g
    · have ms : ∀ x : Int, sMul (.int ((x * 48271) % 2147483647)) (.int ((x * 48271) % 2147483647)) = some (false, .int ((x * 48271) % 2147483647 * ((x * 48271) % 2147483647))) := fun x => sMul_l (by omega) (by omega)
      simp [turn, truU, m60, d60, d16, ma, mb, k1, k2, k3, ms, dl]
      rw [map_snoc U.int]
      refine mkJ ?_ (by omega) (by omega)
      rw [List.length_append]
      exact dd.snoc (by omega) (by omega)
    · simp [turn, truU, m60, d60, dl]
      rw [map_snoc U.int]
      refine mkJ ?_ (by omega) (by omega)
      rw [List.length_append]
      exact dd.snoc (by omega) (by omega)
  have s0 : 0 ≤ n % N % 2147483647 := by omega
  have s1 : n % N % 2147483647 < 2147483647 := by omega
  by_cases hg : T ≤ n % N
  · unfold b_law_digits
    simp [p1, p2, m1, m2, m3, m4, m5, md, ma, l6, truU, hg]
    refine lp true _ _ (mkJ (ds := []) ⟨rfl, fun _ h => nomatch h⟩ s0 s1) fun e he => ?_
    obtain ⟨rs, st, ds, z, dd, _, rfl⟩ := (hJ _ _ _).mp he
    rw [List.length_range] at dd
    simp
    exact ⟨ds, dd, rfl⟩
  · unfold b_law_digits
    simp [p1, p2, m1, m2, m3, m4, m5, md, ma, l6, truU, hg]
    refine lp false _ _ (mkJ (ds := []) ⟨rfl, fun _ h => nomatch h⟩ s0 s1) fun e he => ?_
    obtain ⟨rs, st, ds, z, dd, _, rfl⟩ := (hJ _ _ _).mp he
    rw [List.length_range] at dd
    simp
    exact ⟨ds, dd, rfl⟩
end VS
set_option linter.all false
set_option maxRecDepth 100000
namespace VS
open PySem L2
def S (l : List Nat) : Str := ⟨l.toArray⟩
theorem S_len (l : List Nat) : (S l).length = l.length := by simp [S, Str.length]
theorem S_cps (l : List Nat) : (S l).cps.toList = l := by simp [S]
theorem S_app (a b : List Nat) : S a ++ S b = S (a ++ b) := by
  show Str.append _ _ = _
  simp [S, Str.append]
def LET : List Nat := ("abcdefghijklmnopqrstuvwxyz" : Str).cps.toList
theorem LET_len : LET.length = 26 := by decide +kernel
theorem LETS_len : ("abcdefghijklmnopqrstuvwxyz" : Str).length = 26 := by decide +kernel
def let1 (k : Int) : Nat := LET.getD k.toNat 97
theorem let1_mem (k : Int) : let1 k ∈ LET := by
  unfold let1
  rw [List.getD_eq_getElem?_getD]
  cases h : LET[k.toNat]? with
  | none => show 97 ∈ LET; decide +kernel
  | some c => exact List.mem_of_getElem? h
theorem sIx_let {k : Int} (h0 : 0 ≤ k) (h1 : k < 26) : sIx (.str (Str.ofString "abcdefghijklmnopqrstuvwxyz")) (.int k) = some (false, .str (S [let1 k])) := by
  rw [sIx_s, if_pos (by rw [LETS_len]; decide)]
  have : atI LET k = some (let1 k) := by
    rw [atI_int h0 (by rw [LET_len]; exact h1)]
    unfold let1
    rw [List.getD_eq_getElem?_getD, List.getElem?_eq_getElem (by rw [LET_len]; omega)]
    rfl
  have e : atI (Str.ofString "abcdefghijklmnopqrstuvwxyz").cps.toList k = some (let1 k) := this
  rw [e]
  rfl
def Nml (l : List Nat) : Prop := 0 < l.length ∧ l.length ≤ 8 ∧ ∀ c ∈ l, c ∈ LET
theorem isNm_S {l : List Nat} (h : Nml l) : isNm (S l) = true := by
  unfold isNm
  rw [S_len, S_cps, Bool.and_eq_true, decide_eq_true_eq, List.all_eq_true]
  exact ⟨⟨h.1, h.2.1⟩, fun c hc => decide_eq_true (h.2.2 c hc)⟩
theorem sSlc_s {x : Str} {lo hi : Option Int} (h : x.length ≤ 16777216) : orSl sSlL sSlS (.str x) lo hi = some (false, .str (cutS x lo hi)) := by
  have h2 : x.length ≤ sizeLine := by rw [sl_eq]; exact h
  simp only [orSl, sSlL, sSlS, if_pos h2]
@[simp] theorem sSlc_l {us : List U} {lo hi : Option Int} : orSl sSlL sSlS (.lst us) lo hi = some (true, .lst (cutU us lo hi)) := rfl
@[simp] theorem sSlc_c {us : List Int} {lo hi : Option Int} : orSl sSlL sSlS (.scr us) lo hi = some (true, .lst ((cutI us lo hi).map .int)) := rfl
def cutL (l : List Nat) (lo hi : Option Int) : List Nat := (l.drop (HT.sIx l.length 0 lo)).take (HT.sIx l.length l.length hi - HT.sIx l.length 0 lo)
theorem cutS_S (l : List Nat) (lo hi : Option Int) : cutS (S l) lo hi = S (cutL l lo hi) := by
  unfold cutS cutL
  rw [S_len, S_cps]
  rfl
theorem cutL_mem {l : List Nat} {lo hi : Option Int} {c : Nat} (h : c ∈ cutL l lo hi) : c ∈ l := List.mem_of_mem_drop (List.mem_of_mem_take h)
theorem cutL_pre {l : List Nat} {k : Int} (h : 0 ≤ k) : cutL l none (some k) = l.take k.toNat := by
  unfold cutL
  rw [HT.sIx_none]
  have e : HT.sIx l.length l.length (some k) = min k.toNat l.length := by
    have := HT.sIx_nat l.length l.length k.toNat
    rwa [Int.toNat_of_nonneg h] at this
  rw [e]
  simp only [List.drop_zero, Nat.sub_zero]
  rcases Nat.le_total k.toNat l.length with h | h
  · rw [Nat.min_eq_left h]
  · rw [Nat.min_eq_right h, List.take_of_length_le (Nat.le_refl _), List.take_of_length_le h]
theorem cutL_len {l : List Nat} {a b : Int} (ha : 0 ≤ a) (hb : 0 ≤ b) : (cutL l (some a) (some b)).length ≤ b.toNat - a.toNat := by
  unfold cutL
  have e : ∀ (d : Nat) (k : Int), 0 ≤ k → HT.sIx l.length d (some k) = min k.toNat l.length := fun d k h => by
    have := HT.sIx_nat l.length d k.toNat
    rwa [Int.toNat_of_nonneg h] at this
  rw [e _ _ ha, e _ _ hb, List.length_take, List.length_drop]
  omega
theorem sMul_S {l : List Nat} {k : Int} (h0 : 0 ≤ k) (h1 : k < 1000) (hl : l.length ≤ 1000) : sMulS (.str (S l)) (.int k) = some (false, .str (S (List.replicate k.toNat l).flatten)) := by
  unfold sMulS
  dsimp only
  rw [if_pos (by
    rw [Bool.and_eq_true, decide_eq_true_eq, S_len]
    refine ⟨by unfold lim63; rw [Bool.and_eq_true, cdec_iff, cdec_iff]; exact ⟨by omega, by omega⟩, ?_⟩
    calc l.length * k.toNat ≤ 1000 * k.toNat := Nat.mul_le_mul_right _ hl
      _ ≤ 1000 * 1000 := Nat.mul_le_mul_left _ (by omega))]
  unfold repS
  rw [S_cps]
  rfl
theorem joinS (ls : List (List Nat)) : Str.join (Str.ofString "") (ls.map S) = S ls.flatten := by
  have h0 : Str.ofString "" = S [] := by decide +kernel
  rw [h0]
  induction ls with
  | nil => rfl
  | cons l r ih =>
    cases r with
    | nil => simp [Str.join]
    | cons m r =>
      show S l ++ S [] ++ Str.join (S []) (S m :: r.map S) = _
      have ih' : Str.join (S []) (S m :: r.map S) = S (m :: r).flatten := ih
      rw [ih', S_app, S_app, List.append_nil]
      simp
theorem sJoin_S {ls : List (List Nat)} (h : (ls.map List.length).sum ≤ 1000) : sJoin (.str (Str.ofString "")) [.lst (ls.map fun l => U.str (S l))] = some (false, .str (S ls.flatten)) := by
  have e : (ls.map fun l => U.str (S l)) = (ls.map S).map U.str := by rw [List.map_map]; rfl
  have z : (Str.ofString "").length = 0 := by decide +kernel
  unfold sJoin
  dsimp only
  rw [e, asStrs_map]
  dsimp only
  rw [if_pos (by
    rw [List.map_map, z]
    have : (ls.map (Str.length ∘ S)) = ls.map List.length := List.map_congr_left fun l _ => S_len l
    rw [this]
    omega), TL.join_eq, joinS]
theorem atI_d {ds : List Int} {i : Int} (h0 : 0 ≤ i) (h1 : i < ds.length) : atI (ds.map U.int) i = some (.int (dg ds i)) := by
  rw [atI_map, atI_dg h0 h1]; rfl
theorem ev_law_eight (o : Bool) (ds : List Int) (hd : Digs ds 19) : ∃ (ls : List (List Nat)) (outs : En), ls.length = 8 ∧ (∀ l ∈ ls, Nml l) ∧ φ_law_eight [(o, .lst (ds.map .int))] = .ok (true, .lst (ls.map fun l => .str (S l))) outs := by
  refine fnS_post (fun r => ∃ (ls : List (List Nat)) (outs : En), ls.length = 8 ∧ (∀ l ∈ ls, Nml l) ∧ r = .ok (true, .lst (ls.map fun l => .str (S l))) outs) rfl (by decide) ?_
  show (b_law_eight [some (o, .lst (ds.map .int)), none, none, none, none, none, none, none, none, none, none, none]).post _
  have hl := hd.ln
  have at_ : ∀ i : Int, 0 ≤ i → i < 19 → atI (ds.map U.int) i = some (.int (dg ds i)) := fun i h0 h1 => atI_d h0 (by omega)
  have dgb : ∀ i : Int, 0 ≤ i → i < 19 → 0 ≤ dg ds i ∧ dg ds i < 60 := fun i h0 h1 => hd.lo _ (dg_mem h0 (by omega))
  obtain ⟨d8, c8, d8l⟩ : ∃ d8 : List Int, cutU (ds.map U.int) none (some 8) = d8.map U.int ∧ d8.length = 8 := by
    refine ⟨ds.take 8, ?_, by rw [List.length_take]; omega⟩
    unfold cutU
    simp [HT.sIx, hl, List.map_take]
  have a0 := at_ 0 (by decide) (by decide)
  have a8 := at_ 8 (by decide) (by decide)
  have a9 := at_ 9 (by decide) (by decide)
  have a10 := at_ 10 (by decide) (by decide)
  have a11 := at_ 11 (by decide) (by decide)
  have a12 := at_ 12 (by decide) (by decide)
  rw [atI_0] at a0
  have wl := lc_eq (t := tgN 10) (te := mF (mBin sIx (mSl 1) (mR (mF (mBin sMod (mSl 10) (mR (mC (.int 26)))))))) (vs := [10]) (s := ⟨d8.map U.int, [], none⟩) (e := [some (o, .lst (ds.map .int)), some (false, .str (Str.ofString "abcdefghijklmnopqrstuvwxyz")), none, none, none, none, none, none, none, none, none, none]) d8 U.int (fun d => .str (S [let1 (d % 26)])) rfl rfl (by rw [sl_eq]; omega) (by rw [clr_nt]; simp) (by
    intro d _
    have := sIx_let (k := d % 26) (by omega) (by omega)
    simp [item, sMod_ii, this])
  have jn := sJoin_S (ls := d8.map fun d => [let1 (d % 26)]) (by
    rw [List.map_map]
    have : (d8.map (List.length ∘ fun d => [let1 (d % 26)])) = d8.map fun _ => 1 := rfl
    rw [this, List.map_const', List.sum_replicate_nat]
    omega)
  rw [List.map_map] at jn
  have wd : ∃ w : List Nat, w.length = 8 ∧ (∀ c ∈ w, c ∈ LET) ∧ (d8.map fun d => [let1 (d % 26)]).flatten = w := by
    refine ⟨_, ?_, ?_, rfl⟩
    · rw [← List.flatMap_def, List.length_flatMap]
      have : (d8.map fun d => [let1 (d % 26)].length) = d8.map fun _ => 1 := rfl
      rw [this, List.map_const', List.sum_replicate_nat]
      omega
    · intro c hc
      rw [List.mem_flatten] at hc
      obtain ⟨l, h1, h2⟩ := hc
      obtain ⟨d, _, rfl⟩ := List.mem_map.mp h1
      rw [List.mem_singleton.mp h2]
      exact let1_mem _
  obtain ⟨w, w8, wm, we⟩ := wd
  rw [we] at jn
  have jn2 : sJoin (.str (Str.ofString "")) [.lst (d8.map fun d => U.str (S [let1 (d % 26)]))] = some (false, .str (S w)) := jn
  have wsz : (S w).length ≤ 16777216 := by rw [S_len, w8]; decide
  have sl := fun lo hi => sSlc_s (lo := lo) (hi := hi) wsz
  have l8 : lim62 8 = true := lim62_ok (by decide) (by decide)
  unfold b_law_eight
  simp [c8, wl, jn2, a0, a8, a9, a10, a11, a12, sMod_ii, sMul_l, l8]
  have rng : ∀ i : Nat, i ∈ List.range 8 → i < 8 := fun i h => List.mem_range.mp h
  have fin : ∀ (f : Nat → List Nat), (∀ i, i < 8 → Nml (f i)) → ((List.range 8).map f).length = 8 ∧ ∀ l ∈ (List.range 8).map f, Nml l := fun f h => ⟨by simp, fun l hl => by
    obtain ⟨i, hi, rfl⟩ := List.mem_map.mp hl
    exact h i (rng i hi)⟩
  split
  · rw [lc_eq (xs := List.range 8) (g := fun i : Nat => U.int (i : Nat)) (f := fun i : Nat => U.str (S (w.take (1 + (dg ds 9 + (i : Int) * (1 + 2 * (dg ds 10 % 4))) % 8).toNat)))]
    · simp
      refine ⟨(List.range 8).map fun i : Nat => w.take (1 + (dg ds 9 + (i : Int) * (1 + 2 * (dg ds 10 % 4))) % 8).toNat, (fin _ fun i hi => ?_).1, (fin _ fun i hi => ?_).2, ?_⟩
      · exact ⟨by rw [List.length_take]; omega, by rw [List.length_take]; omega, fun c hc => wm c (List.mem_of_mem_take hc)⟩
      · exact ⟨by rw [List.length_take]; omega, by rw [List.length_take]; omega, fun c hc => wm c (List.mem_of_mem_take hc)⟩
      · rw [List.map_map]; rfl
    · rfl
    · rfl
    · simp
    · rw [clr_nt]; simp
    · intro i hi
      have hi8 := rng i hi
      have mk := sMul_l (i := (i : Int)) (j := 1 + 2 * (dg ds 10 % 4)) (by omega) (by omega)
      have cp := cutL_pre (l := w) (k := 1 + (dg ds 9 + (i : Int) * (1 + 2 * (dg ds 10 % 4))) % 8) (by omega)
      simp [item, a9, mk, sMod_ii, sl, cutS_S, cp]
  · split
    · have mkl := sIx_let (k := (dg ds 0 + 1 + dg ds 9 % 25) % 26) (by omega) (by omega)
      simp [mkl]
      rw [lc_eq (xs := List.range 8) (g := fun i : Nat => U.int (i : Nat)) (f := fun i : Nat => U.int ((dg ds 11 + (i : Int) * (1 + 2 * (dg ds 10 % 4))) % 8))]
      · obtain ⟨ats, hats⟩ : ∃ ats : List Int, ats = (List.range 8).map fun i : Nat => (dg ds 11 + (i : Int) * (1 + 2 * (dg ds 10 % 4))) % 8 := ⟨_, rfl⟩
        have e1 : ((List.range 8).map fun i : Nat => U.int ((dg ds 11 + (i : Int) * (1 + 2 * (dg ds 10 % 4))) % 8)) = ats.map U.int := by rw [hats, List.map_map]; rfl
        have al : ats.length = 8 := by rw [hats]; simp
        have ab : ∀ a ∈ ats, 0 ≤ a ∧ a < 8 := fun a ha => by
          rw [hats] at ha
          obtain ⟨i, _, rfl⟩ := List.mem_map.mp ha
          omega
        rw [e1]
        simp
        rw [lc_eq (xs := ats) (g := U.int) (f := fun a => U.str (S ((List.replicate a.toNat (w.take 1)).flatten ++ [let1 ((dg ds 0 + 1 + dg ds 9 % 25) % 26)] ++ (List.replicate (7 - a).toNat (w.take 1)).flatten)))]
        · simp
          refine ⟨ats.map fun a => (List.replicate a.toNat (w.take 1)).flatten ++ [let1 ((dg ds 0 + 1 + dg ds 9 % 25) % 26)] ++ (List.replicate (7 - a).toNat (w.take 1)).flatten, by rw [List.length_map, al], ?_, ?_⟩
          · intro l hl
            obtain ⟨a, ha, rfl⟩ := List.mem_map.mp hl
            have := ab a ha
            have w1 : (w.take 1).length = 1 := by rw [List.length_take]; omega
            have fl : ∀ n : Nat, (List.replicate n (w.take 1)).flatten.length = n := fun n => by
              rw [List.length_flatten, List.map_replicate, w1, List.sum_replicate_nat]; omega
            refine ⟨by simp only [List.length_append, List.length_singleton]; omega, by simp only [List.length_append, List.length_singleton, fl]; omega, fun c hc => ?_⟩
            have fm : ∀ n : Nat, c ∈ (List.replicate n (w.take 1)).flatten → c ∈ LET := fun n h => by
              obtain ⟨l, h1, h2⟩ := List.mem_flatten.mp h
              rw [(List.mem_replicate.mp h1).2] at h2
              exact wm c (List.mem_of_mem_take h2)
            rcases List.mem_append.mp hc with hc | hc
            · rcases List.mem_append.mp hc with hc | hc
              · exact fm _ hc
              · rw [List.mem_singleton.mp hc]; exact let1_mem _
            · exact fm _ hc
          · rw [List.map_map]; simp [Function.comp_def]
        · rfl
        · rfl
        · rw [al]; decide
        · rw [clr_nt]; simp
        · intro a ha
          have hb := ab a ha
          have w1 : (w.take 1).length = 1 := by rw [List.length_take]; omega
          have c1 := cutL_pre (l := w) (k := 1) (by decide)
          have r1 := sMul_S (l := w.take 1) (k := a) (by omega) (by omega) (by omega)
          have r2 := sMul_S (l := w.take 1) (k := 7 - a) (by omega) (by omega) (by omega)
          have fl : ∀ n : Nat, (List.replicate n (w.take 1)).flatten.length = n := fun n => by
            rw [List.length_flatten, List.map_replicate, w1, List.sum_replicate_nat]; omega
          have z1 : a.toNat + 1 ≤ 16777216 := by omega
          have z2 : a.toNat + 1 + (7 - a).toNat ≤ 16777216 := by omega
          have q1 : (1 : Int).toNat = 1 := rfl
          rw [q1] at c1
          simp [item, sl, cutS_S, c1, r1, r2, S_app, S_len, fl, z1, z2, -List.flatten_replicate_replicate]
          trace_state
      · rfl
      · rfl
      · simp
      · rw [clr_nt]; simp
      · intro i hi
        have hi8 := rng i hi
        have mk := sMul_l (i := (i : Int)) (j := 1 + 2 * (dg ds 10 % 4)) (by omega) (by omega)
        simp [item, a11, mk, sMod_ii]
    · rw [lc_eq (xs := List.range 8) (g := fun i : Nat => U.int (i : Nat)) (f := fun i : Nat => U.str (S [let1 ((dg ds 9 + (i : Int) * (1 + dg ds 10 % 5)) % 26)]))]
      · obtain ⟨sg, hsg⟩ : ∃ sg : List Nat, sg = (List.range 8).map fun i : Nat => let1 ((dg ds 9 + (i : Int) * (1 + dg ds 10 % 5)) % 26) := ⟨_, rfl⟩
        have e1 : ((List.range 8).map fun i : Nat => U.str (S [let1 ((dg ds 9 + (i : Int) * (1 + dg ds 10 % 5)) % 26)])) = sg.map fun c => U.str (S [c]) := by rw [hsg, List.map_map]; rfl
        have sgl : sg.length = 8 := by rw [hsg]; simp
        have sgm : ∀ c ∈ sg, c ∈ LET := fun c hc => by
          rw [hsg] at hc
          obtain ⟨i, _, rfl⟩ := List.mem_map.mp hc
          exact let1_mem _
        rw [e1]
        simp [a8, sMod_ii]
        split
        · obtain ⟨B, hB, B0, B7⟩ : ∃ B : Int, (if 7 < dg ds 11 % 7 + dg ds 12 % 7 then 7 else dg ds 11 % 7 + dg ds 12 % 7) = B ∧ 0 ≤ B ∧ B ≤ 7 := ⟨_, rfl, by split <;> omega, by split <;> omega⟩
          simp [a11, a12, sMod_ii]
          rw [lc_eq (xs := sg) (g := fun c => U.str (S [c])) (f := fun c => U.str (S (w.take (dg ds 11 % 7).toNat ++ [c] ++ cutL w (some (dg ds 11 % 7)) (some B))))]
          · simp
            refine ⟨sg.map fun c => w.take (dg ds 11 % 7).toNat ++ [c] ++ cutL w (some (dg ds 11 % 7)) (some B), by rw [List.length_map, sgl], ?_, ?_⟩
            · intro l hl
              obtain ⟨c, hc, rfl⟩ := List.mem_map.mp hl
              have cl := cutL_len (l := w) (a := dg ds 11 % 7) (b := B) (by omega) B0
              refine ⟨by simp only [List.length_append, List.length_singleton]; omega, ?_, fun x hx => ?_⟩
              · simp only [List.length_append, List.length_singleton, List.length_take]
                omega
              · rcases List.mem_append.mp hx with hx | hx
                · rcases List.mem_append.mp hx with hx | hx
                  · exact wm x (List.mem_of_mem_take hx)
                  · rw [List.mem_singleton.mp hx]; exact sgm c hc
                · exact wm x (cutL_mem hx)
            · rw [List.map_map]; simp [Function.comp_def]
          · rfl
          · rfl
          · rw [sgl]; decide
          · rw [clr_nt]; simp
          · intro c hc
            have c1 := cutL_pre (l := w) (k := dg ds 11 % 7) (by omega)
            have cl := cutL_len (l := w) (a := dg ds 11 % 7) (b := B) (by omega) B0
            have cl2 : (cutL w (some (dg ds 11 % 7)) (some B)).length ≤ 7 := by omega
            have z0 : min (dg ds 11 % 7).toNat w.length ≤ 8 := by omega
            generalize hq : cutL w (some (dg ds 11 % 7)) (some B) = q at cl2
            have z1 : min (dg ds 11 % 7).toNat w.length + 1 ≤ 16777216 := by omega
            have z2 : min (dg ds 11 % 7).toNat w.length + 1 + q.length ≤ 16777216 := by omega
            simp [item, hB, sl, cutS_S, c1, hq, S_app, S_len, z1, z2]
        · rw [lc_eq (xs := List.range 8) (g := fun i : Nat => U.int (i : Nat)) (f := fun i : Nat => U.str (S (w.take (dg ds (11 + (i : Int)) % 8).toNat ++ [sg.getD i 97])))]
          · simp
            refine ⟨(List.range 8).map fun i : Nat => w.take (dg ds (11 + (i : Int)) % 8).toNat ++ [sg.getD i 97], by simp, ?_, ?_⟩
            · intro l hl
              obtain ⟨i, hi, rfl⟩ := List.mem_map.mp hl
              have hi8 := rng i hi
              refine ⟨by simp only [List.length_append, List.length_singleton]; omega, ?_, fun x hx => ?_⟩
              · simp only [List.length_append, List.length_singleton, List.length_take]
                omega
              · rcases List.mem_append.mp hx with hx | hx
                · exact wm x (List.mem_of_mem_take hx)
                · rw [List.mem_singleton.mp hx, List.getD_eq_getElem?_getD, List.getElem?_eq_getElem (by omega)]
                  exact sgm _ (List.getElem_mem _)
            · rw [List.map_map]; simp [Function.comp_def]
          · rfl
          · rfl
          · simp
          · rw [clr_nt]; simp
          · intro i hi
            have hi8 := rng i hi
            have r1 := at_ (11 + (i : Int)) (by omega) (by omega)
            have c1 := cutL_pre (l := w) (k := dg ds (11 + (i : Int)) % 8) (by omega)
            have g1 : atI (sg.map fun c => U.str (S [c])) (i : Int) = some (U.str (S [sg.getD i 97])) := by
              rw [atI_nat, List.getElem?_map, List.getElem?_eq_getElem (by omega), List.getD_eq_getElem?_getD, List.getElem?_eq_getElem (by omega)]
              rfl
            have z1 : min (dg ds (11 + (i : Int)) % 8).toNat w.length + 1 ≤ 16777216 := by omega
            simp [item, sl, cutS_S, c1, r1, g1, S_app, S_len, z1, sMod_ii]
      · rfl
      · rfl
      · simp
      · rw [clr_nt]; simp
      · intro i hi
        have hi8 := rng i hi
        have mk := sMul_l (i := (i : Int)) (j := 1 + dg ds 10 % 5) (by omega) (by omega)
        have := sIx_let (k := (dg ds 9 + (i : Int) * (1 + dg ds 10 % 5)) % 26) (by omega) (by omega)
        simp [item, a9, a10, mk, sMod_ii, this]
end VS
set_option linter.all false
set_option maxRecDepth 100000
namespace VS
open PySem L2
def put (s : List (Str × Nat)) (x : Str) (k : Nat) : List (Str × Nat) := if (KM.lk s x).isSome then s.map (fun p => if p.1 = x then (p.1, k) else p) else s ++ [(x, k)]
theorem dset_encD (s : List (Str × Nat)) (x : Str) (k : Nat) : dset (encD s) (.str x) (.int (k : Nat)) = encD (put s x k) := by
  unfold dset put
  rw [dfind_encD, Option.isSome_map]
  split
  · unfold encD
    rw [List.map_map, List.map_map]
    apply List.map_congr_left
    intro p _
    by_cases h : p.1 = x
    · simp [h]
    · have : ¬ U.str p.1 = U.str x := fun z => h (str_inj _ _ z)
      simp [h, this]
  · simp [encD]
theorem put_len (s : List (Str × Nat)) (x : Str) (k : Nat) : (put s x k).length ≤ s.length + 1 := by
  unfold put
  split
  · simp
  · simp
theorem put_mem {s : List (Str × Nat)} {x : Str} {k : Nat} {p : Str × Nat} (h : p ∈ put s x k) : p ∈ s ∨ p = (x, k) := by
  unfold put at h
  split at h
  · obtain ⟨q, hq, e⟩ := List.mem_map.mp h
    split at e
    · rename_i z; rw [← e, z]; exact .inr rfl
    · exact .inl (e ▸ hq)
  · rcases List.mem_append.mp h with h | h
    · exact .inl h
    · exact .inr (List.mem_singleton.mp h)
def NdR (r : List Str × List (Str × Nat)) : Prop := (r.2.map (·.1)).Nodup
theorem put_nd {s : List (Str × Nat)} {x : Str} {k : Nat} (h : (s.map (·.1)).Nodup) : ((put s x k).map (·.1)).Nodup := by
  unfold put
  split
  · have : ((s.map fun p => if p.1 = x then (p.1, k) else p).map (·.1)) = s.map (·.1) := by
      rw [List.map_map]
      apply List.map_congr_left
      intro p _
      show (if p.1 = x then (p.1, k) else p).1 = p.1
      split <;> rfl
    rw [this]; exact h
  · rename_i q
    rw [List.map_append, List.nodup_append]
    refine ⟨h, by simp, fun a ha b hb z => ?_⟩
    simp only [List.map_cons, List.map_nil, List.mem_singleton] at hb
    subst hb z
    obtain ⟨v, hv, _⟩ := lk_of_mem ha
    rw [hv] at q
    exact q rfl
theorem sum_le {α : Type} (f : α → Nat) (b : Nat) : ∀ (xs : List α), (∀ x ∈ xs, f x ≤ b) → (xs.map f).sum ≤ xs.length * b
  | [], _ => by simp
  | x :: r, h => by
    have := sum_le f b r fun y hy => h y (List.mem_cons_of_mem _ hy)
    have := h x List.mem_cons_self
    rw [List.map_cons, List.sum_cons, List.length_cons, Nat.add_mul]
    omega
theorem ev_law_rooms (N : Str → Prop) (hN : ∀ x, N x → isNm x = true) (ds : List Int) (hd : Digs ds 104) (ws fs : List Str) (hw : ∀ x ∈ ws, N x) (hf : ∀ x ∈ fs, N x) (hwl : ws.length ≤ 8) (hfl : fs.length ≤ 8) :
    ∃ (rows : RowsS) (outs : En), RowsOk rows ∧ (rows.length ≤ 6 ∧ ∀ r ∈ rows, r.1.length ≤ 8 ∧ r.2.length ≤ 8 ∧ (∀ x ∈ r.1, N x) ∧ (∀ p ∈ r.2, N p.1) ∧ NdR r) ∧ φ_law_rooms [(false, .lst (ds.map .int)), (false, .lst (ws.map .str)), (false, .lst (fs.map .str))] = .ok (true, encH rows) outs := by
  refine fnS_post (fun r => ∃ (rows : RowsS) (outs : En), RowsOk rows ∧ (rows.length ≤ 6 ∧ ∀ r ∈ rows, r.1.length ≤ 8 ∧ r.2.length ≤ 8 ∧ (∀ x ∈ r.1, N x) ∧ (∀ p ∈ r.2, N p.1) ∧ NdR r) ∧ r = .ok (true, encH rows) outs) (b := b_law_rooms) rfl (by decide) ?_
  show (b_law_rooms [some (false, .lst (ds.map .int)), some (false, .lst (ws.map .str)), some (false, .lst (fs.map .str)), none, none, none, none, none, none, none]).post _
  have hl := hd.ln
  have at_ : ∀ i : Int, 0 ≤ i → i < 104 → atI (ds.map U.int) i = some (.int (dg ds i)) := fun i h0 h1 => atI_d h0 (by omega)
  have dgb : ∀ i : Int, 0 ≤ i → i < 104 → 0 ≤ dg ds i ∧ dg ds i < 60 := fun i h0 h1 => hd.lo _ (dg_mem h0 (by omega))
  have a0 := at_ 0 (by decide) (by decide)
  have b0 := dgb 0 (by decide) (by decide)
  rw [atI_0] at a0
  obtain ⟨n, hn⟩ : ∃ n : Nat, (n : Int) = 1 + dg ds 0 % 6 := ⟨(1 + dg ds 0 % 6).toNat, by omega⟩
  have n1 : 1 ≤ n ∧ n ≤ 6 := by omega
  have ln : lim62 (1 + dg ds 0 % 6) = true := lim62_ok (by omega) (by omega)
  have lw : lim62 (ws.length : Int) = true := lim62_ok (by omega) (by omega)
  have lf : lim62 (fs.length : Int) = true := lim62_ok (by omega) (by omega)
  unfold b_law_rooms
  simp [a0, sMod_ii, ln]
  have e1 : (1 + dg ds 0 % 6).toNat = n := by omega
  rw [e1, ← hn]
  obtain ⟨J, hJ⟩ : ∃ J : List Nat → En → Prop, ∀ done e, J done e ↔ ∃ (rows : RowsS) (z5 z6 z7 z8 z9 : Sl), (rows.length = done.length ∧ ∀ r ∈ rows, (∀ x ∈ r.1, N x) ∧ r.1.length ≤ 8 ∧ (∀ p ∈ r.2, N p.1 ∧ p.2 < n) ∧ r.2.length ≤ 8 ∧ (r.2.map (·.1)).Nodup) ∧ nt z8 ∧
    e = [some (false, .lst (ds.map .int)), some (false, .lst (ws.map .str)), some (false, .lst (fs.map .str)), some (false, .int (n : Int)), some (true, encH rows), z5, z6, z7, z8, z9] := ⟨_, fun _ _ => Iff.rfl⟩
  have mkJ : ∀ {done : List Nat} {rows : RowsS} {z5 z6 z7 z8 z9 : Sl}, (rows.length = done.length ∧ ∀ r ∈ rows, (∀ x ∈ r.1, N x) ∧ r.1.length ≤ 8 ∧ (∀ p ∈ r.2, N p.1 ∧ p.2 < n) ∧ r.2.length ≤ 8 ∧ (r.2.map (·.1)).Nodup) → nt z8 → J done [some (false, .lst (ds.map .int)), some (false, .lst (ws.map .str)), some (false, .lst (fs.map .str)), some (false, .int (n : Int)), some (true, encH rows), z5, z6, z7, z8, z9] := fun h1 h2 => (hJ _ _).mpr ⟨_, _, _, _, _, _, h1, h2, rfl⟩
  refine post_forL (List.range n) (fun i : Nat => .int (i : Nat)) rfl J (mkJ (rows := []) ⟨rfl, fun _ h => nomatch h⟩ trivial) ?_ ?_
  · intro done k rest e hms hin
    obtain ⟨rows, z5, z6, z7, z8, z9, hr, hz8, rfl⟩ := (hJ _ _).mp hin
    have hk : k < n := List.mem_range.mp (hms ▸ List.mem_append.mpr (.inr List.mem_cons_self))
    have dl : done.length < n := by
      have := congrArg List.length hms
      simp at this
      omega
    have a98 := at_ (98 + (k : Int)) (by omega) (by omega)
    have a97 := at_ 97 (by decide) (by decide)
    have md := sMod_ii (i := dg ds (98 + (k : Int))) (j := 1 + dg ds 97 % 6) (by omega)
    simp [turn, a98, a97, sMod_ii, md, lw]
    generalize hkd : dg ds (98 + (k : Int)) % (1 + dg ds 97 % 6) = kd
    have kd0 : 0 ≤ kd := by rw [← hkd]; exact Int.emod_nonneg _ (by omega)
    have kd6 : kd < 6 := by
      have := Int.emod_lt_of_pos (dg ds (98 + (k : Int))) (show 0 < 1 + dg ds 97 % 6 by omega)
      omega
    obtain ⟨G, hG⟩ : ∃ G : List Nat → En → Prop, ∀ done e, G done e ↔ ∃ (s : List (Str × Nat)) (z8 z9 : Sl), ((∀ p ∈ s, N p.1 ∧ p.2 < n) ∧ s.length ≤ done.length ∧ (s.map (·.1)).Nodup) ∧ nt z8 ∧
      e = [some (false, .lst (ds.map .int)), some (false, .lst (ws.map .str)), some (false, .lst (fs.map .str)), some (false, .int (n : Int)), some (true, encH rows), some (false, .int (k : Int)), some (false, .int kd), some (true, .dct (encD s)), z8, z9] := ⟨_, fun _ _ => Iff.rfl⟩
    have mkG : ∀ {done : List Nat} {s : List (Str × Nat)} {z8 z9 : Sl}, ((∀ p ∈ s, N p.1 ∧ p.2 < n) ∧ s.length ≤ done.length ∧ (s.map (·.1)).Nodup) → nt z8 → G done [some (false, .lst (ds.map .int)), some (false, .lst (ws.map .str)), some (false, .lst (fs.map .str)), some (false, .int (n : Int)), some (true, encH rows), some (false, .int (k : Int)), some (false, .int kd), some (true, .dct (encD s)), z8, z9] := fun h1 h2 => (hG _ _).mpr ⟨_, _, _, h1, h2, rfl⟩
    refine post_forL (List.range ws.length) (fun i : Nat => .int (i : Nat)) rfl G (mkG (s := []) ⟨fun _ h => (nomatch h), Nat.zero_le _, List.nodup_nil⟩ hz8) ?_ ?_
    · intro done2 j rest2 e hms2 hin
      obtain ⟨s, z8, z9, ⟨hs1, hs2, hs3⟩, hz8, rfl⟩ := (hG _ _).mp hin
      have hj : j < ws.length := List.mem_range.mp (hms2 ▸ List.mem_append.mpr (.inr List.mem_cons_self))
      have dl2 : done2.length < ws.length := by
        have := congrArg List.length hms2
        simp at this
        omega
      have aj := at_ (49 + 8 * (k : Int) + (j : Int)) (by omega) (by omega)
      have bj := dgb (49 + 8 * (k : Int) + (j : Int)) (by omega) (by omega)
      have k8 := sMul_l (i := 8) (j := (k : Int)) (by decide) (by decide)
      have wj : ws[j]? = some ws[j] := List.getElem?_eq_getElem hj
      generalize hdd : dg ds (49 + 8 * (k : Int) + (j : Int)) = d at aj bj
      have md2 := sMod_ii (i := d / 4) (j := (n : Int)) (by omega)
      obtain ⟨v, hv⟩ : ∃ v : Nat, (v : Int) = d / 4 % (n : Int) := ⟨(d / 4 % (n : Int)).toNat, by have := Int.emod_nonneg (d / 4) (show (n : Int) ≠ 0 by omega); omega⟩
      have vn : v < n := by have := Int.emod_lt_of_pos (d / 4) (show 0 < (n : Int) by omega); omega
      rw [← hv] at md2
      have sl2 : s.length < 16777216 := by omega
      by_cases hq : 0 < d % 4
      · have ds1 := dset_encD s ws[j] v
        simp [turn, aj, k8, sMod_ii, sDiv_ii, hq, md2, atI_at wj, sl2, ds1]
        refine mkG ⟨fun p hp => ?_, ?_, put_nd hs3⟩ trivial
        · rcases put_mem hp with h | h
          · exact hs1 p h
          · rw [h]; exact ⟨hw _ (List.getElem_mem hj), vn⟩
        · have := put_len s ws[j] v
          rw [List.length_append, List.length_singleton]
          omega
      · simp [turn, aj, k8, sMod_ii, hq]
        refine mkG ⟨hs1, ?_, hs3⟩ trivial
        rw [List.length_append, List.length_singleton]
        omega
    · intro e hin
      obtain ⟨s, z8, z9, ⟨hs1, hs2, hs3⟩, hz8, rfl⟩ := (hG _ _).mp hin
      rw [List.length_range] at hs2
      simp [lf]
      rw [lcF_eq (xs := List.range fs.length) (g := fun i : Nat => U.int (i : Nat)) (p := fun i : Nat => decide (dg ds (1 + 8 * kd + (i : Int)) % 2 = 1)) (f := fun i : Nat => U.str (fs.getD i ""))]
      · have rl : rows.length < 16777216 := by omega
        obtain ⟨bs, hbs⟩ : ∃ bs : List Str, bs = ((List.range fs.length).filter fun i : Nat => decide (dg ds (1 + 8 * kd + (i : Int)) % 2 = 1)).map fun i => fs.getD i "" := ⟨_, rfl⟩
        have eb : (((List.range fs.length).filter fun i : Nat => decide (dg ds (1 + 8 * kd + (i : Int)) % 2 = 1)).map fun i => U.str (fs.getD i "")) = bs.map U.str := by rw [hbs, List.map_map]; rfl
        have bl : bs.length ≤ fs.length := by
          rw [hbs, List.length_map]
          have := List.length_filter_le (fun i : Nat => decide (dg ds (1 + 8 * kd + (i : Int)) % 2 = 1)) (List.range fs.length)
          rwa [List.length_range] at this
        have bm : ∀ x ∈ bs, N x := fun x hx => by
          rw [hbs] at hx
          obtain ⟨i, hi, rfl⟩ := List.mem_map.mp hx
          have hi2 : i < fs.length := List.mem_range.mp (List.mem_filter.mp hi).1
          rw [List.getD_eq_getElem?_getD, List.getElem?_eq_getElem hi2]
          exact hf _ (List.getElem_mem hi2)
        rw [eb]
        simp [rl]
        rw [show U.tup [U.lst (bs.map U.str), U.dct (encD s)] = encHr (bs, s) from rfl, map_snoc encHr]
        refine mkJ ⟨by rw [List.length_append, List.length_append, hr.1]; rfl, fun r h => ?_⟩ hz8
        rcases List.mem_append.mp h with h | h
        · exact hr.2 r h
        · rw [List.mem_singleton.mp h]
          exact ⟨bm, by show bs.length ≤ 8; omega, hs1, by show s.length ≤ 8; omega, hs3⟩
      · rfl
      · rfl
      · simp; omega
      · rw [clr_nt]; simp [hz8]
      · intro i hi
        have hi2 : i < fs.length := List.mem_range.mp hi
        have ai := at_ (1 + 8 * kd + (i : Int)) (by omega) (by omega)
        have k8 := sMul_l (i := 8) (j := kd) (by decide) (by decide)
        have fj : fs[i]? = some fs[i] := List.getElem?_eq_getElem hi2
        by_cases hq : dg ds (1 + 8 * kd + (i : Int)) % 2 = 1
        · simp [itemF, ai, k8, sMod_ii, hq, atI_at fj, fj]
        · simp [itemF, ai, k8, sMod_ii, hq]
  · intro e hin
    obtain ⟨rows, z5, z6, z7, z8, z9, hr, hz8, rfl⟩ := (hJ _ _).mp hin
    have rl : rows.length = n := by have := hr.1; simpa using this
    simp
    refine ⟨rows, ?_, ⟨by omega, fun a b h => ⟨(hr.2 (a, b) h).2.1, (hr.2 (a, b) h).2.2.2.1, (hr.2 (a, b) h).1, fun x y hp => ((hr.2 (a, b) h).2.2.1 (x, y) hp).1, (hr.2 (a, b) h).2.2.2.2⟩⟩, rfl⟩
    exact ⟨by omega, by omega, fun r h x hx => hN x ((hr.2 r h).1 x hx), fun r h => by have := (hr.2 r h).2.1; omega, fun r h p hp => by rw [rl]; exact ⟨hN _ ((hr.2 r h).2.2.1 p hp).1, ((hr.2 r h).2.2.1 p hp).2⟩, fun r h => by have := (hr.2 r h).2.2.2.1; omega, by
      have := sum_le (fun r : List Str × List (Str × Nat) => r.2.length) 8 rows (fun r h => (hr.2 r h).2.2.2.1)
      omega, by
      have := sum_le (fun r : List Str × List (Str × Nat) => r.2.length) 8 rows (fun r h => (hr.2 r h).2.2.2.1)
      have := dedS_len (rows.flatMap fun r => r.2.map (·.1))
      rw [flat_len] at this
      omega⟩
end VS
set_option linter.all false
set_option maxRecDepth 100000
namespace VS
open PySem L2
theorem pd_map {α : Type} {X : Nat → Nat → Prop} {f g : Nat → α} (h : ∀ a b, X a b → f a = g b) {xs ys : List Nat} (p : KM.Pd X xs ys) : xs.map f = ys.map g := by
  induction p with
  | nil => rfl
  | cons r _ ih => rw [List.map_cons, List.map_cons, ih, h _ _ r]
theorem evs_pair (rows : RowsS) : (evs rows).Pairwise (fun a b => leS a b = true) := sortS_pair _
theorem sorted_same {xs ys : List Str} (hx : xs.Pairwise (fun a b => leS a b = true)) (hy : ys.Pairwise (fun a b => leS a b = true)) (nx : xs.Nodup) (ny : ys.Nodup) (h : ∀ z, z ∈ xs ↔ z ∈ ys) : xs = ys := by
  rw [sortS_unique (perm_of_mem nx ny h) hx]
  exact (sortS_unique (List.Perm.refl _) hy).symm
theorem eff_evs {rows : RowsS} {c : Nat → Nat} {r : Nat} {e : Str} : e ∈ (evs rows).filter (KM.eff rows c r) ↔ KM.eff rows c r e = true := by
  rw [List.mem_filter]
  refine ⟨fun h => h.2, fun h => ⟨Classical.byContradiction fun n => ?_, h⟩⟩
  have g : KM.goal rows r e = r := by unfold KM.goal; rw [evs_all n]; rfl
  unfold KM.eff at h
  rw [g] at h
  simp at h
def nb (rows : RowsS) (view : List Str) : List Str := sortS (dedS (rw0 rows (KM.walk rows 0 view)))
theorem beh_norm {rows : RowsS} (h : RowsOk rows) (view : List Str) : KM.beh (norm rows) 0 view = some (nb rows view) := by
  have ho := norm_ok h
  have wl := KM.walk_lt (fit_of ho) (view := view) ho.n0
  unfold KM.beh KM.blk nb
  rw [List.getElem?_eq_getElem wl]
  have e := rw0_eq (List.getElem?_eq_getElem wl)
  rw [Option.map_some, ← e, walk_norm, rw0_norm (by rw [walk_norm, norm_len] at wl; exact wl)]
theorem keep_same {A B L M : RowsS} (ha : KeepOf A L) (hb : KeepOf B M) (h : ∀ v, nb A v = nb B v) : L = M := by
  obtain ⟨c, oa, _, sa, ba, rfl⟩ := ha.ex
  obtain ⟨d, ob, _, sb, bb, rfl⟩ := hb.ex
  have hA := norm_ok ha.ok
  have hB := norm_ok hb.ok
  have fa := fit_of hA
  have fb := fit_of hB
  have ta := sa.tells fa fun r e => evs_all
  have tb := sb.tells fb fun r e => evs_all
  have x0 : KM.Xx (norm A) (norm B) 0 0 := ⟨hA.n0, hB.n0, fun v => by rw [beh_norm ha.ok, beh_norm hb.ok, h v]⟩
  have hE : ∀ r s, KM.Xx (norm A) (norm B) r s → (evs (norm A)).filter (KM.eff (norm A) (KM.cf c) r) = (evs (norm B)).filter (KM.eff (norm B) (KM.cf d) s) := fun r s x =>
    sorted_same ((evs_pair _).filter _) ((evs_pair _).filter _) ((evs_nodup _).filter _) ((evs_nodup _).filter _) fun z => by
      rw [eff_evs, eff_evs, KM.eff_same fa fb ta tb x z]
  have pd := KM.Bfs.both fa fb ta tb x0 hE ba bb
  unfold lrows
  refine pd_map (fun r s x => ?_) pd
  unfold lrow
  rw [KM.steps_same fa fb ta tb hE pd x]
  congr 1
  have e := x.2.2 []
  unfold KM.beh KM.walk KM.blk at e
  simp only [List.foldl_nil] at e
  rw [List.getElem?_eq_getElem x.1, List.getElem?_eq_getElem x.2.1] at e
  rw [rw0_eq (List.getElem?_eq_getElem x.1), rw0_eq (List.getElem?_eq_getElem x.2.1)]
  simpa using e
theorem KeepOf.nb {A L : RowsS} (h : KeepOf A L) (view : List Str) : rw0 L (KM.walk L 0 view) = VS.nb A view := by
  have g := h.good.2.2 view
  have ho := norm_ok h.ok
  have wl := KM.walk_lt (fit_of ho) (view := view) ho.n0
  rw [g, walk_norm, rw0_norm (by rw [walk_norm, norm_len] at wl; exact wl)]
  rfl
end VS
set_option linter.all false
set_option maxRecDepth 100000
namespace VS
open PySem L2
def encS (s : List (Str × Nat)) : U := .lst (s.map fun p => .tup [.str p.1, .int (p.2 : Nat)])
def encLr (r : List Str × List (Str × Nat)) : U := .tup [.lst (r.1.map .str), encS r.2]
def encL (L : RowsS) : U := .lst (L.map encLr)
structure LOk (L : RowsS) : Prop where
  ln : L.length ≤ 1000
  sn : ∀ r ∈ L, r.2.length < 64
  bn : ∀ r ∈ L, r.1.length < 64
  bl : ∀ r ∈ L, ∀ x ∈ r.1, isNm x = true
  so : ∀ r ∈ L, r.2.Pairwise fun p q => leK (p.1, (p.2 : Int)) (q.1, (q.2 : Int)) = true
  st : ∀ r ∈ L, ∀ p ∈ r.2, isNm p.1 = true
theorem steps_sorted {rows : RowsS} {c : Nat → Nat} {order : List Nat} {r : Nat} : (KM.stepsOf rows c order r (evs rows)).Pairwise fun p q => leK (p.1, (p.2 : Int)) (q.1, (q.2 : Int)) = true := by
  unfold KM.stepsOf
  rw [List.pairwise_map]
  refine List.Pairwise.filter _ ?_
  have h1 := evs_pair rows
  have h2 := evs_nodup rows
  exact (h1.and h2).imp fun {a b} z => leK_iff.mpr (.inr ⟨z.2, z.1⟩)
theorem mem_evs {rows : RowsS} (h : RowsOk rows) {x : Str} (m : x ∈ evs rows) : isNm x = true := by
  unfold evs at m
  rw [mem_sortS, mem_dedS, List.mem_flatMap] at m
  obtain ⟨r, hr, m⟩ := m
  obtain ⟨p, hp, rfl⟩ := List.mem_map.mp m
  exact (h.st r hr p hp).1
theorem KeepOf.lok {A L : RowsS} (h : KeepOf A L) : LOk L := by
  obtain ⟨c, o, _, _, b, rfl⟩ := h.ex
  have ho := norm_ok h.ok
  have od := (b.ord (fit_of ho) ho.n0).1
  have mem : ∀ r ∈ lrows (norm A) (KM.cf c) o, ∃ k, k < (norm A).length ∧ r = lrow (norm A) (KM.cf c) o k := fun r hr => by
    obtain ⟨k, hk, rfl⟩ := List.mem_map.mp hr
    exact ⟨k, od.lt k hk, rfl⟩
  refine ⟨?_, fun r hr => ?_, fun r hr => ?_, fun r hr x hx => ?_, fun r hr => ?_, fun r hr p hp => ?_⟩
  · have := od.len
    have := ho.n1
    simp [lrows]; omega
  · obtain ⟨k, hk, rfl⟩ := mem r hr
    have := evs_len ho
    have h2 : (KM.stepsOf (norm A) (KM.cf c) o k (evs (norm A))).length ≤ (evs (norm A)).length := by
      unfold KM.stepsOf; rw [List.length_map]; exact List.length_filter_le _ _
    show (KM.stepsOf (norm A) (KM.cf c) o k (evs (norm A))).length < 64
    omega
  · obtain ⟨k, hk, rfl⟩ := mem r hr
    show (rw0 (norm A) k).length < 64
    rw [rw0_eq (List.getElem?_eq_getElem hk)]
    exact ho.bn _ (List.getElem_mem hk)
  · obtain ⟨k, hk, rfl⟩ := mem r hr
    have hx : x ∈ rw0 (norm A) k := hx
    rw [rw0_eq (List.getElem?_eq_getElem hk)] at hx
    exact ho.bl _ (List.getElem_mem hk) x hx
  · obtain ⟨k, hk, rfl⟩ := mem r hr
    exact steps_sorted
  · obtain ⟨k, hk, rfl⟩ := mem r hr
    have hp : p ∈ KM.stepsOf (norm A) (KM.cf c) o k (evs (norm A)) := hp
    unfold KM.stepsOf at hp
    obtain ⟨e, he, rfl⟩ := List.mem_map.mp hp
    exact mem_evs ho (List.mem_filter.mp he).1
end VS
set_option linter.all false
set_option maxRecDepth 100000
namespace VS
open PySem L2
def ksOf (ss : List (List (Str × Nat))) : List Str := ss.flatMap fun s => s.map (·.1)
theorem sort_ded {fs xs : List Str} (nd : fs.Nodup) (h : ∀ y, y ∈ fs ↔ y ∈ xs) : sortS fs = sortS (dedS xs) :=
  sorted_same (sortS_pair _) (sortS_pair _) ((List.mergeSort_perm _ _).nodup_iff.mpr nd) ((List.mergeSort_perm _ _).nodup_iff.mpr (nodup_dedS _)) fun z => by rw [mem_sortS, mem_sortS, mem_dedS, h]
theorem ev_law_known (ss : List (List (Str × Nat))) (h : (dedS (ksOf ss)).length < 64) : φ_law_known [(false, .lst (ss.map fun s => .dct (encD s)))] = .ok (true, .lst ((sortS (dedS (ksOf ss))).map .str)) [some (false, .lst (ss.map fun s => .dct (encD s)))] := by
  refine fnS_post (fun r => r = .ok (true, .lst ((sortS (dedS (ksOf ss))).map .str)) [some (false, .lst (ss.map fun s => .dct (encD s)))]) (b := b_law_known) rfl (by decide) ?_
  show (b_law_known [some (false, .lst (ss.map fun s => .dct (encD s))), none, none, none]).post _
  unfold b_law_known
  simp
  obtain ⟨J, hJ⟩ : ∃ J : List (List (Str × Nat)) → En → Prop, ∀ done e, J done e ↔ ∃ (fs : List Str) (z2 z3 : Sl), (fs.Nodup ∧ ∀ y, y ∈ fs ↔ y ∈ ksOf done) ∧ e = [some (false, .lst (ss.map fun s => .dct (encD s))), some (true, .lst (fs.map .str)), z2, z3] := ⟨_, fun _ _ => Iff.rfl⟩
  refine post_forL ss (fun s => .dct (encD s)) rfl J ((hJ _ _).mpr ⟨[], _, _, ⟨by simp, fun y => by simp [ksOf]⟩, rfl⟩) ?_ ?_
  · intro done s rest e hms hin
    obtain ⟨fs, z2, z3, ⟨nd, hm⟩, rfl⟩ := (hJ _ _).mp hin
    simp [turn, srcA_d]
    obtain ⟨G, hG⟩ : ∃ G : List Str → En → Prop, ∀ done2 e, G done2 e ↔ ∃ (fs : List Str) (z3 : Sl), (fs.Nodup ∧ ∀ y, y ∈ fs ↔ y ∈ ksOf done ∨ y ∈ done2) ∧ e = [some (false, .lst (ss.map fun s => .dct (encD s))), some (true, .lst (fs.map .str)), some (false, .dct (encD s)), z3] := ⟨_, fun _ _ => Iff.rfl⟩
    have sub : ∀ x ∈ ksOf done ++ s.map (·.1), x ∈ ksOf ss := fun x hx => by
      rw [hms]
      unfold ksOf at hx ⊢
      rw [List.flatMap_append, List.flatMap_cons]
      rcases List.mem_append.mp hx with hx | hx
      · exact List.mem_append_left _ hx
      · exact List.mem_append_right _ (List.mem_append_left _ hx)
    refine post_forL (s.map (·.1)) U.str (by first | rfl | simp) G ((hG _ _).mpr ⟨fs, z3, ⟨nd, fun y => by rw [hm y]; simp⟩, rfl⟩) ?_ ?_
    · intro done2 x rest2 e hms2 hin
      obtain ⟨fs, z3, ⟨nd, hm⟩, rfl⟩ := (hG _ _).mp hin
      by_cases q : x ∈ fs
      · simp [turn, q]
        refine (hG _ _).mpr ⟨fs, _, ⟨nd, fun y => ?_⟩, rfl⟩
        rw [hm, List.mem_append, List.mem_singleton]
        refine ⟨fun z => z.elim .inl fun z => .inr (.inl z), fun z => ?_⟩
        rcases z with z | z | z
        · exact .inl z
        · exact .inr z
        · subst z; exact (hm y).mp q
      · have fl : fs.length < 64 := by
          have := KM.nodup_len (ys := dedS (ksOf ss)) nd fun y hy => by
            rw [mem_dedS]
            refine sub y ?_
            rw [hms2, List.mem_append]
            exact ((hm y).mp hy).imp id fun z => List.mem_append_left _ z
          omega
        have fl2 : fs.length < 16777216 := by omega
        simp [turn, q, fl2]
        refine (hG _ _).mpr ⟨fs ++ [x], some (false, .str x), ⟨?_, fun y => ?_⟩, by simp⟩
        · rw [List.nodup_append]
          refine ⟨nd, by simp, fun a ha b hb => ?_⟩
          rw [List.mem_singleton] at hb
          subst hb
          intro z
          exact q (z ▸ ha)
        · rw [List.mem_append, hm, List.mem_append, List.mem_singleton, or_assoc]
    · intro e hin
      obtain ⟨fs, z3, ⟨nd, hm⟩, rfl⟩ := (hG _ _).mp hin
      refine (hJ _ _).mpr ⟨fs, _, _, ⟨nd, fun y => ?_⟩, rfl⟩
      rw [hm]
      unfold ksOf
      rw [List.flatMap_append, List.mem_append]
      simp
  · intro e hin
    obtain ⟨fs, z2, z3, ⟨nd, hm⟩, rfl⟩ := (hJ _ _).mp hin
    have fl : fs.length < 64 := by
      have := KM.nodup_len (ys := dedS (ksOf ss)) nd fun y hy => mem_dedS.mpr ((hm y).mp hy)
      omega
    simp [fl, sort_ded nd hm, outS_eq, prL, List.range_succ]
end VS
set_option linter.all false
set_option maxRecDepth 100000
namespace VS
open PySem L2
def okSt (x : Str) : Prop := PyData.strOk x = true
theorem LET_ok : ∀ c ∈ LET, c < 0x110000 := by decide +kernel
def Lts (x : Str) : Prop := ∀ c ∈ x.cps.toList, c ∈ LET
theorem Lts.ok {x : Str} (h : Lts x) : okSt x := by
  unfold okSt PyData.strOk
  rw [Array.all_eq_true']
  intro c hc
  exact decide_eq_true (LET_ok c (h c (by simpa using hc)))
theorem isNm_Lts {x : Str} (h : isNm x = true) : Lts x := by
  unfold isNm at h
  rw [Bool.and_eq_true, List.all_eq_true] at h
  exact fun c hc => of_decide_eq_true (h.2 c hc)
def cutG {α : Type} (xs : List α) (lo hi : Option Int) : List α := (xs.drop (HT.sIx xs.length 0 lo)).take (HT.sIx xs.length xs.length hi - HT.sIx xs.length 0 lo)
theorem isNm_ok {x : Str} (h : isNm x = true) : PyData.strOk x = true := (isNm_Lts h).ok
theorem dat_strs {n : Nat} {xs : List Str} (h : ∀ x ∈ xs, isNm x = true) : dat (n + 1) (.lst (xs.map .str)) = true := by
  show (xs.map U.str).all (dat n) = true
  rw [List.all_map, List.all_eq_true]
  intro x hx
  have := isNm_ok (h x hx)
  cases n <;> exact this
theorem dat_ints {n : Nat} {xs : List Nat} : dat (n + 1) (.lst (xs.map fun k => .int (k : Nat))) = true := by
  show (xs.map fun k => U.int (k : Nat)).all (dat n) = true
  rw [List.all_map, List.all_eq_true]
  intro x hx
  cases n <;> rfl
abbrev Mq := Nat × List Str × List Nat
def mq (N : RowsS) (c : Nat → Nat) (r : Nat) : Mq := (c r, rw0 N r, (evs N).map fun e => c (KM.goal N r e))
def mqs (N : RowsS) (c : Nat → Nat) : List Mq := (List.range N.length).map (mq N c)
theorem mqs_len {N : RowsS} {c : Nat → Nat} : (mqs N c).length = N.length := by simp [mqs]
theorem nf_mqs {N : RowsS} {c : Nat → Nat} {i j : Nat} (hi : i < N.length) (hj : j < N.length) : KM.nf (mqs N c) i = KM.nf (mqs N c) j ↔ mq N c i = mq N c j := by
  rw [KM.nf_iff (by rw [mqs_len]; exact hi) (by rw [mqs_len]; exact hj)]
  simp [mqs]
structure Crs (N : RowsS) (m : Nat) (c : Nat → Nat) : Prop where
  cl : KM.Cl N.length m c
  co : ∀ E, KM.Bis N (evs N) E → ∀ i j, E i j → c i = c j
theorem blk_rw0 {N : RowsS} {i : Nat} (h : i < N.length) : KM.blk N i = some (rw0 N i) := by
  unfold KM.blk
  rw [List.getElem?_eq_getElem h, rw0_eq (List.getElem?_eq_getElem h)]
  rfl
theorem mq_iff {N : RowsS} {c : Nat → Nat} {i j : Nat} : mq N c i = mq N c j ↔ c i = c j ∧ rw0 N i = rw0 N j ∧ ∀ e ∈ evs N, c (KM.goal N i e) = c (KM.goal N j e) := by
  unfold mq
  simp only [Prod.mk.injEq]
  rw [List.map_inj_left]
theorem crs_step {N : RowsS} {m : Nat} {c : Nat → Nat} (h : Crs N m c) : Crs N (KM.nub (mqs N c)).length (KM.nf (mqs N c)) := by
  refine ⟨mqs_len (N := N) (c := c) ▸ KM.cl_nf _, fun E hE i j q => ?_⟩
  obtain ⟨hi, hj⟩ := hE.l i j q
  rw [nf_mqs hi hj, mq_iff]
  refine ⟨h.co E hE i j q, ?_, fun e he => h.co E hE _ _ (hE.g i j e he q)⟩
  have := hE.b i j q
  rw [blk_rw0 hi, blk_rw0 hj] at this
  exact Option.some.inj this
theorem crs_stable {N : RowsS} {m : Nat} {p : Nat → Nat} (hf : KM.Fit N) (h : Crs N m p) (hm : (KM.nub (mqs N p)).length ≤ m) : KM.Stable N (evs N) (KM.nf (mqs N p)) := by
  have G := crs_step h
  have key := KM.same_part (n := N.length) G.cl.lt h.cl.sur h.cl.lt (fun i j hi hj q => by
    rw [nf_mqs hi hj, mq_iff] at q; exact q.1) hm
  refine ⟨fun i j hi hj q => ?_, fun i j e hi hj he q => ?_, G.co⟩
  · rw [nf_mqs hi hj, mq_iff] at q
    rw [blk_rw0 hi, blk_rw0 hj, q.2.1]
  · rw [nf_mqs hi hj, mq_iff] at q
    exact key _ _ (KM.goal_lt hf hi) (KM.goal_lt hf hj) (q.2.2 e he)
theorem crs0 {N : RowsS} (h : 0 < N.length) : Crs N 1 (KM.cf (List.replicate N.length 0)) := by
  have e : ∀ i, KM.cf (List.replicate N.length 0) i = 0 := fun i => by
    unfold KM.cf
    rw [List.getD_eq_getElem?_getD, List.getElem?_replicate]
    split <;> rfl
  exact ⟨⟨fun i _ => by rw [e]; exact Nat.zero_lt_one, fun v hv => ⟨0, h, by rw [e]; omega⟩⟩, fun E _ i j _ => by rw [e, e]⟩
def encQ (m : Mq) : U := .tup [.int (m.1 : Nat), .lst (m.2.1.map .str), .lst (m.2.2.map fun k => .int (k : Nat))]
theorem encQ_inj : ∀ a b, encQ a = encQ b → a = b := fun a b h => by
  unfold encQ at h
  injection h with h
  injection h with h1 h
  injection h with h2 h
  injection h with h3 _
  injection h1 with h1
  injection h2 with h2
  injection h3 with h3
  exact Prod.ext (Int.ofNat.inj h1) (Prod.ext (strs_inj h2) (nats_inj h3))
theorem dat_encQ {m : Mq} (h : ∀ x ∈ m.2.1, isNm x = true) : dat 2 (encQ m) = true := by
  show ([U.int (m.1 : Nat), .lst (m.2.1.map .str), .lst (m.2.2.map fun k => .int (k : Nat))]).all (dat 1) = true
  simp only [List.all_cons, List.all_nil, Bool.and_true, Bool.and_eq_true]
  exact ⟨rfl, dat_strs h, dat_ints⟩
structure CrsSt (N : RowsS) (k : Nat) (c : List Nat) : Prop where
  ln : c.length = N.length
  go : ∃ m, Crs N m (KM.cf c)
  or : k = 0 ∨ ∃ p, Crs N k p ∧ c = KM.numb (mqs N p)
theorem CrsSt.done {N : RowsS} {k m : Nat} {c : List Nat} (hf : KM.Fit N) (n0 : 0 < N.length) (h : CrsSt N k c) (gm : Crs N m (KM.cf c)) (hk : m ≤ k) : KM.Stable N (evs N) (KM.cf c) := by
  rcases h.or with e0 | ⟨p, gp, e0⟩
  · have := gm.cl.lt 0 n0
    omega
  · have gp2 := crs_step gp
    have e2 : KM.cf c = KM.nf (mqs N p) := by rw [e0]; rfl
    have hm : (KM.nub (mqs N p)).length ≤ k := by
      have c1 := gm.cl
      rw [e2] at c1
      apply Classical.byContradiction
      intro q
      obtain ⟨i, hi, e4⟩ := gp2.cl.sur k (by omega)
      have := c1.lt i hi
      omega
    rw [e0]
    exact crs_stable hf gp hm
end VS
set_option linter.all false
set_option maxRecDepth 100000
namespace VS
open PySem L2
@[simp] theorem sNe2_int {i j : Int} : sNe2 (.int i) (.int j) = sEq true (.int i) (.int j) := by
  have : ∃ z, sEq true (.int i) (.int j) = some z := by simp
  obtain ⟨z, h⟩ := this
  rw [h]
  exact orS_of h
theorem evs_norm (rows : RowsS) : evs (norm rows) = evs rows := by
  unfold evs norm
  rw [List.flatMap_map]
theorem inU_ii {x : Nat} {c : List Nat} : inU (.int (x : Nat)) (c.map fun k : Nat => U.int (k : Nat)) = decide (x ∈ c) := by
  unfold inU
  rw [List.any_map]
  induction c with
  | nil => rfl
  | cons w ws ih =>
    have e : eqV (vOf (.int (w : Nat))) (vOf (.int (x : Nat))) = decide (x = w) := by
      simp only [vOf, eqV]
      by_cases h : w = x
      · subst h; simp
      · have : ¬ ((w : Int) = (x : Int)) := by omega
        simp [this, Ne.symm h]
    simp only [List.any_cons, Function.comp, e, List.mem_cons] at ih ⊢
    rw [ih]
    by_cases h : x = w <;> simp [h]
theorem notin_ints {x : Nat} {c : List Nat} : sNotIn2 (.int (x : Nat)) (.lst (c.map fun k : Nat => U.int (k : Nat))) = some (false, .bl (!decide (x ∈ c))) := by
  refine sNotIn2_of ?_
  unfold sNotIn orS sInF
  dsimp only
  rw [if_pos (by simp [flU]), inU_ii]
  rfl
theorem index_ints {x : Nat} {c : List Nat} (m : x ∈ c) : sIndex (.lst (c.map fun k : Nat => U.int (k : Nat))) [.int (x : Nat)] = some (false, .int (c.idxOf x : Nat)) := by
  rw [sIndex_dat (n := 0) (by decide) rfl (fun w hw => by obtain ⟨q, _, rfl⟩ := List.mem_map.mp hw; rfl) (List.mem_map.mpr ⟨x, m, rfl⟩)]
  have := idxOf_map (fun k : Nat => U.int (k : Nat)) int_inj x c
  rw [this]
theorem numb_snoc {α : Type} [DecidableEq α] {xs : List α} {x : α} : KM.numb (xs ++ [x]) = KM.numb xs ++ [(KM.nub (xs ++ [x])).idxOf x] := by
  unfold KM.numb
  rw [List.map_append, List.map_cons, List.map_nil]
  congr 1
  apply List.map_congr_left
  intro y hy
  rw [KM.nub_snoc]
  split
  · rfl
  · rw [List.idxOf_append, if_pos (KM.mem_nub.mpr hy)]
theorem mem_encQ {m : Mq} {ms : List Mq} : encQ m ∈ ms.map encQ ↔ m ∈ ms := by
  rw [List.mem_map]
  exact ⟨fun ⟨q, h, e⟩ => encQ_inj _ _ e ▸ h, fun h => ⟨m, h, rfl⟩⟩
theorem notin_encQ {m : Mq} {ms : List Mq} (h : ∀ q ∈ ms, ∀ x ∈ q.2.1, isNm x = true) (hm : ∀ x ∈ m.2.1, isNm x = true) : sNotIn2 (encQ m) (.lst (ms.map encQ)) = some (false, .bl (!decide (m ∈ ms))) := by
  have := sNotIn2_dat (n := 2) (us := [.int (m.1 : Nat), .lst (m.2.1.map .str), .lst (m.2.2.map fun k => .int (k : Nat))]) (ws := ms.map encQ) (by decide) (dat_encQ hm) (fun w hw => by obtain ⟨q, hq, rfl⟩ := List.mem_map.mp hw; exact dat_encQ (h q hq))
  rw [show U.tup [.int (m.1 : Nat), .lst (m.2.1.map .str), .lst (m.2.2.map fun k => .int (k : Nat))] = encQ m from rfl] at this
  rw [this]
  simp [mem_encQ]
theorem index_encQ {m : Mq} {ms : List Mq} (h : ∀ q ∈ ms, ∀ x ∈ q.2.1, isNm x = true) (hm : m ∈ ms) : sIndex (.lst (ms.map encQ)) [encQ m] = some (false, .int (@List.idxOf Mq instBEqOfDecidableEq m ms : Nat)) := by
  rw [sIndex_dat (n := 2) (by decide) (dat_encQ (h m hm)) (fun w hw => by obtain ⟨q, hq, rfl⟩ := List.mem_map.mp hw; exact dat_encQ (h q hq)) (mem_encQ.mpr hm)]
  have := idxOf_map encQ encQ_inj m ms
  rw [this]
theorem isL_encS {s : List (Str × Nat)} : isL (encS s) = true := rfl
theorem sApp_encS {s : List (Str × Nat)} {x : Str} {k : Nat} (h : s.length < 16777216) : sApp (encS s) [.tup [.str x, .int (k : Nat)]] = some (encS (s ++ [(x, k)]), .non) := by
  unfold encS
  rw [sApp_l, if_pos (by rw [List.length_map, sl_eq]; exact h), List.map_append]
  rfl
theorem rep0 (rows : RowsS) : (rows.map fun _ => U.int 0) = (List.replicate rows.length 0).map fun k : Nat => U.int (k : Nat) := by
  rw [List.map_const', List.map_replicate]
  rfl
theorem mq_nm {rows : RowsS} (h : RowsOk rows) {c : Nat → Nat} (j : Nat) : ∀ x ∈ (mq rows c j).2.1, isNm x = true := by
  intro x hx
  have hx : x ∈ rw0 rows j := hx
  cases z : rows[j]? with
  | some p =>
    rw [rw0_eq z] at hx
    exact h.bl p (List.mem_of_getElem? z) x hx
  | none =>
    unfold rw0 at hx
    rw [List.getD_eq_getElem?_getD, z] at hx
    cases hx
theorem ev_law_least_rooms (o : Bool) (rows : RowsS) (h : RowsOk rows) : ∃ (c : List Nat) (order : List Nat), c.length = rows.length ∧ KM.Stable (norm rows) (evs (norm rows)) (KM.cf c) ∧ KM.Bfs (norm rows) (KM.cf c) (evs (norm rows)) order.length order ∧
    φ_law_least_rooms [(o, encH rows)] = .ok (true, encL (lrows (norm rows) (KM.cf c) order)) [some (false, encH rows)] := by
  refine fnS_post (fun r => ∃ (c : List Nat) (order : List Nat), c.length = rows.length ∧ KM.Stable (norm rows) (evs (norm rows)) (KM.cf c) ∧ KM.Bfs (norm rows) (KM.cf c) (evs (norm rows)) order.length order ∧ r = .ok (true, encL (lrows (norm rows) (KM.cf c) order)) [some (false, encH rows)]) (b := b_law_least_rooms) rfl (by decide) ?_
  show (b_law_least_rooms [some (o, encH rows), none, none, none, none, none, none, none, none, none, none, none, none, none, none]).post _
  have ho := norm_ok h
  have hf := fit_of ho
  have nl := norm_len (rows := rows)
  have n0 := ho.n0
  have n1 := h.n1
  have ew := evs_norm rows
  have lc1 := lc_eq (t := tgN 12) (te := mF (mBin sIx (mSl 12) (mR (mC (.int 1))))) (vs := [12]) (s := ⟨rows.map encHr, [], none⟩) (e := [some (false, encH rows), none, none, none, none, none, none, none, none, none, none, none, none, none, none]) rows encHr (fun r => .dct (encD r.2)) rfl rfl (by rw [sl_eq]; omega) (by rw [clr_nt]; simp) (by
    intro r hr
    simp [item])
  have ks : ksOf (rows.map (·.2)) = rows.flatMap fun r => r.2.map (·.1) := by unfold ksOf; rw [List.flatMap_map]
  have kn := ev_law_known (rows.map (·.2)) (by rw [ks]; exact h.sd)
  rw [ks, show sortS (dedS (rows.flatMap fun r => r.2.map (·.1))) = evs rows from rfl, ← ew] at kn
  simp only [List.map_map] at kn
  have kn2 : φ_law_known [(false, .lst (rows.map fun r => .dct (encD r.2)))] = .ok (true, .lst ((evs (norm rows)).map .str)) [some (false, .lst (rows.map fun r => .dct (encD r.2)))] := kn
  have lc2 := lc_eq (t := tgN 12) (te := mC (.int 0)) (vs := [12]) (s := ⟨rows.map encHr, [], none⟩) (e := [some (false, encH rows), some (true, .lst ((evs (norm rows)).map .str)), none, none, none, none, none, none, none, none, none, none, none, none, none]) rows encHr (fun r => .int 0) rfl rfl (by rw [sl_eq]; omega) (by rw [clr_nt]; simp) (by
    intro r hr
    simp [item])
  rw [rep0] at lc2
  have ha : ∀ (b : Bool) (k : Ks), (b_law_least_rooms [some (b, encH rows), none, none, none, none, none, none, none, none, none, none, none, none, none, none]).post k = (b_law_least_rooms [some (false, encH rows), none, none, none, none, none, none, none, none, none, none, none, none, none, none]).post k := by
    intro b k
    cases b
    · rfl
    · unfold b_law_least_rooms; simp [lc1]
  rw [ha o]
  unfold b_law_least_rooms
  simp [lc1, kn2, lc2, -List.map_map, -List.map_replicate]
  obtain ⟨I, hI⟩ : ∃ I : Nat → En → Prop, ∀ n e, I n e ↔ ∃ (b1 b2 : Bool) (k : Nat) (c : List Nat) (z7 z8 z9 z11 z13 : Sl), n + k = rows.length + 1 ∧ CrsSt (norm rows) k c ∧ (nt z9 ∧ nt z11 ∧ nt z13) ∧
    e = [some (false, encH rows), some (b1, .lst ((evs (norm rows)).map .str)), some (b2, encC c), some (false, .int (k : Nat)), none, none, none, z7, z8, z9, none, z11, none, z13, none] := ⟨_, fun _ _ => Iff.rfl⟩
  have st0 : CrsSt (norm rows) 0 (List.replicate rows.length 0) := ⟨by simp [nl], ⟨1, by rw [← nl]; exact crs0 n0⟩, .inl rfl⟩
  refine post_mWhl I (rows.length + 1) ((hI _ _).mpr ⟨true, true, 0, List.replicate rows.length 0, none, none, none, none, none, rfl, st0, ⟨trivial, trivial, trivial⟩, rfl⟩) ?_
  intro n e hin
  obtain ⟨b1, b2, k, c, z7, z8, z9, z11, z13, hn, hc, ⟨hz9, hz11, hz13⟩, rfl⟩ := (hI _ _).mp hin
  obtain ⟨m, gm⟩ := hc.go
  have mx := sMx_c hc.ln n0 gm.cl
  have mn := gm.cl.le
  have cln := hc.ln
  have lr : lim62 (rows.length : Int) = true := lim62_ok (by omega) (by omega)
  unfold wturn
  simp [mx]
  split
  · rename_i hk
    simp [lr]
    obtain ⟨J, hJ⟩ : ∃ J : List Nat → En → Prop, ∀ done e, J done e ↔ ∃ (b1 : Bool) (z9 z11 z13 : Sl), (nt z9 ∧ nt z11 ∧ nt z13) ∧ e = [some (false, encH rows), some (b1, .lst ((evs (norm rows)).map .str)), some (b2, encC c), some (false, .int (m : Nat)), none, none, none,
      some (true, .lst ((KM.nub (done.map (mq (norm rows) (KM.cf c)))).map encQ)), some (true, encC (KM.numb (done.map (mq (norm rows) (KM.cf c))))), z9, none, z11, none, z13, none] := ⟨_, fun _ _ => Iff.rfl⟩
    refine post_forL (List.range rows.length) (fun i : Nat => .int (i : Nat)) rfl J ((hJ _ _).mpr ⟨b1, z9, z11, z13, ⟨hz9, hz11, hz13⟩, rfl⟩) ?_ ?_
    · intro done i rest e hms hin
      obtain ⟨b1, z9, z11, z13, ⟨hz9, hz11, hz13⟩, rfl⟩ := (hJ _ _).mp hin
      have hi : i < rows.length := List.mem_range.mp (hms ▸ List.mem_append.mpr (.inr List.mem_cons_self))
      have rg : rows[i]? = some rows[i] := List.getElem?_eq_getElem hi
      have hb := h.bn _ (List.getElem_mem hi)
      have ss := sSS_str (xs := rows[i].1) (by omega) (by
        have := KM.nodup_len (nodup_dedS rows[i].1) (ys := rows[i].1) fun x hx => mem_dedS.mp hx
        omega)
      have dl : done.length < 1000 := by
        have := congrArg List.length hms
        simp at this
        omega
      have f2 := fit_of h
      have lc := lc_eq (t := tgN 11) (te := mF (mBin sIx (mSl 2) (mR (mF (mMr isD sGetD (mR (mF (mBin sIx (mR (mF (mBin sIx (mSl 0) (mSl 9)))) (mR (mC (U.int 1)))))) (mVc (mN 11) (mVc (mN 9) mVn))))))) (vs := [11]) (s := ⟨(evs (norm rows)).map U.str, [], none⟩)
        (e := [some (false, encH rows), some (false, .lst ((evs (norm rows)).map .str)), some (b2, encC c), some (false, .int (m : Nat)), none, none, none,
          some (true, .lst ((KM.nub (done.map (mq (norm rows) (KM.cf c)))).map encQ)), some (true, encC (KM.numb (done.map (mq (norm rows) (KM.cf c))))), some (false, .int (i : Nat)), none, z11, none, z13, none]) (evs (norm rows)) U.str (fun e => .int (KM.cf c (KM.goal rows i e) : Nat)) rfl rfl (by have := evs_len ho; rw [sl_eq]; omega) (by rw [clr_nt]; simp [hz11]) (by
        intro e he
        have := KM.goal_lt f2 hi (e := e)
        simp [item, atI_at rg, goal_of rg, atI_cf, cln, nl, this])
      generalize hM : mq (norm rows) (KM.cf c) i = M
      generalize hms2 : done.map (mq (norm rows) (KM.cf c)) = ms at lc
      have hq : U.tup [.int (KM.cf c i : Nat), .lst ((sortS (dedS rows[i].1)).map .str), .lst ((evs (norm rows)).map fun e => .int (KM.cf c (KM.goal rows i e) : Nat))] = encQ M := by
        rw [← hM]
        unfold encQ mq
        rw [rw0_norm hi, rw0_eq rg, List.map_map]
        simp only [goal_norm]
        rfl
      have nmM : ∀ x ∈ M.2.1, isNm x = true := hM ▸ mq_nm ho i
      have nms : ∀ q ∈ KM.nub ms, ∀ x ∈ q.2.1, isNm x = true := fun q hq => by
        rw [KM.mem_nub, ← hms2] at hq
        obtain ⟨j, _, rfl⟩ := List.mem_map.mp hq
        exact mq_nm ho j
      have nms2 : ∀ q ∈ KM.nub (ms ++ [M]), ∀ x ∈ q.2.1, isNm x = true := fun q hq => by
        rw [KM.mem_nub, List.mem_append, List.mem_singleton] at hq
        rcases hq with hq | hq
        · exact nms q (KM.mem_nub.mpr hq)
        · subst hq; exact nmM
      have mln : ms.length = done.length := by rw [← hms2, List.length_map]
      have nbl : (KM.nub ms).length < 16777216 := by
        have := KM.nub_len (xs := ms)
        omega
      have nul : (KM.numb ms).length < 16777216 := by rw [KM.numb_len]; omega
      have ni := notin_encQ nms nmM
      have ix := index_encQ nms2 (m := M) (KM.mem_nub.mpr (by simp))
      have ns := numb_snoc (xs := ms) (x := M)
      have goalJ : ∀ z : Sl, nt z → J (done ++ [i]) [some (false, encH rows), some (false, .lst ((evs (norm rows)).map .str)), some (b2, encC c), some (false, .int (m : Nat)), none, none, none,
          some (true, .lst ((KM.nub (ms ++ [M])).map encQ)), some (true, encC (KM.numb (ms ++ [M]))), some (false, .int (i : Nat)), none, z11, none, z, none] := fun z hz => by
        refine (hJ _ _).mpr ⟨false, some (false, .int (i : Nat)), z11, z, ⟨trivial, hz11, hz⟩, ?_⟩
        rw [List.map_append, List.map_cons, List.map_nil, hms2, hM]
      by_cases q : M ∈ KM.nub ms
      · have nn : KM.nub (ms ++ [M]) = KM.nub ms := by rw [KM.nub_snoc, if_pos q]
        rw [nn] at ix ns
        have gj := goalJ (some (false, encQ M)) trivial
        rw [nn, ns] at gj
        cases b1
        all_goals
          simp [turn, -List.map_map, atI_at rg, hb, ss, lc, atI_cf, cln, nl, hi, hq, ni, q, ix, nul]
          simpa [-List.map_map, encC] using gj
      · have nn : KM.nub (ms ++ [M]) = KM.nub ms ++ [M] := by rw [KM.nub_snoc, if_neg q]
        rw [nn] at ix ns
        have gj := goalJ (some (false, encQ M)) trivial
        rw [nn, ns] at gj
        cases b1
        all_goals
          simp [turn, -List.map_map, atI_at rg, hb, ss, lc, atI_cf, cln, nl, hi, hq, ni, q, nbl, nul]
          simp [-List.map_map] at ix
          simp [-List.map_map, ix, nul]
          simpa [-List.map_map, encC] using gj
    · intro e hin
      obtain ⟨b1, z9, z11, z13, ⟨hz9, hz11, hz13⟩, rfl⟩ := (hJ _ _).mp hin
      have eM : (List.range rows.length).map (mq (norm rows) (KM.cf c)) = mqs (norm rows) (KM.cf c) := by unfold mqs; rw [nl]
      rw [eM]
      simp
      refine ⟨rows.length + 1 - m, by omega, (hI _ _).mpr ⟨b1, false, m, KM.numb (mqs (norm rows) (KM.cf c)), _, _, z9, z11, z13, by omega, ⟨by rw [KM.numb_len, mqs_len], ⟨_, crs_step gm⟩, .inr ⟨_, gm, rfl⟩⟩, ⟨hz9, hz11, hz13⟩, rfl⟩⟩
  · rename_i hk
    have st := hc.done hf n0 gm (by omega)
    clear hI hin I st0 mx
    obtain ⟨I, hI⟩ : ∃ I : Nat → En → Prop, ∀ n e, I n e ↔ ∃ (b1 : Bool) (at_ : Nat) (order : List Nat) (z9 z10 z11 z14 : Sl), n + at_ = rows.length ∧ KM.Bfs (norm rows) (KM.cf c) (evs (norm rows)) at_ order ∧ (nt z9 ∧ nt z11 ∧ nt z14) ∧
      e = [some (false, encH rows), some (b1, .lst ((evs (norm rows)).map .str)), some (b2, encC c), some (false, .int (k : Nat)), some (true, encO order), some (true, .lst ((order.map fun r => encLr (lrow (norm rows) (KM.cf c) order r)).take at_)), some (false, .int (at_ : Nat)), z7, z8, z9, z10, z11, none, z13, z14] := ⟨_, fun _ _ => Iff.rfl⟩
    refine post_mWhl I rows.length ((hI _ _).mpr ⟨b1, 0, [0], z9, none, z11, none, rfl, .zero, ⟨hz9, hz11, trivial⟩, rfl⟩) ?_
    intro n e hin
    obtain ⟨b1, at_, order, z9, z10, z11, z14, hn, bf, ⟨hz9, hz11, hz14⟩, rfl⟩ := (hI _ _).mp hin
    obtain ⟨od, odl⟩ := bf.ord hf n0
    have ol := od.len
    unfold wturn
    simp
    split
    · rename_i hk2
      have hr : order[at_]? = some order[at_] := List.getElem?_eq_getElem hk2
      generalize hrr : order[at_] = r at hr
      have rl0 := od.lt r (List.mem_of_getElem? hr)
      have rl : r < rows.length := by rw [nl] at rl0; exact rl0
      have rg : rows[r]? = some rows[r] := List.getElem?_eq_getElem rl
      have f2 := fit_of h
      obtain ⟨J, hJ⟩ : ∃ J : List Str → En → Prop, ∀ done e, J done e ↔ ∃ (z9 z11 z14 : Sl), (nt z9 ∧ nt z11 ∧ nt z14) ∧
        e = [some (false, encH rows), some (false, .lst ((evs (norm rows)).map .str)), some (b2, encC c), some (false, .int (k : Nat)), some (true, encO (KM.ords (norm rows) (KM.cf c) r done order)), some (true, .lst ((order.map fun r => encLr (lrow (norm rows) (KM.cf c) order r)).take at_)), some (false, .int (at_ : Nat)), z7, z8, z9,
          some (true, encS (KM.stepsOf (norm rows) (KM.cf c) (KM.ords (norm rows) (KM.cf c) r done order) r done)), z11, none, z13, z14] := ⟨_, fun _ _ => Iff.rfl⟩
      have fin : ∀ κ : Ks, (∀ e, J (evs (norm rows)) e → κ.N e) → (forL (tgN 11)
          ((mAsg 14 (mMr isD sGetD (mR (mF (mBin sIx (mR (mF (mBin sIx (mSl 0) (mR (mF (mBin sIx (mSl 4) (mSl 6))))))) (mR (mC (.int 1)))))) (mVc (mN 11) (mVc (mF (mBin sIx (mSl 4) (mSl 6))) mVn)))).seq
          (mIf (mTst (mBin sNe2 (mR (mF (mBin sIx (mSl 2) (mSl 14)))) (mR (mF (mBin sIx (mSl 2) (mR (mF (mBin sIx (mSl 4) (mSl 6)))))))))
          ((mIf (mTst (mBin sNotIn2 (mR (mF (mBin sIx (mSl 2) (mSl 14)))) (mR (mF (mLc (mItN 4) (tgN 9) (M.ret true) (mF (mBin sIx (mSl 2) (mSl 9))) [9])))))
          (mDrp (mF (mMu isL sApp 4 (mVc (mN 14) mVn))))
          MS.nop).seq
          (mDrp (mF (mMu isL sApp 10 (mVc (mF (mTup (mVc (mN 11) (mVc (mF (mMr isL sIndex (mR (mF (mLc (mItN 4) (tgN 9) (M.ret true) (mF (mBin sIx (mSl 2) (mSl 9))) [9]))) (mVc (mF (mBin sIx (mSl 2) (mSl 14))) mVn))) mVn)))) mVn)))))
          MS.nop)) none [] ((evs (norm rows)).map .str) [some (false, encH rows), some (false, .lst ((evs (norm rows)).map .str)), some (b2, encC c), some (false, .int (k : Nat)), some (true, encO order), some (true, .lst ((order.map fun r => encLr (lrow (norm rows) (KM.cf c) order r)).take at_)), some (false, .int (at_ : Nat)), z7, z8, z9, some (true, .lst []), z11, none, z13, z14]).post κ := by
        intro κ hκ
        refine post_forL (evs (norm rows)) U.str rfl J ((hJ _ _).mpr ⟨z9, z11, z14, ⟨hz9, hz11, hz14⟩, rfl⟩) ?_ hκ
        intro done x rest e hms hin
        obtain ⟨z9, z11, z14, ⟨hz9, hz11, hz14⟩, rfl⟩ := (hJ _ _).mp hin
        have gl0 := KM.goal_lt hf rl0 (e := x)
        have gl1 : KM.goal (norm rows) r x = KM.goal rows r x := goal_norm r x
        generalize hg : KM.goal (norm rows) r x = g at gl0 gl1
        have hg2 : (KM.lk rows[r].2 x).getD r = g := by rw [goal_of rg, gl1]
        have gl : g < rows.length := by rw [nl] at gl0; exact gl0
        obtain ⟨tt, ht⟩ := KM.ords_ext (rows := norm rows) (c := KM.cf c) (r := r) (order := order) (ev := done)
        generalize hoo : KM.ords (norm rows) (KM.cf c) r done order = o1 at ht
        have od1 : KM.Ord (norm rows) (KM.cf c) o1 := hoo ▸ od.steps hf rl0
        have o1l := od1.len
        have has1 : KM.Has (norm rows) (KM.cf c) o1 r done := hoo ▸ KM.has_ords
        have ro : o1[at_]? = some r := by rw [ht, List.getElem?_append, if_pos hk2]; exact hr
        have c1 : atI (c.map fun k => U.int (k : Nat)) (g : Int) = some (.int (KM.cf c g : Nat)) := atI_cf (by omega)
        have c2 : atI (c.map fun k => U.int (k : Nat)) (r : Int) = some (.int (KM.cf c r : Nat)) := atI_cf (by omega)
        have dn : (done.length : Nat) < 64 := by
          have := evs_len ho
          rw [hms] at this
          simp at this
          omega
        have sl : (KM.stepsOf (norm rows) (KM.cf c) o1 r done).length < 16777216 := by
          have : (KM.stepsOf (norm rows) (KM.cf c) o1 r done).length ≤ done.length := by
            unfold KM.stepsOf; rw [List.length_map]; exact List.length_filter_le _ _
          omega
        have lcG : ∀ (o2 : List Nat) (z10 z11 z14 : Sl), (∀ x ∈ o2, x < rows.length) → o2.length ≤ 2000 → lcR (tgN 9) (M.ret true) (mF (mBin sIx (mSl 2) (mSl 9))) [9] ⟨o2.map fun k => U.int (k : Nat), o2.map fun k => U.int (k : Nat), some 4⟩
            [some (false, encH rows), some (false, .lst ((evs (norm rows)).map .str)), some (b2, encC c), some (false, .int (k : Nat)), some (true, encO o2), some (true, .lst ((order.map fun r => encLr (lrow (norm rows) (KM.cf c) order r)).take at_)), some (false, .int (at_ : Nat)), z7, z8, z9, z10, z11, none, z13, z14] =
            .ok (true, .lst ((o2.map (KM.cf c)).map fun k => U.int (k : Nat))) [some (false, encH rows), some (false, .lst ((evs (norm rows)).map .str)), some (b2, encC c), some (false, .int (k : Nat)), some (true, encO o2), some (true, .lst ((order.map fun r => encLr (lrow (norm rows) (KM.cf c) order r)).take at_)), some (false, .int (at_ : Nat)), z7, z8, z9, z10, z11, none, z13, z14] := by
          intro o2 z10 z11 z14 h2 l2
          rw [List.map_map]
          refine lc_eqG (t := tgN 9) o2 (fun k => U.int (k : Nat)) (fun i => U.int (KM.cf c i : Nat)) (by simp [gOK]) rfl (by rw [sl_eq]; omega) (by rw [clr_nt]; simp [hz9]) ?_
          intro i hi
          have := h2 i hi
          simp [item, atI_cf, cln, nl, this]
        have o1b : ∀ x ∈ o1, x < rows.length := fun x hx => by have := od1.lt x hx; rwa [nl] at this
        have o1l2 : o1.length ≤ 1000 := by omega
        by_cases q : KM.cf c g = KM.cf c r
        · simp [turn, atI_at rg, atI_at ro, hg2, c1, c2, q]
          refine (hJ _ _).mpr ⟨z9, some (false, .str x), some (false, .int (g : Nat)), ⟨hz9, trivial, trivial⟩, ?_⟩
          have e1 : KM.ords (norm rows) (KM.cf c) r (done ++ [x]) order = o1 := by
            rw [KM.ords_snoc, hoo]; unfold KM.ord1; rw [hg, if_neg (fun z => z.1 q)]
          rw [e1, KM.stepsOf_snoc, hg, if_neg (fun z => z q), List.append_nil]
        · have q' : ¬ ((KM.cf c g : Int) = (KM.cf c r : Int)) := by omega
          have ol2 : o1.length < 16777216 := by omega
          by_cases q2 : KM.cf c g ∈ o1.map (KM.cf c)
          · have lg := lcG o1 (some (true, encS (KM.stepsOf (norm rows) (KM.cf c) o1 r done))) (some (false, .str x)) (some (false, .int (g : Nat))) o1b (by omega)
            have ni := notin_ints (x := KM.cf c g) (c := o1.map (KM.cf c))
            have ix := index_ints q2
            have q3 : decide (KM.cf c g ∈ o1.map (KM.cf c)) = true := decide_eq_true q2
            rw [q3] at ni
            simp only [turn]
            simp [-List.map_map, -List.mem_map, atI_at rg, atI_at ro, hg2, c1, c2, q', lg, ni, ix, isL_encS, sApp_encS sl]
            refine (hJ _ _).mpr ⟨z9, some (false, .str x), some (false, .int (g : Nat)), ⟨hz9, trivial, trivial⟩, ?_⟩
            have e1 : KM.ords (norm rows) (KM.cf c) r (done ++ [x]) order = o1 := by
              rw [KM.ords_snoc, hoo]; unfold KM.ord1; rw [hg, if_neg (fun z => z.2 q2)]
            rw [e1, KM.stepsOf_snoc, hg, if_pos q]
            rfl
          · have m2 : KM.cf c g ∈ (o1 ++ [g]).map (KM.cf c) := by simp
            have lg := lcG o1 (some (true, encS (KM.stepsOf (norm rows) (KM.cf c) o1 r done))) (some (false, .str x)) (some (false, .int (g : Nat))) o1b (by omega)
            have lg2 := lcG (o1 ++ [g]) (some (true, encS (KM.stepsOf (norm rows) (KM.cf c) o1 r done))) (some (false, .str x)) (some (false, .int (g : Nat))) (fun y hy => by
              rcases List.mem_append.mp hy with hy | hy
              · exact o1b y hy
              · rw [List.mem_singleton.mp hy]; exact gl) (by rw [List.length_append, List.length_singleton]; omega)
            have ni := notin_ints (x := KM.cf c g) (c := o1.map (KM.cf c))
            have ix := index_ints m2
            have q3 : decide (KM.cf c g ∈ o1.map (KM.cf c)) = false := decide_eq_false q2
            rw [q3] at ni
            have e3 : ((o1 ++ [g]).map (KM.cf c)).idxOf (KM.cf c g) = o1.length := by
              rw [List.map_append, List.idxOf_append, if_neg q2]
              simp
            rw [e3] at ix
            simp only [encO, List.map_append, List.map_cons, List.map_nil] at lg2
            simp only [List.map_append, List.map_cons, List.map_nil] at ix
            simp only [turn]
            simp [-List.map_map, -List.mem_map, atI_at rg, atI_at ro, hg2, c1, c2, q', lg, ni, ol2, isL_encS, sApp_encS sl]
            simp [-List.map_map, -List.mem_map, c1, lg2, ix, isL_encS, sApp_encS sl]
            refine (hJ _ _).mpr ⟨z9, some (false, .str x), some (false, .int (g : Nat)), ⟨hz9, trivial, trivial⟩, ?_⟩
            have e1 : KM.ords (norm rows) (KM.cf c) r (done ++ [x]) order = o1 ++ [g] := by
              rw [KM.ords_snoc, hoo]; unfold KM.ord1; rw [hg, if_pos ⟨q, q2⟩]
            have e2 : KM.stepsOf (norm rows) (KM.cf c) (o1 ++ [g]) r done = KM.stepsOf (norm rows) (KM.cf c) o1 r done := KM.stepsOf_ext has1
            have e4 : KM.ixc (KM.cf c) (o1 ++ [g]) g = o1.length := e3
            rw [e1, KM.stepsOf_snoc, hg, if_pos q, e2, e4]
            simp only [encO, List.map_append, List.map_cons, List.map_nil]
      have bf2 : KM.Bfs (norm rows) (KM.cf c) (evs (norm rows)) (at_ + 1) (KM.ords (norm rows) (KM.cf c) r (evs (norm rows)) order) := .succ r bf hr
      obtain ⟨tt, ht⟩ := KM.ords_ext (rows := norm rows) (c := KM.cf c) (r := r) (order := order) (ev := evs (norm rows))
      generalize hoo : KM.ords (norm rows) (KM.cf c) r (evs (norm rows)) order = o2 at bf2 ht
      have fnd : (List.take at_ (order.map fun r => encLr (lrow (norm rows) (KM.cf c) order r))) ++ [.tup [.lst ((sortS (dedS rows[r].1)).map U.str), encS (KM.stepsOf (norm rows) (KM.cf c) o2 r (evs (norm rows)))]] = (o2.map fun r => encLr (lrow (norm rows) (KM.cf c) o2 r)).take (at_ + 1) := by
        have hr2 : o2[at_]? = some r := by rw [ht, List.getElem?_append, if_pos hk2]; exact hr
        rw [List.take_succ, List.getElem?_map, hr2]
        simp only [Option.map_some, Option.toList_some]
        congr 1
        · rw [ht, List.map_append, List.take_append_of_le_length (by simp; omega), ← List.map_take, ← List.map_take]
          apply List.map_congr_left
          intro x hx
          obtain ⟨j, hj⟩ := List.mem_iff_getElem?.mp hx
          rw [List.getElem?_take] at hj
          split at hj
          · rename_i hjk
            have hs := bf.has j x hjk hj
            have := KM.stepsOf_ext (t := tt) hs
            unfold lrow
            rw [this]
          · cases hj
        · unfold lrow encLr
          rw [rw0_norm rl, rw0_eq rg]
      have hb := h.bn _ (List.getElem_mem rl)
      have ss := sSS_str (xs := rows[r].1) (by omega) (by
        have := KM.nodup_len (nodup_dedS rows[r].1) (ys := rows[r].1) fun x hx => mem_dedS.mp hx
        omega)
      have mn2 : min at_ order.length < 16777216 := by omega
      have ro2 : o2[at_]? = some r := by rw [ht, List.getElem?_append, if_pos hk2]; exact hr
      cases b1
      all_goals
        simp
        refine fin _ ?_
        intro e he
        obtain ⟨z9, z11, z14, ⟨hz9, hz11, hz14⟩, rfl⟩ := (hJ _ _).mp he
        rw [hoo]
        simp [-List.map_map, atI_at rg, atI_at ro2, hb, ss, mn2, fnd]
        refine ⟨n - 1, by omega, (hI _ _).mpr ⟨false, at_ + 1, o2, z9, some (false, encS (KM.stepsOf (norm rows) (KM.cf c) o2 r (evs (norm rows)))), z11, z14, by omega, bf2, ⟨hz9, hz11, hz14⟩, ?_⟩⟩
        rfl
    · rename_i hk2
      have e1 : at_ = order.length := by omega
      subst e1
      simp [outS_eq, prL, List.range_succ]
      refine ⟨c, by rw [cln, nl], st, order, bf, ?_⟩
      rw [List.take_of_length_le (by simp)]
      simp [encL, lrows]
end VS
set_option linter.all false
set_option maxRecDepth 100000
set_option maxHeartbeats 1000000
namespace VS
open PySem L2
abbrev RowI := List (Str × Int)
abbrev encI (r : RowI) : List (U × U) := r.map fun p => (.str p.1, .int p.2)
def lkI (r : RowI) (x : Str) : Option Int := (r.find? fun p => decide (p.1 = x)).map (·.2)
theorem dfind_encI (s : RowI) (e : Str) : dfind (encI s) (.str e) = (lkI s e).map .int := by
  unfold lkI
  rw [Option.map_map]
  exact dfind_map U.str str_inj U.int s e
theorem okD_encI (s : RowI) (e : Str) : okD (encI s) (.str e) = true := by simp [okD, encI, isK1]
theorem asStrs_keysI (s : RowI) : asStrs ((encI s).map (·.1)) = some (s.map (·.1)) := by
  have : (encI s).map (·.1) = (s.map (·.1)).map U.str := by simp [encI]
  rw [this, asStrs_map]
theorem sSorted_I {s : RowI} (h : s.length < 64) : sSorted [.dct (encI s)] = some (true, .lst ((sortS (s.map (·.1))).map .str)) := by
  have h1 : sSortS [.dct (encI s)] = none := rfl
  have h2 : sSortI [.dct (encI s)] = none := rfl
  rw [show sSorted = orN sSortS (orN sSortI sSortD) from rfl, orN_none h1, orN_none h2]
  unfold sSortD
  dsimp only
  rw [asStrs_keysI]
  simp [h]
theorem isK1_encI {r : RowI} : ((encI r).all fun p => isK1 p.1) = true := by simp [encI, isK1]
theorem sDict2_I {r : RowI} : sDict2 [.dct (encI r)] = some (true, .dct (encI r)) := orN_of (by unfold sDictC; dsimp only; rw [if_pos isK1_encI])
theorem lkI_mem {r : RowI} {x : Str} (h : x ∈ r.map (·.1)) : ∃ v, lkI r x = some v ∧ (x, v) ∈ r := by
  unfold lkI
  obtain ⟨p, hp, q⟩ := List.mem_map.mp h
  cases z : r.find? fun p => decide (p.1 = x) with
  | none =>
    rw [List.find?_eq_none] at z
    exact absurd (by simpa using q) (z p hp)
  | some y =>
    have h1 := List.find?_some z
    have h2 := List.mem_of_find?_eq_some z
    simp at h1
    exact ⟨y.2, rfl, by rw [← h1]; exact h2⟩
theorem lkI_of {r : RowI} (nd : (r.map (·.1)).Nodup) {p : Str × Int} (h : p ∈ r) : lkI r p.1 = some p.2 := by
  induction r with
  | nil => cases h
  | cons q r ih =>
    rw [List.map_cons, List.nodup_cons] at nd
    unfold lkI
    rw [List.find?_cons]
    rcases List.mem_cons.mp h with e | h
    · subst e; simp
    · have : ¬ q.1 = p.1 := fun e => nd.1 (by rw [e]; exact List.mem_map.mpr ⟨p, h, rfl⟩)
      simp only [this, decide_false]
      exact ih nd.2 h
abbrev RoomI := List Str × RowI
abbrev encHi (r : RoomI) : U := .tup [.lst (r.1.map .str), .dct (encI r.2)]
abbrev encHs (rows : List RoomI) : U := .lst (rows.map encHi)
abbrev Er := Str × U
def badBl (x : Str) : Option Er := if isNm x = true then none else some ("InvalidName", .str x)
def badKey (n i : Nat) (r : RowI) (x : Str) : Option Er :=
  if isNm x = true then (if 0 ≤ (lkI r x).getD 0 ∧ (lkI r x).getD 0 < (n : Int) then none else some ("InvalidStep", .tup [.int (i : Nat), .str x])) else some ("InvalidName", .str x)
def badRow (n i : Nat) (r : RowI) : Option Er := (sortS (r.map (·.1))).findSome? (badKey n i r)
def badRoom (n i : Nat) (r : RoomI) : Option Er := match r.1.findSome? badBl with
  | some e => some e
  | none => badRow n i r.2
def duR (rows : List RoomI) : Option Er := rows.zipIdx.findSome? fun p => badRoom rows.length p.2 p.1
structure Wd (x : Str) : Prop where
  ln : x.length ≤ 100
  ok : PyData.strOk x = true
structure TxtR (rows : List RoomI) : Prop where
  n0 : 0 < rows.length
  n1 : rows.length ≤ 1000
  bl : ∀ r ∈ rows, r.1.length < 64 ∧ ∀ x ∈ r.1, Wd x
  st : ∀ r ∈ rows, r.2.length < 64 ∧ (∀ p ∈ r.2, Wd p.1) ∧ (r.2.map (·.1)).Nodup
def erF (outs : En) : Option Er → RF
  | none => .ok (false, .non) outs
  | some (c, u) => .exc c u outs
theorem findSome_none {α β : Type} {f : α → Option β} {d r : List α} (h : d.findSome? f = none) : (d ++ r).findSome? f = r.findSome? f := by
  rw [List.findSome?_append, h]
  rfl
theorem sNotIn_cs {c : Nat} {z : Str} : sNotIn (.str ⟨#[c]⟩) (.str z) = some (false, .bl (!decide (c ∈ z.cps.toList))) := by
  simp [sNotIn, orS, sInF, sInS]
theorem filt_nil {α : Type} {p : α → Bool} {f : α → U} {xs : List α} : decide ((xs.filter p).map f = []) = xs.all fun x => !p x := by
  rw [Bool.eq_iff_iff, decide_eq_true_eq, List.all_eq_true, List.map_eq_nil_iff, List.filter_eq_nil_iff]
  simp
theorem ev_law_is_name (x : Str) (hx : Wd x) : φ_law_is_name [(false, .str x)] = .ok (false, .bl (isNm x)) [some (false, .str x)] := by
  have hx2 := hx.ln
  have hx3 : x.length ≤ 16777216 := by omega
  refine fnS_post (fun r => r = .ok (false, .bl (isNm x)) [some (false, .str x)]) rfl (by decide) ?_
  have hl : (x.cps.toList).length = x.length := by simp [Str.length]
  unfold b_law_is_name
  by_cases h1 : x.length < 1
  · have h3 : ¬ 0 < x.length := by omega
    have g1 : ((x.length : Nat) : Int) < 1 := by omega
    simp [hx3, g1, h3, isNm, outS_eq, prL]
  · have h3 : 0 < x.length := by omega
    have g1 : ¬ ((x.length : Nat) : Int) < 1 := by omega
    by_cases h2 : 8 < x.length
    · have h4 : ¬ x.length ≤ 8 := by omega
      have g2 : (8 : Int) < ((x.length : Nat) : Int) := by omega
      simp [hx3, g1, g2, h4, isNm, outS_eq, prL]
    · have h4 : x.length ≤ 8 := by omega
      have g2 : ¬ (8 : Int) < ((x.length : Nat) : Int) := by omega
      have hc := lcF_eq (t := tgN 1) (tt := mTst (mBin sNotIn (mSl 1) (mR (mC (.str "abcdefghijklmnopqrstuvwxyz"))))) (te := mN 1) (vs := [1]) (s := ⟨strL x, [], none⟩) (e := [some (false, .str x), none]) x.cps.toList (fun c => .str ⟨#[c]⟩) (fun c => !decide (c ∈ ("abcdefghijklmnopqrstuvwxyz" : Str).cps.toList)) (fun c => .str ⟨#[c]⟩) rfl rfl (by rw [sl_eq]; omega) (by rw [clr_nt]; simp) (by
        intro c hc
        by_cases q : c ∈ ("abcdefghijklmnopqrstuvwxyz" : Str).cps.toList
        · simp [-Array.mem_toList_iff, itemF, sNotIn_cs, q]
        · simp [-Array.mem_toList_iff, itemF, sNotIn_cs, q])
      have e0 : sEq false (.lst ((x.cps.toList.filter fun c => !decide (c ∈ ("abcdefghijklmnopqrstuvwxyz" : Str).cps.toList)).map fun c => U.str ⟨#[c]⟩)) (.lst []) = some (false, .bl (isNm x)) := by
        rw [sEqD_ll (n := 1) (by decide) (dat_all fun u hu => ?_) rfl]
        · have h5 := hx.ok
          simp only [Bool.false_eq_true, if_false, filt_nil]
          unfold isNm
          simp [h3, h4]
        · obtain ⟨c, hc, rfl⟩ := List.mem_map.mp hu
          have h5 := hx.ok
          have h6 := (List.mem_filter.mp hc).1
          unfold PyData.strOk at h5
          rw [Array.all_eq_true'] at h5
          have h7 := h5 c (by simpa using h6)
          show PyData.strOk ⟨#[c]⟩ = true
          unfold PyData.strOk
          simpa using h7
      simp [-Array.mem_toList_iff, hx3, g1, g2, hc, e0, outS_eq, prL]
theorem enc_enum (rows : List RoomI) : enumL (rows.map encHi) = rows.zipIdx.map fun p => .tup [.int (p.2 : Nat), encHi p.1] := enumL_map encHi rows
theorem ev_check_roomsI (o : Bool) (rows : List RoomI) (ht : TxtR rows) : φ_check_rooms [(o, encHs rows)] = erF [some (false, encHs rows)] (duR rows) := by
  refine fnS_post (fun z => z = erF [some (false, encHs rows)] (duR rows)) rfl (by decide) ?_
  have ha : ∀ (b : Bool) (k : Ks), (b_check_rooms [some (b, encHs rows), none, none, none, none]).post k = (b_check_rooms [some (false, encHs rows), none, none, none, none]).post k := by
    intro b k
    cases b
    · rfl
    · unfold b_check_rooms; simp
  show (b_check_rooms [some (o, encHs rows), none, none, none, none]).post _
  rw [ha o]
  unfold b_check_rooms
  simp [-List.map_map, enc_enum]
  obtain ⟨g, hg⟩ : ∃ g : (RoomI × Nat) → Option Er, g = fun p => badRoom rows.length p.2 p.1 := ⟨_, rfl⟩
  obtain ⟨J, hJ⟩ : ∃ J : List (RoomI × Nat) → En → Prop, ∀ d e', J d e' ↔ ∃ (z1 z2 z3 z4 : Sl), d.findSome? g = none ∧ e' = [some (false, encHs rows), z1, z2, z3, z4] := ⟨_, fun _ _ => Iff.rfl⟩
  have du0 : duR rows = rows.zipIdx.findSome? g := by rw [hg]; rfl
  refine post_forL rows.zipIdx (fun p => .tup [.int (p.2 : Nat), encHi p.1]) rfl J ((hJ _ _).mpr ⟨none, none, none, none, rfl, rfl⟩) ?_ ?_
  · intro done x rest e' hms hin
    obtain ⟨z1, z2, z3, z4, hd, rfl⟩ := (hJ _ _).mp hin
    have hx : x ∈ rows.zipIdx := by rw [hms]; simp
    obtain ⟨r, i⟩ := x
    have hr : r ∈ rows := (List.mem_zipIdx hx).2.2 ▸ List.getElem_mem _
    have hdu : duR rows = ((r, i) :: rest).findSome? g := by rw [du0, hms, findSome_none hd]
    rw [List.findSome?_cons] at hdu
    have hgi : g (r, i) = badRoom rows.length i r := by rw [hg]
    obtain ⟨bl1, bl2⟩ := ht.bl r hr
    obtain ⟨st1, st2, st3⟩ := ht.st r hr
    simp [-List.map_map, turn]
    obtain ⟨G, hG⟩ : ∃ G : List Str → En → Prop, ∀ d e', G d e' ↔ ∃ z2 : Sl, d.findSome? badBl = none ∧ e' = [some (false, encHs rows), some (false, .int (i : Nat)), z2, some (false, .lst (r.1.map .str)), some (false, .dct (encI r.2))] := ⟨_, fun _ _ => Iff.rfl⟩
    refine post_forL r.1 U.str rfl G ((hG _ _).mpr ⟨z2, rfl, rfl⟩) ?_ ?_
    · intro done2 x rest2 e' hms2 hin
      obtain ⟨z2, hd2, rfl⟩ := (hG _ _).mp hin
      have hxm : x ∈ r.1 := by rw [hms2]; simp
      have en := ev_is_name x (by rw [sl_eq]; have := (bl2 x hxm).ln; omega)
      by_cases q : isNm x = true
      · simp [-List.map_map, turn, en, q]
        refine (hG _ _).mpr ⟨_, ?_, rfl⟩
        rw [findSome_none hd2]
        simp [badBl, q]
      · have q1 : isNm x = false := by simpa using q
        have hb : r.1.findSome? badBl = some ((("InvalidName" : Str), U.str x) : Er) := by
          rw [hms2, findSome_none hd2, List.findSome?_cons]
          simp [badBl, q1]
        have h1 : badRoom rows.length i r = some ((("InvalidName" : Str), U.str x) : Er) := by unfold badRoom; rw [hb]
        rw [hgi, h1] at hdu
        simp [-List.map_map, turn, en, q1, outS_eq, prL, List.range_succ, hdu, erF]
    · intro e' he
      obtain ⟨z2, hd2, rfl⟩ := (hG _ _).mp he
      have h1 : badRoom rows.length i r = badRow rows.length i r.2 := by unfold badRoom; rw [hd2]
      rw [h1] at hgi
      simp [-List.map_map, sSorted_I st1]
      obtain ⟨G2, hG2⟩ : ∃ G2 : List Str → En → Prop, ∀ d e', G2 d e' ↔ ∃ z2 : Sl, d.findSome? (badKey rows.length i r.2) = none ∧ e' = [some (false, encHs rows), some (false, .int (i : Nat)), z2, some (false, .lst (r.1.map .str)), some (false, .dct (encI r.2))] := ⟨_, fun _ _ => Iff.rfl⟩
      refine post_forL (sortS (r.2.map (·.1))) U.str rfl G2 ((hG2 _ _).mpr ⟨z2, rfl, rfl⟩) ?_ ?_
      · intro done3 x rest3 e' hms3 hin
        obtain ⟨z2, hd3, rfl⟩ := (hG2 _ _).mp hin
        have hxm : x ∈ sortS (r.2.map (·.1)) := by rw [hms3]; simp
        rw [mem_sortS] at hxm
        obtain ⟨v, hv, hm⟩ := lkI_mem hxm
        have en := ev_is_name x (by rw [sl_eq]; have := (st2 _ hm).ln; dsimp only at this; omega)
        have hb : badRow rows.length i r.2 = (x :: rest3).findSome? (badKey rows.length i r.2) := by unfold badRow; rw [hms3, findSome_none hd3]
        rw [List.findSome?_cons] at hb
        by_cases q1 : isNm x = true
        · by_cases q2 : 0 ≤ v ∧ v < (rows.length : Int)
          · have bk : badKey rows.length i r.2 x = none := by unfold badKey; rw [if_pos q1, hv, Option.getD_some, if_pos q2]
            have e1 : 0 ≤ v := q2.1
            have e2 : v < (rows.length : Int) := q2.2
            simp only [turn]
            simp [-List.map_map, en, q1, okD_encI, dfind_encI, hv, e1, e2]
            exact (hG2 _ _).mpr ⟨_, by rw [findSome_none hd3]; simp [bk], rfl⟩
          · have bk : badKey rows.length i r.2 x = some ((("InvalidStep" : Str), U.tup [.int (i : Nat), .str x]) : Er) := by unfold badKey; rw [if_pos q1, hv, Option.getD_some, if_neg q2]
            rw [bk] at hb
            rw [hgi, hb] at hdu
            simp only [turn]
            by_cases e1 : 0 ≤ v
            · have e2 : ¬ v < (rows.length : Int) := fun z => q2 ⟨e1, z⟩
              simp [-List.map_map, en, q1, okD_encI, dfind_encI, hv, e1, e2, outS_eq, prL, List.range_succ, hdu, erF]
            · simp [-List.map_map, en, q1, okD_encI, dfind_encI, hv, e1, outS_eq, prL, List.range_succ, hdu, erF]
        · have bk : badKey rows.length i r.2 x = some ((("InvalidName" : Str), U.str x) : Er) := by unfold badKey; rw [if_neg q1]
          rw [bk] at hb
          rw [hgi, hb] at hdu
          have q1' : isNm x = false := by simpa using q1
          simp only [turn]
          simp [-List.map_map, en, q1', outS_eq, prL, List.range_succ, hdu, erF]
      · intro e' he
        obtain ⟨z2, hd3, rfl⟩ := (hG2 _ _).mp he
        have hb : badRow rows.length i r.2 = none := hd3
        simp
        refine (hJ _ _).mpr ⟨_, _, _, _, ?_, rfl⟩
        rw [findSome_none hd]
        simp [hgi, hb]
  · intro e' he
    obtain ⟨z1, z2, z3, z4, hd, rfl⟩ := (hJ _ _).mp he
    have hb : duR rows = none := by rw [du0]; exact hd
    simp [-List.map_map, outS_eq, prL, List.range_succ, hb, erF]
end VS
set_option linter.all false
set_option maxRecDepth 100000
set_option maxHeartbeats 1000000
namespace VS
open PySem L2
theorem duR_range (rows : List RoomI) : duR rows = (List.range rows.length).findSome? fun k => badRoom rows.length k (rows.getD k ([], [])) := by
  unfold duR
  have : rows.zipIdx = (List.range rows.length).map fun k => (rows.getD k ([], []), k) := by
    apply List.ext_getElem
    · simp
    · intro i h1 h2
      have h3 : i < rows.length := by simpa using h1
      simp [h3]
  rw [this, List.findSome?_map]
  rfl
def tlE (e : Er) : U := if e.1 = ("InvalidName" : Str) then .tup [.str "name", e.2] else .tup [.str "step", e.2]
def dueU (rows : List RoomI) (n : Nat) : U := match duR rows with
  | some e => tlE e
  | none => .tup [.str "keeper", .int (n : Nat)]
theorem tlE_n {u : U} : tlE ((("InvalidName" : Str), u) : Er) = .tup [.str "name", u] := if_pos rfl
theorem tlE_s {u : U} : tlE ((("InvalidStep" : Str), u) : Er) = .tup [.str "step", u] := if_neg (show ¬ (("InvalidStep" : Str) = "InvalidName") from by decide)
theorem ev_law_due (rows : List RoomI) (ht : TxtR rows) (us : List U) (hL : duR rows = none → φ_law_least_rooms [(false, encHs rows)] = .ok (true, .lst us) [some (false, encHs rows)]) : ∃ o2 outs, φ_law_due [(false, encHs rows)] = .ok (o2, dueU rows us.length) outs := by
  refine fnS_post (fun z => ∃ o2 outs, z = .ok (o2, dueU rows us.length) outs) rfl (by decide) ?_
  show (b_law_due [some (false, encHs rows), none, none]).post _
  have n1 := ht.n1
  have l6 : lim62 (rows.length : Int) = true := lim62_ok (by omega) (by omega)
  obtain ⟨g, hg⟩ : ∃ g : Nat → Option Er, g = fun k => badRoom rows.length k (rows.getD k ([], [])) := ⟨_, rfl⟩
  have du0 : duR rows = (List.range rows.length).findSome? g := by rw [hg]; exact duR_range rows
  unfold b_law_due
  simp [-List.map_map, l6]
  obtain ⟨J, hJ⟩ : ∃ J : List Nat → En → Prop, ∀ d e', J d e' ↔ ∃ (z1 z2 : Sl), d.findSome? g = none ∧ e' = [some (false, encHs rows), z1, z2] := ⟨_, fun _ _ => Iff.rfl⟩
  refine post_forL (List.range rows.length) (fun k : Nat => .int (k : Nat)) rfl J ((hJ _ _).mpr ⟨none, none, rfl, rfl⟩) ?_ ?_
  · intro done i rest e' hms hin
    obtain ⟨z1, z2, hd, rfl⟩ := (hJ _ _).mp hin
    have hi : i < rows.length := List.mem_range.mp (hms ▸ List.mem_append.mpr (.inr List.mem_cons_self))
    have rg : rows[i]? = some rows[i] := List.getElem?_eq_getElem hi
    have hr : rows[i] ∈ rows := List.getElem_mem hi
    generalize rows[i] = r at rg hr
    have hdu : duR rows = (i :: rest).findSome? g := by rw [du0, hms, findSome_none hd]
    rw [List.findSome?_cons] at hdu
    have hgi : g i = badRoom rows.length i r := by rw [hg]; dsimp only; rw [List.getD_eq_getElem?_getD, rg]; rfl
    obtain ⟨bl1, bl2⟩ := ht.bl r hr
    obtain ⟨st1, st2, st3⟩ := ht.st r hr
    have ai : atI (rows.map encHi) (i : Int) = some (encHi r) := atI_at rg
    simp [-List.map_map, turn, ai]
    obtain ⟨G, hG⟩ : ∃ G : List Str → En → Prop, ∀ d e', G d e' ↔ ∃ z2 : Sl, d.findSome? badBl = none ∧ e' = [some (false, encHs rows), some (false, .int (i : Nat)), z2] := ⟨_, fun _ _ => Iff.rfl⟩
    refine post_forL r.1 U.str rfl G ((hG _ _).mpr ⟨z2, rfl, rfl⟩) ?_ ?_
    · intro done2 x rest2 e' hms2 hin
      obtain ⟨z2, hd2, rfl⟩ := (hG _ _).mp hin
      have hxm : x ∈ r.1 := by rw [hms2]; simp
      have en := ev_law_is_name x (bl2 x hxm)
      by_cases q : isNm x = true
      · simp [-List.map_map, turn, en, q]
        refine (hG _ _).mpr ⟨_, ?_, rfl⟩
        rw [findSome_none hd2]
        simp [badBl, q]
      · have q1 : isNm x = false := by simpa using q
        have hb : r.1.findSome? badBl = some ((("InvalidName" : Str), U.str x) : Er) := by
          rw [hms2, findSome_none hd2, List.findSome?_cons]
          simp [badBl, q1]
        have h1 : badRoom rows.length i r = some ((("InvalidName" : Str), U.str x) : Er) := by unfold badRoom; rw [hb]
        rw [hgi, h1] at hdu
        simp [-List.map_map, turn, en, q1, outS_eq, prL, List.range_succ, dueU, hdu, tlE_n]
    · intro e' he
      obtain ⟨z2, hd2, rfl⟩ := (hG _ _).mp he
      have h1 : badRoom rows.length i r = badRow rows.length i r.2 := by unfold badRoom; rw [hd2]
      rw [h1] at hgi
      simp [-List.map_map, ai, sSorted_I st1]
      obtain ⟨G2, hG2⟩ : ∃ G2 : List Str → En → Prop, ∀ d e', G2 d e' ↔ ∃ z2 : Sl, d.findSome? (badKey rows.length i r.2) = none ∧ e' = [some (false, encHs rows), some (false, .int (i : Nat)), z2] := ⟨_, fun _ _ => Iff.rfl⟩
      refine post_forL (sortS (r.2.map (·.1))) U.str rfl G2 ((hG2 _ _).mpr ⟨z2, rfl, rfl⟩) ?_ ?_
      · intro done3 x rest3 e' hms3 hin
        obtain ⟨z2, hd3, rfl⟩ := (hG2 _ _).mp hin
        have hxm : x ∈ sortS (r.2.map (·.1)) := by rw [hms3]; simp
        rw [mem_sortS] at hxm
        obtain ⟨v, hv, hm⟩ := lkI_mem hxm
        have en := ev_law_is_name x (st2 _ hm)
        have hb : badRow rows.length i r.2 = (x :: rest3).findSome? (badKey rows.length i r.2) := by unfold badRow; rw [hms3, findSome_none hd3]
        rw [List.findSome?_cons] at hb
        have ix : ∀ e : En, sIx (.dct (encI r.2)) (.str x) = some (false, .int v) := fun _ => by simp [okD_encI, dfind_encI, hv]
        by_cases q1 : isNm x = true
        · by_cases q2 : 0 ≤ v ∧ v < (rows.length : Int)
          · have bk : badKey rows.length i r.2 x = none := by unfold badKey; rw [if_pos q1, hv, Option.getD_some, if_pos q2]
            have e1 : ¬ v < 0 := by omega
            have e2 : ¬ (rows.length : Int) ≤ v := by omega
            simp only [turn]
            simp [-List.map_map, en, q1, ai, okD_encI, dfind_encI, hv, e1, e2]
            exact (hG2 _ _).mpr ⟨_, by rw [findSome_none hd3]; simp [bk], rfl⟩
          · have bk : badKey rows.length i r.2 x = some ((("InvalidStep" : Str), U.tup [.int (i : Nat), .str x]) : Er) := by unfold badKey; rw [if_pos q1, hv, Option.getD_some, if_neg q2]
            rw [bk] at hb
            rw [hgi, hb] at hdu
            simp only [turn]
            by_cases e1 : v < 0
            · simp [-List.map_map, en, q1, ai, okD_encI, dfind_encI, hv, e1, outS_eq, prL, List.range_succ, dueU, hdu, tlE_s]
            · have e2 : (rows.length : Int) ≤ v := by omega
              simp [-List.map_map, en, q1, ai, okD_encI, dfind_encI, hv, e1, e2, outS_eq, prL, List.range_succ, dueU, hdu, tlE_s]
        · have bk : badKey rows.length i r.2 x = some ((("InvalidName" : Str), U.str x) : Er) := by unfold badKey; rw [if_neg q1]
          rw [bk] at hb
          rw [hgi, hb] at hdu
          have q1' : isNm x = false := by simpa using q1
          simp only [turn]
          simp [-List.map_map, en, q1', outS_eq, prL, List.range_succ, dueU, hdu, tlE_n]
      · intro e' he
        obtain ⟨z2, hd3, rfl⟩ := (hG2 _ _).mp he
        have hb : badRow rows.length i r.2 = none := hd3
        refine (hJ _ _).mpr ⟨_, _, ?_, rfl⟩
        rw [findSome_none hd]
        simp [hgi, hb]
  · intro e' he
    obtain ⟨z1, z2, hd, rfl⟩ := (hJ _ _).mp he
    have hb : duR rows = none := by rw [du0]; exact hd
    have hl := hL hb
    simp [-List.map_map, hl, outS_eq, prL, List.range_succ, dueU, hb]
end VS
set_option linter.all false
set_option maxRecDepth 100000
set_option maxHeartbeats 1000000
namespace VS
open PySem L2
theorem cutU_map {α : Type} (g : α → U) (xs : List α) (lo hi : Option Int) : cutU (xs.map g) lo hi = (cutG xs lo hi).map g := by
  unfold cutU cutG
  rw [List.length_map, ← List.map_drop, ← List.map_take]
theorem cutG_mem {α : Type} {xs : List α} {lo hi : Option Int} {x : α} (h : x ∈ cutG xs lo hi) : x ∈ xs := List.mem_of_mem_drop (List.mem_of_mem_take h)
theorem sIx_pos {n d : Nat} {k : Int} (h : 0 ≤ k) : HT.sIx n d (some k) = min k.toNat n := by
  have := HT.sIx_nat n d k.toNat
  rwa [Int.toNat_of_nonneg h] at this
theorem cutG_pre {α : Type} {xs : List α} {k : Int} (h : 0 ≤ k) : cutG xs none (some k) = xs.take k.toNat := by
  unfold cutG
  rw [HT.sIx_none, sIx_pos h, List.drop_zero, Nat.sub_zero]
  rcases Nat.le_total k.toNat xs.length with h | h
  · rw [Nat.min_eq_left h]
  · rw [Nat.min_eq_right h, List.take_of_length_le (Nat.le_refl _), List.take_of_length_le h]
theorem cutG_suf {α : Type} {xs : List α} {k : Int} (h : 0 ≤ k) : cutG xs (some k) none = xs.drop k.toNat := by
  unfold cutG
  rw [HT.sIx_none, sIx_pos h]
  rcases Nat.le_total k.toNat xs.length with h | h
  · rw [Nat.min_eq_left h, List.take_of_length_le (by rw [List.length_drop]; omega)]
  · rw [Nat.min_eq_right h, List.drop_of_length_le (Nat.le_refl _), List.drop_of_length_le h]; simp
theorem cutG_mid {α : Type} {xs : List α} {a b : Int} (h : 0 ≤ a) (h2 : a ≤ b) (h3 : b ≤ xs.length) : (cutG xs (some a) (some b)).length = (b - a).toNat := by
  unfold cutG
  rw [sIx_pos h, sIx_pos (by omega), List.length_take, List.length_drop]
  omega
def SGN : List Nat := (" -AZ09_.{`/&\x40[" : Str).cps.toList
theorem SGN_len : SGN.length = 14 := by decide +kernel
theorem SGNS_len : (" -AZ09_.{`/&\x40[" : Str).length = 14 := by decide +kernel
def sgn1 (k : Int) : Nat := SGN.getD k.toNat 32
theorem SGN_ok : ∀ c ∈ SGN, c < 1114112 := by decide +kernel
theorem sgn1_ok (k : Int) : sgn1 k < 1114112 := by
  unfold sgn1
  rw [List.getD_eq_getElem?_getD]
  cases h : SGN[k.toNat]? with
  | none => decide
  | some c => exact SGN_ok c (List.mem_of_getElem? h)
theorem sIx_sgn {k : Int} (h0 : 0 ≤ k) (h1 : k < 14) : sIx (.str (Str.ofString " -AZ09_.{`/&\x40[")) (.int k) = some (false, .str (S [sgn1 k])) := by
  rw [sIx_s, if_pos (by rw [SGNS_len]; decide)]
  have : atI SGN k = some (sgn1 k) := by
    rw [atI_int h0 (by rw [SGN_len]; exact h1)]
    unfold sgn1
    rw [List.getD_eq_getElem?_getD, List.getElem?_eq_getElem (by rw [SGN_len]; omega)]
    rfl
  have e : atI (Str.ofString " -AZ09_.{`/&\x40[").cps.toList k = some (sgn1 k) := this
  rw [e]
  rfl
abbrev encW (ls : List (List Nat)) : U := .lst (ls.map fun l => .str (S l))
structure WdL (b : List Nat) : Prop where
  ln : b.length ≤ 11
  ok : ∀ c ∈ b, c < 1114112
theorem Nml.ok {l : List Nat} (h : Nml l) : ∀ c ∈ l, c < 1114112 := fun c hc => LET_ok c (h.2.2 c hc)
theorem cutL_suf {xs : List Nat} {k : Int} (h : 0 ≤ k) : cutL xs (some k) none = xs.drop k.toNat := cutG_suf (xs := xs) h
theorem ev_law_bad (o1 o2 : Bool) (ls : List (List Nat)) (h8 : ls.length = 8) (hn : ∀ l ∈ ls, Nml l) (ds : List Int) (hd : Digs ds 5) : ∃ b : List Nat, WdL b ∧ φ_law_bad [(o1, encW ls), (o2, .lst (ds.map .int))] = .ok (false, .str (S b)) [some (o1, encW ls), some (o2, .lst (ds.map .int))] := by
  refine fnS_post (fun r => ∃ b : List Nat, WdL b ∧ r = .ok (false, .str (S b)) [some (o1, encW ls), some (o2, .lst (ds.map .int))]) rfl (by decide) ?_
  show (b_law_bad [some (o1, encW ls), some (o2, .lst (ds.map .int)), none, none, none]).post _
  have hl := hd.ln
  have at_ : ∀ i : Int, 0 ≤ i → i < 5 → atI (ds.map U.int) i = some (.int (dg ds i)) := fun i h0 h1 => atI_d h0 (by omega)
  have dgb : ∀ i : Int, 0 ≤ i → i < 5 → 0 ≤ dg ds i ∧ dg ds i < 60 := fun i h0 h1 => hd.lo _ (dg_mem h0 (by omega))
  have a0 := at_ 0 (by decide) (by decide)
  have a1 := at_ 1 (by decide) (by decide)
  have a2 := at_ 2 (by decide) (by decide)
  have a3 := at_ 3 (by decide) (by decide)
  have a4 := at_ 4 (by decide) (by decide)
  rw [atI_0] at a0
  rw [atI_1] at a1
  obtain ⟨i, hi⟩ : ∃ i : Nat, (i : Int) = dg ds 0 % 5 := ⟨(dg ds 0 % 5).toNat, by omega⟩
  have i8 : i < ls.length := by omega
  have gi : ls[i]? = some ls[i] := List.getElem?_eq_getElem i8
  have wn := hn _ (List.getElem_mem i8)
  generalize ls[i] = w at gi wn
  have ai : atI (ls.map fun l => U.str (S l)) (i : Int) = some (.str (S w)) := atI_at gi
  have w8 := wn.2.1
  have w0 := wn.1
  have wok := wn.ok
  unfold b_law_bad
  simp [a0, a1, sMod_ii, ← hi, ai]
  by_cases c0 : dg ds 1 % 5 = 0
  · simp [c0, outS_eq, prL, List.range_succ]
    refine ⟨[], ⟨by simp, fun c hc => by simp at hc⟩, rfl⟩
  · by_cases c1 : dg ds 1 % 5 = 1
    · have m9 := sMul_S (l := w) (k := 9) (by decide) (by decide) (by omega)
      obtain ⟨K, hK⟩ : ∃ K : Int, K = 9 + dg ds 2 % 3 * (if 1 < (w.length : Int) then 1 else 0) := ⟨_, rfl⟩
      have m3 := sMul_l (i := dg ds 2 % 3) (j := if 1 < (w.length : Int) then 1 else 0) (by omega) (by omega)
      have K0 : 0 ≤ K ∧ K ≤ 11 := by
        rw [hK]
        split <;> omega
      have fl : (List.replicate 9 w).flatten.length = 9 * w.length := by simp; omega
      have sc := sSlc_s (x := S (List.replicate 9 w).flatten) (lo := none) (hi := some K) (by rw [S_len, fl]; omega)
      have c9 := cutL_pre (l := (List.replicate 9 w).flatten) (k := K) K0.1
      rw [cutS_S, c9] at sc
      have wl62 : w.length ≤ 16777216 := by omega
      have e5 : (List.take K.toNat (List.replicate 9 w).flatten).length ≤ 11 := by
        rw [List.length_take]
        omega
      have hfin : ∀ c ∈ List.take K.toNat (List.replicate 9 w).flatten, c < 1114112 := fun c hc => by
        obtain ⟨l, h1, h2⟩ := List.mem_flatten.mp (List.mem_of_mem_take hc)
        rw [List.eq_of_mem_replicate h1] at h2
        exact wok c h2
      have m9' : sMulS (.str (S w)) (.int 9) = some (false, .str (S (List.replicate 9 w).flatten)) := m9
      generalize (List.replicate 9 w).flatten = q at *
      by_cases z : 1 < (w.length : Int)
      · have z2 : 1 < w.length := by omega
        rw [if_pos z] at hK m3
        rw [Int.mul_one] at hK m3
        subst hK
        simp [c0, c1, S_len, m9', a2, sMod_ii, wl62, z, m3, sc, outS_eq, prL, List.range_succ]
        exact ⟨_, ⟨e5, hfin⟩, rfl⟩
      · have z2 : ¬ 1 < w.length := by omega
        rw [if_neg z] at hK m3
        rw [Int.mul_zero] at hK m3
        rw [Int.add_zero] at hK
        subst hK
        simp [c0, c1, S_len, m9', a2, sMod_ii, wl62, z, m3, sc, outS_eq, prL, List.range_succ]
        exact ⟨_, ⟨e5, hfin⟩, rfl⟩
    · have md := sMod_ii (i := dg ds 2) (j := (w.length : Int) + 1) (by omega)
      obtain ⟨K, hK⟩ : ∃ K : Int, K = dg ds 2 % ((w.length : Int) + 1) := ⟨_, rfl⟩
      have K0 : 0 ≤ K := by rw [hK]; exact Int.emod_nonneg _ (by omega)
      have sg := sIx_sgn (k := dg ds 3 % 14) (by omega) (by omega)
      have p1 := sSlc_s (x := S w) (lo := none) (hi := some K) (by rw [S_len]; omega)
      have p2 := sSlc_s (x := S w) (lo := some K) (hi := none) (by rw [S_len]; omega)
      rw [cutS_S, cutL_pre K0] at p1
      rw [cutS_S, cutL_suf K0] at p2
      obtain ⟨M, hM⟩ : ∃ M : Int, M = 8 + dg ds 4 % 2 := ⟨_, rfl⟩
      have M0 : 0 ≤ M := by omega
      have tl : (w.take K.toNat ++ [sgn1 (dg ds 3 % 14)] ++ w.drop K.toNat).length ≤ 9 := by
        simp only [List.length_append, List.length_take, List.length_drop, List.length_singleton]
        omega
      have tm : ∀ c ∈ w.take K.toNat ++ [sgn1 (dg ds 3 % 14)] ++ w.drop K.toNat, c < 1114112 := fun c hc => by
        rcases List.mem_append.mp hc with hc | hc
        · rcases List.mem_append.mp hc with hc | hc
          · exact wok c (List.mem_of_mem_take hc)
          · rw [List.mem_singleton.mp hc]; exact sgn1_ok _
        · exact wok c (List.mem_of_mem_drop hc)
      have p3 := sSlc_s (x := S (w.take K.toNat ++ [sgn1 (dg ds 3 % 14)] ++ w.drop K.toNat)) (lo := none) (hi := some M) (by rw [S_len]; omega)
      rw [cutS_S, cutL_pre M0] at p3
      have q1 : (w.take K.toNat).length ≤ 8 := by rw [List.length_take]; omega
      have q2 : (w.drop K.toNat).length ≤ 8 := by rw [List.length_drop]; omega
      have wl62 : w.length ≤ 16777216 := by omega
      generalize w.take K.toNat = x1 at *
      generalize w.drop K.toNat = x2 at *
      have q3 : x1.length ≤ 16777215 := by omega
      have q4 : x1.length + 1 + x2.length ≤ 16777216 := by omega
      have q5 : x1.length + (x2.length + 1) ≤ 16777216 := by omega
      have tl2 : ((x1 ++ [sgn1 (dg ds 3 % 14)] ++ x2).take M.toNat).length ≤ 11 := by rw [List.length_take]; omega
      have tm2 : ∀ c ∈ (x1 ++ [sgn1 (dg ds 3 % 14)] ++ x2).take M.toNat, c < 1114112 := fun c hc => tm c (List.mem_of_mem_take hc)
      simp only [List.append_assoc, List.cons_append, List.nil_append] at p3 tl2 tm2
      subst hM
      simp [c0, c1, S_len, a2, a3, a4, md, ← hK, sMod_ii, sg, p1, p2, wl62, S_app, q3, q4, q5, p3, outS_eq, prL, List.range_succ]
      exact ⟨_, ⟨tl2, tm2⟩, rfl⟩
end VS
set_option linter.all false
set_option maxRecDepth 100000
set_option maxHeartbeats 1000000
namespace VS
open PySem L2
abbrev lstS (xs : List Str) : U := .lst (xs.map .str)
abbrev dctI (r : RowI) : U := .dct (encI r)
theorem flD_lstS (xs : List Str) : flD (lstS xs) = true := by
  show ldfs _ = true
  induction xs with
  | nil => rfl
  | cons x xs ih => exact ih
theorem flD_dctI (r : RowI) : flD (dctI r) = true := by
  show (List.all _ _) = true
  rw [List.all_eq_true]
  intro p hp
  obtain ⟨q, _, rfl⟩ := List.mem_map.mp hp
  rfl
abbrev AA := Addr × Addr
abbrev tkT (p : AA) : U := .tup [.adr p.1, .adr p.2]
def flatA (ps : List AA) : List Addr := ps.flatMap fun p => [p.1, p.2]
def cellsP (ps : List AA) (rows : List RoomI) : List (Addr × U) := (ps.zip rows).flatMap fun q => [(q.1.1, lstS q.2.1), (q.1.2, dctI q.2.2)]
theorem sk_room {r : RoomI} {w : U} {L : List (Addr × U)} (k : Sk (encHi r) w L) : ∃ a b, w = tkT (a, b) ∧ L = [(a, lstS r.1), (b, dctI r.2)] := by
  simp only [Sk] at k
  obtain ⟨ws, rfl, k⟩ := k
  simp only [Sks] at k
  obtain ⟨w1, r1, L1, L2, e1, k1, ⟨w2, r2, L3, L4, e2, k2, ⟨e3, e4⟩, e5⟩, e6⟩ := k
  obtain ⟨a, e7, e8⟩ := ldf_sk (flD_lstS r.1) k1
  obtain ⟨b, e9, e10⟩ := ldf_sk (flD_dctI r.2) k2
  subst e1 e2 e3 e4 e5 e6 e7 e8 e9 e10
  exact ⟨a, b, rfl, rfl⟩
theorem sks_rooms : ∀ {rows : List RoomI} {ws : List U} {L : List (Addr × U)}, Sks (rows.map encHi) ws L → ∃ ps : List AA, ps.length = rows.length ∧ ws = ps.map tkT ∧ L = cellsP ps rows
  | [], ws, L, k => by
    simp only [List.map_nil, Sks] at k
    exact ⟨[], rfl, k.1, k.2⟩
  | r :: rows, ws, L, k => by
    rw [List.map_cons] at k
    simp only [Sks] at k
    obtain ⟨w, t, L1, L2, e, k1, k2, e2⟩ := k
    obtain ⟨a, b, e3, e4⟩ := sk_room k1
    obtain ⟨ps, l, e5, e6⟩ := sks_rooms k2
    exact ⟨(a, b) :: ps, by simp [l], by rw [e, e3, e5]; rfl, by rw [e2, e4, e6]; rfl⟩
theorem cellsP_fst : ∀ {ps : List AA} {rows : List RoomI}, ps.length = rows.length → (cellsP ps rows).map (·.1) = flatA ps
  | [], [], _ => rfl
  | p :: ps, r :: rows, h => by
    have ih := cellsP_fst (ps := ps) (rows := rows) (by simpa using h)
    show p.1 :: p.2 :: (cellsP ps rows).map (·.1) = p.1 :: p.2 :: flatA ps
    rw [ih]
  | [], _ :: _, h => by simp at h
  | _ :: _, [], h => by simp at h
theorem cellsP_mem {ps : List AA} {rows : List RoomI} {i : Nat} {p : AA} {r : RoomI} (h1 : ps[i]? = some p) (h2 : rows[i]? = some r) : (p.1, lstS r.1) ∈ cellsP ps rows ∧ (p.2, dctI r.2) ∈ cellsP ps rows := by
  have hm : (p, r) ∈ ps.zip rows := by
    refine List.mem_of_getElem? (i := i) ?_
    rw [List.getElem?_zip_eq_some]
    exact ⟨h1, h2⟩
  unfold cellsP
  rw [List.mem_flatMap, List.mem_flatMap]
  exact ⟨⟨_, hm, by simp⟩, ⟨_, hm, by simp⟩⟩
theorem flatA_mem {ps : List AA} {i : Nat} {p : AA} (h : ps[i]? = some p) : p.1 ∈ flatA ps ∧ p.2 ∈ flatA ps := by
  have hm := List.mem_of_getElem? h
  unfold flatA
  rw [List.mem_flatMap, List.mem_flatMap]
  exact ⟨⟨_, hm, by simp⟩, ⟨_, hm, by simp⟩⟩
theorem flatA_ne : ∀ {ps : List AA}, (flatA ps).Nodup → ∀ {i j : Nat} {p q : AA}, ps[i]? = some p → ps[j]? = some q → (p.1 = q.1 → i = j) ∧ (p.2 = q.2 → i = j) ∧ p.1 ≠ q.2
  | [], _, i, j, p, q, h, _ => by simp at h
  | x :: ps, nd, i, j, p, q, h, k => by
    have nd : (x.1 :: x.2 :: flatA ps).Nodup := nd
    rw [List.nodup_cons, List.nodup_cons] at nd
    obtain ⟨n1, n2, n3⟩ := nd
    have n1a : x.1 ≠ x.2 := fun e => n1 (by rw [e]; exact List.mem_cons_self)
    have n1b : x.1 ∉ flatA ps := fun e => n1 (List.mem_cons_of_mem _ e)
    cases i with
    | zero =>
      cases j with
      | zero =>
        rw [List.getElem?_cons_zero] at h k
        cases h
        cases k
        exact ⟨fun _ => rfl, fun _ => rfl, n1a⟩
      | succ j =>
        rw [List.getElem?_cons_zero] at h
        rw [List.getElem?_cons_succ] at k
        cases h
        have m := flatA_mem k
        exact ⟨fun e => absurd m.1 (by rw [← e]; exact n1b), fun e => absurd m.2 (by rw [← e]; exact n2), fun e => n1b (by rw [e]; exact m.2)⟩
    | succ i =>
      rw [List.getElem?_cons_succ] at h
      have m := flatA_mem h
      cases j with
      | zero =>
        rw [List.getElem?_cons_zero] at k
        cases k
        exact ⟨fun e => absurd m.1 (by rw [e]; exact n1b), fun e => absurd m.2 (by rw [e]; exact n2), fun e => n2 (by rw [← e]; exact m.1)⟩
      | succ j =>
        rw [List.getElem?_cons_succ] at k
        obtain ⟨a, b, c⟩ := flatA_ne n3 h k
        exact ⟨fun e => by rw [a e], fun e => by rw [b e], c⟩
structure CsP (T : Cel) (r : Addr) (ps : List AA) (rows : List RoomI) : Prop where
  rt : T r = some (.lst (ps.map tkT))
  ln : ps.length = rows.length
  nd : (flatA ps).Nodup
  nr : r ∉ flatA ps
  at_ : ∀ (i : Nat) p x, ps[i]? = some p → rows[i]? = some x → T p.1 = some (lstS x.1) ∧ T p.2 = some (dctI x.2)
theorem csP_new {T : Cel} {rows : List RoomI} {w : U} {L : List (Addr × U)} (k : Sk (encHs rows) w L) (nd : (L.map (·.1)).Nodup) : ∃ r ps, w = .adr r ∧ CsP (addC T L) r ps rows := by
  simp only [Sk] at k
  obtain ⟨r, ws, L', e, k, e2⟩ := k
  obtain ⟨ps, l, e3, e4⟩ := sks_rooms k
  subst e2 e3 e4
  rw [List.map_cons, List.nodup_cons, cellsP_fst l] at nd
  refine ⟨r, ps, e, ?_, l, nd.2, nd.1, fun i p x h1 h2 => ?_⟩
  · unfold addC
    rw [List.lookup_cons]
    simp
  · have m := cellsP_mem h1 h2
    have fm := flatA_mem h1
    have ne : ∀ a, a ∈ flatA ps → (a == r) = false := fun a ha => by
      cases z : a == r with
      | false => rfl
      | true => exact absurd ha (by rw [eq_of_beq z]; exact nd.1)
    have nd2 : ((cellsP ps rows).map (·.1)).Nodup := by rw [cellsP_fst l]; exact nd.2
    unfold addC
    constructor
    · rw [List.lookup_cons, ne _ fm.1]
      dsimp only
      rw [mem_lookup nd2 m.1]
    · rw [List.lookup_cons, ne _ fm.2]
      dsimp only
      rw [mem_lookup nd2 m.2]
theorem CsP.set1 {T : Cel} {r : Addr} {ps : List AA} {rows : List RoomI} (c : CsP T r ps rows) {i : Nat} {p : AA} {x : RoomI} (h : ps[i]? = some p) (hx : rows[i]? = some x) (xs : List Str) : CsP (cset T p.1 (some (lstS xs))) r ps (rows.set i (xs, x.2)) := by
  have am := flatA_mem h
  refine ⟨by rw [cset_ne fun z => c.nr (by rw [z]; exact am.1)]; exact c.rt, by simp [c.ln], c.nd, c.nr, fun j q y h1 h2 => ?_⟩
  obtain ⟨d1, d2, d3⟩ := flatA_ne c.nd h1 h
  obtain ⟨d4, d5, d6⟩ := flatA_ne c.nd h h1
  by_cases ij : i = j
  · subst ij
    rw [h] at h1
    cases h1
    rw [List.getElem?_set] at h2
    simp only [if_true] at h2
    split at h2
    · cases h2
      rw [cset_same, cset_ne (Ne.symm d6)]
      exact ⟨rfl, (c.at_ i p x h hx).2⟩
    · cases h2
  · rw [List.getElem?_set_ne ij] at h2
    rw [cset_ne fun z => ij (d1 z).symm, cset_ne (Ne.symm d6)]
    exact c.at_ j q y h1 h2
theorem CsP.set2 {T : Cel} {r : Addr} {ps : List AA} {rows : List RoomI} (c : CsP T r ps rows) {i : Nat} {p : AA} {x : RoomI} (h : ps[i]? = some p) (hx : rows[i]? = some x) (s : RowI) : CsP (cset T p.2 (some (dctI s))) r ps (rows.set i (x.1, s)) := by
  have am := flatA_mem h
  refine ⟨by rw [cset_ne fun z => c.nr (by rw [z]; exact am.2)]; exact c.rt, by simp [c.ln], c.nd, c.nr, fun j q y h1 h2 => ?_⟩
  obtain ⟨d1, d2, d3⟩ := flatA_ne c.nd h1 h
  by_cases ij : i = j
  · subst ij
    rw [h] at h1
    cases h1
    rw [List.getElem?_set] at h2
    simp only [if_true] at h2
    split at h2
    · cases h2
      rw [cset_same, cset_ne d3]
      exact ⟨(c.at_ i p x h hx).1, rfl⟩
    · cases h2
  · rw [List.getElem?_set_ne ij] at h2
    rw [cset_ne d3, cset_ne fun z => ij (d2 z).symm]
    exact c.at_ j q y h1 h2
theorem CsP.res {T : Cel} {r : Addr} {ps : List AA} {rows : List RoomI} (c : CsP T r ps rows) : VS.res T (.adr r) = encHs rows := by
  show resA T 6 r = _
  unfold resA
  rw [c.rt]
  show U.lst (rss _ _) = _
  rw [rss_map, List.map_map]
  congr 1
  apply List.ext_getElem
  · simp [c.ln]
  · intro i h1 h2
    have h3 : i < ps.length := by simpa using h1
    have h4 : i < rows.length := by simpa using h2
    rw [List.getElem_map, List.getElem_map]
    obtain ⟨e1, e2⟩ := c.at_ i (ps[i]'h3) rows[i] (List.getElem?_eq_getElem _) (List.getElem?_eq_getElem _)
    show U.tup [resA T 5 (ps[i]'h3).1, resA T 5 (ps[i]'h3).2] = _
    unfold resA
    rw [e1, e2]
    dsimp only
    rw [rs_flD (flD_lstS _), rs_flD (flD_dctI _)]
theorem skOk_rooms (rows : List RoomI) : skOk (encHs rows) = true := by
  show skOks (rows.map encHi) = true
  induction rows with
  | nil => rfl
  | cons r rows ih =>
    rw [List.map_cons]
    show (skOk (encHi r) && skOks (rows.map encHi)) = true
    rw [ih, Bool.and_true]
    show (skOk (lstS r.1) && (skOk (dctI r.2) && true)) = true
    rw [Bool.and_true, Bool.and_eq_true]
    exact ⟨ldfs_skOks (flD_lstS r.1), flD_dctI r.2⟩
end VS
set_option linter.all false
set_option maxRecDepth 100000
set_option maxHeartbeats 1000000
namespace VS
open PySem L2
def putI (s : RowI) (x : Str) (k : Int) : RowI := if (lkI s x).isSome then s.map (fun p => if p.1 = x then (p.1, k) else p) else s ++ [(x, k)]
theorem dset_encI (s : RowI) (x : Str) (k : Int) : dset (encI s) (.str x) (.int k) = encI (putI s x k) := by
  unfold dset putI
  rw [dfind_encI, Option.isSome_map]
  split
  · unfold encI
    rw [List.map_map, List.map_map]
    apply List.map_congr_left
    intro p _
    by_cases h : p.1 = x
    · simp [h]
    · have : ¬ U.str p.1 = U.str x := fun z => h (str_inj _ _ z)
      simp [h, this]
  · simp [encI]
theorem putI_len (s : RowI) (x : Str) (k : Int) : (putI s x k).length ≤ s.length + 1 := by
  unfold putI
  split <;> simp
theorem lkI_none {s : RowI} {x : Str} (h : ¬ (lkI s x).isSome = true) : x ∉ s.map (·.1) := fun z => by
  obtain ⟨v, hv, _⟩ := lkI_mem z
  rw [hv] at h
  exact h rfl
theorem putI_keys (s : RowI) (x : Str) (k : Int) : (putI s x k).map (·.1) = s.map (·.1) ∨ (x ∉ s.map (·.1) ∧ (putI s x k).map (·.1) = s.map (·.1) ++ [x]) := by
  unfold putI
  split
  · left
    rw [List.map_map]
    apply List.map_congr_left
    intro p _
    show (if p.1 = x then (p.1, k) else p).1 = p.1
    split <;> rfl
  · rename_i h
    right
    exact ⟨lkI_none h, by simp⟩
theorem putI_nd {s : RowI} {x : Str} {k : Int} (h : (s.map (·.1)).Nodup) : ((putI s x k).map (·.1)).Nodup := by
  rcases putI_keys s x k with e | ⟨n, e⟩
  · rw [e]; exact h
  · rw [e, List.nodup_append]
    refine ⟨h, by simp, fun a ha b hb z => ?_⟩
    rw [List.mem_singleton] at hb
    exact n (by rw [← hb, ← z]; exact ha)
theorem putI_mem {s : RowI} {x : Str} {k : Int} {y : Str} (h : y ∈ (putI s x k).map (·.1)) : y ∈ s.map (·.1) ∨ y = x := by
  rcases putI_keys s x k with e | ⟨n, e⟩
  · rw [e] at h; exact .inl h
  · rw [e] at h
    rcases List.mem_append.mp h with h | h
    · exact .inl h
    · exact .inr (List.mem_singleton.mp h)
open Classical in
noncomputable def badF (ls : List (List Nat)) (ds : List Int) : List Nat := if h : ls.length = 8 ∧ (∀ l ∈ ls, Nml l) ∧ Digs ds 5 then (ev_law_bad true false ls h.1 h.2.1 ds h.2.2).choose else []
theorem badF_ok (ls : List (List Nat)) (ds : List Int) (h1 : ls.length = 8) (h2 : ∀ l ∈ ls, Nml l) (h3 : Digs ds 5) : WdL (badF ls ds) ∧ φ_law_bad [(true, encW ls), (false, .lst (ds.map .int))] = .ok (false, .str (S (badF ls ds))) [some (true, encW ls), some (false, .lst (ds.map .int))] := by
  have e : badF ls ds = (ev_law_bad true false ls h1 h2 ds h3).choose := dif_pos ⟨h1, h2, h3⟩
  rw [e]
  exact (ev_law_bad true false ls h1 h2 ds h3).choose_spec
theorem WdL.wd {b : List Nat} (h : WdL b) : Wd (S b) := by
  refine ⟨by rw [S_len]; have := h.ln; omega, ?_⟩
  unfold PyData.strOk
  rw [Array.all_eq_true']
  intro c hc
  have : c ∈ b := by
    have := S_cps b
    rw [← this]
    simpa using hc
  exact decide_eq_true (h.ok c this)
theorem Nml.wd {l : List Nat} (h : Nml l) : Wd (S l) := WdL.wd ⟨by have := h.2.1; omega, h.ok⟩
def farF (n : Nat) (cell k : Int) : Int := if k = 0 then -1 else if k = 1 then (n : Int) else if k = 2 then (n : Int) + 1 + cell % 10 ^ 30 else -2 - cell % 10 ^ 30
noncomputable def spS (ls : List (List Nat)) (cell : Int) (more : List Int) (rows : List RoomI) : List RoomI :=
  let i := (dg more 0 % rows.length).toNat
  let w := S (badF ls (cutG more (some 1) (some 6)))
  let r := rows.getD i ([], [])
  if dg more 6 % 3 = 0 then rows.set i (r.1.take (dg more 7 % (r.1.length + 1)).toNat ++ [w] ++ r.1.drop (dg more 7 % (r.1.length + 1)).toNat, r.2)
  else if dg more 6 % 3 = 1 then rows.set i (r.1, putI r.2 w (dg more 7 % (rows.length + 2) - dg more 8 % 2))
  else rows.set i (r.1, putI r.2 (S (ls.getD (dg more 7 % 8).toNat [])) (farF rows.length cell (dg more 8 % 4)))
structure InSp (W : List Str) (k n : Nat) (rows : List RoomI) : Prop where
  ln : rows.length = n
  n0 : 0 < n
  n6 : n ≤ 6
  wl : W.length ≤ 8 + k
  wd : ∀ x ∈ W, Wd x
  bl : ∀ r ∈ rows, r.1.length ≤ 8 + k ∧ ∀ x ∈ r.1, Wd x
  st : ∀ r ∈ rows, r.2.length ≤ 8 + k ∧ (∀ p ∈ r.2, p.1 ∈ W) ∧ (r.2.map (·.1)).Nodup
theorem InSp.set {W : List Str} {k n : Nat} {rows : List RoomI} (h : InSp W k n rows) {i : Nat} {x : Str} (hx : Wd x) {r : RoomI} (h1 : r.1.length ≤ 8 + (k + 1) ∧ ∀ x ∈ r.1, Wd x) (h2 : r.2.length ≤ 8 + (k + 1) ∧ (∀ p ∈ r.2, p.1 ∈ W ++ [x]) ∧ (r.2.map (·.1)).Nodup) : InSp (W ++ [x]) (k + 1) n (rows.set i r) := by
  refine ⟨by rw [List.length_set]; exact h.ln, h.n0, h.n6, by rw [List.length_append, List.length_singleton]; have := h.wl; omega, fun y hy => ?_, fun q hq => ?_, fun q hq => ?_⟩
  · rcases List.mem_append.mp hy with hy | hy
    · exact h.wd y hy
    · rw [List.mem_singleton.mp hy]; exact hx
  · rcases List.mem_or_eq_of_mem_set hq with hq | rfl
    · have := h.bl q hq
      exact ⟨by omega, this.2⟩
    · exact h1
  · rcases List.mem_or_eq_of_mem_set hq with hq | rfl
    · obtain ⟨a, b, c⟩ := h.st q hq
      exact ⟨by omega, fun p hp => List.mem_append_left _ (b p hp), c⟩
    · exact h2
theorem InSp.step {W : List Str} {k n : Nat} {rows : List RoomI} (h : InSp W k n rows) {ls : List (List Nat)} (h8 : ls.length = 8) (hn : ∀ l ∈ ls, Nml l) (cell : Int) {more : List Int} (hd : Digs more 9) : ∃ x, InSp (W ++ [x]) (k + 1) n (spS ls cell more rows) := by
  have hl := hd.ln
  have d5 : Digs (cutG more (some 1) (some 6)) 5 := ⟨by rw [cutG_mid (by decide) (by decide) (by omega)]; rfl, fun d hdm => hd.lo d (cutG_mem hdm)⟩
  have bw := (badF_ok ls _ h8 hn d5).1.wd
  have rok : ∀ i : Nat, ((rows.getD i ([], [])).1.length ≤ 8 + k ∧ ∀ x ∈ (rows.getD i ([], [])).1, Wd x) ∧ (rows.getD i ([], [])).2.length ≤ 8 + k ∧ (∀ p ∈ (rows.getD i ([], [])).2, p.1 ∈ W) ∧ ((rows.getD i ([], [])).2.map (·.1)).Nodup := fun i => by
    rw [List.getD_eq_getElem?_getD]
    cases e : rows[i]? with
    | none => exact ⟨⟨by simp, fun x hx => by simp at hx⟩, by simp, fun p hp => by simp at hp, by simp⟩
    | some r => exact ⟨h.bl r (List.mem_of_getElem? e), h.st r (List.mem_of_getElem? e)⟩
  have putOk : ∀ (i : Nat) (x : Str) (v : Int), (putI (rows.getD i ([], [])).2 x v).length ≤ 8 + (k + 1) ∧ (∀ p ∈ putI (rows.getD i ([], [])).2 x v, p.1 ∈ W ++ [x]) ∧ ((putI (rows.getD i ([], [])).2 x v).map (·.1)).Nodup := fun i x v => by
    obtain ⟨_, a, b, c⟩ := rok i
    have := putI_len (rows.getD i ([], [])).2 x v
    refine ⟨by omega, fun p hp => ?_, putI_nd c⟩
    rcases putI_mem (List.mem_map.mpr ⟨p, hp, rfl⟩) with z | z
    · obtain ⟨q, hq, e⟩ := List.mem_map.mp z
      rw [← e]
      exact List.mem_append_left _ (b q hq)
    · rw [z]; simp
  unfold spS
  dsimp only
  split
  · refine ⟨_, h.set bw ⟨?_, fun x hx => ?_⟩ ?_⟩
    · have := (rok (dg more 0 % rows.length).toNat).1.1
      dsimp only
      simp only [List.length_append, List.length_take, List.length_drop, List.length_singleton]
      omega
    · dsimp only at hx
      rcases List.mem_append.mp hx with hx | hx
      · rcases List.mem_append.mp hx with hx | hx
        · exact (rok _).1.2 x (List.mem_of_mem_take hx)
        · rw [List.mem_singleton.mp hx]; exact bw
      · exact (rok _).1.2 x (List.mem_of_mem_drop hx)
    · obtain ⟨_, a, b, c⟩ := rok (dg more 0 % rows.length).toNat
      exact ⟨by dsimp only; omega, fun p hp => List.mem_append_left _ (b p hp), c⟩
  · split
    · refine ⟨_, h.set bw ?_ (putOk _ _ _)⟩
      have := (rok (dg more 0 % rows.length).toNat).1
      exact ⟨by dsimp only; omega, this.2⟩
    · refine ⟨_, h.set ?_ ?_ (putOk _ _ _)⟩
      · rw [List.getD_eq_getElem?_getD]
        cases e : ls[(dg more 7 % 8).toNat]? with
        | none => exact WdL.wd ⟨by simp, fun c hc => by simp at hc⟩
        | some l => exact (hn l (List.mem_of_getElem? e)).wd
      · have := (rok (dg more 0 % rows.length).toNat).1
        exact ⟨by dsimp only; omega, this.2⟩
def moreK (ds : List Int) (k : Nat) : List Int := cutG ds (some (1 + 9 * (k : Int))) (some (10 + 9 * (k : Int)))
noncomputable def spN (ls : List (List Nat)) (cell : Int) (ds : List Int) (rows : List RoomI) : Nat → List RoomI
  | 0 => rows
  | k + 1 => spS ls cell (moreK ds k) (spN ls cell ds rows k)
theorem moreK_ok {ds : List Int} (hd : Digs ds 28) {k : Nat} (hk : k < 3) : Digs (moreK ds k) 9 := by
  have hl := hd.ln
  exact ⟨by unfold moreK; rw [cutG_mid (by omega) (by omega) (by omega)]; omega, fun d hdm => hd.lo d (cutG_mem hdm)⟩
theorem InSp.steps {W : List Str} {n : Nat} {rows : List RoomI} (h : InSp W 0 n rows) {ls : List (List Nat)} (h8 : ls.length = 8) (hn : ∀ l ∈ ls, Nml l) (cell : Int) {ds : List Int} (hd : Digs ds 28) : ∀ k, k ≤ 3 → ∃ W', InSp W' k n (spN ls cell ds rows k)
  | 0, _ => ⟨W, h⟩
  | k + 1, hk => by
    obtain ⟨W', h'⟩ := InSp.steps h h8 hn cell hd k (by omega)
    obtain ⟨x, h2⟩ := h'.step h8 hn cell (moreK_ok hd (k := k) (by omega))
    exact ⟨_, h2⟩
end VS
set_option linter.all false
set_option maxRecDepth 100000
set_option maxHeartbeats 4000000
namespace VS
open PySem L2
theorem sInsL_s {xs : List Str} {k : Int} {x : Str} (h : xs.length < 1000) (h0 : 0 ≤ k) (h1 : k < 1000) : sInsL (.lst (xs.map U.str)) [.int k, .str x] = some (.lst ((xs.take k.toNat ++ [x] ++ xs.drop k.toNat).map .str), .non) := by
  unfold sInsL
  dsimp only
  rw [if_pos (by rw [cdec_iff, List.length_map, sl_eq]; omega)]
  simp
theorem pow30 : sPow (.int 10) (.int 30) = some (false, .int (10 ^ 30)) := sPow_ii (i := 10) (j := 30) (by decide) (by decide) (by decide)
abbrev encDg (ds : List Int) : U := .lst (ds.map .int)
theorem cset_back {T : Cel} {r p : Addr} {u : U} {v : Option U} (h : T r = some u) (ne : p ≠ r) : cset (cset (cset T r none) p v) r (some u) = cset T p v := by
  funext b
  by_cases z : b = r
  · subst z
    rw [cset_same, cset_ne (Ne.symm ne), h]
  · rw [cset_ne z]
    by_cases y : b = p
    · subst y
      rw [cset_same, cset_same]
    · rw [cset_ne y, cset_ne y, cset_ne z]
theorem atI_far (n : Nat) (cell q : Int) (h0 : 0 ≤ q) (h1 : q < 4) : atI [U.int (-1), .int (n : Nat), .int ((n : Nat) + 1 + cell % 10 ^ 30), .int (-2 - cell % 10 ^ 30)] q = some (.int (farF n cell q)) := by
  have : q = 0 ∨ q = 1 ∨ q = 2 ∨ q = 3 := by omega
  rcases this with rfl | rfl | rfl | rfl <;> rfl
theorem spoil_turn {ls : List (List Nat)} (h8 : ls.length = 8) (hn : ∀ l ∈ ls, Nml l) {T : Cel} {r : Addr} {ps : List AA} {rows : List RoomI} {W : List Str} {k n : Nat} (hI : InSp W k n rows) (c : CsP T r ps rows) (hk : k < 3) {ds : List Int} (hd : Digs ds 28) (cell : Int) (u0 : U) (z6 z7 z8 z9 z11 : Sl) (κ : Ou → Prop)
    (hκ : ∀ z6 z7 z8 z9 z11 T, CsP T r ps (spS ls cell (moreK ds k) rows) → κ (.nx [some (false, u0), some (true, encW ls), some (false, encDg ds), some (false, .int cell), some (false, .adr r), some (false, .int (k : Nat)), z6, z7, z8, z9, none, z11] T)) :
    (((dRun (mAsg 6 (mSlc (orSl sSlL sSlS) (mSl 2) (mP1 (mF (mBin sAdd (mR (mC (.int 1))) (mR (mF (mBin sMul (mR (mC (.int 9))) (mSl 5))))))) (mP1 (mF (mBin sAdd (mR (mC (.int 10))) (mR (mF (mBin sMul (mR (mC (.int 9))) (mSl 5)))))))))).seq
 ((dWith 4 (dRun (mAsg 7 (mBin sIx (mR (mF (mBin sIx (mSl 4) (mR (mF (mBin sMod (mR (mF (mBin sIx (mSl 6) (mR (mC (.int 0)))))) (mR (mF (mCB sLenU (mRc (mSl 4) mRn)))))))))) (mR (mC (.int 0))))))).seq
 ((dWith 4 (dRun (mAsg 8 (mBin sIx (mR (mF (mBin sIx (mSl 4) (mR (mF (mBin sMod (mR (mF (mBin sIx (mSl 6) (mR (mC (.int 0)))))) (mR (mF (mCB sLenU (mRc (mSl 4) mRn)))))))))) (mR (mC (.int 1))))))).seq
 ((dRun (mAsg 9 (mCall 2 φ_law_bad (mRc (mSl 1) (mRc (mR (mF (mSlc (orSl sSlL sSlS) (mSl 6) (mP1 (mC (.int 1))) (mP1 (mC (.int 6)))))) mRn))))).seq
 (dIf (mTst (mBin (sEq false) (mR (mF (mBin sMod (mR (mF (mBin sIx (mSl 6) (mR (mC (.int 6)))))) (mR (mC (.int 3)))))) (mR (mC (.int 0)))))
 (dWith 7 (dRun (mDrp (mF (mMu isL sInsL 7 (mVc (mF (mBin sMod (mR (mF (mBin sIx (mSl 6) (mR (mC (.int 7)))))) (mR (mF (mBin sAdd (mR (mF (mCB sLenU (mRc (mSl 7) mRn)))) (mR (mC (.int 1)))))))) (mVc (mN 9) mVn)))))))
 (dIf (mTst (mBin (sEq false) (mR (mF (mBin sMod (mR (mF (mBin sIx (mSl 6) (mR (mC (.int 6)))))) (mR (mC (.int 3)))))) (mR (mC (.int 1)))))
 (dWith 4 (dWith 8 (dRun (mSto 8 (mN 9) (mF (mBin sSub (mR (mF (mBin sMod (mR (mF (mBin sIx (mSl 6) (mR (mC (.int 7)))))) (mR (mF (mBin sAdd (mR (mF (mCB sLenU (mRc (mSl 4) mRn)))) (mR (mC (.int 2))))))))) (mR (mF (mBin sMod (mR (mF (mBin sIx (mSl 6) (mR (mC (.int 8)))))) (mR (mC (.int 2))))))))))))
 ((dWith 4 (dRun (mAsg 11 (mBin sIx (mR (mF (mLst (mVc (mNeg (mC (.int 1))) (mVc (mF (mCB sLenU (mRc (mSl 4) mRn))) (mVc (mF (mBin sAdd (mR (mF (mBin sAdd (mR (mF (mCB sLenU (mRc (mSl 4) mRn)))) (mR (mC (.int 1)))))) (mR (mF (mBin sMod (mR (mF (mCB sInt (mRc (mSl 3) mRn)))) (mR (mF (mBin sPow (mR (mC (.int 10))) (mR (mC (.int 30))))))))))) (mVc (mF (mBin sSub (mR (mNeg (mC (.int 2)))) (mR (mF (mBin sMod (mR (mF (mCB sInt (mRc (mSl 3) mRn)))) (mR (mF (mBin sPow (mR (mC (.int 10))) (mR (mC (.int 30))))))))))) mVn))))))) (mR (mF (mBin sMod (mR (mF (mBin sIx (mSl 6) (mR (mC (.int 8)))))) (mR (mC (.int 4)))))))))).seq
 (dWith 8 (dRun (mSto 8 (mF (mBin sIx (mSl 1) (mR (mF (mBin sMod (mR (mF (mBin sIx (mSl 6) (mR (mC (.int 7)))))) (mR (mC (.int 8)))))))) (mN 11)))))))))))).wp [some (false, u0), some (true, encW ls), some (false, encDg ds), some (false, .int cell), some (false, .adr r), some (false, .int (k : Nat)), z6, z7, z8, z9, none, z11] T κ := by
  have hm := moreK_ok hd hk
  have hl := hd.ln
  have hml := hm.ln
  have mk9 := sMul_l (i := 9) (j := ((k : Nat) : Int)) (by decide) (by decide)
  have cu := cutU_map U.int ds (some (1 + 9 * (k : Int))) (some (10 + 9 * (k : Int)))
  have cu : cutU (ds.map U.int) (some (1 + 9 * (k : Int))) (some (10 + 9 * (k : Int))) = (moreK ds k).map U.int := cu
  unfold spS at hκ
  dsimp only at hκ
  generalize moreK ds k = mo at *
  have at_ : ∀ i : Int, 0 ≤ i → i < 9 → atI (mo.map U.int) i = some (.int (dg mo i)) := fun i h0 h1 => atI_d h0 (by omega)
  have dgb : ∀ i : Int, 0 ≤ i → i < 9 → 0 ≤ dg mo i ∧ dg mo i < 60 := fun i h0 h1 => hm.lo _ (dg_mem h0 (by omega))
  have a0 := at_ 0 (by decide) (by decide)
  rw [atI_0] at a0
  have a6 := at_ 6 (by decide) (by decide)
  have a7 := at_ 7 (by decide) (by decide)
  have a8 := at_ 8 (by decide) (by decide)
  have n0 := hI.n0
  have n6 := hI.n6
  have rl := hI.ln
  have pl := c.ln
  obtain ⟨i, hi⟩ : ∃ i : Nat, (i : Int) = dg mo 0 % rows.length := ⟨(dg mo 0 % rows.length).toNat, by have := Int.emod_nonneg (dg mo 0) (show (rows.length : Int) ≠ 0 by omega); omega⟩
  have il : i < rows.length := by
    have := Int.emod_lt_of_pos (dg mo 0) (show (0 : Int) < rows.length by omega)
    omega
  have md0 := sMod_ii (i := dg mo 0) (j := (rows.length : Int)) (by omega)
  rw [← hi] at md0
  have pg : ps[i]? = some (ps[i]'(by omega)) := List.getElem?_eq_getElem _
  generalize ps[i]'(by omega) = p at pg
  have xg : rows[i]? = some rows[i] := List.getElem?_eq_getElem il
  have xm : rows[i] ∈ rows := List.getElem_mem il
  generalize rows[i] = x at xg xm
  have gd : rows.getD (dg mo 0 % rows.length).toNat ([], []) = x := by
    rw [← hi, Int.toNat_natCast, List.getD_eq_getElem?_getD, xg]; rfl
  have it : (dg mo 0 % rows.length).toNat = i := by rw [← hi, Int.toNat_natCast]
  rw [gd, it] at hκ
  obtain ⟨cT1, cT2⟩ := c.at_ i p x pg xg
  obtain ⟨bl1, bl2⟩ := hI.bl x xm
  obtain ⟨st1, st2, st3⟩ := hI.st x xm
  have d5 : Digs (cutG mo (some 1) (some 6)) 5 := ⟨by rw [cutG_mid (by decide) (by decide) (by omega)]; rfl, fun d hdm => hm.lo d (cutG_mem hdm)⟩
  have cu5 := cutU_map U.int mo (some 1) (some 6)
  obtain ⟨_, ebad⟩ := badF_ok ls _ h8 hn d5
  generalize S (badF ls (cutG mo (some 1) (some 6))) = w at *
  have ap : atI (ps.map tkT) (i : Int) = some (tkT p) := atI_at pg
  have ap0 : atI [U.adr p.1, U.adr p.2] 0 = some (.adr p.1) := rfl
  have ap1 : atI [U.adr p.1, U.adr p.2] 1 = some (.adr p.2) := rfl
  refine wp_seqR (e1 := [some (false, u0), some (true, encW ls), some (false, encDg ds), some (false, .int cell), some (false, .adr r), some (false, .int (k : Nat)), some (true, encDg mo), z7, z8, z9, none, z11]) (by simp [-List.map_map, mk9, cu]) ?_
  refine wp_seq (wp_withI (u := .lst (ps.map tkT)) (e' := [some (false, u0), some (true, encW ls), some (false, encDg ds), some (false, .int cell), some (true, .lst (ps.map tkT)), some (false, .int (k : Nat)), some (true, encDg mo), some (false, .adr p.1), z8, z9, none, z11]) rfl c.rt (by simp [-List.map_map, a0, pl, md0, ap, ap0]) rfl rfl ?_)
  refine wp_seq (wp_withI (u := .lst (ps.map tkT)) (e' := [some (false, u0), some (true, encW ls), some (false, encDg ds), some (false, .int cell), some (true, .lst (ps.map tkT)), some (false, .int (k : Nat)), some (true, encDg mo), some (false, .adr p.1), some (false, .adr p.2), z9, none, z11]) rfl c.rt (by simp [-List.map_map, a0, pl, md0, ap, ap1]) rfl rfl ?_)
  refine wp_seqR (e1 := [some (false, u0), some (true, encW ls), some (false, encDg ds), some (false, .int cell), some (false, .adr r), some (false, .int (k : Nat)), some (true, encDg mo), some (false, .adr p.1), some (false, .adr p.2), some (false, .str w), none, z11]) (by simp [-List.map_map, cu5, ebad]) ?_
  have am1 := flatA_mem pg
  have nr1 : p.1 ≠ r := fun z => c.nr (by rw [← z]; exact am1.1)
  have nr2 : p.2 ≠ r := fun z => c.nr (by rw [← z]; exact am1.2)
  by_cases q0 : dg mo 6 % 3 = 0
  · rw [if_pos q0] at hκ
    refine wp_ifT (e1 := [some (false, u0), some (true, encW ls), some (false, encDg ds), some (false, .int cell), some (false, .adr r), some (false, .int (k : Nat)), some (true, encDg mo), some (false, .adr p.1), some (false, .adr p.2), some (false, .str w), none, z11]) (by simp [-List.map_map, a6, sMod_ii, q0]) ?_
    have md7 := sMod_ii (i := dg mo 7) (j := (x.1.length : Int) + 1) (by omega)
    have k0 := Int.emod_nonneg (dg mo 7) (show (x.1.length : Int) + 1 ≠ 0 by omega)
    have k1 := Int.emod_lt_of_pos (dg mo 7) (show (0 : Int) < (x.1.length : Int) + 1 by omega)
    have ins := sInsL_s (xs := x.1) (x := w) (by omega) k0 (by omega)
    refine wp_withR (u := lstS x.1) (u' := lstS (x.1.take (dg mo 7 % (x.1.length + 1)).toNat ++ [w] ++ x.1.drop (dg mo 7 % (x.1.length + 1)).toNat)) (p := p.1) (e' := [some (false, u0), some (true, encW ls), some (false, encDg ds), some (false, .int cell), some (false, .adr r), some (false, .int (k : Nat)), some (true, encDg mo), some (true, lstS (x.1.take (dg mo 7 % (x.1.length + 1)).toNat ++ [w] ++ x.1.drop (dg mo 7 % (x.1.length + 1)).toNat)), some (false, .adr p.2), some (false, .str w), none, z11]) rfl cT1 ?_ rfl rfl ?_
    · simp only [lstS]
      generalize x.1.take (dg mo 7 % (x.1.length + 1)).toNat ++ [w] ++ x.1.drop (dg mo 7 % (x.1.length + 1)).toNat = y at ins
      simp [-List.map_map, a7, md7, ins]
    · exact hκ _ _ _ _ _ _ (c.set1 pg xg _)
  · rw [if_neg q0] at hκ
    refine wp_ifF (e1 := [some (false, u0), some (true, encW ls), some (false, encDg ds), some (false, .int cell), some (false, .adr r), some (false, .int (k : Nat)), some (true, encDg mo), some (false, .adr p.1), some (false, .adr p.2), some (false, .str w), none, z11]) (by simp [-List.map_map, a6, sMod_ii, q0]) ?_
    have sl2 : x.2.length < 16777216 := by omega
    have sto : ∀ (y : Str) (v : Int), okD (encI x.2) (.str y) = true ∧ dset (encI x.2) (.str y) (.int v) = encI (putI x.2 y v) := fun y v => ⟨okD_encI _ _, dset_encI _ _ _⟩
    by_cases q1 : dg mo 6 % 3 = 1
    · rw [if_pos q1] at hκ
      refine wp_ifT (e1 := [some (false, u0), some (true, encW ls), some (false, encDg ds), some (false, .int cell), some (false, .adr r), some (false, .int (k : Nat)), some (true, encDg mo), some (false, .adr p.1), some (false, .adr p.2), some (false, .str w), none, z11]) (by simp [-List.map_map, a6, sMod_ii, q1]) ?_
      have md7 := sMod_ii (i := dg mo 7) (j := (rows.length : Int) + 2) (by omega)
      refine wp_with (j := 4) rfl c.rt ?_
      show DS.wp (dWith 8 _) [some (false, u0), some (true, encW ls), some (false, encDg ds), some (false, .int cell), some (true, .lst (ps.map tkT)), some (false, .int (k : Nat)), some (true, encDg mo), some (false, .adr p.1), some (false, .adr p.2), some (false, .str w), none, z11] _ _
      refine wp_withR (u := dctI x.2) (u' := dctI (putI x.2 w (dg mo 7 % (rows.length + 2) - dg mo 8 % 2))) (p := p.2) (e' := [some (false, u0), some (true, encW ls), some (false, encDg ds), some (false, .int cell), some (true, .lst (ps.map tkT)), some (false, .int (k : Nat)), some (true, encDg mo), some (false, .adr p.1), some (true, dctI (putI x.2 w (dg mo 7 % (rows.length + 2) - dg mo 8 % 2))), some (false, .str w), none, z11]) rfl (by rw [cset_ne nr2]; exact cT2) ?_ rfl rfl ?_
      · have e1 := (sto w (dg mo 7 % (rows.length + 2) - dg mo 8 % 2)).2
        simp [-List.map_map, a7, a8, pl, md7, sMod_ii, okD_encI, e1, sl2]
      · rw [withK_nx]
        refine wp_put (u := .lst (ps.map tkT)) rfl rfl ?_
        rw [cset_back c.rt nr2]
        exact hκ _ _ _ _ _ _ (c.set2 pg xg _)
    · rw [if_neg q1] at hκ
      refine wp_ifF (e1 := [some (false, u0), some (true, encW ls), some (false, encDg ds), some (false, .int cell), some (false, .adr r), some (false, .int (k : Nat)), some (true, encDg mo), some (false, .adr p.1), some (false, .adr p.2), some (false, .str w), none, z11]) (by simp [-List.map_map, a6, sMod_ii, q1]) ?_
      have l8 : lim62 (8 : Int) = true := lim62_ok (by decide) (by decide)
      have p30 := pow30
      obtain ⟨P, hP⟩ : ∃ P : Int, P = 10 ^ 30 := ⟨_, rfl⟩
      have P0 : 0 < P := by rw [hP]; decide
      rw [← hP] at p30
      have mP := sMod_ii (i := cell) (j := P) P0
      have af := atI_far rows.length cell (dg mo 8 % 4) (by omega) (by omega)
      rw [← hP] at af
      obtain ⟨j, hj⟩ : ∃ j : Nat, (j : Int) = dg mo 7 % 8 := ⟨(dg mo 7 % 8).toNat, by omega⟩
      have jl : j < ls.length := by omega
      have gj : ls[j]? = some ls[j] := List.getElem?_eq_getElem jl
      have aj : atI (ls.map fun l => U.str (S l)) (j : Int) = some (.str (S ls[j])) := atI_at gj
      have gdj : ls.getD (dg mo 7 % 8).toNat [] = ls[j] := by rw [← hj, Int.toNat_natCast, List.getD_eq_getElem?_getD, gj]; rfl
      rw [gdj] at hκ
      generalize ls[j] = v at aj hκ
      generalize hF : farF rows.length cell (dg mo 8 % 4) = F at *
      refine wp_seq (wp_withI (u := .lst (ps.map tkT)) (e' := [some (false, u0), some (true, encW ls), some (false, encDg ds), some (false, .int cell), some (true, .lst (ps.map tkT)), some (false, .int (k : Nat)), some (true, encDg mo), some (false, .adr p.1), some (false, .adr p.2), some (false, .str w), none, some (false, .int F)]) rfl c.rt ?_ rfl rfl ?_)
      · simp [-List.map_map, a8, pl, sMod_ii, p30, mP, af]
      · show DS.wp (dWith 8 _) _ _ _
        refine wp_withR (u := dctI x.2) (u' := dctI (putI x.2 (S v) F)) (p := p.2) (e' := [some (false, u0), some (true, encW ls), some (false, encDg ds), some (false, .int cell), some (false, .adr r), some (false, .int (k : Nat)), some (true, encDg mo), some (false, .adr p.1), some (true, dctI (putI x.2 (S v) F)), some (false, .str w), none, some (false, .int F)]) rfl cT2 ?_ rfl rfl ?_
        · have e1 := (sto (S v) F).2
          simp [-List.map_map, a7, sMod_ii, ← hj, aj, okD_encI, e1, sl2]
        · exact hκ _ _ _ _ _ _ (c.set2 pg xg _)
theorem ev_law_spoiled {W : List Str} {n : Nat} {rows : List RoomI} (hI : InSp W 0 n rows) {ls : List (List Nat)} (h8 : ls.length = 8) (hn : ∀ l ∈ ls, Nml l) {ds : List Int} (hd : Digs ds 28) (cell : Int) : ∃ m : Nat, m ≤ 3 ∧ φ_law_spoiled [(true, encHs rows), (true, encW ls), (false, encDg ds), (false, .int cell)] = .ok (false, encHs (spN ls cell ds rows m)) [some (false, encHs rows), some (true, encW ls), some (false, encDg ds), some (false, .int cell)] := by
  have hl := hd.ln
  have n0 := hI.n0
  have n6 := hI.n6
  have rl := hI.ln
  have a0 : atI (ds.map U.int) 0 = some (.int (dg ds 0)) := atI_d (by decide) (by omega)
  rw [atI_0] at a0
  obtain ⟨m, hm⟩ : ∃ m : Nat, atI [U.int 0, .int 1, .int 1, .int 1, .int 2, .int 3] (dg ds 0 % 6) = some (.int (m : Nat)) ∧ m ≤ 3 := by
    have : dg ds 0 % 6 = 0 ∨ dg ds 0 % 6 = 1 ∨ dg ds 0 % 6 = 2 ∨ dg ds 0 % 6 = 3 ∨ dg ds 0 % 6 = 4 ∨ dg ds 0 % 6 = 5 := by omega
    rcases this with h | h | h | h | h | h <;> rw [h]
    · exact ⟨0, rfl, by decide⟩
    · exact ⟨1, rfl, by decide⟩
    · exact ⟨1, rfl, by decide⟩
    · exact ⟨1, rfl, by decide⟩
    · exact ⟨2, rfl, by decide⟩
    · exact ⟨3, rfl, by decide⟩
  obtain ⟨hm, m3⟩ := hm
  refine ⟨m, m3, ?_⟩
  refine fnC_eq rfl (by decide) ?_
  show b_law_spoiled.wp [some (true, encHs rows), some (true, encW ls), some (false, encDg ds), some (false, .int cell), none, none, none, none, none, none, none, none] _ _
  unfold b_law_spoiled
  have lc := lc_eq (t := tgN 10) (te := mDt (mDcs (mDv (mCB sList (mRc (mR (mF (mBin sIx (mSl 10) (mR (mC (.int 0)))))) mRn))) (mDcs (mDv (mCB sDict2 (mRc (mR (mF (mBin sIx (mSl 10) (mR (mC (.int 1)))))) mRn))) (M.ret [])))) (vs := [10]) (s := ⟨rows.map encHi, [], none⟩)
    (e := [some (false, encHs rows), some (true, encW ls), some (false, encDg ds), some (false, .int cell), none, none, none, none, none, none, none, none]) rows encHi encHi rfl rfl (by rw [sl_eq]; omega) (by rw [clr_nt]; simp) (by
      intro x hx
      have f1 := flD_lstS x.1
      have f2 := flD_dctI x.2
      simp [-List.map_map, item, sDict2_I, f1, f2, mDt, mDcs, mDv])
  refine wp_seq (wp_new (u := encHs rows) (e1 := [some (false, encHs rows), some (true, encW ls), some (false, encDg ds), some (false, .int cell), none, none, none, none, none, none, none, none]) (by simp [-List.map_map, mLcD_eq, lc]) (skOk_rooms rows) fun w L sk nd fr => ?_)
  obtain ⟨r, ps, rfl, c⟩ := csP_new (T := emp) sk nd
  generalize addC emp L = T at c
  show DS.wp (DS.seq _ _) [some (false, encHs rows), some (true, encW ls), some (false, encDg ds), some (false, .int cell), some (false, .adr r), none, none, none, none, none, none, none] T _
  obtain ⟨J, hJ⟩ : ∃ J : List Nat → En → Cel → Prop, ∀ d e T, J d e T ↔ ∃ z5 z6 z7 z8 z9 z11, CsP T r ps (spN ls cell ds rows d.length) ∧
    e = [some (false, encHs rows), some (true, encW ls), some (false, encDg ds), some (false, .int cell), some (false, .adr r), z5, z6, z7, z8, z9, none, z11] := ⟨_, fun _ _ _ => Iff.rfl⟩
  have lm : lim62 ((m : Nat) : Int) = true := lim62_ok (by omega) (by omega)
  refine wp_seq (wp_for (s := ⟨(List.range m).map fun k : Nat => U.int (k : Nat), [], none⟩) (e1 := [some (false, encHs rows), some (true, encW ls), some (false, encDg ds), some (false, .int cell), some (false, .adr r), none, none, none, none, none, none, none]) (by
    simp [-List.map_map, a0, sMod_ii, hm, lm]) rfl (List.range m) (fun k : Nat => U.int (k : Nat)) rfl J ((hJ _ _ _).mpr ⟨none, none, none, none, none, none, c, rfl⟩) ?_ ?_)
  · intro d x rest e T hd2 hj
    obtain ⟨z5, z6, z7, z8, z9, z11, c, rfl⟩ := (hJ _ _ _).mp hj
    refine ⟨_, rfl, ?_⟩
    have hx : x < m := List.mem_range.mp (hd2 ▸ List.mem_append.mpr (.inr List.mem_cons_self))
    have hxd : x = d.length := by
      have := congrArg (fun l : List Nat => l[d.length]?) hd2
      simp at this
      have dl := congrArg List.length hd2
      simp at dl
      rw [List.getElem?_range (by omega)] at this
      simpa using this.symm
    subst hxd
    obtain ⟨W', hI'⟩ := hI.steps h8 hn cell hd d.length (by omega)
    show DS.wp _ [some (false, encHs rows), some (true, encW ls), some (false, encDg ds), some (false, .int cell), some (false, .adr r), some (false, .int (d.length : Nat)), z6, z7, z8, z9, none, z11] T _
    refine spoil_turn h8 hn hI' c (by omega) hd cell _ _ _ _ _ _ _ fun z6 z7 z8 z9 z11 T c => ?_
    refine ⟨trivial, (hJ _ _ _).mpr ⟨some (false, .int (d.length : Nat)), z6, z7, z8, z9, z11, ?_, rfl⟩⟩
    rw [List.length_append]
    exact c
  · intro e T hj
    obtain ⟨z5, z6, z7, z8, z9, z11, c, rfl⟩ := (hJ _ _ _).mp hj
    rw [List.length_range] at c
    show DS.wp (dRes _) _ T _
    have rs1 := c.res
    generalize spN ls cell ds rows m = rows2 at rs1 ⊢
    have d1 : res T (encHs rows) = encHs rows := res_lstI fun u hu => by
      obtain ⟨r, _, rfl⟩ := List.mem_map.mp hu
      refine res_tupI fun v hv => ?_
      simp only [List.mem_cons, List.not_mem_nil, or_false] at hv
      rcases hv with rfl | rfl
      · exact res_flD (flD_lstS r.1)
      · exact res_flD (flD_dctI r.2)
    have d2 : res T (encW ls) = encW ls := res_lstI fun u hu => by
      obtain ⟨r, _, rfl⟩ := List.mem_map.mp hu
      rfl
    have d3 : res T (encDg ds) = encDg ds := res_lstI fun u hu => by
      obtain ⟨r, _, rfl⟩ := List.mem_map.mp hu
      rfl
    obtain ⟨y5, y6, y7, y8, y9, y11, rE⟩ : ∃ y5 y6 y7 y8 y9 y11, resC T [some (false, encHs rows), some (true, encW ls), some (false, encDg ds), some (false, .int cell), some (false, .adr r), z5, z6, z7, z8, z9, none, z11] =
      [some (false, encHs rows), some (true, encW ls), some (false, encDg ds), some (false, .int cell), some (false, encHs rows2), y5, y6, y7, y8, y9, none, y11] := by
      refine ⟨z5.map fun x => (x.1, res T x.2), z6.map fun x => (x.1, res T x.2), z7.map fun x => (x.1, res T x.2), z8.map fun x => (x.1, res T x.2), z9.map fun x => (x.1, res T x.2), z11.map fun x => (x.1, res T x.2), ?_⟩
      unfold resC
      simp only [List.map_cons, List.map_nil, Option.map_some, Option.map_none, d1, d2, d3, rs1, res_int]
    refine wp_res ?_
    rw [rE]
    refine wp_runP ?_
    simp [-List.map_map, resK, outS_eq, prL, List.range_succ]
end VS
set_option linter.all false
set_option maxRecDepth 100000
set_option maxHeartbeats 2000000
namespace VS
open PySem L2
theorem ev_len (o : Bool) (L : RowsS) : φ_Keeper___len__ [(o, encK L)] = .ok (false, .int (L.length : Nat)) [some (o, encK L)] := by
  refine fnS_post (fun r => r = .ok (false, .int (L.length : Nat)) [some (o, encK L)]) (b := b_Keeper___len__) rfl (by decide) ?_
  show (b_Keeper___len__ [some (o, encK L)]).post _
  unfold b_Keeper___len__
  simp [encK, outS_eq, prL, List.range_succ]
theorem sEq_bb {b c : Bool} : sEq false (.bl b) (.bl c) = some (false, .bl (decide (b = c))) := by
  have : (V.bl b = V.bl c) ↔ b = c := ⟨fun h => by injection h, fun h => by rw [h]⟩
  simp [sEq, scalU, flU, vOf, scal, this]
def smU : Nat → U → Bool
  | 0 => fun u => match u with
    | .str _ => true
    | .int _ => true
    | .bl _ => true
    | _ => false
  | n + 1 => fun u => match u with
    | .lst us => us.all (smU n) && decide (us.length < 100000)
    | .tup us => us.all (smU n) && decide (us.length < 100000)
    | .str _ => true
    | .int _ => true
    | .bl _ => true
    | _ => false
theorem ev_same : ∀ (n : Nat) (o o2 : Bool) (u : U), smU n u = true → φ_law_same (n + 1) [(o, u), (o2, u)] = .ok (false, .bl true) [some (o, u), some (o2, u)] := by
  have leaf : ∀ (n : Nat) (o o2 : Bool) (u : U), smU 0 u = true → φ_law_same (n + 1) [(o, u), (o2, u)] = .ok (false, .bl true) [some (o, u), some (o2, u)] := by
    intro n o o2 u h
    refine fnS_post (fun r => r = .ok (false, .bl true) [some (o, u), some (o2, u)]) rfl (by decide) ?_
    unfold b_law_same
    cases u with
    | str x => simp [tyU, subT, outS_eq, prL, List.range_succ]
    | int i => simp [tyU, subT, outS_eq, prL, List.range_succ]
    | bl b => simp [tyU, subT, sEq_bb, outS_eq, prL, List.range_succ]
    | _ => cases h
  have seq : ∀ (n : Nat) (o o2 : Bool) (us : List U) (mk : List U → U), (mk = U.lst ∨ mk = U.tup) → us.length < 100000 → (∀ x ∈ us, φ_law_same (n + 1) [(false, x), (false, x)] = .ok (false, .bl true) [some (false, x), some (false, x)]) →
      φ_law_same (n + 2) [(o, mk us), (o2, mk us)] = .ok (false, .bl true) [some (o, mk us), some (o2, mk us)] := by
    intro n o o2 us mk hm hl hs
    refine fnS_post (fun r => r = .ok (false, .bl true) [some (o, mk us), some (o2, mk us)]) rfl (by decide) ?_
    have l6 : lim62 (us.length : Int) = true := lim62_ok (by omega) (by omega)
    unfold b_law_same
    rcases hm with rfl | rfl
    all_goals
      simp [tyU, subT, l6, sIsN, nonU]
      refine post_forL (List.range us.length) (fun i : Nat => .int (i : Nat)) rfl (fun done e => ∃ z, e = [some (o, _), some (o2, _), z]) ⟨_, rfl⟩ ?_ ?_
      · rintro done i rest e hms ⟨z, rfl⟩
        have hi : i < us.length := List.mem_range.mp (hms ▸ List.mem_append.mpr (.inr List.mem_cons_self))
        have hx : us[i]? = some us[i] := List.getElem?_eq_getElem hi
        simp [turn, atI_nat, hx, hs _ (List.getElem_mem hi)]
      · rintro e ⟨z, rfl⟩
        simp [outS_eq, prL, List.range_succ]
  intro n
  induction n with
  | zero => exact fun o o2 u h => leaf 0 o o2 u h
  | succ n ih =>
    intro o o2 u h
    cases u with
    | lst us =>
      have h : (us.all (smU n) && decide (us.length < 100000)) = true := h
      rw [Bool.and_eq_true, List.all_eq_true, decide_eq_true_eq] at h
      exact seq n o o2 us U.lst (.inl rfl) h.2 fun x hx => ih false false x (h.1 x hx)
    | tup us =>
      have h : (us.all (smU n) && decide (us.length < 100000)) = true := h
      rw [Bool.and_eq_true, List.all_eq_true, decide_eq_true_eq] at h
      exact seq n o o2 us U.tup (.inr rfl) h.2 fun x hx => ih false false x (h.1 x hx)
    | str x => exact leaf (n + 1) o o2 _ rfl
    | int x => exact leaf (n + 1) o o2 _ rfl
    | bl x => exact leaf (n + 1) o o2 _ rfl
    | _ => cases h
def toNR (r : RoomI) : List Str × List (Str × Nat) := (r.1, r.2.map fun p => (p.1, p.2.toNat))
theorem InSp.txt {W : List Str} {k n : Nat} {rows : List RoomI} (h : InSp W k n rows) (hk : k ≤ 3) : TxtR rows := by
  have := h.ln
  have := h.n0
  have := h.n6
  refine ⟨by omega, by omega, fun r hr => ?_, fun r hr => ?_⟩
  · obtain ⟨a, b⟩ := h.bl r hr
    exact ⟨by omega, b⟩
  · obtain ⟨a, b, c⟩ := h.st r hr
    exact ⟨by omega, fun p hp => h.wd _ (b p hp), c⟩
theorem duR_fine {W : List Str} {k n : Nat} {rows : List RoomI} (h : InSp W k n rows) (d : duR rows = none) : ∀ r ∈ rows, (∀ x ∈ r.1, isNm x = true) ∧ ∀ p ∈ r.2, isNm p.1 = true ∧ 0 ≤ p.2 ∧ p.2 < (rows.length : Int) := by
  unfold duR at d
  rw [List.findSome?_eq_none_iff] at d
  intro r hr
  obtain ⟨i, hi, e⟩ := List.getElem_of_mem hr
  have hz : (r, i) ∈ rows.zipIdx := by
    rw [List.mk_mem_zipIdx_iff_getElem?]
    rw [List.getElem?_eq_getElem hi, e]
  have b := d _ hz
  dsimp only at b
  unfold badRoom at b
  split at b
  · cases b
  · rename_i hb
    rw [List.findSome?_eq_none_iff] at hb
    refine ⟨fun x hx => ?_, fun p hp => ?_⟩
    · have := hb x hx
      unfold badBl at this
      split at this
      · assumption
      · cases this
    · unfold badRow at b
      rw [List.findSome?_eq_none_iff] at b
      have b := b p.1 (mem_sortS.mpr (List.mem_map.mpr ⟨p, hp, rfl⟩))
      unfold badKey at b
      rw [lkI_of (h.st r hr).2.2 hp, Option.getD_some] at b
      split at b
      · rename_i h1
        split at b
        · rename_i h2
          exact ⟨h1, h2.1, h2.2⟩
        · cases b
      · cases b
theorem duR_ok {W : List Str} {k n : Nat} {rows : List RoomI} (h : InSp W k n rows) (hk : k ≤ 3) (d : duR rows = none) : RowsOk (rows.map toNR) ∧ encHs rows = encH (rows.map toNR) := by
  have f := duR_fine h d
  have ln := h.ln
  have n0 := h.n0
  have n6 := h.n6
  have wl := h.wl
  have key : ∀ r ∈ rows, (toNR r).2.map (·.1) = r.2.map (·.1) := fun r _ => by unfold toNR; simp
  refine ⟨⟨by simp; omega, by simp; omega, fun r hr x hx => ?_, fun r hr => ?_, fun r hr p hp => ?_, fun r hr => ?_, ?_, ?_⟩, ?_⟩
  · obtain ⟨q, hq, rfl⟩ := List.mem_map.mp hr
    exact (f q hq).1 x hx
  · obtain ⟨q, hq, rfl⟩ := List.mem_map.mp hr
    have := (h.bl q hq).1
    show q.1.length < 64
    omega
  · obtain ⟨q, hq, rfl⟩ := List.mem_map.mp hr
    obtain ⟨y, hy, rfl⟩ := List.mem_map.mp hp
    obtain ⟨a, b, c⟩ := (f q hq).2 y hy
    refine ⟨a, ?_⟩
    rw [List.length_map]
    show y.2.toNat < rows.length
    omega
  · obtain ⟨q, hq, rfl⟩ := List.mem_map.mp hr
    have := (h.st q hq).1
    show (q.2.map _).length < 64
    rw [List.length_map]
    omega
  · have := sum_le (fun r : List Str × List (Str × Nat) => r.2.length) 11 (rows.map toNR) (fun r hr => by
      obtain ⟨q, hq, rfl⟩ := List.mem_map.mp hr
      have := (h.st q hq).1
      show (q.2.map _).length ≤ 11
      rw [List.length_map]
      omega)
    rw [List.length_map] at this
    omega
  · have := KM.nodup_len (nodup_dedS ((rows.map toNR).flatMap fun r => r.2.map (·.1))) (ys := W) fun x hx => by
      rw [mem_dedS, List.mem_flatMap] at hx
      obtain ⟨r, hr, hx⟩ := hx
      obtain ⟨q, hq, rfl⟩ := List.mem_map.mp hr
      rw [key q hq] at hx
      obtain ⟨p, hp, rfl⟩ := List.mem_map.mp hx
      exact (h.st q hq).2.1 p hp
    omega
  · show U.lst _ = U.lst _
    rw [List.map_map]
    congr 1
    apply List.map_congr_left
    intro r hr
    show U.tup [.lst (r.1.map .str), .dct (encI r.2)] = .tup [.lst (r.1.map .str), .dct (encD (toNR r).2)]
    have : encD (toNR r).2 = encI r.2 := by
      unfold toNR encD encI
      rw [List.map_map]
      apply List.map_congr_left
      intro p hp
      have := (f r hr).2 p hp
      show (U.str p.1, U.int (p.2.toNat : Nat)) = _
      rw [Int.toNat_of_nonneg this.2.1]
    rw [this]
theorem same_len (o : Bool) (rows : RowsS) (h : RowsOk rows) : ∃ (L : RowsS) (us : List U), us.length = L.length ∧ L.length ≤ 1000 ∧ φ_Keeper___init__ [(true, .ins "Keeper" []), (o, encH rows)] = .ok (false, .non) [some (true, encK L), some (false, encH rows)] ∧ φ_law_least_rooms [(false, encH rows)] = .ok (true, .lst us) [some (false, encH rows)] := by
  obtain ⟨L, hk, e⟩ := ev_keeper o rows h
  obtain ⟨c, order, h1, h2, h3, e2⟩ := ev_law_least_rooms false rows h
  have hk2 : KeepOf rows (lrows (norm rows) (KM.cf c) order) := ⟨h, c, order, h1, h2, h3, rfl⟩
  have := keep_same hk hk2 fun _ => rfl
  refine ⟨L, _, ?_, hk.lok.ln, e, e2⟩
  rw [this, List.length_map]
theorem ev_keeper_bad (o : Bool) (rows : List RoomI) (ht : TxtR rows) {c : Str} {u : U} (d : duR rows = some (c, u)) : φ_Keeper___init__ [(true, .ins "Keeper" []), (o, encHs rows)] = .exc c u [some (true, .ins "Keeper" []), some (false, encHs rows)] := by
  have cr := ev_check_roomsI o rows ht
  rw [d] at cr
  simp only [erF] at cr
  refine fnS_post (fun r => r = .exc c u [some (true, .ins "Keeper" []), some (false, encHs rows)]) rfl (by decide) ?_
  show (b_Keeper___init__ [some (true, .ins "Keeper" []), some (o, encHs rows), none, none, none]).post _
  unfold b_Keeper___init__
  cases o
  all_goals simp [-List.map_map, cr, outS_eq, prL, List.range_succ]
theorem duR_kind {rows : List RoomI} {e : Er} (d : duR rows = some e) : (∃ x, e = (("InvalidName" : Str), U.str x)) ∨ ∃ (i : Nat) (x : Str), e = (("InvalidStep" : Str), U.tup [.int (i : Nat), .str x]) := by
  unfold duR at d
  obtain ⟨⟨r, i⟩, _, h⟩ := List.exists_of_findSome?_eq_some d
  dsimp only at h
  unfold badRoom at h
  split at h
  · rename_i e2 hb
    cases h
    obtain ⟨x, _, h⟩ := List.exists_of_findSome?_eq_some hb
    unfold badBl at h
    split at h
    · cases h
    · cases h; exact .inl ⟨x, rfl⟩
  · unfold badRow at h
    obtain ⟨x, _, h⟩ := List.exists_of_findSome?_eq_some h
    unfold badKey at h
    split at h
    · split at h
      · cases h
      · cases h; exact .inr ⟨i, x, rfl⟩
    · cases h; exact .inl ⟨x, rfl⟩
theorem nice_Hs (rows : List RoomI) : (rows.map encHi).all (nice 50) = true := by
  rw [List.all_map, List.all_eq_true]
  intro r _
  show ([U.lst (r.1.map .str), .dct (encI r.2)]).all (nice 49) = true
  simp only [List.all_cons, List.all_nil, Bool.and_true, Bool.and_eq_true]
  constructor
  · show (r.1.map U.str).all (nice 48) = true
    rw [List.all_map, List.all_eq_true]
    intro x _
    rfl
  · show ((encI r.2).all fun p => isK1 p.1 && nice 48 p.2) = true
    unfold encI
    rw [List.all_map, List.all_eq_true]
    intro x _
    rfl
end VS
set_option linter.all false
set_option maxRecDepth 100000
set_option maxHeartbeats 4000000
namespace VS
open PySem L2
theorem errN : (Str.ofString "InvalidName" = Str.ofString "InvalidStep") = False := eq_false (by decide)
theorem errS : (Str.ofString "InvalidStep" = Str.ofString "InvalidName") = False := eq_false (by decide)
theorem encH_I (rows : RowsS) : encH rows = encHs (rows.map fun r => (r.1, r.2.map fun p => (p.1, (p.2 : Int)))) := by
  show U.lst _ = U.lst _
  rw [List.map_map]
  congr 1
  apply List.map_congr_left
  intro r hr
  show U.tup [.lst (r.1.map .str), .dct (encD r.2)] = .tup [.lst (r.1.map .str), .dct (encI (r.2.map fun p => (p.1, (p.2 : Int))))]
  have : encI (r.2.map fun p => (p.1, (p.2 : Int))) = encD r.2 := by
    unfold encD encI
    rw [List.map_map]
    rfl
  rw [this]
theorem ev_drawn (x : Int) : ∃ (ds : List Int) (dso : En) (ls : List (List Nat)) (eo : En) (rows : List RoomI) (ro : En) (sp : List RoomI) (W : List Str) (k n : Nat),
    φ_law_digits [(false, .int x), (false, .int 154)] = .ok (true, encDg ds) dso ∧ (atI (ds.map U.int) 123 = some (.int (dg ds 123)) ∧ atI (ds.map U.int) 124 = some (.int (dg ds 124))) ∧
    φ_law_eight [(false, .lst (cutU (ds.map U.int) none (some 19)))] = .ok (true, encW ls) eo ∧
    φ_law_rooms [(false, .lst (cutU (ds.map U.int) (some 19) (some 123))), (false, .lst (cutU (ls.map fun l => U.str (S l)) none (some (dg ds 123 % 9)))), (false, .lst (cutU (ls.map fun l => U.str (S l)) (some (8 - dg ds 124 % 9)) none))] = .ok (true, encHs rows) ro ∧
    φ_law_spoiled [(true, encHs rows), (true, encW ls), (false, .lst (cutU (ds.map U.int) (some 125) (some 153))), (false, .int x)] = .ok (false, encHs sp) [some (false, encHs rows), some (true, encW ls), some (false, .lst (cutU (ds.map U.int) (some 125) (some 153))), some (false, .int x)] ∧
    InSp W k n sp ∧ k ≤ 3 := by
  obtain ⟨ds, dso, hds, hv⟩ := ev_law_digits x 154 (by decide)
  have hln := hds.ln
  have dsub : ∀ lo hi, ∀ d ∈ cutG ds lo hi, 0 ≤ d ∧ d < 60 := fun lo hi d hdm => hds.lo d (cutG_mem hdm)
  have d19 : Digs (cutG ds none (some 19)) 19 := ⟨by rw [cutG_pre (by decide), List.length_take, hln]; rfl, dsub _ _⟩
  have d104 : Digs (cutG ds (some 19) (some 123)) 104 := ⟨by rw [cutG_mid (by decide) (by decide) (by omega)]; rfl, dsub _ _⟩
  have d28 : Digs (cutG ds (some 125) (some 153)) 28 := ⟨by rw [cutG_mid (by decide) (by decide) (by omega)]; rfl, dsub _ _⟩
  obtain ⟨ls, eo, l8, ln, he⟩ := ev_law_eight false _ d19
  have en : ∀ (lo hi : Option Int), (cutG (ls.map S) lo hi).map U.str = cutU (ls.map fun l => U.str (S l)) lo hi := fun lo hi => by
    rw [← cutU_map, List.map_map]
    rfl
  have lnS : ∀ lo hi, (cutG (ls.map S) lo hi).length ≤ 8 := fun lo hi => by
    unfold cutG
    rw [List.length_take, List.length_drop, List.length_map]
    omega
  have nm : ∀ y ∈ ls.map S, isNm y = true := fun y hy => by
    obtain ⟨l, hl, rfl⟩ := List.mem_map.mp hy
    exact isNm_S (ln l hl)
  obtain ⟨rows, ro, rok, ⟨r6, r8⟩, hr⟩ := ev_law_rooms (fun y => y ∈ ls.map S) nm _ d104 (cutG (ls.map S) none (some (dg ds 123 % 9))) (cutG (ls.map S) (some (8 - dg ds 124 % 9)) none) (fun x hx => cutG_mem hx) (fun x hx => cutG_mem hx) (lnS _ _) (lnS _ _)
  rw [en, en, ← cutU_map, encH_I] at hr
  have wd : ∀ y ∈ ls.map S, Wd y := fun y hy => by
    obtain ⟨l, hl, rfl⟩ := List.mem_map.mp hy
    exact (ln l hl).wd
  have hI : InSp (ls.map S) 0 rows.length (rows.map fun r => (r.1, r.2.map fun p => (p.1, (p.2 : Int)))) := by
    refine ⟨by rw [List.length_map], rok.n0, r6, by rw [List.length_map]; omega, wd, fun r hr => ?_, fun r hr => ?_⟩
    · obtain ⟨q, hq, rfl⟩ := List.mem_map.mp hr
      exact ⟨(r8 q hq).1, fun y hy => wd y ((r8 q hq).2.2.1 y hy)⟩
    · obtain ⟨q, hq, rfl⟩ := List.mem_map.mp hr
      obtain ⟨_, b, _, c, d⟩ := r8 q hq
      refine ⟨by rw [List.length_map]; exact b, fun p hp => ?_, ?_⟩
      · obtain ⟨y, hy, rfl⟩ := List.mem_map.mp hp
        exact c y hy
      · have : (q.2.map fun p => (p.1, (p.2 : Int))).map (·.1) = q.2.map (·.1) := by rw [List.map_map]; rfl
        rw [this]
        exact d
  obtain ⟨m, m3, hsp⟩ := ev_law_spoiled hI l8 ln d28 x
  obtain ⟨W, hW⟩ := hI.steps l8 ln x d28 m m3
  have he2 : φ_law_eight [(false, .lst (cutU (ds.map U.int) none (some 19)))] = .ok (true, encW ls) eo := by rw [cutU_map]; exact he
  have hsp2 := hsp
  rw [show encDg (cutG ds (some 125) (some 153)) = U.lst (cutU (ds.map U.int) (some 125) (some 153)) from by rw [cutU_map]] at hsp2
  exact ⟨ds, dso, ls, eo, _, ro, _, W, m, rows.length, hv, ⟨atI_d (by decide) (by omega), atI_d (by decide) (by omega)⟩, he2, hr, hsp2, hW, m3⟩
end VS
set_option linter.all false
set_option maxRecDepth 100000
set_option maxHeartbeats 4000000
namespace VS
open PySem L2
theorem pure_law (ns : List Int) (h : ns.length ≤ 63) : ∃ outs, φ_law [(false, .scr ns)] = .ok (false, .bl true) outs := by
  refine fnS_post (fun r => ∃ outs, r = .ok (false, .bl true) outs) (b := b_law) rfl (by decide) ?_
  show (b_law [some (false, .scr ns), none, none, none, none, none, none, none, none, none]).post _
  obtain ⟨c0, co, hc0⟩ := ev_law_cell ns 0
  have hc : φ_law_cell [(false, .scr ns), (false, .int 0)] = .ok (false, .int c0) co := hc0
  have cl : 1 + (cutI ns (some 1) (some 40)).length ≤ 16777216 := by
    unfold cutI
    rw [List.length_take, List.length_drop]
    omega
  unfold b_law
  simp [hc, cl]
  generalize cutI ns (some 1) (some 40) = xs
  obtain ⟨J, hJ⟩ : ∃ J : List Int → En → Prop, ∀ done e, J done e ↔ ∃ (z1 z2 z3 z4 z5 z6 z7 z8 : Sl), e = [some (false, .scr ns), z1, z2, z3, z4, z5, z6, z7, z8, none] := ⟨_, fun _ _ => Iff.rfl⟩
  refine post_forL (c0 :: xs) U.int rfl J ((hJ _ _).mpr ⟨none, none, none, none, none, none, none, none, rfl⟩) ?_ ?_
  · intro done x rest e hms hin
    obtain ⟨z1, z2, z3, z4, z5, z6, z7, z8, rfl⟩ := (hJ _ _).mp hin
    obtain ⟨ds, dso, ls, eo, rows, ro, sp, W, k, n, hv, ⟨a123, a124⟩, he, hr, hsp, hW, k3⟩ := ev_drawn x
    have tx := hW.txt k3
    have n1 := tx.n1
    have lc := lc_eq (t := tgN 9) (te := mF (mTup (mVc (mF (mCB sList2 (mRc (mR (mF (mBin sIx (mSl 9) (mR (mC (.int 0)))))) mRn))) (mVc (mF (mCB sDict2 (mRc (mR (mF (mBin sIx (mSl 9) (mR (mC (.int 1)))))) mRn))) mVn)))) (vs := [9]) (s := ⟨sp.map encHi, [], none⟩)
      (e := [some (false, .scr ns), some (false, .int x), some (true, encDg ds), some (true, encW ls), some (false, encHs sp), z5, z6, z7, z8, none]) sp encHi encHi rfl rfl (by rw [sl_eq]; omega) (by rw [clr_nt]; simp) (by
        intro y hy
        simp [-List.map_map, item, sDict2_I])
    have ne := sNe2_selfW (nice_Hs sp)
    cases d : duR sp with
    | none =>
      obtain ⟨rk, re⟩ := duR_ok hW k3 d
      obtain ⟨L, us, ul, Ln, kk, kl⟩ := same_len true _ rk
      rw [← re] at kk kl
      obtain ⟨o2, due, hdue⟩ := ev_law_due sp tx us fun _ => kl
      have du : dueU sp us.length = .tup [.str "keeper", .int (L.length : Nat)] := by unfold dueU; rw [d, ul]
      rw [du] at hdue
      have sm := ev_same 7 false o2 (.tup [.str "keeper", .int (L.length : Nat)]) rfl
      have sm2 := ev_same 7 false false (.tup [.str "keeper", .int (L.length : Nat)]) rfl
      have el := fun o => ev_len o L
      unfold turn
      have el1 := ev_len true L
      simp [-List.map_map, hv, he, a123, a124, sMod_ii, hr, hsp, lc, kk, sIsN, nonU]
      have l6 : lim62 (L.length : Int) = true := lim62_ok (by omega) (by omega)
      have ct : cdec True = true := cdec_iff.mpr trivial
      unfold encK at *
      simp [-List.map_map, lenR, el1, l6, ct, hdue, sm2, ne]
      exact (hJ _ _).mpr ⟨_, _, _, _, _, _, _, _, rfl⟩
    | some er =>
      obtain ⟨o2, due, hdue⟩ := ev_law_due sp tx [] fun q => by rw [d] at q; cases q
      rcases duR_kind d with ⟨w, rfl⟩ | ⟨i, w, rfl⟩
      · have du : dueU sp ([] : List U).length = .tup [.str "name", .str w] := by unfold dueU; rw [d]; exact tlE_n
        rw [du] at hdue
        have sm2 := ev_same 7 false false (.tup [.str "name", .str w]) rfl
        have kb := ev_keeper_bad true sp tx d
        unfold turn
        simp [-List.map_map, hv, he, a123, a124, sMod_ii, hr, hsp, lc, kb, hndl, lkB, errN, errS, sIsN, nonU, hdue, sm2, ne]
        exact (hJ _ _).mpr ⟨_, _, _, _, _, _, _, _, rfl⟩
      · have du : dueU sp ([] : List U).length = .tup [.str "step", .tup [.int (i : Nat), .str w]] := by unfold dueU; rw [d]; exact tlE_s
        rw [du] at hdue
        have sm2 := ev_same 7 false false (.tup [.str "step", .tup [.int (i : Nat), .str w]]) rfl
        have kb := ev_keeper_bad true sp tx d
        unfold turn
        simp [-List.map_map, hv, he, a123, a124, sMod_ii, hr, hsp, lc, kb, hndl, lkB, errN, errS, sIsN, nonU, hdue, sm2, ne]
        exact (hJ _ _).mpr ⟨_, _, _, _, _, _, _, _, rfl⟩
  · intro e hin
    obtain ⟨z1, z2, z3, z4, z5, z6, z7, z8, rfl⟩ := (hJ _ _).mp hin
    simp [outS_eq, prL, List.range_succ]
end VS
set_option Elab.async false
set_option linter.all false
set_option maxRecDepth 100000
set_option maxHeartbeats 0
namespace VS
open PySem PySem.Spec PyProof.Rows L2
theorem factsD {P : Program} {w : World} {K : PySem.W.Frag} {h : Heap} {mg : Str → Option Value} {f : Addr} (X : K.In h) (G : h.Ns mainGlobals mg) (hfa : mg ("law" : Str) = some (.ref f)) (c : VH.SaysH faD fnD K) :
    ∃ fd : FuncData, (∀ (s : Shared) (v : Value), BindsTo s fd ⟨[v], []⟩ [("_law_script", v)]) ∧ ∀ base : Heap, FnOk P w K mg base CX0 10 f fd ["_law_script"] (spL ⟨P, w, K, mg⟩ 1 φ_law) := by
  obtain ⟨fd_law_cell, D_law_cell⟩ := c.def_ 0 (d := d_law_cell) rfl
  obtain ⟨fd_law_digits, D_law_digits⟩ := c.def_ 1 (d := d_law_digits) rfl
  obtain ⟨fd_law_eight, D_law_eight⟩ := c.def_ 2 (d := d_law_eight) rfl
  obtain ⟨fd_law_rooms, D_law_rooms⟩ := c.def_ 3 (d := d_law_rooms) rfl
  obtain ⟨fd_law_bad, D_law_bad⟩ := c.def_ 4 (d := d_law_bad) rfl
  obtain ⟨fd_law_spoiled, D_law_spoiled⟩ := c.def_ 5 (d := d_law_spoiled) rfl
  obtain ⟨fd_is_name, D_is_name⟩ := c.def_ 6 (d := d_is_name) rfl
  obtain ⟨fd_GateError___init__, D_GateError___init__⟩ := c.def_ 7 (d := d_GateError___init__) rfl
  obtain ⟨fd_check_rooms, D_check_rooms⟩ := c.def_ 8 (d := d_check_rooms) rfl
  obtain ⟨fd_seen_events, D_seen_events⟩ := c.def_ 9 (d := d_seen_events) rfl
  obtain ⟨fd_numbered, D_numbered⟩ := c.def_ 10 (d := d_numbered) rfl
  obtain ⟨fd_room_classes, D_room_classes⟩ := c.def_ 11 (d := d_room_classes) rfl
  obtain ⟨fd_least_rooms, D_least_rooms⟩ := c.def_ 12 (d := d_least_rooms) rfl
  obtain ⟨fd_Keeper___init__, D_Keeper___init__⟩ := c.def_ 13 (d := d_Keeper___init__) rfl
  obtain ⟨fd_Keeper___len__, D_Keeper___len__⟩ := c.def_ 14 (d := d_Keeper___len__) rfl
  obtain ⟨fd_law_same, D_law_same⟩ := c.def_ 15 (d := d_law_same) rfl
  obtain ⟨fd_law_is_name, D_law_is_name⟩ := c.def_ 16 (d := d_law_is_name) rfl
  obtain ⟨fd_law_known, D_law_known⟩ := c.def_ 17 (d := d_law_known) rfl
  obtain ⟨fd_law_least_rooms, D_law_least_rooms⟩ := c.def_ 18 (d := d_law_least_rooms) rfl
  obtain ⟨fd_law_due, D_law_due⟩ := c.def_ 19 (d := d_law_due) rfl
  obtain ⟨fd_law, D_law⟩ := c.def_ 20 (d := d_law) rfl
  have fr : Fr K mg (He.ga K "InvalidName") (He.ga K "InvalidStep") (He.ga K "Keeper") (He.ma K (He.ga K "GateError") "__init__") := { cl_Keeper := ⟨(He.glo_ok X G (c.fact 13 (f := VH.faF (.glo "Keeper")) rfl)), (He.cls_ok (c.fact 22 (f := VH.faF (.cls "Keeper")) rfl))⟩, k_LETTERS := (He.str_ok X G (c.fact 23 (f := VH.faF (.str "LETTERS" "abcdefghijklmnopqrstuvwxyz")) rfl)), k_LONGEST := (He.int_ok X G (c.fact 24 (f := VH.faF (.int "LONGEST" 8)) rfl)), et_InvalidName := List.forall_mem_cons.mpr ⟨⟨_, (He.glo_ok X G (c.fact 46 (f := VH.faF (.glo "InvalidName")) rfl)), of_decide_eq_true ( (c.fact 25 (f := VH.etF "InvalidName" "InvalidName" true) rfl)), (VH.xc_ok (He.glo_ok X G (c.fact 46 (f := VH.faF (.glo "InvalidName")) rfl)) ( (c.fact 47 (f := VH.xcF "InvalidName" "GateError") rfl))).xf, (VH.xc_ok (He.glo_ok X G (c.fact 46 (f := VH.faF (.glo "InvalidName")) rfl)) ( (c.fact 47 (f := VH.xcF "InvalidName" "GateError") rfl))).no⟩, List.forall_mem_cons.mpr ⟨⟨_, (He.glo_ok X G (c.fact 48 (f := VH.faF (.glo "InvalidStep")) rfl)), of_decide_eq_true ( (c.fact 26 (f := VH.etF "InvalidStep" "InvalidName" false) rfl)), (VH.xc_ok (He.glo_ok X G (c.fact 48 (f := VH.faF (.glo "InvalidStep")) rfl)) ( (c.fact 49 (f := VH.xcF "InvalidStep" "GateError") rfl))).xf, (VH.xc_ok (He.glo_ok X G (c.fact 48 (f := VH.faF (.glo "InvalidStep")) rfl)) ( (c.fact 49 (f := VH.xcF "InvalidStep" "GateError") rfl))).no⟩, fun _ h => nomatch h⟩⟩, et_InvalidStep := List.forall_mem_cons.mpr ⟨⟨_, (He.glo_ok X G (c.fact 46 (f := VH.faF (.glo "InvalidName")) rfl)), of_decide_eq_true ( (c.fact 27 (f := VH.etF "InvalidName" "InvalidStep" false) rfl)), (VH.xc_ok (He.glo_ok X G (c.fact 46 (f := VH.faF (.glo "InvalidName")) rfl)) ( (c.fact 47 (f := VH.xcF "InvalidName" "GateError") rfl))).xf, (VH.xc_ok (He.glo_ok X G (c.fact 46 (f := VH.faF (.glo "InvalidName")) rfl)) ( (c.fact 47 (f := VH.xcF "InvalidName" "GateError") rfl))).no⟩, List.forall_mem_cons.mpr ⟨⟨_, (He.glo_ok X G (c.fact 48 (f := VH.faF (.glo "InvalidStep")) rfl)), of_decide_eq_true ( (c.fact 28 (f := VH.etF "InvalidStep" "InvalidStep" true) rfl)), (VH.xc_ok (He.glo_ok X G (c.fact 48 (f := VH.faF (.glo "InvalidStep")) rfl)) ( (c.fact 49 (f := VH.xcF "InvalidStep" "GateError") rfl))).xf, (VH.xc_ok (He.glo_ok X G (c.fact 48 (f := VH.faF (.glo "InvalidStep")) rfl)) ( (c.fact 49 (f := VH.xcF "InvalidStep" "GateError") rfl))).no⟩, fun _ h => nomatch h⟩⟩, f_ValueError := (He.free_ok X G (c.fact 29 (f := VH.faF (.free "ValueError")) rfl)), f_all := (He.free_ok X G (c.fact 30 (f := VH.faF (.free "all")) rfl)), f_bool := (He.free_ok X G (c.fact 31 (f := VH.faF (.free "bool")) rfl)), f_dict := (He.free_ok X G (c.fact 32 (f := VH.faF (.free "dict")) rfl)), f_enumerate := (He.free_ok X G (c.fact 33 (f := VH.faF (.free "enumerate")) rfl)), f_int := (He.free_ok X G (c.fact 34 (f := VH.faF (.free "int")) rfl)), f_isinstance := (He.free_ok X G (c.fact 35 (f := VH.faF (.free "isinstance")) rfl)), f_len := (He.free_ok X G (c.fact 36 (f := VH.faF (.free "len")) rfl)), f_list := (He.free_ok X G (c.fact 37 (f := VH.faF (.free "list")) rfl)), f_max := (He.free_ok X G (c.fact 38 (f := VH.faF (.free "max")) rfl)), f_min := (He.free_ok X G (c.fact 39 (f := VH.faF (.free "min")) rfl)), f_range := (He.free_ok X G (c.fact 40 (f := VH.faF (.free "range")) rfl)), f_set := (He.free_ok X G (c.fact 41 (f := VH.faF (.free "set")) rfl)), f_sorted := (He.free_ok X G (c.fact 42 (f := VH.faF (.free "sorted")) rfl)), f_str := (He.free_ok X G (c.fact 43 (f := VH.faF (.free "str")) rfl)), f_tuple := (He.free_ok X G (c.fact 44 (f := VH.faF (.free "tuple")) rfl)), na_Keeper_rows := (He.noat_ok (c.fact 45 (f := VH.faF (.noat "Keeper" "rows")) rfl)), xc_InvalidName := (VH.xc_ok (He.glo_ok X G (c.fact 46 (f := VH.faF (.glo "InvalidName")) rfl)) ( (c.fact 47 (f := VH.xcF "InvalidName" "GateError") rfl))), xc_InvalidStep := (VH.xc_ok (He.glo_ok X G (c.fact 48 (f := VH.faF (.glo "InvalidStep")) rfl)) ( (c.fact 49 (f := VH.xcF "InvalidStep" "GateError") rfl))) }
  have e := hfa.symm.trans (He.glo_ok X G (c.fact 21 (f := VH.faF (.glo "law")) rfl))
  cases e
  have b := FunD.bindsA (ps := ["_law_script"]) D_law fun _ _ _ _ _ _ us hl => match us, hl with | [_], _ => rfl
  refine ⟨_, fun s v => b s [v] rfl, fun base => ?_⟩
  have F_law_cell := ok_law_cell (P := P) (w := w) (base := base) fr (He.glo_ok X G (c.fact 0 (f := VH.faF (.glo "_law_cell")) rfl)) D_law_cell
  have F_law_digits := ok_law_digits (P := P) (w := w) (base := base) fr (He.glo_ok X G (c.fact 1 (f := VH.faF (.glo "_law_digits")) rfl)) D_law_digits
  have F_law_eight := ok_law_eight (P := P) (w := w) (base := base) fr (He.glo_ok X G (c.fact 2 (f := VH.faF (.glo "_law_eight")) rfl)) D_law_eight
  have F_law_rooms := ok_law_rooms (P := P) (w := w) (base := base) fr (He.glo_ok X G (c.fact 3 (f := VH.faF (.glo "_law_rooms")) rfl)) D_law_rooms
  have F_law_bad := ok_law_bad (P := P) (w := w) (base := base) fr (He.glo_ok X G (c.fact 4 (f := VH.faF (.glo "_law_bad")) rfl)) D_law_bad
  have F_law_spoiled := ok_law_spoiled (P := P) (w := w) (base := base) fr (He.glo_ok X G (c.fact 5 (f := VH.faF (.glo "_law_spoiled")) rfl)) D_law_spoiled F_law_bad
  have F_is_name := ok_is_name (P := P) (w := w) (base := base) fr (He.glo_ok X G (c.fact 6 (f := VH.faF (.glo "is_name")) rfl)) D_is_name
  have F_GateError___init__ := ok_GateError___init__ (P := P) (w := w) (base := base) fr D_GateError___init__
  have F_check_rooms := ok_check_rooms (P := P) (w := w) (base := base) fr (He.glo_ok X G (c.fact 8 (f := VH.faF (.glo "check_rooms")) rfl)) D_check_rooms F_is_name F_GateError___init__
  have F_seen_events := ok_seen_events (P := P) (w := w) (base := base) fr (He.glo_ok X G (c.fact 9 (f := VH.faF (.glo "seen_events")) rfl)) D_seen_events
  have F_numbered := ok_numbered (P := P) (w := w) (base := base) fr (He.glo_ok X G (c.fact 10 (f := VH.faF (.glo "numbered")) rfl)) D_numbered
  have F_room_classes := ok_room_classes (P := P) (w := w) (base := base) fr (He.glo_ok X G (c.fact 11 (f := VH.faF (.glo "room_classes")) rfl)) D_room_classes F_seen_events F_numbered
  have F_least_rooms := ok_least_rooms (P := P) (w := w) (base := base) fr (He.glo_ok X G (c.fact 12 (f := VH.faF (.glo "least_rooms")) rfl)) D_least_rooms F_seen_events F_room_classes
  have F_Keeper___init__ := ok_Keeper___init__ (P := P) (w := w) (base := base) fr (He.glo_ok X G (c.fact 13 (f := VH.faF (.glo "Keeper")) rfl)) (He.mkr_ok (c.fact 14 (f := VH.faF (.mkr "Keeper")) rfl)) D_Keeper___init__ F_check_rooms F_least_rooms
  have F_Keeper___len__ := ok_Keeper___len__ (P := P) (w := w) (base := base) fr (He.meth_ok (c.fact 15 (f := VH.faF (.meth "Keeper" "__len__")) rfl)) D_Keeper___len__
  have F_law_same := ok_law_same (P := P) (w := w) (base := base) fr (He.glo_ok X G (c.fact 16 (f := VH.faF (.glo "_law_same")) rfl)) D_law_same 8
  have F_law_is_name := ok_law_is_name (P := P) (w := w) (base := base) fr (He.glo_ok X G (c.fact 17 (f := VH.faF (.glo "_law_is_name")) rfl)) D_law_is_name
  have F_law_known := ok_law_known (P := P) (w := w) (base := base) fr (He.glo_ok X G (c.fact 18 (f := VH.faF (.glo "_law_known")) rfl)) D_law_known
  have F_law_least_rooms := ok_law_least_rooms (P := P) (w := w) (base := base) fr (He.glo_ok X G (c.fact 19 (f := VH.faF (.glo "_law_least_rooms")) rfl)) D_law_least_rooms F_law_known
  have F_law_due := ok_law_due (P := P) (w := w) (base := base) fr (He.glo_ok X G (c.fact 20 (f := VH.faF (.glo "_law_due")) rfl)) D_law_due F_law_is_name F_law_least_rooms
  exact ok_law (P := P) (w := w) (base := base) fr D_law F_law_cell F_law_digits F_law_eight F_law_rooms F_law_spoiled F_Keeper___init__ F_Keeper___len__ F_law_same F_law_due
theorem law_sp {P : Program} {w : World} {K : PySem.W.Frag} {mg : Str → Option Value} {H : Hp} {a : Addr} {ns : List Int} {outs : En} (hS : SqL K H a (ns.map V.int)) (h : φ_law [(false, .scr ns)] = .ok (false, .bl true) outs) :
    spV ⟨P, w, K, mg⟩ 1 φ_law [.ref a] H (fun v _ => v = .bl true) fun _ _ _ => False := by
  refine ⟨rfl, H, [(false, .scr ns)], ⟨Same.refl H, rfl, fun i u q => ?_, fun i u q => ?_, fun i j u w a q => ?_⟩, ?_⟩
  · cases i with
    | zero => cases q; exact ⟨_, rfl, by simp only [rep]; exact ⟨a, rfl, hS⟩⟩
    | succ i => cases q
  · cases i with
    | zero => cases q
    | succ i => cases q
  · cases i with
    | zero => cases q
    | succ i => cases q
  · rw [h]
    intro v B' H' g r
    have r : rep ⟨P, w, K, mg⟩ B' (.bl true) v := r
    simpa only [rep] using r
end VS
open PySem PySem.W PySem.Calls PyProof.Rows
theorem PySem.Challenge.cw_seenbars_k19_errors_of_keepers_holds : PySem.Challenge.rw_seenbars_k19_errors_of_keepers.Holds := by
  w_on; o_law
  refine HandSHeadRun.head_any (r := OpenLaw.row PySem.Challenge.rw_seenbars_k19_errors_of_keepers) (q := view (OpenLaw.row PySem.Challenge.rw_seenbars_k19_errors_of_keepers).prog [29]) (H := VS.hkD) (ob := VS.obD) (M := 9000) (loose := ["_wall", "GateError", "InvalidName", "InvalidStep", "LETTERS", "LONGEST", "is_name", "check_rooms", "numbered", "seen_events", "room_classes", "least_rooms", "joined_rooms", "Keeper", "_law_cell", "_law_digits", "_law_eight", "_law_known", "_law_rooms", "_law_least_rooms", "_law_bad", "_law_same", "_law_is_name", "_law_due", "_law_spoiled"]) (d := HandSHeadRun.topDef (OpenLaw.row PySem.Challenge.rw_seenbars_k19_errors_of_keepers).prog 29) (kwd := []) VS.obD_eq
    (by kernel_rfl) (fun s => by kernel_rfl) VS.runD (by kernel_rfl) (by kernel_rfl) (by kernel_rfl) (by rfl) (by first | assumption | decide +kernel) (by decide +kernel) ⟨rfl, rfl, rfl, rfl, rfl, by decide +kernel⟩ ?hw ?hc
  case hw => w_witness2
  case hc =>
    refine L2.walk_ofE (l := PySem.Challenge.rw_seenbars_k19_errors_of_keepers) (n := 63) (k := 10) (x := "_law_script") (CX := L2.CX0) rfl (by decide) (by kernel_rfl) ⟨rfl, by decide, by decide⟩ ?F (fun _ _ _ _ z => z)
    intro w mg fa h Y G hmg0
    obtain ⟨K, KX, c⟩ := Y
    have hmg : mg ("law" : PySem.Str) = some (.ref fa) := by
      have e : (HandSHeadRun.topDef (OpenLaw.row PySem.Challenge.rw_seenbars_k19_errors_of_keepers).prog 29).name = ("law" : PySem.Str) := by kernel_rfl
      rw [← e]
      exact hmg0
    obtain ⟨fd, hb, hF⟩ := VS.factsD (P := (PySem.Challenge.rw_seenbars_k19_errors_of_keepers).prog) (w := w) KX G hmg c
    exact ⟨K, fd, VS.spL ⟨(PySem.Challenge.rw_seenbars_k19_errors_of_keepers).prog, w, K, mg⟩ 1 VS.φ_law, KX, hb, fun H a ns hl _ hS => (VS.pure_law ns hl).elim fun outs h => VS.law_sp hS h, fun base _ _ => hF base⟩
