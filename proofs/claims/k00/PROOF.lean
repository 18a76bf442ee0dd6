import PyProof.Rows.All
import Wide.All
import OpenK.AllK
import Wide.FinOn
import HandS.ForMost
import HandS.Exc
import HandS.TryOnly
import HandS.ExcField
import HandS.TupAny
import HandS.Wide
import HandS.HeadHook1
import HandS.Style
import HandS.Deep
import HandS.ExcOwn
import HandS.IsInst
import HandS.Dict
import HandS.Replace
import HandS.ExcInit
import KE.GoesZip
import KE.GoesMore
import HandS.HeadHook2
import HandS.Words
import HandS.WordsExc
import HandS.TupMul
import HandS.Head0
import HandS.Head1
import HandS.Head2
import HandS.HeadEnd
import HandS.HeadWalk
import PySem.Challenge.RW_lambdabench_k00_places_of_equal_names_an
section
set_option Elab.async false
set_option linter.all false
set_option maxRecDepth 100000
set_option maxHeartbeats 2000000
namespace DL
open PySem PySem.Spec L2 PyProof.Rows

/-! ### data; values that a frame may own -/
inductive D where
  | non | bl (b : Bool) | int (i : Int) | str (s : List Nat)
  | tup (xs : List D) | lst (xs : List D) | kst (xs : List D) | dic (kvs : List (Key × D)) | fn (a : Addr)
  | exc (a d : Addr) (cls fld : Str) (x : D)
inductive O where
  | d (x : D) | own (xs : List O) | dct (kvs : List (Key × O))
def okS (s : List Nat) : Prop := ∀ c ∈ s, c < 0x110000

section
variable (K : PySem.W.Frag) (S : Hp)
mutual
def Rp : D → V → Prop
  | .non, v => v = .non
  | .bl b, v => v = .bl b
  | .int i, v => v = .int i
  | .str s, v => v = .str ⟨s.toArray⟩ ∧ okS s ∧ s.length ≤ sizeLine
  | .tup ds, v => ∃ a xs, v = .ref a ∧ SqT K S a xs ∧ RpL ds xs
  | .lst ds, v => ∃ a xs, v = .ref a ∧ S a = some (.lst xs) ∧ RpL ds xs
  | .kst ds, v => ∃ a xs, v = .ref a ∧ SqL K S a xs ∧ RpL ds xs
  | .dic kvs, v => ∃ a ps, v = .ref a ∧ S a = some (.dK ps) ∧ RpK kvs ps
  | .fn a, v => v = .ref a
  | .exc a d _ f x, v => v = .ref a ∧ ∃ u, S d = some (.xd [(f, u)]) ∧ Rp x u
def RpL : List D → List V → Prop
  | [], vs => vs = []
  | d :: ds, vs => ∃ v r, vs = v :: r ∧ Rp d v ∧ RpL ds r
def RpK : List (Key × D) → List (Key × V) → Prop
  | [], vs => vs = []
  | (k, d) :: ds, vs => ∃ v r, vs = (k, v) :: r ∧ Rp d v ∧ RpK ds r
end
end

def Disj (F G : List Addr) : Prop := ∀ a, a ∈ F → a ∉ G
section
variable (K : PySem.W.Frag) (S H : Hp)
mutual
def RepO : O → V → List Addr → Prop
  | .d x, v, F => Rp K S x v ∧ F = []
  | .own os, v, F => ∃ a xs G, v = .ref a ∧ H a = some (.lst xs) ∧ F = a :: G ∧ a ∉ G ∧ RepL os xs G
  | .dct kvs, v, F => ∃ a ps G, v = .ref a ∧ H a = some (.dK ps) ∧ F = a :: G ∧ a ∉ G ∧ RepK kvs ps G
def RepL : List O → List V → List Addr → Prop
  | [], vs, F => vs = [] ∧ F = []
  | o :: os, vs, F => ∃ v r F1 F2, vs = v :: r ∧ F = F1 ++ F2 ∧ Disj F1 F2 ∧ RepO o v F1 ∧ RepL os r F2
def RepK : List (Key × O) → List (Key × V) → List Addr → Prop
  | [], vs, F => vs = [] ∧ F = []
  | (k, o) :: os, vs, F => ∃ v r F1 F2, vs = (k, v) :: r ∧ F = F1 ++ F2 ∧ Disj F1 F2 ∧ RepO o v F1 ∧ RepK os r F2
end
end

/-! ### how the heap goes on -/
def Sub (S H : Hp) : Prop := ∀ a o, S a = some o → H a = some o
structure Ext (P : Addr → Prop) (S H S' H' : Hp) : Prop where
  sub : Sub S S'
  keep : ∀ a o, H a = some o → ¬ P a → H' a = some o
  there : ∀ a, H' a = none → H a = none
  sfr : ∀ a, S a = none → H a ≠ none → ¬ P a → S' a = none
theorem Sub.refl (S : Hp) : Sub S S := fun _ _ h => h
theorem Sub.trans {S T U : Hp} (a : Sub S T) (b : Sub T U) : Sub S U := fun x o h => b x o (a x o h)
theorem Ext.refl {P : Addr → Prop} {S H : Hp} : Ext P S H S H := ⟨Sub.refl S, fun _ _ h _ => h, fun _ h => h, fun _ h _ _ => h⟩
theorem Ext.mono {P P' : Addr → Prop} {S H S' H' : Hp} (e : Ext P S H S' H') (h : ∀ a, P a → P' a) : Ext P' S H S' H' :=
  ⟨e.sub, fun a o q n => e.keep a o q fun z => n (h a z), e.there, fun a q r n => e.sfr a q r fun z => n (h a z)⟩
theorem Ext.trans {P P1 : Addr → Prop} {S H S1 H1 S2 H2 : Hp} (a : Ext P S H S1 H1) (b : Ext P1 S1 H1 S2 H2) (h : ∀ x, P1 x → P x ∨ H x = none) : Ext P S H S2 H2 where
  sub := a.sub.trans b.sub
  keep := fun x o q n => b.keep x o (a.keep x o q n) fun z => (h x z).elim n fun y => by rw [q] at y; cases y
  there := fun x q => a.there x (b.there x q)
  sfr := fun x q r n => b.sfr x (a.sfr x q r n) (fun y => r (a.there x y)) fun z => (h x z).elim n fun y => r y

theorem sqL_sub {K : PySem.W.Frag} {S T : Hp} (s : Sub S T) {a : Addr} {xs : List V} (h : SqL K S a xs) : SqL K T a xs := by
  rcases h with (h | ⟨o, h⟩) | h
  · exact Or.inl (Or.inl (s a _ h))
  · exact Or.inl (Or.inr ⟨o, s a _ h⟩)
  · exact Or.inr h
theorem sqT_sub {K : PySem.W.Frag} {S T : Hp} (s : Sub S T) {a : Addr} {xs : List V} (h : SqT K S a xs) : SqT K T a xs := by
  rcases h with (h | ⟨o, h⟩) | h
  · exact Or.inl (Or.inl (s a _ h))
  · exact Or.inl (Or.inr ⟨o, s a _ h⟩)
  · exact Or.inr h

section
variable {K : PySem.W.Frag} {S S' T : Hp}
mutual
theorem Rp.mono (s : Sub S T) : ∀ (d : D) (v : V), Rp K S d v → Rp K T d v
  | .non, _, h => h
  | .bl _, _, h => h
  | .int _, _, h => h
  | .str _, _, h => h
  | .fn _, _, h => h
  | .exc a d c f x, v, h => by
    simp only [Rp] at h ⊢
    obtain ⟨e, u, q, r⟩ := h
    exact ⟨e, u, s d _ q, Rp.mono s x u r⟩
  | .tup ds, v, h => by
    simp only [Rp] at h ⊢
    obtain ⟨a, xs, e, q, r⟩ := h
    exact ⟨a, xs, e, sqT_sub s q, RpL.mono s ds xs r⟩
  | .lst ds, v, h => by
    simp only [Rp] at h ⊢
    obtain ⟨a, xs, e, q, r⟩ := h
    exact ⟨a, xs, e, s a _ q, RpL.mono s ds xs r⟩
  | .kst ds, v, h => by
    simp only [Rp] at h ⊢
    obtain ⟨a, xs, e, q, r⟩ := h
    exact ⟨a, xs, e, sqL_sub s q, RpL.mono s ds xs r⟩
  | .dic kvs, v, h => by
    simp only [Rp] at h ⊢
    obtain ⟨a, xs, e, q, r⟩ := h
    exact ⟨a, xs, e, s a _ q, RpK.mono s kvs xs r⟩
theorem RpL.mono (s : Sub S T) : ∀ (ds : List D) (vs : List V), RpL K S ds vs → RpL K T ds vs
  | [], _, h => h
  | d :: ds, vs, h => by
    simp only [RpL] at h ⊢
    obtain ⟨v, r, e, q, t⟩ := h
    exact ⟨v, r, e, Rp.mono s d v q, RpL.mono s ds r t⟩
theorem RpK.mono (s : Sub S T) : ∀ (ds : List (Key × D)) (vs : List (Key × V)), RpK K S ds vs → RpK K T ds vs
  | [], _, h => h
  | (k, d) :: ds, vs, h => by
    simp only [RpK] at h ⊢
    obtain ⟨v, r, e, q, t⟩ := h
    exact ⟨v, r, e, Rp.mono s d v q, RpK.mono s ds r t⟩
end
end

section
variable {K : PySem.W.Frag} {S H S' H' : Hp}
mutual
theorem RepO.mono (s : Sub S S') : ∀ (o : O) (v : V) (F : List Addr), RepO K S H o v F → (∀ a u, a ∈ F → H a = some u → H' a = some u) → RepO K S' H' o v F
  | .d x, v, F, h, k => by
    simp only [RepO] at h ⊢
    exact ⟨Rp.mono s x v h.1, h.2⟩
  | .own os, v, F, h, k => by
    simp only [RepO] at h ⊢
    obtain ⟨a, xs, G, e, q, ef, ng, r⟩ := h
    exact ⟨a, xs, G, e, k a _ (by rw [ef]; exact List.mem_cons_self) q, ef, ng, RepL.mono s os xs G r fun b u hb => k b u (by rw [ef]; exact List.mem_cons_of_mem _ hb)⟩
  | .dct kvs, v, F, h, k => by
    simp only [RepO] at h ⊢
    obtain ⟨a, xs, G, e, q, ef, ng, r⟩ := h
    exact ⟨a, xs, G, e, k a _ (by rw [ef]; exact List.mem_cons_self) q, ef, ng, RepK.mono s kvs xs G r fun b u hb => k b u (by rw [ef]; exact List.mem_cons_of_mem _ hb)⟩
theorem RepL.mono (s : Sub S S') : ∀ (os : List O) (vs : List V) (F : List Addr), RepL K S H os vs F → (∀ a u, a ∈ F → H a = some u → H' a = some u) → RepL K S' H' os vs F
  | [], _, _, h, _ => h
  | o :: os, vs, F, h, k => by
    simp only [RepL] at h ⊢
    obtain ⟨v, r, F1, F2, e, ef, dj, q, t⟩ := h
    exact ⟨v, r, F1, F2, e, ef, dj, RepO.mono s o v F1 q fun b u hb => k b u (by rw [ef]; exact List.mem_append_left _ hb), RepL.mono s os r F2 t fun b u hb => k b u (by rw [ef]; exact List.mem_append_right _ hb)⟩
theorem RepK.mono (s : Sub S S') : ∀ (os : List (Key × O)) (vs : List (Key × V)) (F : List Addr), RepK K S H os vs F → (∀ a u, a ∈ F → H a = some u → H' a = some u) → RepK K S' H' os vs F
  | [], _, _, h, _ => h
  | (i, o) :: os, vs, F, h, k => by
    simp only [RepK] at h ⊢
    obtain ⟨v, r, F1, F2, e, ef, dj, q, t⟩ := h
    exact ⟨v, r, F1, F2, e, ef, dj, RepO.mono s o v F1 q fun b u hb => k b u (by rw [ef]; exact List.mem_append_left _ hb), RepK.mono s os r F2 t fun b u hb => k b u (by rw [ef]; exact List.mem_append_right _ hb)⟩
end
mutual
theorem RepO.there : ∀ (o : O) (v : V) (F : List Addr), RepO K S H o v F → ∀ a ∈ F, H a ≠ none
  | .d x, v, F, h, a, ha => by
    simp only [RepO] at h
    rw [h.2] at ha; cases ha
  | .own os, v, F, h, a, ha => by
    simp only [RepO] at h
    obtain ⟨b, xs, G, e, q, ef, ng, r⟩ := h
    rw [ef] at ha
    rcases List.mem_cons.mp ha with z | z
    · rw [z, q]; intro y; cases y
    · exact RepL.there os xs G r a z
  | .dct kvs, v, F, h, a, ha => by
    simp only [RepO] at h
    obtain ⟨b, xs, G, e, q, ef, ng, r⟩ := h
    rw [ef] at ha
    rcases List.mem_cons.mp ha with z | z
    · rw [z, q]; intro y; cases y
    · exact RepK.there kvs xs G r a z
theorem RepL.there : ∀ (os : List O) (vs : List V) (F : List Addr), RepL K S H os vs F → ∀ a ∈ F, H a ≠ none
  | [], _, _, h, a, ha => by
    simp only [RepL] at h
    rw [h.2] at ha; cases ha
  | o :: os, vs, F, h, a, ha => by
    simp only [RepL] at h
    obtain ⟨v, r, F1, F2, e, ef, dj, q, t⟩ := h
    rw [ef] at ha
    rcases List.mem_append.mp ha with z | z
    · exact RepO.there o v F1 q a z
    · exact RepL.there os r F2 t a z
theorem RepK.there : ∀ (os : List (Key × O)) (vs : List (Key × V)) (F : List Addr), RepK K S H os vs F → ∀ a ∈ F, H a ≠ none
  | [], _, _, h, a, ha => by
    simp only [RepK] at h
    rw [h.2] at ha; cases ha
  | (i, o) :: os, vs, F, h, a, ha => by
    simp only [RepK] at h
    obtain ⟨v, r, F1, F2, e, ef, dj, q, t⟩ := h
    rw [ef] at ha
    rcases List.mem_append.mp ha with z | z
    · exact RepO.there o v F1 q a z
    · exact RepK.there os r F2 t a z
end
/-- what is not owned by P stands -/
theorem RepO.ext {P : Addr → Prop} (e : Ext P S H S' H') {o : O} {v : V} {F : List Addr} (h : RepO K S H o v F) (n : ∀ a ∈ F, ¬ P a) : RepO K S' H' o v F :=
  RepO.mono e.sub o v F h fun a u ha q => e.keep a u q (n a ha)
theorem RepL.ext {P : Addr → Prop} (e : Ext P S H S' H') {o : List O} {v : List V} {F : List Addr} (h : RepL K S H o v F) (n : ∀ a ∈ F, ¬ P a) : RepL K S' H' o v F :=
  RepL.mono e.sub o v F h fun a u ha q => e.keep a u q (n a ha)
end
end DL
end

section
set_option Elab.async false
set_option linter.all false
set_option maxRecDepth 100000
set_option maxHeartbeats 2000000
namespace DL
open PySem PySem.Spec L2 PyProof.Rows

/-! ### the pure side: names' values, readings -/
abbrev Env := List (Option O)
structure Exc where
  cls : Str
  fld : Str
  val : D
abbrev PX := Exc → Env → Prop
abbrev PTE := Env → (O → Env → Prop) → PX → Prop
abbrev PTT := Env → (Bool → Env → Prop) → PX → Prop
structure PEnds where
  nx : Env → Prop
  rt : O → Env → Prop
  bk : Env → Prop
  ct : Env → Prop
  ex : PX
abbrev PTS := PEnds → Env → Prop

/-! ### the state -/
def Own (Fs : Nat → List Addr) : Addr → Prop := fun a => ∃ i, a ∈ Fs i
def Pb (b : Bool) (Fs : Nat → List Addr) : Addr → Prop := fun a => b = true ∧ Own Fs a
def put (Fs : Nat → List Addr) (i : Nat) (F : List Addr) : Nat → List Addr := fun j => if j = i then F else Fs j
theorem put_same {Fs : Nat → List Addr} {i : Nat} {F : List Addr} : put Fs i F i = F := if_pos rfl
theorem put_ne {Fs : Nat → List Addr} {i j : Nat} {F : List Addr} (h : j ≠ i) : put Fs i F j = Fs j := if_neg h

structure St (K : PySem.W.Frag) (σ : L2.St) (H S : Hp) (env : Env) (Fs : Nat → List Addr) : Prop where
  len : σ.length = env.length
  rep : ∀ i o, env[i]? = some (some o) → ∃ v, σ[i]? = some (some v) ∧ RepO K S H o v (Fs i)
  dis : ∀ i j a, a ∈ Fs i → a ∈ Fs j → i = j
  sub : Sub S H
  nos : ∀ a, Own Fs a → S a = none
  own : ∀ a, Own Fs a → H a ≠ none

/-- a step that stores no name -/
structure Nx (K : PySem.W.Frag) (b : Bool) (σ : L2.St) (H S : Hp) (env : Env) (Fs : Nat → List Addr) (H' S' : Hp) (env' : Env) (Fs' : Nat → List Addr) : Prop where
  ext : Ext (Pb b Fs) S H S' H'
  st : St K σ H' S' env' Fs'
  fr : ∀ a, Own Fs' a → Own Fs a ∨ H a = none
  pure : b = false → env' = env ∧ Fs' = Fs
/-- a step that may store names, but those at pins -/
structure NxS (K : PySem.W.Frag) (pins : List Nat) (σ : L2.St) (H S : Hp) (Fs : Nat → List Addr) (σ' : L2.St) (H' S' : Hp) (env' : Env) (Fs' : Nat → List Addr) : Prop where
  ext : Ext (Own Fs) S H S' H'
  st : St K σ' H' S' env' Fs'
  fr : ∀ a, Own Fs' a → Own Fs a ∨ H a = none
  pin : ∀ i, i ∈ pins → σ'[i]? = σ[i]?
/-- a value that has come; w: it may be one that a name owns -/
structure Val (K : PySem.W.Frag) (w : Bool) (H : Hp) (Fs : Nat → List Addr) (H' S' : Hp) (Fs' : Nat → List Addr) (v : V) (o : O) (F : List Addr) : Prop where
  rep : RepO K S' H' o v F
  nos : ∀ a, a ∈ F → S' a = none
  fr : ∀ a, a ∈ F → Own Fs a ∨ H a = none
  own : w = false → ∀ a, a ∈ F → ¬ Own Fs' a

section
variable {K : PySem.W.Frag} {b b1 b2 w : Bool} {σ σ' σ1 σ2 : L2.St} {H S H1 S1 H2 S2 H' S' : Hp} {env env1 env2 env' : Env} {Fs Fs1 Fs2 Fs' : Nat → List Addr} {pins : List Nat}
theorem Nx.refl (s : St K σ H S env Fs) : Nx K b σ H S env Fs H S env Fs := ⟨Ext.refl, s, fun _ h => .inl h, fun _ => ⟨rfl, rfl⟩⟩
theorem fr_trans (e : Ext (Pb b Fs) S H S1 H1) (a : ∀ a, Own Fs1 a → Own Fs a ∨ H a = none) {x : Addr} (h : Own Fs1 x ∨ H1 x = none) : Own Fs x ∨ H x = none := by
  rcases h with h | h
  · exact a x h
  · exact .inr (e.there x h)
theorem Nx.trans (a : Nx K b1 σ H S env Fs H1 S1 env1 Fs1) (c : Nx K b2 σ H1 S1 env1 Fs1 H2 S2 env2 Fs2) : Nx K (b1 || b2) σ H S env Fs H2 S2 env2 Fs2 where
  ext := (a.ext.mono fun x h => ⟨by rw [h.1]; rfl, h.2⟩).trans (P := Pb (b1 || b2) Fs) c.ext fun x h => by
    rcases a.fr x h.2 with z | z
    · exact .inl ⟨by rw [h.1, Bool.or_true], z⟩
    · exact .inr z
  st := c.st
  fr := fun x h => fr_trans a.ext a.fr (c.fr x h)
  pure := fun h => by
    rw [Bool.or_eq_false_iff] at h
    obtain ⟨e1, e2⟩ := a.pure h.1
    obtain ⟨e3, e4⟩ := c.pure h.2
    exact ⟨e3.trans e1, e4.trans e2⟩
theorem Nx.up (a : Nx K b σ H S env Fs H1 S1 env1 Fs1) : Nx K true σ H S env Fs H1 S1 env1 Fs1 := ⟨a.ext.mono fun _ h => ⟨rfl, h.2⟩, a.st, a.fr, fun h => by cases h⟩
theorem Nx.s (a : Nx K b σ H S env Fs H1 S1 env1 Fs1) : NxS K pins σ H S Fs σ H1 S1 env1 Fs1 := ⟨a.ext.mono fun _ h => h.2, a.st, a.fr, fun _ _ => rfl⟩
theorem NxS.refl (s : St K σ H S env Fs) : NxS K pins σ H S Fs σ H S env Fs := ⟨Ext.refl, s, fun _ h => .inl h, fun _ _ => rfl⟩
theorem NxS.trans (a : NxS K pins σ H S Fs σ1 H1 S1 env1 Fs1) (c : NxS K pins σ1 H1 S1 Fs1 σ2 H2 S2 env2 Fs2) : NxS K pins σ H S Fs σ2 H2 S2 env2 Fs2 where
  ext := a.ext.trans c.ext a.fr
  st := c.st
  fr := fun x h => by
    rcases c.fr x h with z | z
    · exact a.fr x z
    · exact .inr (a.ext.there x z)
  pin := fun i h => (c.pin i h).trans (a.pin i h)
/-- behind a step a value's own things are still from ahead -/
theorem Val.back {v : V} {o : O} {F : List Addr} (a : Nx K b σ H S env Fs H1 S1 env1 Fs1) (c : Val K w H1 Fs1 H2 S2 Fs2 v o F) : Val K w H Fs H2 S2 Fs2 v o F :=
  ⟨c.rep, c.nos, fun x h => fr_trans a.ext a.fr (c.fr x h), c.own⟩
theorem Val.backS {v : V} {o : O} {F : List Addr} (a : NxS K pins σ H S Fs σ1 H1 S1 env1 Fs1) (c : Val K w H1 Fs1 H2 S2 Fs2 v o F) : Val K w H Fs H2 S2 Fs2 v o F :=
  ⟨c.rep, c.nos, fun x h => by
    rcases c.fr x h with z | z
    · exact a.fr x z
    · exact .inr (a.ext.there x z), c.own⟩
theorem Val.there {v : V} {o : O} {F : List Addr} (c : Val K w H Fs H' S' Fs' v o F) : ∀ a ∈ F, H' a ≠ none := RepO.there o v F c.rep
/-- a value that is held while a step goes on -/
theorem Val.on {v : V} {o : O} {F : List Addr} (c : Val K w H Fs H1 S1 Fs1 v o F) (a : Nx K b σ H1 S1 env1 Fs1 H2 S2 env2 Fs2) (h : w = true → b = false) : Val K w H Fs H2 S2 Fs2 v o F := by
  have hn : ∀ x ∈ F, ¬ Pb b Fs1 x := fun x hx z => by
    cases w with
    | false => exact c.own rfl x hx z.2
    | true => have := z.1; rw [h rfl] at this; cases this
  refine ⟨c.rep.ext a.ext hn, fun x hx => a.ext.sfr x (c.nos x hx) (c.there x hx) (hn x hx), c.fr, fun e x hx z => ?_⟩
  subst e
  rcases a.fr x z with q | q
  · exact c.own rfl x hx q
  · exact c.there x hx q
theorem Val.wk {v : V} {o : O} {F : List Addr} (c : Val K w H Fs H' S' Fs' v o F) : Val K true H Fs H' S' Fs' v o F := ⟨c.rep, c.nos, c.fr, fun h => by cases h⟩
theorem Val.data {v : V} {d : D} (h : Rp K S' d v) : Val K w H Fs H' S' Fs' v (.d d) [] := by
  refine ⟨?_, fun a ha => absurd ha (by simp), fun a ha => absurd ha (by simp), fun _ a ha => absurd ha (by simp)⟩
  simp only [RepO]
  exact ⟨h, trivial⟩
theorem Val.rp {v : V} {d : D} {F : List Addr} (h : Val K w H Fs H' S' Fs' v (.d d) F) : Rp K S' d v := by
  have q := h.rep
  simp only [RepO] at q
  exact q.1
/-- the state stands behind a step that makes new things alone -/
theorem St.new (s : St K σ H S env Fs) (e : Ext (fun _ => False) S H S' H') (sb : Sub S' H') : St K σ H' S' env Fs where
  len := s.len
  rep := fun i o h => by
    obtain ⟨v, e1, r⟩ := s.rep i o h
    exact ⟨v, e1, r.ext e fun _ _ z => z⟩
  dis := s.dis
  sub := sb
  nos := fun a h => e.sfr a (s.nos a h) (s.own a h) fun z => z
  own := fun a h z => s.own a h (e.there a z)
theorem Nx.new (s : St K σ H S env Fs) (e : Ext (fun _ => False) S H S' H') (sb : Sub S' H') : Nx K b σ H S env Fs H' S' env Fs :=
  ⟨e.mono fun _ z => z.elim, s.new e sb, fun _ h => .inl h, fun _ => ⟨rfl, rfl⟩⟩
end

/-! ### readings kept -/
/-- the wish for an exception: from now on -/
def XC (K : PySem.W.Frag) (W : WX) (σ : L2.St) (H S : Hp) (env : Env) (Fs : Nat → List Addr) (Ep : PX) : Prop :=
  ∀ (x : Exc) d v H' S' env' Fs', Nx K true σ H S env Fs H' S' env' Fs' → H' d = some (.xd [(x.fld, v)]) → H d = none → S' d = none → ¬ Own Fs' d → Rp K S' x.val v → Ep x env' → W (.ref (He.ga K x.cls)) (some d) σ H'
def XCS (K : PySem.W.Frag) (W : WX) (pins : List Nat) (σ : L2.St) (H S : Hp) (Fs : Nat → List Addr) (Ep : PX) : Prop :=
  ∀ (x : Exc) d v σ' H' S' env' Fs', NxS K pins σ H S Fs σ' H' S' env' Fs' → H' d = some (.xd [(x.fld, v)]) → H d = none → S' d = none → ¬ Own Fs' d → Rp K S' x.val v → Ep x env' → W (.ref (He.ga K x.cls)) (some d) σ' H'
def SimE (K : PySem.W.Frag) (W : WX) (b w : Bool) (te : TE) (t : PTE) : Prop :=
  ∀ σ H S env Fs (Qp : O → Env → Prop) (Ep : PX) (Q : VK), St K σ H S env Fs → t env Qp Ep →
    (∀ v o F H' S' env' Fs', Nx K b σ H S env Fs H' S' env' Fs' → Val K w H Fs H' S' Fs' v o F → Qp o env' → Q v H') → XC K W σ H S env Fs Ep → te σ H Q
def SimT (K : PySem.W.Frag) (W : WX) (b : Bool) (te : TT) (t : PTT) : Prop :=
  ∀ σ H S env Fs (Qp : Bool → Env → Prop) (Ep : PX) (Q : Bool → Hp → Prop), St K σ H S env Fs → t env Qp Ep →
    (∀ c H' S' env' Fs', Nx K b σ H S env Fs H' S' env' Fs' → Qp c env' → Q c H') → XC K W σ H S env Fs Ep → te σ H Q
def SimS (K : PySem.W.Frag) (W : WX) (pins : List Nat) (ts : TS) (t : PTS) : Prop :=
  ∀ σ H S env Fs (De : PEnds) (D : Ends), St K σ H S env Fs → t De env →
    (∀ σ' H' S' env' Fs', NxS K pins σ H S Fs σ' H' S' env' Fs' → De.nx env' → D.nx σ' H') →
    (∀ v o F σ' H' S' env' Fs', NxS K pins σ H S Fs σ' H' S' env' Fs' → Val K false H Fs H' S' Fs' v o F → De.rt o env' → D.rt v H') →
    (∀ σ' H' S' env' Fs', NxS K pins σ H S Fs σ' H' S' env' Fs' → De.bk env' → D.bk σ' H') →
    (∀ σ' H' S' env' Fs', NxS K pins σ H S Fs σ' H' S' env' Fs' → De.ct env' → D.ct σ' H') →
    XCS K W pins σ H S Fs De.ex → ts D σ H
structure PD (X : Cx) (W : WX) (b w : Bool) (e : Expr) (te : TE) (t : PTE) : Prop where
  pe : PE X e te
  sim : SimE X.K W b w te t
structure PDT (X : Cx) (W : WX) (b : Bool) (e : Expr) (te : TT) (t : PTT) : Prop where
  pt : PT X e te
  sim : SimT X.K W b te t
structure PDW (X : Cx) (W : WX) (b : Bool) (e : Expr) (te : TT) (t : PTT) : Prop where
  pw : L2.PW X e te
  sim : SimT X.K W b te t
structure PDS (X : Cx) (W : WX) (pins : List Nat) (st : Stmt) (ts : TS) (t : PTS) : Prop where
  ps : PS X st ts
  sim : SimS X.K W pins ts t
structure PDB (X : Cx) (W : WX) (pins : List Nat) (st : List Stmt) (ts : TS) (t : PTS) : Prop where
  pss : PSs X st ts
  sim : SimS X.K W pins ts t

section
variable {K : PySem.W.Frag} {W : WX} {b b1 b2 w w1 w2 : Bool} {σ σ1 σ2 : L2.St} {H S H1 S1 H2 S2 : Hp} {env env1 : Env} {Fs Fs1 : Nat → List Addr} {pins : List Nat} {Ep : PX}
theorem XC.on (x : XC K W σ H S env Fs Ep) (n : Nx K b σ H S env Fs H1 S1 env1 Fs1) : XC K W σ H1 S1 env1 Fs1 Ep :=
  fun y d v H' S' env' Fs' n' e hd sd od r q => x y d v H' S' env' Fs' (n.up.trans n') e (n.ext.there d hd) sd od r q
theorem XCS.on {σ1 : L2.St} (x : XCS K W pins σ H S Fs Ep) (n : NxS K pins σ H S Fs σ1 H1 S1 env1 Fs1) : XCS K W pins σ1 H1 S1 Fs1 Ep :=
  fun y d v σ' H' S' env' Fs' n' e hd sd od r q => x y d v σ' H' S' env' Fs' (n.trans n') e (n.ext.there d hd) sd od r q
theorem XCS.e (x : XCS K W pins σ H S Fs Ep) : XC K W σ H S env Fs Ep := fun y d v H' S' env' Fs' n' e hd sd od r q => x y d v σ H' S' env' Fs' n'.s e hd sd od r q
/-- a value that is to be stored away is no name's -/
theorem SimE.weak {te : TE} {t : PTE} (s : SimE K W b w te t) : SimE K W b true te t := fun σ H S env Fs Qp Ep Q hs ht k x =>
  s σ H S env Fs Qp Ep Q hs ht (fun v o F H' S' env' Fs' n c q => k v o F H' S' env' Fs' n c.wk q) x
theorem Nx.to {H S H' S' : Hp} {env env' : Env} {Fs Fs' : Nat → List Addr} (n : Nx K b σ H S env Fs H' S' env' Fs') (h : b = true → b1 = true) (h1 : b1 = false → b = false) : Nx K b1 σ H S env Fs H' S' env' Fs' :=
  ⟨n.ext.mono fun _ z => ⟨h z.1, z.2⟩, n.st, n.fr, fun e => n.pure (h1 e)⟩
theorem SimE.up {te : TE} {t : PTE} (s : SimE K W b w te t) : SimE K W true w te t := fun σ H S env Fs Qp Ep Q hs ht k x =>
  s σ H S env Fs Qp Ep Q hs ht (fun v o F H' S' env' Fs' n c q => k v o F H' S' env' Fs' n.up c q) x
theorem SimT.up {te : TT} {t : PTT} (s : SimT K W b te t) : SimT K W true te t := fun σ H S env Fs Qp Ep Q hs ht k x =>
  s σ H S env Fs Qp Ep Q hs ht (fun c H' S' env' Fs' n q => k c H' S' env' Fs' n.up q) x
end
theorem PD.weak {X : Cx} {W : WX} {b w : Bool} {e : Expr} {te : TE} {t : PTE} (h : PD X W b w e te t) : PD X W b true e te t := ⟨h.pe, h.sim.weak⟩
theorem PD.up {X : Cx} {W : WX} {b w : Bool} {e : Expr} {te : TE} {t : PTE} (h : PD X W b w e te t) : PD X W true w e te t := ⟨h.pe, h.sim.up⟩
theorem PDT.up {X : Cx} {W : WX} {b : Bool} {e : Expr} {te : TT} {t : PTT} (h : PDT X W b e te t) : PDT X W true e te t := ⟨h.pt, h.sim.up⟩
end DL
end

section
set_option Elab.async false
set_option linter.all false
set_option maxRecDepth 100000
set_option maxHeartbeats 2000000
namespace DL
open PySem PySem.Spec L2 PyProof.Rows

/-! ### a name's value given away: its things become part of S -/
def addS (S H : Hp) (F : List Addr) : Hp := fun a => if a ∈ F then H a else S a
theorem addS_sub {S H : Hp} {F : List Addr} (h : ∀ a ∈ F, S a = none) : Sub S (addS S H F) := fun a o q => by
  unfold addS
  by_cases z : a ∈ F
  · rw [h a z] at q; cases q
  · rw [if_neg z]; exact q
theorem addS_in {S H : Hp} {F : List Addr} (h : Sub S H) : Sub (addS S H F) H := fun a o q => by
  unfold addS at q
  by_cases z : a ∈ F
  · rw [if_pos z] at q; exact q
  · rw [if_neg z] at q; exact h a o q
theorem addS_at {S H : Hp} {F : List Addr} {a : Addr} (h : a ∈ F) : addS S H F a = H a := if_pos h
theorem addS_ne {S H : Hp} {F : List Addr} {a : Addr} (h : a ∉ F) : addS S H F a = S a := if_neg h
mutual
@[simp] def O.frz : O → D
  | .d x => x
  | .own xs => .lst (frzL xs)
  | .dct kvs => .dic (frzK kvs)
@[simp] def frzL : List O → List D
  | [] => []
  | o :: os => o.frz :: frzL os
def frzK : List (Key × O) → List (Key × D)
  | [] => []
  | (k, o) :: os => (k, o.frz) :: frzK os
end
section
variable {K : PySem.W.Frag} {S H T : Hp}
mutual
theorem frz_rp (s : Sub S T) : ∀ (o : O) (v : V) (F : List Addr), RepO K S H o v F → (∀ a ∈ F, T a = H a) → Rp K T o.frz v
  | .d x, v, F, h, t => by
    simp only [RepO] at h
    simp only [O.frz]
    exact Rp.mono s x v h.1
  | .own os, v, F, h, t => by
    simp only [RepO] at h
    obtain ⟨a, xs, G, e, q, ef, ng, r⟩ := h
    simp only [O.frz, Rp]
    refine ⟨a, xs, e, ?_, frzL_rp s os xs G r fun b hb => t b (by rw [ef]; exact List.mem_cons_of_mem _ hb)⟩
    rw [t a (by rw [ef]; exact List.mem_cons_self)]
    exact q
  | .dct os, v, F, h, t => by
    simp only [RepO] at h
    obtain ⟨a, xs, G, e, q, ef, ng, r⟩ := h
    simp only [O.frz, Rp]
    refine ⟨a, xs, e, ?_, frzK_rp s os xs G r fun b hb => t b (by rw [ef]; exact List.mem_cons_of_mem _ hb)⟩
    rw [t a (by rw [ef]; exact List.mem_cons_self)]
    exact q
theorem frzL_rp (s : Sub S T) : ∀ (os : List O) (vs : List V) (F : List Addr), RepL K S H os vs F → (∀ a ∈ F, T a = H a) → RpL K T (frzL os) vs
  | [], _, _, h, _ => by
    simp only [RepL] at h
    simp only [frzL, RpL]
    exact h.1
  | o :: os, vs, F, h, t => by
    simp only [RepL] at h
    obtain ⟨v, r, F1, F2, e, ef, dj, q, g⟩ := h
    simp only [frzL, RpL]
    exact ⟨v, r, e, frz_rp s o v F1 q fun b hb => t b (by rw [ef]; exact List.mem_append_left _ hb), frzL_rp s os r F2 g fun b hb => t b (by rw [ef]; exact List.mem_append_right _ hb)⟩
theorem frzK_rp (s : Sub S T) : ∀ (os : List (Key × O)) (vs : List (Key × V)) (F : List Addr), RepK K S H os vs F → (∀ a ∈ F, T a = H a) → RpK K T (frzK os) vs
  | [], _, _, h, _ => by
    simp only [RepK] at h
    simp only [frzK, RpK]
    exact h.1
  | (k, o) :: os, vs, F, h, t => by
    simp only [RepK] at h
    obtain ⟨v, r, F1, F2, e, ef, dj, q, g⟩ := h
    simp only [frzK, RpK]
    exact ⟨v, r, e, frz_rp s o v F1 q fun b hb => t b (by rw [ef]; exact List.mem_append_left _ hb), frzK_rp s os r F2 g fun b hb => t b (by rw [ef]; exact List.mem_append_right _ hb)⟩
end
end

/-! ### stores of names -/
section
variable {K : PySem.W.Frag} {b w : Bool} {σ : L2.St} {H S H1 S1 : Hp} {env : Env} {Fs Fs0 : Nat → List Addr} {pins : List Nat}
theorem own_put {Fs : Nat → List Addr} {i : Nat} {F : List Addr} {a : Addr} (h : Own (put Fs i F) a) : Own Fs a ∨ a ∈ F := by
  obtain ⟨j, hj⟩ := h
  by_cases e : j = i
  · subst e; rw [put_same] at hj; exact .inr hj
  · rw [put_ne e] at hj; exact .inl ⟨j, hj⟩
/-- a name gets a value that no name owns -/
theorem St.set (s : St K σ H S env Fs) {i : Nat} (hi : i < env.length) {v : V} {o : O} {F : List Addr} (r : RepO K S H o v F) (n : ∀ a ∈ F, S a = none) (f : ∀ a ∈ F, ¬ Own Fs a) :
    St K (σ.set i (some v)) H S (env.set i (some o)) (put Fs i F) where
  len := by rw [List.length_set, List.length_set]; exact s.len
  rep := fun j o' h => by
    by_cases e : j = i
    · subst e
      rw [List.getElem?_set_self hi] at h
      cases h
      exact ⟨v, by rw [List.getElem?_set_self (by rw [s.len]; exact hi)], by rw [put_same]; exact r⟩
    · rw [List.getElem?_set_ne (fun z => e z.symm)] at h
      obtain ⟨v', e1, r'⟩ := s.rep j o' h
      exact ⟨v', by rw [List.getElem?_set_ne (fun z => e z.symm)]; exact e1, by rw [put_ne e]; exact r'⟩
  dis := fun j k a hj hk => by
    by_cases e : j = i
    · subst e
      rw [put_same] at hj
      by_cases e2 : k = j
      · exact e2.symm
      · rw [put_ne e2] at hk; exact absurd ⟨k, hk⟩ (f a hj)
    · rw [put_ne e] at hj
      by_cases e2 : k = i
      · subst e2; rw [put_same] at hk; exact absurd ⟨j, hj⟩ (f a hk)
      · rw [put_ne e2] at hk; exact s.dis j k a hj hk
  sub := s.sub
  nos := fun a h => (own_put h).elim (s.nos a) (n a)
  own := fun a h => (own_put h).elim (s.own a) (RepO.there o v F r a)
/-- a name loses its value -/
theorem St.drop (s : St K σ H S env Fs) {i : Nat} : St K σ H S (env.set i none) (put Fs i []) where
  len := by rw [List.length_set]; exact s.len
  rep := fun j o' h => by
    by_cases e : j = i
    · subst e
      by_cases hi : j < env.length
      · rw [List.getElem?_set_self hi] at h; cases h
      · rw [List.getElem?_eq_none (by rw [List.length_set]; omega)] at h; cases h
    · rw [List.getElem?_set_ne (fun z => e z.symm)] at h
      obtain ⟨v', e1, r'⟩ := s.rep j o' h
      exact ⟨v', e1, by rw [put_ne e]; exact r'⟩
  dis := fun j k a hj hk => by
    by_cases e : j = i
    · subst e; rw [put_same] at hj; cases hj
    · by_cases e2 : k = i
      · subst e2; rw [put_same] at hk; cases hk
      · rw [put_ne e] at hj; rw [put_ne e2] at hk; exact s.dis j k a hj hk
  sub := s.sub
  nos := fun a h => (own_put h).elim (s.nos a) fun z => by cases z
  own := fun a h => (own_put h).elim (s.own a) fun z => by cases z
theorem own_drop (s : St K σ H S env Fs) {i : Nat} {a : Addr} (h : a ∈ Fs i) : ¬ Own (put Fs i []) a := fun ⟨j, hj⟩ => by
  by_cases e : j = i
  · subst e; rw [put_same] at hj; cases hj
  · rw [put_ne e] at hj; exact e (s.dis j i a hj h)
theorem own_dropped {Fs : Nat → List Addr} {i : Nat} {a : Addr} (h : Own (put Fs i []) a) : Own Fs a := (own_put h).elim id fun z => by cases z
/-- S grows by things that no name owns -/
theorem St.grow (s : St K σ H S env Fs) {F : List Addr} (n : ∀ a ∈ F, S a = none) (f : ∀ a ∈ F, ¬ Own Fs a) : St K σ H (addS S H F) env Fs where
  len := s.len
  rep := fun i o h => by
    obtain ⟨v, e, r⟩ := s.rep i o h
    exact ⟨v, e, RepO.mono (addS_sub n) o v _ r fun _ _ _ q => q⟩
  dis := s.dis
  sub := addS_in s.sub
  nos := fun a h => by
    rw [addS_ne (fun z => f a z h)]
    exact s.nos a h
  own := s.own
theorem Ext.grow {P : Addr → Prop} {F : List Addr} (n : ∀ a ∈ F, S a = none) (f : ∀ a ∈ F, P a ∨ H a = none) : Ext P S H (addS S H F) H where
  sub := addS_sub n
  keep := fun _ _ h _ => h
  there := fun _ h => h
  sfr := fun a h r np => by
    by_cases z : a ∈ F
    · exact ((f a z).elim np r).elim
    · rw [addS_ne z]; exact h
/-- a value that has come is given away -/
theorem Nx.give {H' S' : Hp} {env' : Env} {Fs' : Nat → List Addr} {v : V} {o : O} {F : List Addr} (n : Nx K b σ H S env Fs H' S' env' Fs') (c : Val K false H Fs H' S' Fs' v o F) :
    Nx K true σ H S env Fs H' (addS S' H' F) env' Fs' ∧ Rp K (addS S' H' F) o.frz v := by
  have g : Ext (fun a => a ∈ F) S' H' (addS S' H' F) H' := Ext.grow c.nos fun _ h => .inl h
  refine ⟨⟨n.up.ext.trans g fun a h => ?_, n.st.grow c.nos (c.own rfl), n.fr, fun e => by cases e⟩, frz_rp (addS_sub c.nos) o v F c.rep fun a h => addS_at h⟩
  rcases c.fr a h with z | z
  · exact .inl ⟨rfl, z⟩
  · exact .inr z
end

/-! ### names and constants -/
@[simp] def pVar (i : Nat) : PTE := fun env Q _ => match env[i]? with
  | some (some (.d x)) => Q (.d x) env
  | _ => False
@[simp] def pBor (i : Nat) : PTE := fun env Q _ => match env[i]? with
  | some (some o) => Q o env
  | _ => False
@[simp] def pMov (i : Nat) : PTE := fun env Q _ => match env[i]? with
  | some (some o) => Q o (env.set i none)
  | _ => False
@[simp] def pFrz (i : Nat) : PTE := fun env Q _ => match env[i]? with
  | some (some o) => Q (.d o.frz) (env.set i (some (.d o.frz)))
  | _ => False
@[simp] def pC (d : D) : PTE := fun env Q _ => Q (.d d) env
section
variable {K : PySem.W.Frag} {W : WX} {b b1 b2 w w1 w2 : Bool} {i : Nat}
theorem sim_bor : SimE K W false true (tVar i) (pBor i) := fun σ H S env Fs Qp Ep Q hs ht k x => by
  unfold pBor at ht
  split at ht
  · rename_i o ho
    obtain ⟨v, e, r⟩ := hs.rep i o ho
    exact ⟨v, e, k v o (Fs i) H S env Fs (Nx.refl hs) ⟨r, fun a h => hs.nos a ⟨i, h⟩, fun a h => .inl ⟨i, h⟩, fun z => by cases z⟩ ht⟩
  · exact ht.elim
theorem sim_var : SimE K W false false (tVar i) (pVar i) := fun σ H S env Fs Qp Ep Q hs ht k x => by
  unfold pVar at ht
  split at ht
  · rename_i d ho
    obtain ⟨v, e, r⟩ := hs.rep i _ ho
    have r' := r
    simp only [RepO] at r'
    exact ⟨v, e, k v _ [] H S env Fs (Nx.refl hs) (Val.data r'.1) ht⟩
  · exact ht.elim
theorem sim_mov : SimE K W true false (tVar i) (pMov i) := fun σ H S env Fs Qp Ep Q hs ht k x => by
  unfold pMov at ht
  split at ht
  · rename_i o ho
    obtain ⟨v, e, r⟩ := hs.rep i o ho
    exact ⟨v, e, k v o (Fs i) H S _ (put Fs i []) ⟨Ext.refl, hs.drop, fun a h => .inl (own_dropped h), fun z => by cases z⟩ ⟨r, fun a h => hs.nos a ⟨i, h⟩, fun a h => .inl ⟨i, h⟩, fun _ a h => own_drop hs h⟩ ht⟩
  · exact ht.elim
theorem sim_frz : SimE K W true false (tVar i) (pFrz i) := fun σ H S env Fs Qp Ep Q hs ht k x => by
  unfold pFrz at ht
  split at ht
  · rename_i o ho
    obtain ⟨v, e, r⟩ := hs.rep i o ho
    have hi : i < env.length := (List.getElem?_eq_some_iff.mp ho).1
    have n : Nx K true σ H S env Fs H S (env.set i none) (put Fs i []) := ⟨Ext.refl, hs.drop, fun a h => .inl (own_dropped h), fun z => by cases z⟩
    have c : Val K false H Fs H S (put Fs i []) v o (Fs i) := ⟨r, fun a h => hs.nos a ⟨i, h⟩, fun a h => .inl ⟨i, h⟩, fun _ a h => own_drop hs h⟩
    obtain ⟨n2, rp⟩ := n.give c
    have r2 : RepO K (addS S H (Fs i)) H (.d o.frz) v [] := by
      simp only [RepO]
      exact ⟨rp, trivial⟩
    have s3 := n2.st.set (i := i) (by rw [List.length_set]; exact hi) r2 (fun a h => absurd h (by simp)) (fun a h => absurd h (by simp))
    have es : σ.set i (some v) = σ := by
      refine List.ext_getElem? fun j => ?_
      by_cases ej : j = i
      · subst ej
        rw [List.getElem?_set_self (by rw [hs.len]; exact hi), e]
      · rw [List.getElem?_set_ne (fun z => ej z.symm)]
    rw [es, List.set_set] at s3
    refine ⟨v, e, k v _ [] H _ _ _ ⟨n2.ext, s3, fun a h => ?_, fun z => by cases z⟩ (Val.data rp) ht⟩
    rcases own_put h with z | z
    · exact n2.fr a z
    · cases z
  · exact ht.elim
theorem sim_c {v : V} {d : D} (h : ∀ S, Rp K S d v) : SimE K W false false (tC v) (pC d) := fun σ H S env Fs Qp Ep Q hs ht k x =>
  k v _ [] H S env Fs (Nx.refl hs) (Val.data (h S)) ht
/-- a value is given away -/
@[simp] def pGive (t : PTE) : PTE := fun env Q E => t env (fun o env' => Q (.d o.frz) env') E
theorem sim_give {te : TE} {t : PTE} (s : SimE K W b false te t) : SimE K W true false te (pGive t) := fun σ H S env Fs Qp Ep Q hs ht k x =>
  s σ H S env Fs _ Ep Q hs ht (fun v o F H' S' env' Fs' n c q => by
    obtain ⟨n2, rp⟩ := n.give c
    exact k v _ [] H' _ env' Fs' n2 (Val.data rp) q) x
end

/-! ### operations -/
abbrev PR2 := O → O → (O → Prop) → Prop
abbrev PR1 := O → (O → Prop) → Prop
/-- what an operation yields: nothing that stood changes -/
abbrev Yields (K : PySem.W.Frag) (S H : Hp) (Qp : O → Prop) (Q : VK) : Prop :=
  ∀ v o F H' S', Ext (fun _ => False) S H S' H' → Sub S' H' → RepO K S' H' o v F → (∀ a ∈ F, H a = none) → (∀ a ∈ F, S' a = none) → Qp o → Q v H'
def Op2 (K : PySem.W.Frag) (r : R2) (f : PR2) : Prop := ∀ S H x y o1 o2 F1 F2 (Qp : O → Prop) (Q : VK), Sub S H → RepO K S H o1 x F1 → RepO K S H o2 y F2 → f o1 o2 Qp → Yields K S H Qp Q → r x y H Q
def Op1 (K : PySem.W.Frag) (r : V → Hp → VK → Prop) (f : PR1) : Prop := ∀ S H x o1 F1 (Qp : O → Prop) (Q : VK), Sub S H → RepO K S H o1 x F1 → f o1 Qp → Yields K S H Qp Q → r x H Q
theorem Yields.d {K : PySem.W.Frag} {S H : Hp} {Qp : O → Prop} {Q : VK} (y : Yields K S H Qp Q) (s : Sub S H) {v : V} {d : D} (r : Rp K S d v) (q : Qp (.d d)) : Q v H :=
  y v (.d d) [] H S Ext.refl s (by simp only [RepO]; exact ⟨r, trivial⟩) (fun a h => absurd h (by simp)) (fun a h => absurd h (by simp)) q
@[simp] def pOp (f : PR2) (ta tb : PTE) : PTE := fun env Q E => ta env (fun x env1 => tb env1 (fun y env2 => f x y fun z => Q z env2) E) E
@[simp] def pUn (f : PR1) (ta : PTE) : PTE := fun env Q E => ta env (fun x env1 => f x fun z => Q z env1) E
section
variable {K : PySem.W.Frag} {W : WX} {b b1 b2 w w1 w2 : Bool}
theorem yields_of {σ : L2.St} {H S H1 S1 : Hp} {env env1 : Env} {Fs Fs1 : Nat → List Addr} {Qp : O → Env → Prop} {Q : VK} (n : Nx K b σ H S env Fs H1 S1 env1 Fs1)
    (k : ∀ v o F H' S' env' Fs', Nx K b σ H S env Fs H' S' env' Fs' → Val K w H Fs H' S' Fs' v o F → Qp o env' → Q v H') : Yields K S1 H1 (fun z => Qp z env1) Q :=
  fun v o F H' S' e sb r fr no q => by
    have n2 : Nx K false σ H1 S1 env1 Fs1 H' S' env1 Fs1 := Nx.new n.st e sb
    have n3 := n.trans n2
    rw [Bool.or_false] at n3
    refine k v o F H' S' env1 Fs1 n3 ⟨r, no, fun a h => .inr (n.ext.there a (fr a h)), fun _ a h z => n.st.own a z (fr a h)⟩ q
theorem sim_op {ra : R2} {f : PR2} {ta tb : TE} {pa pb : PTE} (ho : Op2 K ra f) (ha : SimE K W b1 w1 ta pa) (hb : SimE K W b2 w2 tb pb) (hc : w1 = true → b2 = false) : SimE K W (b1 || b2) false (tOp ra ta tb) (pOp f pa pb) :=
  fun σ H S env Fs Qp Ep Q hs ht k x =>
    ha σ H S env Fs _ Ep _ hs ht (fun v o F H1 S1 env1 Fs1 n1 c1 q1 =>
      hb σ H1 S1 env1 Fs1 _ Ep _ n1.st q1 (fun v2 o2 F2 H2 S2 env2 Fs2 n2 c2 q2 =>
        ho S2 H2 v v2 o o2 F F2 _ _ n2.st.sub (c1.on n2 hc).rep c2.rep q2 (yields_of (n1.trans n2) k)) (x.on n1)) x
theorem sim_un {r : V → Hp → VK → Prop} {f : PR1} {ta : TE} {pa : PTE} (ho : Op1 K r f) (ha : SimE K W b1 w1 ta pa) : SimE K W b1 false (tUn r ta) (pUn f pa) :=
  fun σ H S env Fs Qp Ep Q hs ht k x =>
    ha σ H S env Fs _ Ep _ hs ht (fun v o F H1 S1 env1 Fs1 n1 c1 q1 => ho S1 H1 v o F _ _ n1.st.sub c1.rep q1 (yields_of n1 k)) x
end
end DL
end

section
set_option Elab.async false
set_option linter.all false
set_option maxRecDepth 100000
set_option maxHeartbeats 2000000
namespace DL
open PySem PySem.Spec L2 PyProof.Rows

/-! ### lists of representations -/
section
variable {K : PySem.W.Frag} {S H : Hp}
theorem RpL.length : ∀ {ds : List D} {vs : List V}, RpL K S ds vs → vs.length = ds.length
  | [], vs, h => by simp only [RpL] at h; rw [h]; rfl
  | d :: ds, vs, h => by
    simp only [RpL] at h
    obtain ⟨v, r, e, _, q⟩ := h
    rw [e, List.length_cons, List.length_cons, RpL.length q]
theorem RpL.cons {d : D} {ds : List D} {v : V} {vs : List V} (h : Rp K S d v) (q : RpL K S ds vs) : RpL K S (d :: ds) (v :: vs) := by
  simp only [RpL]
  exact ⟨v, vs, rfl, h, q⟩
theorem RpL.nil : RpL K S [] [] := by simp only [RpL]
theorem RpL.get : ∀ {ds : List D} {vs : List V} {i : Nat} {d : D}, RpL K S ds vs → ds[i]? = some d → ∃ v, vs[i]? = some v ∧ Rp K S d v
  | [], _, i, d, _, e => by simp at e
  | x :: ds, vs, i, d, h, e => by
    simp only [RpL] at h
    obtain ⟨v, r, ev, q1, q2⟩ := h
    subst ev
    cases i with
    | zero =>
      simp at e
      subst e
      exact ⟨v, rfl, q1⟩
    | succ i =>
      obtain ⟨u, h1, h2⟩ := RpL.get (i := i) (d := d) q2 (by simpa using e)
      exact ⟨u, by simpa using h1, h2⟩
theorem RpL.of_get : ∀ {ds : List D} {vs : List V} {i : Nat} {v : V}, RpL K S ds vs → vs[i]? = some v → ∃ d, ds[i]? = some d ∧ Rp K S d v
  | [], vs, i, d, h, e => by simp only [RpL] at h; rw [h] at e; simp at e
  | x :: ds, vs, i, d, h, e => by
    simp only [RpL] at h
    obtain ⟨v, r, ev, q1, q2⟩ := h
    subst ev
    cases i with
    | zero =>
      simp at e
      subst e
      exact ⟨x, rfl, q1⟩
    | succ i =>
      obtain ⟨u, h1, h2⟩ := RpL.of_get (i := i) (v := d) q2 (by simpa using e)
      exact ⟨u, by simpa using h1, h2⟩
theorem RpL.append : ∀ {ds es : List D} {vs ws : List V}, RpL K S ds vs → RpL K S es ws → RpL K S (ds ++ es) (vs ++ ws)
  | [], es, vs, ws, h, q => by simp only [RpL] at h; rw [h]; exact q
  | x :: ds, es, vs, ws, h, q => by
    simp only [RpL] at h
    obtain ⟨v, r, ev, q1, q2⟩ := h
    subst ev
    exact .cons q1 (RpL.append q2 q)
theorem RpL.take : ∀ {ds : List D} {vs : List V} (n : Nat), RpL K S ds vs → RpL K S (ds.take n) (vs.take n)
  | _, _, 0, _ => by rw [List.take_zero, List.take_zero]; exact .nil
  | [], vs, n + 1, h => by simp only [RpL] at h; rw [h]; exact .nil
  | x :: ds, vs, n + 1, h => by
    simp only [RpL] at h
    obtain ⟨v, r, ev, q1, q2⟩ := h
    subst ev
    exact .cons q1 (RpL.take n q2)
theorem RpL.drop : ∀ {ds : List D} {vs : List V} (n : Nat), RpL K S ds vs → RpL K S (ds.drop n) (vs.drop n)
  | _, _, 0, h => h
  | [], vs, n + 1, h => by simp only [RpL] at h; rw [h]; exact .nil
  | x :: ds, vs, n + 1, h => by
    simp only [RpL] at h
    obtain ⟨v, r, ev, q1, q2⟩ := h
    subst ev
    exact RpL.drop n q2
theorem RpL.reverse : ∀ {ds : List D} {vs : List V}, RpL K S ds vs → RpL K S ds.reverse vs.reverse
  | [], vs, h => by simp only [RpL] at h; rw [h]; exact .nil
  | x :: ds, vs, h => by
    simp only [RpL] at h
    obtain ⟨v, r, ev, q1, q2⟩ := h
    subst ev
    rw [List.reverse_cons, List.reverse_cons]
    exact .append (RpL.reverse q2) (.cons q1 .nil)
theorem repL_d : ∀ {ds : List D} {vs : List V} {F : List Addr}, RepL K S H (ds.map O.d) vs F ↔ RpL K S ds vs ∧ F = []
  | [], vs, F => by simp only [List.map_nil, RepL, RpL]
  | x :: ds, vs, F => by
    simp only [List.map_cons, RepL, RpL, RepO]
    constructor
    · rintro ⟨v, r, F1, F2, e, ef, dj, ⟨q, e1⟩, g⟩
      obtain ⟨g1, g2⟩ := repL_d.mp g
      exact ⟨⟨v, r, e, q, g1⟩, by rw [ef, e1, g2]; rfl⟩
    · rintro ⟨⟨v, r, e, q, g⟩, ef⟩
      exact ⟨v, r, [], [], e, by rw [ef]; rfl, fun a h => absurd h (by simp), ⟨q, rfl⟩, repL_d.mpr ⟨g, rfl⟩⟩
end
def flatL : List O → Option (List D)
  | [] => some []
  | .d x :: r => (flatL r).map (x :: ·)
  | _ :: _ => none
@[simp] theorem flatL_map (ds : List D) : flatL (ds.map O.d) = some ds := by
  induction ds with
  | nil => rfl
  | cons d r ih => simp [flatL, ih]
@[simp] theorem flatL_nil : flatL [] = some [] := rfl
theorem flatL_eq : ∀ {os : List O} {ds : List D}, flatL os = some ds → os = ds.map O.d
  | [], ds, h => by
    have e : ds = [] := (Option.some.inj h).symm
    rw [e]; rfl
  | .d x :: r, ds, h => by
    unfold flatL at h
    cases e : flatL r with
    | none => rw [e] at h; cases h
    | some l =>
      rw [e] at h
      have e2 : ds = x :: l := (Option.some.inj h).symm
      rw [e2, List.map_cons, flatL_eq e]
  | .own _ :: _, _, h => by cases h
  | .dct _ :: _, _, h => by cases h
/-- the items of a list, read; the list may be a name's -/
def O.lis : O → Option (List D)
  | .d (.lst ds) => some ds
  | .d (.kst ds) => some ds
  | .own os => flatL os
  | _ => none
@[simp] theorem lis_own (ds : List D) : (O.own (ds.map O.d)).lis = some ds := flatL_map ds
@[simp] theorem lis_lst (ds : List D) : (O.d (.lst ds)).lis = some ds := rfl
@[simp] theorem lis_kst (ds : List D) : (O.d (.kst ds)).lis = some ds := rfl
theorem lis_rep {K : PySem.W.Frag} {S H : Hp} (s : Sub S H) {o : O} {ds : List D} {v : V} {F : List Addr} (h : RepO K S H o v F) (e : o.lis = some ds) : ∃ a xs, v = .ref a ∧ SqL K H a xs ∧ RpL K S ds xs := by
  cases o with
  | d x =>
    simp only [RepO] at h
    have h1 := h.1
    cases x with
    | lst ys =>
      cases e
      simp only [Rp] at h1
      obtain ⟨a, xs, ev, q, r⟩ := h1
      exact ⟨a, xs, ev, .inl (.inl (s a _ q)), r⟩
    | kst ys =>
      cases e
      simp only [Rp] at h1
      obtain ⟨a, xs, ev, q, r⟩ := h1
      exact ⟨a, xs, ev, sqL_sub s q, r⟩
    | _ => cases e
  | own os =>
    have eo := flatL_eq e
    subst eo
    simp only [RepO] at h
    obtain ⟨a, xs, G, ev, q, ef, ng, r⟩ := h
    exact ⟨a, xs, ev, .inl (.inl q), (repL_d.mp r).1⟩
  | dct _ => cases e
/-- the same, where the list itself is tracked (not the script) -/
def O.lisT : O → Option (List D)
  | .d (.lst ds) => some ds
  | .own os => flatL os
  | _ => none
@[simp] theorem lisT_own (ds : List D) : (O.own (ds.map O.d)).lisT = some ds := flatL_map ds
@[simp] theorem lisT_lst (ds : List D) : (O.d (.lst ds)).lisT = some ds := rfl
theorem lisT_rep {K : PySem.W.Frag} {S H : Hp} (s : Sub S H) {o : O} {ds : List D} {v : V} {F : List Addr} (h : RepO K S H o v F) (e : o.lisT = some ds) : ∃ a xs, v = .ref a ∧ H a = some (.lst xs) ∧ RpL K S ds xs := by
  cases o with
  | d x =>
    simp only [RepO] at h
    have h1 := h.1
    cases x with
    | lst ys =>
      cases e
      simp only [Rp] at h1
      obtain ⟨a, xs, ev, q, r⟩ := h1
      exact ⟨a, xs, ev, s a _ q, r⟩
    | _ => cases e
  | own os =>
    have eo := flatL_eq e
    subst eo
    simp only [RepO] at h
    obtain ⟨a, xs, G, ev, q, ef, ng, r⟩ := h
    exact ⟨a, xs, ev, q, (repL_d.mp r).1⟩
  | dct _ => cases e
/-- a new list, a new tuple -/
theorem Yields.own {K : PySem.W.Frag} {S H : Hp} {Qp : O → Prop} {Q : VK} (y : Yields K S H Qp Q) (s : Sub S H) {p : Addr} {xs : List V} {ds : List D} (n : H p = none) (r : RpL K S ds xs) (q : Qp (.own (ds.map O.d))) : Q (.ref p) (upd H p (.lst xs)) := by
  have hS : S p = none := by
    cases e : S p with
    | none => rfl
    | some o => rw [s p o e] at n; cases n
  have e : Ext (fun _ => False) S H S (upd H p (.lst xs)) := ⟨Sub.refl S, fun a o h _ => by rw [upd_ne (ne_of_none h n)]; exact h, fun a h => by
    by_cases z : a = p
    · rw [z]; exact n
    · rw [upd_ne z] at h; exact h, fun a h _ _ => h⟩
  refine y (.ref p) (.own (ds.map O.d)) [p] _ S e (fun a o h => by rw [upd_ne (ne_of_none (s a o h) n)]; exact s a o h) ?_ (fun a h => by rw [List.mem_singleton.mp h]; exact n) (fun a h => by rw [List.mem_singleton.mp h]; exact hS) q
  simp only [RepO]
  exact ⟨p, xs, [], rfl, upd_same, rfl, by simp, repL_d.mpr ⟨r, rfl⟩⟩
theorem Yields.tup {K : PySem.W.Frag} {S H : Hp} {Qp : O → Prop} {Q : VK} (y : Yields K S H Qp Q) (s : Sub S H) {p : Addr} {xs : List V} {ds : List D} (n : H p = none) (r : RpL K S ds xs) (q : Qp (.d (.tup ds))) : Q (.ref p) (upd H p (.tup xs)) := by
  have hS : S p = none := by
    cases e : S p with
    | none => rfl
    | some o => rw [s p o e] at n; cases n
  have sS : Sub S (upd S p (.tup xs)) := fun a o h => by rw [upd_ne (ne_of_none h hS)]; exact h
  have e : Ext (fun _ => False) S H (upd S p (.tup xs)) (upd H p (.tup xs)) := ⟨sS, fun a o h _ => by rw [upd_ne (ne_of_none h n)]; exact h, fun a h => by
    by_cases z : a = p
    · rw [z]; exact n
    · rw [upd_ne z] at h; exact h, fun a h hh _ => by
    by_cases z : a = p
    · rw [z] at hh; exact absurd n hh
    · rw [upd_ne z]; exact h⟩
  refine y (.ref p) (.d (.tup ds)) [] _ _ e (fun a o h => ?_) ?_ (fun a h => absurd h (by simp)) (fun a h => absurd h (by simp)) q
  · by_cases z : a = p
    · rw [z, upd_same] at h ⊢; exact h
    · rw [upd_ne z] at h ⊢; exact s a o h
  · simp only [RepO, Rp]
    exact ⟨⟨p, xs, rfl, .inl (.inl upd_same), RpL.mono sS ds xs r⟩, trivial⟩

/-! ### + - * // % ** and the rest -/
def fAdd : O → O → (O → Prop) → Prop
  | .d (.int i), .d (.int j), Q => Q (.d (.int (i + j)))
  | .d (.str a), .d (.str b), Q => a.length + b.length ≤ 16777216 ∧ Q (.d (.str (a ++ b)))
  | .d (.tup a), .d (.tup b), Q => a.length + b.length ≤ 16777216 ∧ Q (.d (.tup (a ++ b)))
  | x, y, Q => match x.lisT, y.lisT with
    | some a, some b => a.length + b.length ≤ 16777216 ∧ Q (.own ((a ++ b).map O.d))
    | _, _ => False
def rAddAll (K : PySem.W.Frag) : R2 := fun x y H Q => (∃ i j, x = .int i ∧ y = .int j ∧ Q (.int (i + j)) H) ∨ (∃ i j, x = .str i ∧ y = .str j ∧ i.length + j.length ≤ sizeLine ∧ Q (.str (i ++ j)) H) ∨ rCatA K x y H Q ∨ rCat x y H Q
theorem op_addAll {X : Cx} : OpR X (binaryOp .Add) (rAddAll X.K) := fun pins s σ H x y v u Q I rx ry h => by
  rcases h with h | h | h | h
  · exact op_add pins s σ H x y v u Q I rx ry h
  · exact op_add_str pins s σ H x y v u Q I rx ry h
  · exact op_catA pins s σ H x y v u Q I rx ry h
  · exact op_cat pins s σ H x y v u Q I rx ry h
theorem str_append (a b : List Nat) : ((⟨a.toArray⟩ : Str) ++ (⟨b.toArray⟩ : Str)) = ⟨(a ++ b).toArray⟩ := by
  show Str.append _ _ = _
  simp [Str.append]
theorem str_len (a : List Nat) : (⟨a.toArray⟩ : Str).length = a.length := by simp [Str.length]
theorem okS_append {a b : List Nat} (h : okS a) (q : okS b) : okS (a ++ b) := fun c hc => (List.mem_append.mp hc).elim (h c) (q c)
theorem d_rp {K : PySem.W.Frag} {S H : Hp} {d : D} {v : V} {F : List Addr} (h : RepO K S H (.d d) v F) : Rp K S d v := by
  simp only [RepO] at h
  exact h.1
theorem o2_add {K : PySem.W.Frag} : Op2 K (rAddAll K) fAdd := fun S H x y o1 o2 F1 F2 Qp Q s h1 h2 hf yl => by
  unfold fAdd at hf
  split at hf
  · have r1 := d_rp h1
    have r2 := d_rp h2
    simp only [Rp] at r1 r2
    exact .inl ⟨_, _, r1, r2, yl.d s (by simp only [Rp]) hf⟩
  · have r1 := d_rp h1
    have r2 := d_rp h2
    simp only [Rp] at r1 r2
    refine .inr (.inl ⟨_, _, r1.1, r2.1, ?_, ?_⟩)
    · rw [str_len, str_len, sizeLine_eq]; exact hf.1
    · rw [str_append]
      refine yl.d s ?_ hf.2
      simp only [Rp]
      refine ⟨trivial, okS_append r1.2.1 r2.2.1, ?_⟩
      rw [List.length_append, sizeLine_eq]; exact hf.1
  · rename_i a b
    have r1 := d_rp h1
    have r2 := d_rp h2
    have r1' := r1
    have r2' := r2
    simp only [Rp] at r1 r2
    obtain ⟨p1, xs, e1, q1, l1⟩ := r1
    obtain ⟨p2, ys, e2, q2, l2⟩ := r2
    refine .inr (.inr (.inl ⟨p1, p2, xs, ys, e1, e2, sqT_sub s q1, sqT_sub s q2, ?_, fun z => ?_, fun _ z => ?_, fun _ _ p n => yl.tup s n (l1.append l2) hf.2⟩))
    · rw [l1.length, l2.length, sizeLine_eq]; exact hf.1
    · have ea : a = [] := by
        have := l1.length
        rw [z] at this
        exact List.eq_nil_of_length_eq_zero this.symm
      subst ea
      rw [← e2]
      exact yl.d s r2' hf.2
    · have eb : b = [] := by
        have := l2.length
        rw [z] at this
        exact List.eq_nil_of_length_eq_zero this.symm
      subst eb
      rw [← e1]
      have q := hf.2
      rw [List.append_nil] at q
      exact yl.d s r1' q
  · rename_i e1 e2 e3
    split at hf
    · rename_i a b ea eb
      obtain ⟨p1, xs, ex, q1, l1⟩ := lisT_rep s h1 ea
      obtain ⟨p2, ys, ey, q2, l2⟩ := lisT_rep s h2 eb
      exact .inr (.inr (.inr ⟨p1, p2, xs, ys, ex, ey, q1, q2, by rw [l1.length, l2.length, sizeLine_eq]; exact hf.1, fun p n => yl.own s n (l1.append l2) hf.2⟩))
    · exact hf.elim
/-- a two-place operation on ints, under C -/
@[simp] def fI (C : Int → Int → Prop) (g : Int → Int → D) : PR2 := fun x y Q => match x, y with
  | .d (.int i), .d (.int j) => C i j ∧ Q (.d (g i j))
  | _, _ => False
@[simp] def fI0 (g : Int → Int → D) : PR2 := fun x y Q => match x, y with
  | .d (.int i), .d (.int j) => Q (.d (g i j))
  | _, _ => False
theorem o2_I {K : PySem.W.Frag} {C : Int → Int → Prop} {g : Int → Int → V} {g' : Int → Int → D} (e : ∀ S i j, Rp K S (g' i j) (g i j)) : Op2 K (rI C g) (fI C g') := fun S H x y o1 o2 F1 F2 Qp Q s h1 h2 hf yl => by
  unfold fI at hf
  split at hf
  · have r1 := d_rp h1
    have r2 := d_rp h2
    simp only [Rp] at r1 r2
    exact ⟨_, _, r1, r2, hf.1, yl.d s (e _ _ _) hf.2⟩
  · exact hf.elim
theorem o2_I0 {K : PySem.W.Frag} {g : Int → Int → V} {g' : Int → Int → D} (e : ∀ S i j, Rp K S (g' i j) (g i j)) : Op2 K (rI0 g) (fI0 g') := fun S H x y o1 o2 F1 F2 Qp Q s h1 h2 hf yl => by
  unfold fI0 at hf
  split at hf
  · have r1 := d_rp h1
    have r2 := d_rp h2
    simp only [Rp] at r1 r2
    exact ⟨_, _, r1, r2, yl.d s (e _ _ _) hf⟩
  · exact hf.elim
theorem rp_int {K : PySem.W.Frag} {S : Hp} {i : Int} : Rp K S (.int i) (.int i) := by simp only [Rp]
theorem rp_bl {K : PySem.W.Frag} {S : Hp} {i : Bool} : Rp K S (.bl i) (.bl i) := by simp only [Rp]
theorem rp_non {K : PySem.W.Frag} {S : Hp} : Rp K S .non .non := by simp only [Rp]
@[simp] def fSub : PR2 := fI0 fun i j => .int (i - j)
@[simp] def fMulW : PR2 := fI CMulW fun i j => .int (i * j)
@[simp] def fFdivW : PR2 := fI CDivW fun i j => .int (i / j)
@[simp] def fMod : PR2 := fI (fun _ j => 0 < j) fun i j => .int (i % j)
@[simp] def fPow : PR2 := fI CPow fun i j => .int (i ^ j.toNat)
@[simp] def fLt : PR2 := fI0 fun i j => .bl (decide (i < j))
@[simp] def fLe : PR2 := fI0 fun i j => .bl (decide (i ≤ j))
@[simp] def fGt : PR2 := fI0 fun i j => .bl (decide (j < i))
@[simp] def fGe : PR2 := fI0 fun i j => .bl (decide (j ≤ i))
section
variable {K : PySem.W.Frag}
theorem o2_sub : Op2 K (rI0 fun i j => .int (i - j)) fSub := o2_I0 fun _ _ _ => rp_int
theorem o2_mulW : Op2 K (rI CMulW fun i j => .int (i * j)) fMulW := o2_I fun _ _ _ => rp_int
theorem o2_fdivW : Op2 K (rI CDivW fun i j => .int (i / j)) fFdivW := o2_I fun _ _ _ => rp_int
theorem o2_mod : Op2 K (rI (fun _ j => 0 < j) fun i j => .int (i % j)) fMod := o2_I fun _ _ _ => rp_int
theorem o2_pow : Op2 K (rI CPow fun i j => .int (i ^ j.toNat)) fPow := o2_I fun _ _ _ => rp_int
theorem o2_lt : Op2 K (rI0 fun i j => .bl (decide (i < j))) fLt := o2_I0 fun _ _ _ => rp_bl
theorem o2_le : Op2 K (rI0 fun i j => .bl (decide (i ≤ j))) fLe := o2_I0 fun _ _ _ => rp_bl
theorem o2_gt : Op2 K (rI0 fun i j => .bl (decide (j < i))) fGt := o2_I0 fun _ _ _ => rp_bl
theorem o2_ge : Op2 K (rI0 fun i j => .bl (decide (j ≤ i))) fGe := o2_I0 fun _ _ _ => rp_bl
end
@[simp] def fNeg : PR1 := fun x Q => match x with
  | .d (.int i) => Q (.d (.int (-i)))
  | _ => False
theorem o1_neg {K : PySem.W.Frag} : Op1 K (rU fun i => .int (-i)) fNeg := fun S H x o1 F1 Qp Q s h1 hf yl => by
  unfold fNeg at hf
  split at hf
  · have r1 := d_rp h1
    simp only [Rp] at r1
    exact ⟨_, r1, yl.d s rp_int hf⟩
  · exact hf.elim
end DL
end

section
set_option Elab.async false
set_option linter.all false
set_option maxRecDepth 100000
set_option maxHeartbeats 2000000
namespace HT
open PySem PyProof.Rows
section
variable {prog : Program} {w : World} {A : Around} {E : Value → Shared → Prop} {s : Shared}
theorem adjust_rev (n : Nat) : Builtin.Slice.sliceAdjust none none (-1) (n : Int) = ((n : Int) - 1, -1) := by
  simp [Builtin.Slice.sliceAdjust]
theorem places_rev (n : Nat) : Builtin.Slice.slicePlaces ((n : Int) - 1) (-1) (-1) = n := by
  unfold Builtin.Slice.slicePlaces
  rw [if_neg (by decide)]
  by_cases h : (n : Int) - 1 > -1
  · rw [if_pos h]
    have : ((n : Int) - 1 - -1 - 1) / (- -1) + 1 = (n : Int) := by
      rw [show (- -1 : Int) = 1 by decide, Int.ediv_one]; omega
    rw [this]; omega
  · rw [if_neg h]; omega
theorem pick_rev (xs : Array Value) : ((List.range xs.size).filterMap fun (m : Nat) => xs[((xs.size : Int) - 1 + (m : Int) * (-1)).toNat]?).toArray = xs.toList.reverse.toArray := by
  congr 1
  have h1 : ∀ m ∈ List.range xs.size, xs[((xs.size : Int) - 1 + (m : Int) * (-1)).toNat]? = some (xs.toList.reverse.getD m .none) := fun m hm => by
    have hm := List.mem_range.mp hm
    have e : ((xs.size : Int) - 1 + (m : Int) * (-1)).toNat = xs.size - 1 - m := by omega
    rw [e, ← Array.getElem?_toList]
    have hl : m < xs.toList.reverse.length := by simpa using hm
    rw [List.getD_eq_getElem?_getD, List.getElem?_eq_getElem hl, Option.getD_some, List.getElem_reverse]
    rw [List.getElem?_eq_getElem (by simp; omega)]
    simp
  have h2 : (List.range xs.size).filterMap (fun (m : Nat) => xs[((xs.size : Int) - 1 + (m : Int) * (-1)).toNat]?) = (List.range xs.size).map fun m => xs.toList.reverse.getD m .none := by
    have gen : ∀ l : List Nat, (∀ m ∈ l, m ∈ List.range xs.size) → l.filterMap (fun (m : Nat) => xs[((xs.size : Int) - 1 + (m : Int) * (-1)).toNat]?) = l.map fun m => xs.toList.reverse.getD m .none := by
      intro l
      induction l with
      | nil => intro _; rfl
      | cons m r ih =>
        intro h
        rw [List.filterMap_cons, h1 m (h m List.mem_cons_self), List.map_cons, ih fun k hk => h k (List.mem_cons_of_mem _ hk)]
    exact gen _ fun _ h => h
  rw [h2]
  refine List.ext_getElem? fun i => ?_
  rw [List.getElem?_map]
  by_cases hi : i < xs.size
  · rw [List.getElem?_range hi, Option.map_some]
    have hl : i < xs.toList.reverse.length := by simpa using hi
    rw [List.getD_eq_getElem?_getD, List.getElem?_eq_getElem hl, Option.getD_some]
  · rw [List.getElem?_eq_none (by simpa using hi), List.getElem?_eq_none (by simpa using hi)]
    rfl
theorem sliceApplied_rev {sl : Addr} {vl vu vs : Value} {n : Nat} {Q : Int × Int × Nat → Shared → Prop} (hs : s.heap.IsSliceOf sl vl vu vs) (pl : IsPart vl none) (pu : IsPart vu none) (ps : IsPart vs (some (-1)))
    (h : Q ((n : Int) - 1, -1, n) s) : wpAny (model prog w) A (Builtin.Slice.sliceApplied (.ref sl) (pure (n : Int))) Q E s := by
  obtain ⟨os, hos, hcs, hds⟩ := id hs
  unfold Builtin.Slice.sliceApplied Builtin.Slice.sliceFields
  refine wpAny_bind (wpAny_bind (wpAny_field hos hds (x := vl) rfl (wpAny_bind (wpAny_field hos hds (x := vu) rfl (wpAny_bind (wpAny_field hos hds (x := vs) rfl (wpAny_pure ?_)))))))
  refine wpAny_bind (slicePart_ ps ?_)
  show wpAny _ _ (if ((-1 : Int) == 0) = true then _ else _) _ _ s
  rw [if_neg (by decide)]
  refine wpAny_bind (slicePart_ pl (wpAny_bind (slicePart_ pu (wpAny_bind (wpAny_pure ?_)))))
  show wpAny _ _ (match Builtin.Slice.sliceAdjust none none (-1) (n : Int) with | (lo, hi) => pure (lo, (-1 : Int), Builtin.Slice.slicePlaces lo hi (-1))) _ _ s
  rw [adjust_rev n]
  show wpAny _ _ (pure ((n : Int) - 1, (-1 : Int), Builtin.Slice.slicePlaces ((n : Int) - 1) (-1) (-1))) _ _ s
  rw [places_rev]
  exact wpAny_pure h
theorem getItem_tuple_rev {t sl : Addr} {items : Array Value} {vl vu vs : Value} {Q : Value → Shared → Prop} (ht : IsTup s.heap t items) (hs : s.heap.IsSliceOf sl vl vu vs) (pl : IsPart vl none) (pu : IsPart vu none) (ps : IsPart vs (some (-1)))
    (h : Q (.ref s.heap.objs.size) { s with heap := s.heap.push { cls := .type "tuple", data := .seq items.toList.reverse.toArray } }) (hsz : items.size ≤ sizeLine) : wpAny (model prog w) A (getItem (.ref t) (.ref sl)) Q E s := by
  have htake : sizeOk (.seq items.toList.reverse.toArray) := by
    show items.toList.reverse.toArray.size ≤ sizeLine
    rw [List.size_toArray, List.length_reverse, Array.length_toList]
    exact hsz
  obtain ⟨os, hos, hcs, hds⟩ := id hs
  have hTs : s.TypeIs (.ref sl) "slice" := ⟨os, hos, hcs⟩
  unfold getItem
  try with_reducible refine wpAny_holding ?_
  first | refine wpAny_bind (wpAny_pure ?_) | skip
  refine wpAny_bind (wpAny_sequenceKey ht.typeIs (by decide) ?_)
  refine wpAny_bind (wpAny_callSpecial?_slot (name := Str.ofString "__getitem__") ht.typeIs PyProof.Rows.slot_tuple_getitem
    (wpAny_call_entry PyProof.Rows.slot_tuple_getitem ht.typeIs entry_tuple_getitem ?_ (args_tuple_getitem _ _)))
  show wpAny _ _ (Builtin.Tuple.tupleItemsOf (.ref t) >>= _) _ _ s
  refine wpAny_bind (tupleItemsOf_ ht ?_)
  refine wpAny_bind (wpAny_typeOf hTs ?_)
  rw [if_pos (by decide)]
  refine wpAny_bind (sliceApplied_rev hs pl pu ps ?_)
  have hno : ¬ ((((items.size : Int) - 1) == 0 && (-1 : Int) == 1 && items.size == items.size) = true) := by
    intro q
    rw [Bool.and_eq_true, Bool.and_eq_true] at q
    exact absurd q.1.2 (by decide)
  show wpAny _ _ (if (((items.size : Int) - 1) == 0 && (-1 : Int) == 1 && items.size == items.size) = true then _ else _) _ _ s
  rw [if_neg hno, pick_rev]
  first
    | exact wpAny_bind (m := Builtin.Tuple.tupleExact _) (wpAny_newObj_type (wpAny_pure ⟨_, rfl, wpAny_pure h⟩) htake)
    | exact wpAny_bind (m := Builtin.Tuple.tupleExact _) (wpAny_newObj_type (wpAny_bind (wpAny_pure (wpAny_pure ⟨_, rfl, wpAny_pure h⟩))) htake)
end
end HT
namespace L2
open PySem PySem.Spec PyProof.Rows
/-- e[::-1] of a list, of a tuple -/
def tRev (K : PySem.W.Frag) (te : TE) : TE := fun σ H Q => te σ H fun x H1 => ∃ a xs, x = .ref a ∧ ((SqL K H1 a xs ∧ ∀ p, H1 p = none → Q (.ref p) (upd H1 p (.lst xs.reverse))) ∨ (SqT K H1 a xs ∧ ∀ p, H1 p = none → Q (.ref p) (upd H1 p (.tup xs.reverse))))
theorem pe_rev {X : Cx} {e : Expr} {te : TE} {k : Nat} {p1 p2 p3 pos : Pos} (he : PE X e te) : PE X (.Subscript e (.Slice none none (some (.UnaryOp .USub (.Constant (.int 1) k p1) p2)) p3) pos) (tRev X.K te) := by
  refine ⟨fun pins s σ H Q I h => ?_⟩
  refine Subscript_ (thn (he.run pins s σ H _ I h) fun v s1 ⟨x, H1, I1, r1, q1⟩ => ?_)
  obtain ⟨a, xs, ex, q⟩ := q1
  subst ex
  cases r1
  have hst : PO X (some (.UnaryOp .USub (.Constant (.int 1) k p1) p2)) (tPart (tUn (rU fun i => .int (-i)) (tC (.int 1)))) := po_some (pe_un un_neg pe_int)
  refine wpAny_Slice (thn (po_none.run pins s1 σ H1 (fun o H2 => o = none ∧ H2 = H1) I1 ⟨rfl, rfl⟩) fun vl s2 ⟨l, H2, I2, pl, el, e2⟩ => ?_)
  subst el e2
  refine thn (po_none.run pins s2 σ H2 (fun o H3 => o = none ∧ H3 = H2) I2 ⟨rfl, rfl⟩) fun vu s3 ⟨u, H3, I3, pu, eu, e3⟩ => ?_
  subst eu e3
  refine thn (hst.run pins s3 σ H3 (fun o H4 => o = some (-1) ∧ H4 = H3) I3 ⟨1, rfl, -1, rfl, rfl, rfl⟩) fun vs s4 ⟨o, H4, I4, ps, eo, e4⟩ => ?_
  subst eo e4
  have I5 : Inv X pins σ H4 { s4 with heap := s4.heap.push { cls := .type "slice", data := .fields #[vl, vu, vs] } } := I4.kept (t' := s4.toks) fun b ob q => Heap.get?_push_of_some _ q
  show wpAny (model X.prog X.w) X.A (subscriptTail e (.Slice none none (some (.UnaryOp .USub (.Constant (.int 1) k p1) p2)) p3) (.ref a) (.ref s4.heap.objs.size)) (EP X pins σ Q) X.xe { s4 with heap := s4.heap.push { cls := .type "slice", data := .fields #[vl, vu, vs] } }
  rcases q with ⟨hx, q⟩ | ⟨hx, q⟩
  · obtain ⟨its, r, ht, hz⟩ := I5.list hx
    have hlen := r.length
    refine tail_any (ops := [.ref a, .ref s4.heap.objs.size]) ht.isList.typeIs (PySem.slot_list_getitem.lookup) ?_ (by with_unfolding_all rfl)
    refine wpAny_getItem_list_slice ht.isList (Heap.IsSliceOf.new _ vl vu vs) pl pu ps (by decide) ?_ (by rw [List.size_toArray]; omega)
    rw [PySem.W.krv_pick]
    refine ⟨.ref _, _, I5.laid (t' := s4.toks) (o := .lst xs.reverse) (fun b ob q => Heap.get?_push_of_some _ q) (Nat.le_refl _) ?_, rfl, q _ (I5.hok.fresh (Nat.le_refl _))⟩
    exact ⟨by rw [List.length_reverse]; exact hz, _, 0, r.reverse, Heap.get?_push_size _ rfl⟩
  · obtain ⟨its, r, ht, hz⟩ := I5.tuple hx
    have hlen := r.length
    refine tail_any (ops := [.ref a, .ref s4.heap.objs.size]) ht.typeIs (PyProof.Rows.slot_tuple_getitem.lookup) ?_ (by with_unfolding_all rfl)
    refine HT.getItem_tuple_rev ht (Heap.IsSliceOf.new _ vl vu vs) pl pu ps ?_ (by rw [List.size_toArray]; omega)
    refine ⟨.ref _, _, I5.laid (t' := s4.toks) (o := .tup xs.reverse) (fun b ob q => Heap.get?_push_of_some _ q) (Nat.le_refl _) ?_, rfl, q _ (I5.hok.fresh (Nat.le_refl _))⟩
    exact ⟨by rw [List.length_reverse]; exact hz, _, r.reverse, IsTup.new _ _⟩
end L2
end

section
set_option Elab.async false
set_option linter.all false
set_option maxRecDepth 100000
set_option maxHeartbeats 2000000
namespace DL
open PySem PySem.Spec L2 PyProof.Rows

/-! ### == of data -/
mutual
def D.toPy : D → PyData
  | .non => .none
  | .bl b => .bool b
  | .int i => .int i
  | .str s => .str ⟨s.toArray⟩
  | .tup ds => .tuple (toPyL ds)
  | .lst ds => .list (toPyL ds)
  | .kst ds => .list (toPyL ds)
  | .dic _ => .dict []
  | .fn _ => .none
  | .exc _ _ _ _ _ => .none
def toPyL : List D → List PyData
  | [] => []
  | d :: ds => d.toPy :: toPyL ds
end
mutual
def D.plain : D → Bool
  | .non => true
  | .bl _ => true
  | .int _ => true
  | .str _ => true
  | .tup ds => plainL ds
  | .lst ds => plainL ds
  | .kst ds => plainL ds
  | .dic _ => false
  | .fn _ => false
  | .exc _ _ _ _ _ => false
def plainL : List D → Bool
  | [] => true
  | d :: ds => d.plain && plainL ds
end
mutual
def D.depth : D → Nat
  | .tup ds => depthL ds + 1
  | .lst ds => depthL ds + 1
  | .kst ds => depthL ds + 1
  | .dic _ => 1
  | _ => 0
def depthL : List D → Nat
  | [] => 0
  | d :: ds => max d.depth (depthL ds)
end
mutual
def D.eqv : D → D → Bool
  | .non, .non => true
  | .bl a, .bl b => a == b
  | .bl a, .int j => (if a then 1 else 0) == j
  | .int i, .bl b => i == (if b then 1 else 0)
  | .int i, .int j => decide (i = j)
  | .str a, .str b => decide (a = b)
  | .lst xs, .lst ys => eqvL xs ys
  | .lst xs, .kst ys => eqvL xs ys
  | .kst xs, .lst ys => eqvL xs ys
  | .kst xs, .kst ys => eqvL xs ys
  | .tup xs, .tup ys => eqvL xs ys
  | _, _ => false
def eqvL : List D → List D → Bool
  | [], [] => true
  | x :: xs, y :: ys => x.eqv y && eqvL xs ys
  | [], _ :: _ => false
  | _ :: _, [] => false
end
@[simp] theorem plain_non : D.plain .non = true := rfl
@[simp] theorem plain_bl {b} : D.plain (.bl b) = true := rfl
@[simp] theorem plain_int {b} : D.plain (.int b) = true := rfl
@[simp] theorem plain_str {b} : D.plain (.str b) = true := rfl
mutual
theorem depth_py : ∀ d : D, d.plain = true → d.toPy.depth = d.depth
  | .non, _ => rfl
  | .bl _, _ => rfl
  | .int _, _ => rfl
  | .str _, _ => rfl
  | .tup ds, h => by
    simp only [D.plain] at h
    simp only [D.toPy, D.depth, PyData.depth, depthL_py ds h]
  | .lst ds, h => by
    simp only [D.plain] at h
    simp only [D.toPy, D.depth, PyData.depth, depthL_py ds h]
  | .kst ds, h => by
    simp only [D.plain] at h
    simp only [D.toPy, D.depth, PyData.depth, depthL_py ds h]
  | .dic _, h => by cases h
  | .fn _, h => by cases h
  | .exc _ _ _ _ _, h => by cases h
theorem depthL_py : ∀ ds : List D, plainL ds = true → PyData.depthAll (toPyL ds) = depthL ds
  | [], _ => rfl
  | d :: ds, h => by
    simp only [plainL, Bool.and_eq_true] at h
    simp only [toPyL, depthL, PyData.depthAll, depth_py d h.1, depthL_py ds h.2]
end
theorem str_eq {a b : List Nat} : ((⟨a.toArray⟩ : Str) == ⟨b.toArray⟩) = decide (a = b) := by
  by_cases h : a = b
  · subst h; simp
  · rw [decide_eq_false h]
    refine beq_eq_false_iff_ne.mpr fun z => h ?_
    have z1 : a.toArray = b.toArray := congrArg Str.cps z
    simpa using congrArg Array.toList z1
mutual
theorem eqv_py : ∀ d e : D, d.plain = true → e.plain = true → PyData.eqv d.toPy e.toPy = d.eqv e
  | .non, e, _, h => by cases e <;> first | (cases h; done) | simp [D.toPy, PyData.eqv, D.eqv]
  | .bl a, e, _, h => by cases e <;> first | (cases h; done) | simp [D.toPy, PyData.eqv, D.eqv]
  | .int i, e, _, h => by
    cases e with
    | int j => simp only [D.toPy, PyData.eqv, D.eqv]; rfl
    | _ => first | (cases h; done) | simp [D.toPy, PyData.eqv, D.eqv]
  | .str s, e, _, h => by
    cases e with
    | str t => simp only [D.toPy, PyData.eqv, D.eqv]; exact str_eq
    | _ => first | (cases h; done) | simp [D.toPy, PyData.eqv, D.eqv]
  | .tup ds, e, hd, h => by
    simp only [D.plain] at hd
    cases e with
    | tup es => simp only [D.plain] at h; simp only [D.toPy, PyData.eqv, D.eqv]; exact eqvL_py ds es hd h
    | _ => first | (cases h; done) | simp [D.toPy, PyData.eqv, D.eqv]
  | .lst ds, e, hd, h => by
    simp only [D.plain] at hd
    cases e with
    | lst es => simp only [D.plain] at h; simp only [D.toPy, PyData.eqv, D.eqv]; exact eqvL_py ds es hd h
    | kst es => simp only [D.plain] at h; simp only [D.toPy, PyData.eqv, D.eqv]; exact eqvL_py ds es hd h
    | _ => first | (cases h; done) | simp [D.toPy, PyData.eqv, D.eqv]
  | .kst ds, e, hd, h => by
    simp only [D.plain] at hd
    cases e with
    | lst es => simp only [D.plain] at h; simp only [D.toPy, PyData.eqv, D.eqv]; exact eqvL_py ds es hd h
    | kst es => simp only [D.plain] at h; simp only [D.toPy, PyData.eqv, D.eqv]; exact eqvL_py ds es hd h
    | _ => first | (cases h; done) | simp [D.toPy, PyData.eqv, D.eqv]
  | .dic _, e, hd, _ => by cases hd
  | .fn _, e, hd, _ => by cases hd
  | .exc _ _ _ _ _, e, hd, _ => by cases hd
theorem eqvL_py : ∀ ds es : List D, plainL ds = true → plainL es = true → PyData.eqvAll (toPyL ds) (toPyL es) = eqvL ds es
  | [], [], _, _ => by simp only [toPyL, PyData.eqvAll, eqvL]
  | [], e :: es, _, _ => by simp only [toPyL, PyData.eqvAll, eqvL]
  | d :: ds, [], _, _ => by simp only [toPyL, PyData.eqvAll, eqvL]
  | d :: ds, e :: es, h, q => by
    simp only [plainL, Bool.and_eq_true] at h q
    simp only [toPyL, PyData.eqvAll, eqvL, eqv_py d e h.1 q.1, eqvL_py ds es h.2 q.2]
end
section
variable {K : PySem.W.Frag} {S H : Hp}
mutual
theorem dp_of : ∀ (d : D) (v : V), Rp K H d v → d.plain = true → Dp K H v d.toPy
  | .non, v, h, _ => by simp only [Rp] at h; rw [h]; exact .non
  | .bl b, v, h, _ => by simp only [Rp] at h; rw [h]; exact .bl b
  | .int i, v, h, _ => by simp only [Rp] at h; rw [h]; exact .int i
  | .str s, v, h, _ => by simp only [Rp] at h; rw [h.1]; exact .str _
  | .tup ds, v, h, p => by
    simp only [Rp] at h
    simp only [D.plain] at p
    obtain ⟨a, xs, e, q, r⟩ := h
    rw [e]
    exact .tup q (dpL_of ds xs r p)
  | .lst ds, v, h, p => by
    simp only [Rp] at h
    simp only [D.plain] at p
    obtain ⟨a, xs, e, q, r⟩ := h
    rw [e]
    exact .lst (.inl (.inl q)) (dpL_of ds xs r p)
  | .kst ds, v, h, p => by
    simp only [Rp] at h
    simp only [D.plain] at p
    obtain ⟨a, xs, e, q, r⟩ := h
    rw [e]
    exact .lst q (dpL_of ds xs r p)
  | .dic _, v, h, p => by cases p
  | .fn _, v, h, p => by cases p
  | .exc _ _ _ _ _, v, h, p => by cases p
theorem dpL_of : ∀ (ds : List D) (vs : List V), RpL K H ds vs → plainL ds = true → DpAll K H vs (toPyL ds)
  | [], vs, h, _ => by simp only [RpL] at h; rw [h]; exact .nil
  | d :: ds, vs, h, p => by
    simp only [RpL] at h
    simp only [plainL, Bool.and_eq_true] at p
    obtain ⟨v, r, e, q, t⟩ := h
    rw [e]
    exact .cons (dp_of d v q p.1) (dpL_of ds r t p.2)
end
mutual
theorem lay_of : ∀ (d : D) (v : V), Rp K H d v → d.plain = true → d.toPy.canLay0 = true
  | .non, v, h, _ => by simp [D.toPy, PyData.canLay0]
  | .bl b, v, h, _ => by simp [D.toPy, PyData.canLay0]
  | .int i, v, h, _ => by simp [D.toPy, PyData.canLay0]
  | .str s, v, h, _ => by
    simp only [Rp] at h
    simp only [D.toPy, PyData.canLay0, PyData.strOk]
    rw [Array.all_eq_true]
    intro i hi
    have hi' : i < s.length := by simpa using hi
    have := h.2.1 s[i] (List.getElem_mem hi')
    simpa using this
  | .tup ds, v, h, p => by
    simp only [Rp] at h
    simp only [D.plain] at p
    obtain ⟨a, xs, e, q, r⟩ := h
    simp only [D.toPy, PyData.canLay0]
    exact layL_of ds xs r p
  | .lst ds, v, h, p => by
    simp only [Rp] at h
    simp only [D.plain] at p
    obtain ⟨a, xs, e, q, r⟩ := h
    simp only [D.toPy, PyData.canLay0]
    exact layL_of ds xs r p
  | .kst ds, v, h, p => by
    simp only [Rp] at h
    simp only [D.plain] at p
    obtain ⟨a, xs, e, q, r⟩ := h
    simp only [D.toPy, PyData.canLay0]
    exact layL_of ds xs r p
  | .dic _, v, h, p => by cases p
  | .fn _, v, h, p => by cases p
  | .exc _ _ _ _ _, v, h, p => by cases p
theorem layL_of : ∀ (ds : List D) (vs : List V), RpL K H ds vs → plainL ds = true → PyData.canLayAll0 (toPyL ds) = true
  | [], vs, h, _ => by simp only [toPyL, PyData.canLayAll0]
  | d :: ds, vs, h, p => by
    simp only [RpL] at h
    simp only [plainL, Bool.and_eq_true] at p
    obtain ⟨v, r, e, q, t⟩ := h
    simp only [toPyL, PyData.canLayAll0, Bool.and_eq_true]
    exact ⟨lay_of d v q p.1, layL_of ds r t p.2⟩
end
/-- an owned value, read as data -/
theorem frz_view (s : Sub S H) {o : O} {v : V} {F : List Addr} (h : RepO K S H o v F) : Rp K H o.frz v := frz_rp s o v F h fun _ _ => rfl
end
def rEqP (K : PySem.W.Frag) : R2 := fun x y H Q => ∃ d e, Dp K H x d ∧ Dp K H y e ∧ d.canLay0 = true ∧ e.canLay0 = true ∧ min d.depth e.depth ≤ 190 ∧ Q (.bl (PyData.eqv d e)) H
def rNeP (K : PySem.W.Frag) : R2 := fun x y H Q => ∃ d e, Dp K H x d ∧ Dp K H y e ∧ d.canLay0 = true ∧ e.canLay0 = true ∧ min d.depth e.depth ≤ 190 ∧ Q (.bl (!PyData.eqv d e)) H
theorem op_eqP {X : Cx} (hu : X.A.units + 200 < cLine) : OpR X (compareOp .Eq) (rEqP X.K) := by
  intro pins s σ H x y v u Q I rx ry h
  obtain ⟨d, e, hd, he, sd, se, z, q⟩ := h
  obtain ⟨as, r1⟩ := Dp.reads I d x v hd rx
  obtain ⟨bs, r2⟩ := Dp.reads I e y u he ry
  exact SeqAt.compareEq_reads r1 r2 sd se (by omega) ⟨.bl _, H, I, rfl, q⟩
theorem op_neP {X : Cx} (hu : X.A.units + 200 < cLine) : OpR X (compareOp .NotEq) (rNeP X.K) := by
  intro pins s σ H x y v u Q I rx ry h
  obtain ⟨d, e, hd, he, sd, se, z, q⟩ := h
  obtain ⟨as, r1⟩ := Dp.reads I d x v hd rx
  obtain ⟨bs, r2⟩ := Dp.reads I e y u he ry
  exact SeqAt.compareNe_reads r1 r2 sd se (by omega) ⟨.bl _, H, I, rfl, q⟩
theorem Room.eq {k : Nat} {A : Around} (r : Room k A) : A.units + 200 < cLine := by have := r.un; omega
/-- what == asks of two values -/
def CEq (x y : D) : Prop := x.plain = true ∧ y.plain = true ∧ min x.depth y.depth ≤ 190
def fEq : PR2 := fun x y Q => CEq x.frz y.frz ∧ Q (.d (.bl (x.frz.eqv y.frz)))
def fNe : PR2 := fun x y Q => CEq x.frz y.frz ∧ Q (.d (.bl (!x.frz.eqv y.frz)))
theorem o2_eq {K : PySem.W.Frag} : Op2 K (rEqP K) fEq := fun S H x y o1 o2 F1 F2 Qp Q s h1 h2 hf yl => by
  obtain ⟨⟨p1, p2, z⟩, q⟩ := hf
  have r1 := frz_view s h1
  have r2 := frz_view s h2
  refine ⟨_, _, dp_of _ _ r1 p1, dp_of _ _ r2 p2, lay_of _ _ r1 p1, lay_of _ _ r2 p2, ?_, ?_⟩
  · rw [depth_py _ p1, depth_py _ p2]; exact z
  · rw [eqv_py _ _ p1 p2]; exact yl.d s rp_bl q
theorem o2_ne {K : PySem.W.Frag} : Op2 K (rNeP K) fNe := fun S H x y o1 o2 F1 F2 Qp Q s h1 h2 hf yl => by
  obtain ⟨⟨p1, p2, z⟩, q⟩ := hf
  have r1 := frz_view s h1
  have r2 := frz_view s h2
  refine ⟨_, _, dp_of _ _ r1 p1, dp_of _ _ r2 p2, lay_of _ _ r1 p1, lay_of _ _ r2 p2, ?_, ?_⟩
  · rw [depth_py _ p1, depth_py _ p2]; exact z
  · rw [eqv_py _ _ p1 p2]; exact yl.d s rp_bl q

/-! ### is None, is True -/
def D.isNon : D → Bool
  | .non => true
  | _ => false
def rIsAll : R2 := fun x y H Q => (y = .non ∧ Q (.bl (decide (x = .non))) H) ∨ rIsB x y H Q
def rNotAll : R2 := fun x y H Q => (y = .non ∧ Q (.bl (!decide (x = .non))) H) ∨ rNotB x y H Q
theorem op_isAll {X : Cx} : OpR X (compareOp .Is) rIsAll := fun pins s σ H x y v u Q I rx ry h => h.elim (fun h => op_isN pins s σ H x y v u Q I rx ry h) fun h => op_isBl pins s σ H x y v u Q I rx ry h
theorem op_notAll {X : Cx} : OpR X (compareOp .IsNot) rNotAll := fun pins s σ H x y v u Q I rx ry h => h.elim (fun h => op_notN pins s σ H x y v u Q I rx ry h) fun h => op_notBl pins s σ H x y v u Q I rx ry h
@[simp] def fIs : PR2 := fun x y Q => match x, y with
  | o, .d .non => Q (.d (.bl o.frz.isNon))
  | .d (.bl a), .d (.bl b) => Q (.d (.bl (decide (a = b))))
  | _, _ => False
@[simp] def fNot : PR2 := fun x y Q => match x, y with
  | o, .d .non => Q (.d (.bl !o.frz.isNon))
  | .d (.bl a), .d (.bl b) => Q (.d (.bl (!decide (a = b))))
  | _, _ => False
theorem isNon_rep {K : PySem.W.Frag} {H : Hp} {d : D} {v : V} (h : Rp K H d v) : decide (v = .non) = d.isNon := by
  cases d with
  | non => simp only [Rp] at h; rw [h]; rfl
  | bl b => simp only [Rp] at h; rw [h]; rfl
  | int b => simp only [Rp] at h; rw [h]; rfl
  | str b => simp only [Rp] at h; rw [h.1]; rfl
  | tup ds => simp only [Rp] at h; obtain ⟨a, xs, e, _⟩ := h; rw [e]; rfl
  | lst ds => simp only [Rp] at h; obtain ⟨a, xs, e, _⟩ := h; rw [e]; rfl
  | kst ds => simp only [Rp] at h; obtain ⟨a, xs, e, _⟩ := h; rw [e]; rfl
  | dic ds => simp only [Rp] at h; obtain ⟨a, xs, e, _⟩ := h; rw [e]; rfl
  | fn b => simp only [Rp] at h; rw [h]; rfl
  | exc a d c f x => simp only [Rp] at h; rw [h.1]; rfl
theorem o2_is {K : PySem.W.Frag} : Op2 K rIsAll fIs := fun S H x y o1 o2 F1 F2 Qp Q s h1 h2 hf yl => by
  unfold fIs at hf
  split at hf
  · have r2 := d_rp h2
    simp only [Rp] at r2
    refine .inl ⟨r2, ?_⟩
    rw [isNon_rep (frz_view s h1)]
    exact yl.d s rp_bl hf
  · have r1 := d_rp h1
    have r2 := d_rp h2
    simp only [Rp] at r1 r2
    exact .inr ⟨_, _, r1, r2, yl.d s rp_bl hf⟩
  · exact hf.elim
theorem o2_not {K : PySem.W.Frag} : Op2 K rNotAll fNot := fun S H x y o1 o2 F1 F2 Qp Q s h1 h2 hf yl => by
  unfold fNot at hf
  split at hf
  · have r2 := d_rp h2
    simp only [Rp] at r2
    refine .inl ⟨r2, ?_⟩
    rw [isNon_rep (frz_view s h1)]
    exact yl.d s rp_bl hf
  · have r1 := d_rp h1
    have r2 := d_rp h2
    simp only [Rp] at r1 r2
    exact .inr ⟨_, _, r1, r2, yl.d s rp_bl hf⟩
  · exact hf.elim

/-! ### xs[i], xs[a:b], xs[::-1] -/
theorem atI_rp {K : PySem.W.Frag} {S : Hp} {ds : List D} {vs : List V} {i : Int} {d : D} (r : RpL K S ds vs) (h : atI ds i = some d) : ∃ v, atI vs i = some v ∧ Rp K S d v := by
  unfold atI at h ⊢
  rw [r.length]
  cases e : ixN ds.length i with
  | none => rw [e] at h; cases h
  | some j =>
    rw [e] at h
    exact r.get h
/-- an item; of a list that a name owns: if it is data -/
def fIx : PR2 := fun x y Q => match x, y with
  | .d (.str s), .d (.int i) => match atI s i with
    | some c => Q (.d (.str [c]))
    | none => False
  | .d (.tup ds), .d (.int i) => match atI ds i with
    | some d => Q (.d d)
    | none => False
  | o, .d (.int i) => match o.lis with
    | some ds => match atI ds i with
      | some d => Q (.d d)
      | none => False
    | none => False
  | _, _ => False
theorem o2_ix {K : PySem.W.Frag} : Op2 K (rIx K) fIx := fun S H x y o1 o2 F1 F2 Qp Q s h1 h2 hf yl => by
  unfold fIx at hf
  split at hf
  · have r1 := d_rp h1
    have r2 := d_rp h2
    simp only [Rp] at r1 r2
    split at hf
    · rename_i c hc
      refine .inr (.inr ⟨_, _, c, r1.1, r2, by rw [str_len]; exact r1.2.2, by simpa using hc, ?_⟩)
      refine yl.d s ?_ hf
      simp only [Rp]
      refine ⟨trivial, fun k hk => ?_, by rw [sizeLine_eq]; simp⟩
      rw [List.mem_singleton.mp hk]
      refine r1.2.1 c ?_
      unfold atI at hc
      cases e : ixN _ _ with
      | none => rw [e] at hc; cases hc
      | some j => rw [e] at hc; exact List.mem_of_getElem? hc
    · exact hf.elim
  · have r1 := d_rp h1
    have r2 := d_rp h2
    simp only [Rp] at r1 r2
    obtain ⟨a, xs, e, q, r⟩ := r1
    split at hf
    · rename_i d hd
      obtain ⟨v, ev, rv⟩ := atI_rp r hd
      exact .inr (.inl ⟨a, xs, _, v, e, r2, sqT_sub s q, ev, yl.d s rv hf⟩)
    · exact hf.elim
  · have r2 := d_rp h2
    simp only [Rp] at r2
    split at hf
    · rename_i ds hds
      obtain ⟨a, xs, e, q, r⟩ := lis_rep s h1 hds
      split at hf
      · rename_i d hd
        obtain ⟨v, ev, rv⟩ := atI_rp r hd
        exact .inl ⟨a, xs, _, v, e, r2, q, ev, yl.d s rv hf⟩
      · exact hf.elim
    · exact hf.elim
  · exact hf.elim
abbrev PTO := Env → (Option Int → Env → Prop) → PX → Prop
def SimO (K : PySem.W.Frag) (W : WX) (b : Bool) (te : TO) (t : PTO) : Prop :=
  ∀ σ H S env Fs (Qp : Option Int → Env → Prop) (Ep : PX) (Q : Option Int → Hp → Prop), St K σ H S env Fs → t env Qp Ep →
    (∀ c H' S' env' Fs', Nx K b σ H S env Fs H' S' env' Fs' → Qp c env' → Q c H') → XC K W σ H S env Fs Ep → te σ H Q
@[simp] def pNoPart : PTO := fun env Q _ => Q none env
@[simp] def pPart (t : PTE) : PTO := fun env Q E => t env (fun o env' => match o with
  | .d (.int i) => Q (some i) env'
  | _ => False) E
abbrev PSl := O → Option Int → Option Int → (O → Prop) → Prop
def OpS (K : PySem.W.Frag) (r : V → Option Int → Option Int → Hp → VK → Prop) (f : PSl) : Prop := ∀ S H x o1 lo hi F1 (Qp : O → Prop) (Q : VK), Sub S H → RepO K S H o1 x F1 → f o1 lo hi Qp → Yields K S H Qp Q → r x lo hi H Q
@[simp] def pSl (f : PSl) (ta : PTE) (tl th : PTO) : PTE := fun env Q E => ta env (fun x env1 => tl env1 (fun l env2 => th env2 (fun h env3 => f x l h fun z => Q z env3) E) E) E
section
variable {K : PySem.W.Frag} {W : WX} {b b1 b2 b3 w w1 : Bool}
theorem sim_noPart : SimO K W false tNoPart pNoPart := fun σ H S env Fs Qp Ep Q hs ht k x => k none H S env Fs (Nx.refl hs) ht
theorem sim_part {te : TE} {t : PTE} (h : SimE K W b w te t) : SimO K W b (tPart te) (pPart t) := fun σ H S env Fs Qp Ep Q hs ht k x =>
  h σ H S env Fs _ Ep _ hs ht (fun v o F H' S' env' Fs' n c q => by
    split at q
    · rename_i i
      have r := c.rp
      simp only [Rp] at r
      exact ⟨i, r, k _ H' S' env' Fs' n q⟩
    · exact q.elim) x
theorem sim_sl {r : V → Option Int → Option Int → Hp → VK → Prop} {f : PSl} {ta : TE} {tl th : TO} {pa : PTE} {pl ph : PTO} (ho : OpS K r f) (ha : SimE K W b1 w1 ta pa) (hl : SimO K W b2 tl pl) (hh : SimO K W b3 th ph) (hc : w1 = true → (b2 || b3) = false) :
    SimE K W (b1 || (b2 || b3)) false (tSl r ta tl th) (pSl f pa pl ph) :=
  fun σ H S env Fs Qp Ep Q hs ht k x =>
    ha σ H S env Fs _ Ep _ hs ht (fun v o F H1 S1 env1 Fs1 n1 c1 q1 =>
      hl σ H1 S1 env1 Fs1 _ Ep _ n1.st q1 (fun l H2 S2 env2 Fs2 n2 q2 =>
        hh σ H2 S2 env2 Fs2 _ Ep _ n2.st q2 (fun u H3 S3 env3 Fs3 n3 q3 =>
          ho S3 H3 v o l u F _ _ n3.st.sub (c1.on (n2.trans n3) hc).rep q3 (yields_of (n1.trans (n2.trans n3)) k)) (x.on (n1.trans n2))) (x.on n1)) x
end
def cutL {α : Type} (xs : List α) (lo hi : Option Int) : List α := (xs.drop (HT.sIx xs.length 0 lo)).take (HT.sIx xs.length xs.length hi - HT.sIx xs.length 0 lo)
theorem cutL_rp {K : PySem.W.Frag} {S : Hp} {ds : List D} {vs : List V} (r : RpL K S ds vs) (lo hi : Option Int) : RpL K S (cutL ds lo hi) (cutV vs lo hi) := by
  unfold cutL cutV
  rw [r.length]
  exact (r.drop _).take _
@[simp] def fSl : PSl := fun x lo hi Q => match x with
  | .d (.str s) => Q (.d (.str (cutL s lo hi)))
  | .d (.tup ds) => Q (.d (.tup (cutL ds lo hi)))
  | o => match o.lis with
    | some ds => Q (.own ((cutL ds lo hi).map O.d))
    | none => False
def rSlAll (K : PySem.W.Frag) : V → Option Int → Option Int → Hp → VK → Prop := fun x lo hi H Q => rSlS x lo hi H Q ∨ rSlA K x lo hi H Q ∨ rSlL K x lo hi H Q
theorem sl_all {X : Cx} : SlR X (rSlAll X.K) := fun pins s σ H x v vl vu lo hi sl Q I rx hs pl pu h => by
  rcases h with h | h | h
  · exact sl_str pins s σ H x v vl vu lo hi sl Q I rx hs pl pu h
  · exact sl_tupA pins s σ H x v vl vu lo hi sl Q I rx hs pl pu h
  · exact sl_list pins s σ H x v vl vu lo hi sl Q I rx hs pl pu h
end DL
end

section
set_option Elab.async false
set_option linter.all false
set_option maxRecDepth 100000
set_option maxHeartbeats 2000000
namespace DL
open PySem PySem.Spec L2 PyProof.Rows
theorem cutV_eq (xs : List V) (lo hi : Option Int) : cutV xs lo hi = cutL xs lo hi := rfl
theorem cutL_length {α : Type} (xs : List α) (lo hi : Option Int) : (cutL xs lo hi).length ≤ xs.length := by
  unfold cutL
  rw [List.length_take, List.length_drop]
  omega
theorem mem_cutL {α : Type} {xs : List α} {lo hi : Option Int} {c : α} (h : c ∈ cutL xs lo hi) : c ∈ xs := List.mem_of_mem_drop (List.mem_of_mem_take h)
theorem okS_cut {s : List Nat} (h : okS s) (lo hi : Option Int) : okS (cutL s lo hi) := fun c hc => h c (mem_cutL hc)
theorem cutS_eq (s : List Nat) (lo hi : Option Int) : cutS ⟨s.toArray⟩ lo hi = ⟨(cutL s lo hi).toArray⟩ := by
  unfold cutS cutL
  rw [str_len]
theorem os_sl {K : PySem.W.Frag} : OpS K (rSlAll K) fSl := fun S H x o1 lo hi F1 Qp Q s h1 hf yl => by
  unfold fSl at hf
  split at hf
  · have r1 := d_rp h1
    simp only [Rp] at r1
    refine .inl ⟨_, r1.1, by rw [str_len]; exact r1.2.2, ?_⟩
    rw [cutS_eq]
    refine yl.d s ?_ hf
    simp only [Rp]
    exact ⟨trivial, okS_cut r1.2.1 lo hi, Nat.le_trans (cutL_length _ _ _) r1.2.2⟩
  · rename_i ds
    have r1 := d_rp h1
    have r1' := r1
    simp only [Rp] at r1
    obtain ⟨a, xs, e, q, r⟩ := r1
    refine .inr (.inl ⟨a, xs, e, sqT_sub s q, fun z => ?_, fun _ p n => yl.tup s n (cutL_rp r lo hi) hf⟩)
    have ec : cutL ds lo hi = ds := by
      unfold cutL
      rw [r.length] at z
      rw [z.1, z.2, List.drop_zero, Nat.sub_zero, List.take_length]
    rw [ec] at hf
    rw [← e]
    exact yl.d s r1' hf
  · split at hf
    · rename_i ds hds
      obtain ⟨a, xs, e, q, r⟩ := lis_rep s h1 hds
      exact .inr (.inr ⟨a, xs, e, q, fun p n => yl.own s n (cutL_rp r lo hi) hf⟩)
    · exact hf.elim
/-! ### xs[::-1] -/
@[simp] def fRev : PR1 := fun x Q => match x with
  | .d (.tup ds) => Q (.d (.tup ds.reverse))
  | o => match o.lis with
    | some ds => Q (.own (ds.reverse.map O.d))
    | none => False
section
variable {K : PySem.W.Frag} {W : WX} {b b1 b2 w w1 w2 : Bool}
theorem sim_rev {ta : TE} {pa : PTE} (ha : SimE K W b1 w1 ta pa) : SimE K W b1 false (tRev K ta) (pUn fRev pa) :=
  fun σ H S env Fs Qp Ep Q hs ht k x =>
    ha σ H S env Fs _ Ep _ hs ht (fun v o F H1 S1 env1 Fs1 n1 c1 q1 => by
      have yl := yields_of n1 k
      have s := n1.st.sub
      have h1 := c1.rep
      unfold fRev at q1
      split at q1
      · have r1 := d_rp h1
        simp only [Rp] at r1
        obtain ⟨a, xs, e, q, r⟩ := r1
        exact ⟨a, xs, e, .inr ⟨sqT_sub s q, fun p n => yl.tup s n r.reverse q1⟩⟩
      · split at q1
        · rename_i ds hds
          obtain ⟨a, xs, e, q, r⟩ := lis_rep s h1 hds
          exact ⟨a, xs, e, .inl ⟨q, fun p n => yl.own s n r.reverse q1⟩⟩
        · exact q1.elim) x
end
/-! ### x in y -/
def D.flat : D → Bool
  | .non => true
  | .bl _ => true
  | .int _ => true
  | .str _ => true
  | _ => false
theorem flat_rep {K : PySem.W.Frag} {H : Hp} {d : D} {v : V} (h : Rp K H d v) (f : d.flat = true) : flatV v = true := by
  cases d with
  | non => simp only [Rp] at h; rw [h]; rfl
  | bl b => simp only [Rp] at h; rw [h]; rfl
  | int b => simp only [Rp] at h; rw [h]; rfl
  | str b => simp only [Rp] at h; rw [h.1]; rfl
  | _ => cases f
theorem eqV_rep {K : PySem.W.Frag} {H : Hp} {d e : D} {v u : V} (h : Rp K H d v) (q : Rp K H e u) (f : d.flat = true) (g : e.flat = true) : eqV v u = d.eqv e := by
  cases d with
  | non => simp only [Rp] at h; rw [h]; cases e with
    | non => simp only [Rp] at q; rw [q]; rfl
    | bl b => simp only [Rp] at q; rw [q]; rfl
    | int b => simp only [Rp] at q; rw [q]; rfl
    | str b => simp only [Rp] at q; rw [q.1]; rfl
    | _ => cases g
  | bl b => simp only [Rp] at h; rw [h]; cases e with
    | non => simp only [Rp] at q; rw [q]; rfl
    | bl b => simp only [Rp] at q; rw [q]; rfl
    | int b => simp only [Rp] at q; rw [q]; rfl
    | str b => simp only [Rp] at q; rw [q.1]; rfl
    | _ => cases g
  | int b => simp only [Rp] at h; rw [h]; cases e with
    | non => simp only [Rp] at q; rw [q]; rfl
    | bl b => simp only [Rp] at q; rw [q]; rfl
    | int b => simp only [Rp] at q; rw [q]; rfl
    | str b => simp only [Rp] at q; rw [q.1]; rfl
    | _ => cases g
  | str b => simp only [Rp] at h; rw [h.1]; cases e with
    | non => simp only [Rp] at q; rw [q]; rfl
    | bl b => simp only [Rp] at q; rw [q]; rfl
    | int b => simp only [Rp] at q; rw [q]; rfl
    | str b => simp only [Rp] at q; rw [q.1]; exact str_eq
    | _ => cases g
  | _ => cases f
theorem inV_rep {K : PySem.W.Frag} {H : Hp} {d : D} {v : V} (h : Rp K H d v) (f : d.flat = true) : ∀ {ds : List D} {vs : List V}, RpL K H ds vs → ds.all D.flat = true → vs.all flatV = true ∧ inV v vs = ds.any fun z => z.eqv d
  | [], vs, r, _ => by simp only [RpL] at r; rw [r]; exact ⟨rfl, rfl⟩
  | e :: ds, vs, r, g => by
    simp only [RpL] at r
    obtain ⟨u, t, ev, q, r2⟩ := r
    rw [List.all_cons, Bool.and_eq_true] at g
    obtain ⟨i1, i2⟩ := inV_rep h f r2 g.2
    rw [ev, List.all_cons, flat_rep q g.1, i1]
    refine ⟨rfl, ?_⟩
    unfold inV at i2 ⊢
    rw [List.any_cons, List.any_cons, i2, eqV_rep q h g.1 f]
/-- x in y: one sign in a text; flat data in a tuple; plain data in a list -/
def inD (x : D) (ds : List D) : Bool := ds.any fun z => z.eqv x
def fInB (neg : Bool) : PR2 := fun x y Q => match x, y with
  | .d (.str [c]), .d (.str z) => Q (.d (.bl (if neg then !decide (c ∈ z) else decide (c ∈ z))))
  | .d d, .d (.tup ds) => d.flat = true ∧ ds.all D.flat = true ∧ Q (.d (.bl (if neg then !inD d ds else inD d ds)))
  | .d d, o => match o.lis with
    | some ds => d.plain = true ∧ plainL ds = true ∧ d.depth ≤ 60 ∧ depthL ds ≤ 60 ∧ Q (.d (.bl (if neg then !inD d ds else inD d ds)))
    | none => False
  | _, _ => False
@[simp] def fIn : PR2 := fInB false
@[simp] def fNin : PR2 := fInB true
def rInAll (K : PySem.W.Frag) : R2 := fun x y H Q => (∃ (c : Nat) (z : Str), x = .str ⟨#[c]⟩ ∧ y = .str z ∧ Q (.bl (decide (c ∈ z.cps.toList))) H) ∨ rIn K false x y H Q ∨ rInD K x y H Q
def rNinAll (K : PySem.W.Frag) : R2 := fun x y H Q => (∃ (c : Nat) (z : Str), x = .str ⟨#[c]⟩ ∧ y = .str z ∧ Q (.bl (!decide (c ∈ z.cps.toList))) H) ∨ rIn K true x y H Q ∨ rNotInD K x y H Q
theorem op_inAll {X : Cx} (hu : X.A.units + 200 < cLine) : OpR X (compareOp .In) (rInAll X.K) := fun pins s σ H x y v u Q I rx ry h => by
  rcases h with h | h | h
  · exact op_in_sign pins s σ H x y v u Q I rx ry h
  · exact op_in_seq pins s σ H x y v u Q I rx ry h
  · exact op_inD (by omega) pins s σ H x y v u Q I rx ry h
theorem op_ninAll {X : Cx} (hu : X.A.units + 200 < cLine) : OpR X (compareOp .NotIn) (rNinAll X.K) := fun pins s σ H x y v u Q I rx ry h => by
  rcases h with h | h | h
  · exact op_notIn_sign pins s σ H x y v u Q I rx ry h
  · exact op_notIn_seq pins s σ H x y v u Q I rx ry h
  · exact op_notInD (by omega) pins s σ H x y v u Q I rx ry h
theorem any_py (d : D) (hd : d.plain = true) : ∀ ds : List D, plainL ds = true → (toPyL ds).any (fun z => PyData.eqv z d.toPy) = inD d ds
  | [], _ => rfl
  | e :: ds, h => by
    simp only [plainL, Bool.and_eq_true] at h
    have ih := any_py d hd ds h.2
    unfold inD at ih ⊢
    simp only [toPyL, List.any_cons, eqv_py e d h.1 hd, ih]
theorem shaped_of {K : PySem.W.Frag} {H : Hp} {d : D} {v : V} (h : Rp K H d v) (p : d.plain = true) (z : d.depth ≤ 64) : SeqAt.shaped d.toPy = true := by
  unfold SeqAt.shaped
  rw [lay_of d v h p, depth_py d p, decide_eq_true z]
  rfl
theorem list_rep {K : PySem.W.Frag} {H : Hp} {a : Addr} {xs : List V} {ds : List D} (q : SqL K H a xs) (r : RpL K H ds xs) : Rp K H (.kst ds) (.ref a) := by
  simp only [Rp]
  exact ⟨a, xs, rfl, q, r⟩
theorem o2_inB {K : PySem.W.Frag} (neg : Bool) : Op2 K (fun x y H Q => (∃ (c : Nat) (z : Str), x = .str ⟨#[c]⟩ ∧ y = .str z ∧ Q (.bl (if neg then !decide (c ∈ z.cps.toList) else decide (c ∈ z.cps.toList))) H) ∨ rIn K neg x y H Q ∨ (if neg then rNotInD K x y H Q else rInD K x y H Q)) (fInB neg) :=
  fun S H x y o1 o2 F1 F2 Qp Q s h1 h2 hf yl => by
    unfold fInB at hf
    split at hf
    · rename_i c z
      have r1 := d_rp h1
      have r2 := d_rp h2
      simp only [Rp] at r1 r2
      refine .inl ⟨c, _, r1.1, r2.1, ?_⟩
      have e : (⟨z.toArray⟩ : Str).cps.toList = z := by simp
      rw [e]
      exact yl.d s rp_bl hf
    · rename_i d ds
      have r1 := Rp.mono s _ _ (d_rp h1)
      have r2 := d_rp h2
      simp only [Rp] at r2
      obtain ⟨a, xs, e, q, r⟩ := r2
      obtain ⟨f1, f2, hf⟩ := hf
      obtain ⟨i1, i2⟩ := inV_rep r1 f1 (RpL.mono s ds xs r) f2
      refine .inr (.inl ⟨a, xs, e, .inr (sqT_sub s q), flat_rep r1 f1, i1, ?_⟩)
      rw [i2]
      exact yl.d s rp_bl hf
    · rename_i d _ _
      split at hf
      · rename_i ds hds
        have r1 := Rp.mono s _ _ (d_rp h1)
        obtain ⟨a, xs, e, q, r⟩ := lis_rep s h2 hds
        obtain ⟨p1, p2, z1, z2, hf⟩ := hf
        have rk := list_rep q (RpL.mono s ds xs r)
        have pk : (D.kst ds).plain = true := p2
        have zk : (D.kst ds).depth ≤ 64 := by show depthL ds + 1 ≤ 64; omega
        have dk := dp_of _ _ rk pk
        simp only [D.toPy] at dk
        have sk := shaped_of rk pk zk
        simp only [D.toPy] at sk
        refine .inr (.inr ?_)
        rw [e]
        cases neg with
        | true =>
          refine ⟨d.toPy, toPyL ds, dp_of d x r1 p1, dk, shaped_of r1 p1 (by omega), sk, ?_⟩
          rw [any_py d p1 ds p2]
          exact yl.d s rp_bl hf
        | false =>
          refine ⟨d.toPy, toPyL ds, dp_of d x r1 p1, dk, shaped_of r1 p1 (by omega), sk, ?_⟩
          rw [any_py d p1 ds p2]
          exact yl.d s rp_bl hf
      · exact hf.elim
    · exact hf.elim
theorem o2_in {K : PySem.W.Frag} : Op2 K (rInAll K) fIn := o2_inB false
theorem o2_nin {K : PySem.W.Frag} : Op2 K (rNinAll K) fNin := o2_inB true
end DL
end

section
set_option Elab.async false
set_option linter.all false
set_option maxRecDepth 100000
set_option maxHeartbeats 2000000
namespace DL
open PySem PySem.Spec L2 PyProof.Rows

/-! ### a name's own list changes -/
section
variable {K : PySem.W.Frag} {S H : Hp}
theorem RepL.append : ∀ {os ps : List O} {xs ys : List V} {F G : List Addr}, RepL K S H os xs F → RepL K S H ps ys G → Disj F G → RepL K S H (os ++ ps) (xs ++ ys) (F ++ G)
  | [], ps, xs, ys, F, G, h, q, _ => by
    simp only [RepL] at h
    rw [h.1, h.2]
    exact q
  | o :: os, ps, xs, ys, F, G, h, q, dj => by
    simp only [RepL] at h
    obtain ⟨v, r, F1, F2, e, ef, d1, q1, t⟩ := h
    subst e ef
    have i1 := RepL.append t q fun a ha => dj a (List.mem_append_right _ ha)
    rw [List.append_assoc]
    show RepL K S H (o :: (os ++ ps)) (v :: (r ++ ys)) (F1 ++ (F2 ++ G))
    simp only [RepL]
    refine ⟨v, r ++ ys, F1, F2 ++ G, rfl, rfl, fun a ha hb => ?_, q1, i1⟩
    rcases List.mem_append.mp hb with z | z
    · exact d1 a ha z
    · exact dj a (List.mem_append_left _ ha) z
theorem RepL.one {o : O} {v : V} {F : List Addr} (h : RepO K S H o v F) : RepL K S H [o] [v] F := by
  simp only [RepL]
  exact ⟨v, [], F, [], rfl, by rw [List.append_nil], fun a _ z => absurd z (by simp), h, rfl, rfl⟩
theorem RepL.split : ∀ {os ps : List O} {xs : List V} {F : List Addr}, RepL K S H (os ++ ps) xs F → ∃ x1 x2 F1 F2, xs = x1 ++ x2 ∧ F = F1 ++ F2 ∧ Disj F1 F2 ∧ RepL K S H os x1 F1 ∧ RepL K S H ps x2 F2
  | [], ps, xs, F, h => ⟨[], xs, [], F, rfl, rfl, fun a z => absurd z (by simp), by simp only [RepL]; exact ⟨trivial, trivial⟩, h⟩
  | o :: os, ps, xs, F, h => by
    have h' : RepL K S H (o :: (os ++ ps)) xs F := h
    simp only [RepL] at h'
    obtain ⟨v, r, F1, F2, e, ef, d1, q1, t⟩ := h'
    obtain ⟨x1, x2, G1, G2, e2, ef2, d2, t1, t2⟩ := RepL.split t
    subst e ef e2 ef2
    refine ⟨v :: x1, x2, F1 ++ G1, G2, rfl, by rw [List.append_assoc], fun a ha hb => ?_, ?_, t2⟩
    · rcases List.mem_append.mp ha with z | z
      · exact d1 a z (List.mem_append_right _ hb)
      · exact d2 a z hb
    · simp only [RepL]
      exact ⟨v, x1, F1, G1, rfl, rfl, fun a ha z => d1 a ha (List.mem_append_left _ z), q1, t1⟩
theorem RepL.length : ∀ {os : List O} {xs : List V} {F : List Addr}, RepL K S H os xs F → xs.length = os.length
  | [], xs, F, h => by simp only [RepL] at h; rw [h.1]; rfl
  | o :: os, xs, F, h => by
    simp only [RepL] at h
    obtain ⟨v, r, F1, F2, e, ef, d1, q1, t⟩ := h
    rw [e, List.length_cons, List.length_cons, RepL.length t]
theorem own_rep {os : List O} {v : V} {F : List Addr} (h : RepO K S H (.own os) v F) : ∃ a xs G, v = .ref a ∧ H a = some (.lst xs) ∧ F = a :: G ∧ a ∉ G ∧ RepL K S H os xs G := by
  simpa only [RepO] using h
end
section
variable {K : PySem.W.Frag} {b : Bool} {σ : L2.St} {H S H1 S1 : Hp} {env env1 : Env} {Fs Fs1 : Nat → List Addr} {i : Nat}
/-- the object that a name owns is changed -/
theorem Nx.root (n : Nx K b σ H S env Fs H1 S1 env1 Fs1) (hlt : i < env1.length) {a : Addr} {G G' : List Addr} {u : HO} {o' : O} (ev : σ[i]? = some (some (.ref a))) (ef : Fs1 i = a :: G) (ng : a ∉ G)
    (rep : RepO K S1 (upd H1 a u) o' (.ref a) (a :: G')) (th : ∀ c ∈ G', H1 c ≠ none) (hG : ∀ c ∈ G', c ∈ G ∨ (¬ Own Fs1 c ∧ S1 c = none ∧ (Own Fs c ∨ H c = none))) :
    Nx K true σ H S env Fs (upd H1 a u) S1 (env1.set i (some o')) (put Fs1 i (a :: G')) := by
  have oa : Own Fs1 a := ⟨i, by rw [ef]; exact List.mem_cons_self⟩
  have hx : Ext (fun c => c = a) S1 H1 S1 (upd H1 a u) := ⟨Sub.refl _, fun c o h z => by rw [upd_ne z]; exact h, fun c h => by
    by_cases z : c = a
    · rw [z, upd_same] at h; cases h
    · rw [upd_ne z] at h; exact h, fun c h _ _ => h⟩
  have nn : Nx K true σ H S env Fs H1 S1 env1 Fs1 := n.up
  have hS1 : S1 a = none := n.st.nos a oa
  have keep : ∀ (o : O) (v : V) (F : List Addr), RepO K S1 H1 o v F → a ∉ F → RepO K S1 (upd H1 a u) o v F := fun o v F h z => h.ext hx fun c hc w => z (by rw [← w]; exact hc)
  refine ⟨nn.ext.trans hx fun c h => ?_, ?_, fun c h => ?_, fun z => by cases z⟩
  · rw [h]
    rcases n.fr a oa with w | w
    · exact .inl ⟨rfl, w⟩
    · exact .inr w
  · refine ⟨by rw [List.length_set]; exact n.st.len, fun j o h => ?_, fun j k c hj hk => ?_, fun c o h => ?_, fun c h => ?_, fun c h => ?_⟩
    · by_cases ej : j = i
      · subst ej
        rw [List.getElem?_set_self hlt] at h
        cases h
        exact ⟨.ref a, ev, by rw [put_same]; exact rep⟩
      · rw [List.getElem?_set_ne (fun z => ej z.symm)] at h
        obtain ⟨v', e1, r'⟩ := n.st.rep j o h
        refine ⟨v', e1, ?_⟩
        rw [put_ne ej]
        exact keep o v' _ r' fun z => ej (n.st.dis j i a z (by rw [ef]; exact List.mem_cons_self))
    · have inG : ∀ c, c ∈ put Fs1 i (a :: G') i → c ∈ Fs1 i ∨ ¬ Own Fs1 c := fun c h => by
        rw [put_same] at h
        rcases List.mem_cons.mp h with w | w
        · exact .inl (by rw [ef, w]; exact List.mem_cons_self)
        · rcases hG c w with y | y
          · exact .inl (by rw [ef]; exact List.mem_cons_of_mem _ y)
          · exact .inr y.1
      by_cases ej : j = i
      · subst ej
        by_cases ek : k = j
        · exact ek.symm
        · rw [put_ne ek] at hk
          rcases inG c hj with w | w
          · exact n.st.dis j k c w hk
          · exact absurd ⟨k, hk⟩ w
      · rw [put_ne ej] at hj
        by_cases ek : k = i
        · subst ek
          rcases inG c hk with w | w
          · exact n.st.dis j k c hj w
          · exact absurd ⟨j, hj⟩ w
        · rw [put_ne ek] at hk
          exact n.st.dis j k c hj hk
    · have z : c ≠ a := fun z => by rw [z, hS1] at h; cases h
      rw [upd_ne z]
      exact n.st.sub c o h
    · rcases own_put h with w | w
      · exact n.st.nos c w
      · rcases List.mem_cons.mp w with y | y
        · rw [y]; exact hS1
        · rcases hG c y with u | u
          · exact n.st.nos c ⟨i, by rw [ef]; exact List.mem_cons_of_mem _ u⟩
          · exact u.2.1
    · by_cases z : c = a
      · rw [z, upd_same]; intro y; cases y
      · rw [upd_ne z]
        rcases own_put h with w | w
        · exact n.st.own c w
        · rcases List.mem_cons.mp w with y | y
          · exact absurd y z
          · exact th c y
  · rcases own_put h with w | w
    · exact n.fr c w
    · rcases List.mem_cons.mp w with y | y
      · rw [y]; exact n.fr a oa
      · rcases hG c y with u | u
        · exact n.fr c ⟨i, by rw [ef]; exact List.mem_cons_of_mem _ u⟩
        · exact u.2.2
/-- a list that a name owns, behind some steps: its place, and what a change of it brings -/
theorem Nx.mut (n : Nx K b σ H S env Fs H1 S1 env1 Fs1) {os : List O} (hi : env1[i]? = some (some (.own os))) : ∃ a xs G, σ[i]? = some (some (.ref a)) ∧ H1 a = some (.lst xs) ∧ Fs1 i = a :: G ∧ RepL K S1 H1 os xs G ∧
    ∀ os' xs' G', RepL K S1 H1 os' xs' G' → (∀ c ∈ G', c ∈ G ∨ (¬ Own Fs1 c ∧ S1 c = none ∧ (Own Fs c ∨ H c = none))) → Nx K true σ H S env Fs (upd H1 a (.lst xs')) S1 (env1.set i (some (.own os'))) (put Fs1 i (a :: G')) := by
  obtain ⟨v, ev, r⟩ := n.st.rep i _ hi
  obtain ⟨a, xs, G, e, q, ef, ng, rl⟩ := own_rep r
  subst e
  have hlt : i < env1.length := (List.getElem?_eq_some_iff.mp hi).1
  have oa : Own Fs1 a := ⟨i, by rw [ef]; exact List.mem_cons_self⟩
  refine ⟨a, xs, G, ev, q, ef, rl, fun os' xs' G' rl' hG => ?_⟩
  have na : a ∉ G' := fun z => by
    rcases hG a z with w | w
    · exact ng w
    · exact w.1 oa
  refine n.root hlt ev ef ng ?_ (RepL.there os' xs' G' rl') hG
  simp only [RepO]
  exact ⟨a, xs', G', rfl, upd_same, rfl, na, RepL.mono (Sub.refl _) os' xs' G' rl' fun c w hc hw => by rw [upd_ne (fun z => na (by rw [← z]; exact hc))]; exact hw⟩
/-- a dict that a name owns, its values data -/
theorem Nx.mutD (n : Nx K b σ H S env Fs H1 S1 env1 Fs1) {l : List (Key × O)} (hi : env1[i]? = some (some (.dct l))) : ∃ a ps G, σ[i]? = some (some (.ref a)) ∧ H1 a = some (.dK ps) ∧ Fs1 i = a :: G ∧ RepK K S1 H1 l ps G ∧
    ∀ l' ps' G', RepK K S1 H1 l' ps' G' → (∀ c ∈ G', c ∈ G ∨ (¬ Own Fs1 c ∧ S1 c = none ∧ (Own Fs c ∨ H c = none))) → Nx K true σ H S env Fs (upd H1 a (.dK ps')) S1 (env1.set i (some (.dct l'))) (put Fs1 i (a :: G')) := by
  obtain ⟨v, ev, r⟩ := n.st.rep i _ hi
  simp only [RepO] at r
  obtain ⟨a, ps, G, e, q, ef, ng, rl⟩ := r
  subst e
  have hlt : i < env1.length := (List.getElem?_eq_some_iff.mp hi).1
  have oa : Own Fs1 a := ⟨i, by rw [ef]; exact List.mem_cons_self⟩
  refine ⟨a, ps, G, ev, q, ef, rl, fun l' ps' G' rl' hG => ?_⟩
  have na : a ∉ G' := fun z => by
    rcases hG a z with w | w
    · exact ng w
    · exact w.1 oa
  refine n.root hlt ev ef ng ?_ (RepK.there l' ps' G' rl') hG
  simp only [RepO]
  exact ⟨a, ps', G', rfl, upd_same, rfl, na, RepK.mono (Sub.refl _) l' ps' G' rl' fun c w hc hw => by rw [upd_ne (fun z => na (by rw [← z]; exact hc))]; exact hw⟩
end
@[simp] def isOwn (env : Env) (i : Nat) : Prop := match env[i]? with
  | some (some (.own _)) => True
  | _ => False
theorem isOwn_iff {env : Env} {i : Nat} (h : isOwn env i) : ∃ os, env[i]? = some (some (.own os)) := by
  unfold isOwn at h
  split at h
  · rename_i os e
    exact ⟨os, e⟩
  · exact h.elim
/-- what is asked ahead of a method call on a name's list -/
theorem St.tyL {K : PySem.W.Frag} {σ : L2.St} {H S : Hp} {env : Env} {Fs : Nat → List Addr} {i : Nat} (s : St K σ H S env Fs) (h : isOwn env i) : ∃ a, σ[i]? = some (some (.ref a)) ∧ tyV K "list" (.ref a) H := by
  obtain ⟨os, e⟩ := isOwn_iff h
  obtain ⟨v, ev, r⟩ := s.rep i _ e
  obtain ⟨a, xs, G, e2, q, ef, ng, rl⟩ := own_rep r
  subst e2
  exact ⟨a, ev, .inl ⟨rfl, xs, .inl (.inl q)⟩⟩
@[simp] def withOwn (env : Env) (i : Nat) (k : List O → Prop) : Prop := match env[i]? with
  | some (some (.own os)) => k os
  | _ => False
theorem withOwn_iff {env : Env} {i : Nat} {k : List O → Prop} (h : withOwn env i k) : ∃ os, env[i]? = some (some (.own os)) ∧ k os := by
  unfold withOwn at h
  split at h
  · rename_i os e
    exact ⟨os, e, h⟩
  · exact h.elim
/-! ### x.append(e), x.pop(), x.pop(i), x.extend(e), x.reverse() -/
@[simp] def pAppend (i : Nat) (t : PTE) : PTE := fun env Q E => isOwn env i ∧ t env (fun o env1 => withOwn env1 i fun xs => xs.length < 16777216 ∧ Q (.d .non) (env1.set i (some (.own (xs ++ [o]))))) E
@[simp] def pPop (i : Nat) : PTE := fun env Q _ => withOwn env i fun xs => match xs.getLast? with
  | some o => Q o (env.set i (some (.own xs.dropLast)))
  | none => False
@[simp] def pPopAt (i : Nat) (t : PTE) : PTE := fun env Q E => isOwn env i ∧ t env (fun o env1 => withOwn env1 i fun xs => match flatL xs, o with
  | some ds, .d (.int k) => match ixN ds.length k with
    | some j => match ds[j]? with
      | some d => Q (.d d) (env1.set i (some (.own ((ds.eraseIdx j).map O.d))))
      | none => False
    | none => False
  | _, _ => False) E
/-- the items of a list or tuple, read -/
@[simp] def O.its : O → Option (List D)
  | .d (.tup ds) => some ds
  | o => o.lisT
@[simp] def pExtend (i : Nat) (t : PTE) : PTE := fun env Q E => isOwn env i ∧ t env (fun o env1 => withOwn env1 i fun xs => match o.its with
  | some ds => xs.length + ds.length ≤ 16777216 ∧ Q (.d .non) (env1.set i (some (.own (xs ++ ds.map O.d))))
  | none => False) E
@[simp] def pReverse (i : Nat) : PTE := fun env Q _ => withOwn env i fun xs => match flatL xs with
  | some ds => Q (.d .non) (env.set i (some (.own (ds.reverse.map O.d))))
  | none => False
section
variable {K : PySem.W.Frag} {W : WX} {b b1 b2 w w1 w2 : Bool} {i : Nat}
theorem sim_append {ta : TE} {t : PTE} (ha : SimE K W b false ta t) : SimE K W true false (tBM K "list" rAppend (tVar i) (tCons ta tNil)) (pAppend i t) := fun σ H S env Fs Qp Ep Q hs ht k x => by
  obtain ⟨h0, ht⟩ := ht
  obtain ⟨a, ev, ty⟩ := hs.tyL h0
  refine ⟨_, ev, ty, ha σ H S env Fs _ Ep _ hs ht (fun v o F H1 S1 env1 Fs1 n c q => ?_) x⟩
  obtain ⟨os, e, hl, q⟩ := withOwn_iff q
  obtain ⟨a', xs, G, ev', hx, ef, rl, m⟩ := n.mut e
  obtain rfl : a = a' := by rw [ev] at ev'; cases ev'; rfl
  refine ⟨a, xs, v, rfl, rfl, hx, by rw [rl.length, sizeLine_eq]; exact hl, ?_⟩
  have dj : Disj G F := fun z hz hf => c.own rfl z hf ⟨i, by rw [ef]; exact List.mem_cons_of_mem _ hz⟩
  have m1 := m (os ++ [o]) (xs ++ [v]) (G ++ F) (rl.append (.one c.rep) dj) fun c' hc => ?_
  · exact k _ _ [] _ _ _ _ m1 (Val.data rp_non) q
  · rcases List.mem_append.mp hc with z | z
    · exact .inl z
    · exact .inr ⟨c.own rfl c' z, c.nos c' z, c.fr c' z⟩
theorem getLast_split {α : Type} {l : List α} {a : α} (h : l.getLast? = some a) : l = l.dropLast ++ [a] := by
  have hn : l ≠ [] := fun z => by rw [z] at h; cases h
  rw [List.getLast?_eq_some_getLast hn] at h
  cases h
  exact (List.dropLast_concat_getLast hn).symm
theorem sim_pop : SimE K W true false (tBM0 K "list" rPop (tVar i)) (pPop i) := fun σ H S env Fs Qp Ep Q hs ht k x => by
  obtain ⟨os, e, q⟩ := withOwn_iff ht
  have h0 : isOwn env i := by unfold isOwn; rw [e]; trivial
  obtain ⟨a, ev, ty⟩ := hs.tyL h0
  split at q
  · rename_i o eo
    have es := getLast_split eo
    obtain ⟨a', xs, G, ev', hx, ef, rl, m⟩ := (Nx.refl (b := true) hs).mut e
    obtain rfl : a = a' := by rw [ev] at ev'; cases ev'; rfl
    rw [es] at rl
    obtain ⟨x1, x2, F1, F2, e1, e2, d1, r1, r2⟩ := rl.split
    simp only [RepL] at r2
    obtain ⟨y, r, G1, G2, e3, e4, d2, ry, e5, e6⟩ := r2
    subst e5 e6 e3
    rw [List.append_nil] at e4
    subst e4
    subst e1 e2
    have m1 := m os.dropLast x1 F1 r1 fun c hc => .inl (List.mem_append_left _ hc)
    refine ⟨_, ev, ty, a, x1 ++ [y], y, rfl, rfl, hx, by simp, ?_⟩
    rw [List.dropLast_concat]
    have oF : ∀ c ∈ F2, Own Fs c := fun c hc => ⟨i, by rw [ef]; exact List.mem_cons_of_mem _ (List.mem_append_right _ hc)⟩
    have na : ∀ c ∈ F2, c ≠ a := fun c hc z => by
      have r0 := hs.rep i _ e
      obtain ⟨v0, ev0, r0⟩ := r0
      obtain ⟨a0, xs0, G0, q1, q2, q3, q4, q5⟩ := own_rep r0
      rw [ev] at ev0
      cases ev0
      cases q1
      rw [ef] at q3
      cases q3
      exact q4 (by rw [← z]; exact List.mem_append_right _ hc)
    refine k y o F2 _ _ _ _ m1 ⟨RepO.mono (Sub.refl _) o y F2 ry fun c u hc hu => by rw [upd_ne (na c hc)]; exact hu, fun c hc => hs.nos c (oF c hc), fun c hc => .inl (oF c hc), fun _ c hc z => ?_⟩ q
    rcases z with ⟨j, hj⟩
    by_cases ej : j = i
    · subst ej
      rw [put_same] at hj
      rcases List.mem_cons.mp hj with w | w
      · exact na c hc w
      · exact d1 c w hc
    · rw [put_ne ej] at hj
      exact ej (hs.dis j i c hj (by rw [ef]; exact List.mem_cons_of_mem _ (List.mem_append_right _ hc)))
  · exact q.elim
theorem ixN_lt {n : Nat} {i : Int} {j : Nat} (h : ixN n i = some j) (hn : n ≤ 16777216) : -(2 ^ 63) ≤ i ∧ i < 2 ^ 63 ∧ seqIndex? i n = some j := by
  obtain ⟨h1, h2, h3, h4⟩ := ixN_seq h
  exact ⟨by omega, by omega, h1⟩
theorem RpL.eraseIdx : ∀ {S : Hp} {ds : List D} {vs : List V} (n : Nat), RpL K S ds vs → RpL K S (ds.eraseIdx n) (vs.eraseIdx n)
  | S, [], vs, n, h => by simp only [RpL] at h; rw [h]; simp; exact .nil
  | S, d :: ds, vs, n, h => by
    simp only [RpL] at h
    obtain ⟨v, r, e, q, t⟩ := h
    subst e
    cases n with
    | zero => exact t
    | succ n => exact .cons q (RpL.eraseIdx n t)
/-- x.pop(i): the list's length is no question -/
def rPopW : V → List V → Hp → VK → Prop := fun x vs H Q => ∃ l xs, x = .ref l ∧ H l = some (.lst xs) ∧ (xs.length ≤ 16777216 → rPopAt x vs H Q)
theorem mt_popW {X : Cx} : MtR X "list.pop" rPopW := fun pins s σ H x vs v us Q I rx rv h => by
  obtain ⟨l, xs, e, hH, h⟩ := h
  refine mt_popAt pins s σ H x vs v us Q I rx rv (h ?_)
  obtain ⟨z, _⟩ := I.hok l _ hH
  rw [sizeLine_eq] at z
  exact z
theorem sim_popAt {ta : TE} {t : PTE} (ha : SimE K W b false ta t) :
    SimE K W true false (tBM K "list" rPopW (tVar i) (tCons ta tNil)) (pPopAt i t) := fun σ H S env Fs Qp Ep Q hs ht k x => by
  obtain ⟨h0, ht⟩ := ht
  obtain ⟨a, ev, ty⟩ := hs.tyL h0
  refine ⟨_, ev, ty, ha σ H S env Fs _ Ep _ hs ht (fun v o F H1 S1 env1 Fs1 n c q => ?_) x⟩
  obtain ⟨os, e, q⟩ := withOwn_iff q
  obtain ⟨a', xs, G, ev', hx, ef, rl, m⟩ := n.mut e
  obtain rfl : a = a' := by rw [ev] at ev'; cases ev'; rfl
  refine ⟨a, xs, rfl, hx, fun hz => ?_⟩
  split at q
  · rename_i ds i0 eds _
    have eo := flatL_eq eds
    subst eo
    obtain ⟨rr, eG⟩ := repL_d.mp rl
    subst eG
    split at q
    · rename_i j ej
      split at q
      · rename_i d ed
        have rk := c.rp
        simp only [Rp] at rk
        obtain ⟨y, hy, ry⟩ := rr.get ed
        rw [← rr.length] at ej
        obtain ⟨z1, z2, z3⟩ := ixN_lt ej hz
        have m1 := m ((ds.eraseIdx j).map O.d) (xs.eraseIdx j) [] (repL_d.mpr ⟨rr.eraseIdx j, rfl⟩) fun c hc => absurd hc (by simp)
        exact ⟨a, xs, i0, j, y, rfl, by rw [rk], hx, z1, z2, z3, hy, k y _ [] _ _ _ _ m1 (Val.data ry) q⟩
      · exact q.elim
    · exact q.elim
  · exact q.elim
theorem sim_reverse : SimE K W true false (tBM0 K "list" rReverse (tVar i)) (pReverse i) := fun σ H S env Fs Qp Ep Q hs ht k x => by
  obtain ⟨os, e, q⟩ := withOwn_iff ht
  have h0 : isOwn env i := by unfold isOwn; rw [e]; trivial
  obtain ⟨a, ev, ty⟩ := hs.tyL h0
  split at q
  · rename_i ds eds
    have eo := flatL_eq eds
    subst eo
    obtain ⟨a', xs, G, ev', hx, ef, rl, m⟩ := (Nx.refl (b := true) hs).mut e
    obtain rfl : a = a' := by rw [ev] at ev'; cases ev'; rfl
    obtain ⟨rr, eG⟩ := repL_d.mp rl
    subst eG
    have m1 := m (ds.reverse.map O.d) xs.reverse [] (repL_d.mpr ⟨rr.reverse, rfl⟩) fun c hc => absurd hc (by simp)
    exact ⟨_, ev, ty, a, xs, rfl, rfl, hx, k _ _ [] _ _ _ _ m1 (Val.data rp_non) q⟩
  · exact q.elim
end
/-! ### x.extend(y), y a list or a tuple -/
/-- y any tuple object -/
theorem extend_tuple_meets (l b : Addr) (xs ys : Array Value) (n m : Nat) (dd : Option Addr) (sl : Array (Option Value)) (h1 : ¬(!xs.isEmpty && Builtin.List.listTooLong (xs.size + ys.size)) = true)
    (h2 : xs.size ≤ sizeLine) (h3 : xs.size + ys.size ≤ sizeLine + 1) :
    Meets (Builtin.«list.extend» ⟨[.ref l, .ref b], []⟩) (fun _ R s => s.heap.get? l = some { cls := .type "list", dict := none, data := .seq xs n, slots := #[] } ∧
      s.heap.get? b = some { cls := .type "tuple", dict := dd, data := .seq ys m, slots := sl } ∧ R (.ok (.ret Value.none)) { s with heap := s.heap.update l (Obj.mapSeq fun x => x ++ ys), toks := s.toks }) :=
  .of_wp fun prog w A R s h => by
    obtain ⟨hp, g, d, tk, os⟩ := s
    obtain ⟨hl, hb, h⟩ := h
    have f1 := AutoSeq1.idx_int
    have f2 := AutoSeq1.sub_tuple_tuple
    have f3 := AutoSeq1.sub_list_list
    have f4 := AutoSeq1.sub_tuple_list
    have f5 := AutoSeq1.sub_list_tuple
    have hz : (xs ++ ys).size ≤ sizeLine + 1 := by rw [Array.size_append]; exact h3
    wp_walk using (wpAny_updateSeq hl rfl (hz := h2) (_hz' := hz)), AutoSeq1.wpAny_loadPart' hl, AutoSeq1.wpAny_loadPart' hb
    exact ⟨_, rfl, h⟩
def rExtT (K : PySem.W.Frag) : V → List V → Hp → VK → Prop := fun x vs H Q => ∃ l b xs zs, x = .ref l ∧ vs = [.ref b] ∧ H l = some (.lst xs) ∧ SqT K H b zs ∧ xs.length + zs.length ≤ sizeLine ∧ Q .non (upd H l (.lst (xs ++ zs)))
theorem mt_extendT {X : Cx} : MtM X "list.extend" (rExtT X.K) := fun pins s σ H x vs v us Q I rx rv h => by
  obtain ⟨l, b, xs, zs, ex, evs, hH, hB, hz, q⟩ := h
  subst ex evs
  obtain ⟨u, eu, ru⟩ := rv.one
  subst eu
  cases ru
  cases rx
  obtain ⟨z, its, n, r, hl, e⟩ := I.lstM hH
  obtain ⟨jts, r2, ⟨⟨cb, dd, db, sb⟩, hob, hcb, m, hdb⟩, hz2⟩ := I.tuple hB
  have l1 := r.length
  have l2 := r2.length
  simp only at hcb hdb
  subst hcb hdb
  have hsz : its.toArray.size + jts.toArray.size ≤ sizeLine := by rw [List.size_toArray, List.size_toArray, ← l1, ← l2]; exact hz
  have hlong : ¬ (!its.toArray.isEmpty && Builtin.List.listTooLong (its.toArray.size + jts.toArray.size)) = true := by rw [notLongL hsz, Bool.and_false]; exact Bool.false_ne_true
  refine call_meets PySem.F.slot_list_extend ⟨_, e, rfl⟩ PySem.F.entry_list_extend (PySem.F.args_list_extend_2 _ _) (extend_tuple_meets l b its.toArray jts.toArray n m dd sb hlong (by omega) (by omega)) ⟨e, hob, ?_⟩
  exact ⟨.non, _, I.lset (its' := its ++ jts) hH e (by simp) (r.append r2) (by rw [List.length_append]; exact hz), rfl, q⟩
def rExtAll (K : PySem.W.Frag) : V → List V → Hp → VK → Prop := fun x xs H Q => rExtend x xs H Q ∨ rExtT K x xs H Q
theorem mt_extAll {X : Cx} : MtR X "list.extend" (rExtAll X.K) := MtR.or mt_extend mt_extendT
section
variable {K : PySem.W.Frag} {W : WX} {b b1 b2 w w1 w2 : Bool} {i : Nat}
theorem sim_extend {ta : TE} {t : PTE} (ha : SimE K W b w1 ta t) : SimE K W true false (tBM K "list" (rExtAll K) (tVar i) (tCons ta tNil)) (pExtend i t) := fun σ H S env Fs Qp Ep Q hs ht k x => by
  obtain ⟨h0, ht⟩ := ht
  obtain ⟨a, ev, ty⟩ := hs.tyL h0
  refine ⟨_, ev, ty, ha σ H S env Fs _ Ep _ hs ht (fun v o F H1 S1 env1 Fs1 n c q => ?_) x⟩
  obtain ⟨os, e, q⟩ := withOwn_iff q
  obtain ⟨a', xs, G, ev', hx, ef, rl, m⟩ := n.mut e
  obtain rfl : a = a' := by rw [ev] at ev'; cases ev'; rfl
  split at q
  · rename_i ds eds
    obtain ⟨hl, q⟩ := q
    have go : ∀ ys, RpL K S1 ds ys → xs.length + ys.length ≤ sizeLine ∧ Q .non (upd H1 a (.lst (xs ++ ys))) := fun ys ry => by
      have m1 := m (os ++ ds.map O.d) (xs ++ ys) (G ++ []) (rl.append (repL_d.mpr ⟨ry, rfl⟩) fun _ _ z => by cases z) fun c hc => .inl (by rw [List.append_nil] at hc; exact hc)
      exact ⟨by rw [rl.length, ry.length, sizeLine_eq]; exact hl, k _ _ [] _ _ _ _ m1 (Val.data rp_non) q⟩
    by_cases ht : ∃ es, o = .d (.tup es)
    · obtain ⟨es, rfl⟩ := ht
      cases eds
      have r := c.rp
      simp only [Rp] at r
      obtain ⟨p, ys, e1, q1, r1⟩ := r
      obtain ⟨g1, g2⟩ := go ys r1
      exact .inr ⟨a, p, xs, ys, rfl, by rw [e1], hx, sqT_sub n.st.sub q1, g1, g2⟩
    · have e2 : o.lisT = some ds := by
        unfold O.its at eds
        split at eds
        · rename_i es
          exact absurd ⟨es, rfl⟩ ht
        · exact eds
      obtain ⟨p, ys, e1, q1, r1⟩ := lisT_rep n.st.sub c.rep e2
      obtain ⟨g1, g2⟩ := go ys r1
      exact .inl ⟨a, p, xs, ys, rfl, by rw [e1], hx, q1, g1, g2⟩
  · exact q.elim
end
end DL
end

section
set_option Elab.async false
set_option linter.all false
set_option maxRecDepth 100000
set_option maxHeartbeats 2000000
namespace DL
open PySem PySem.Spec L2 PyProof.Rows

/-! ### blocks -/
@[simp] def pNext : PTS := fun De env => De.nx env
@[simp] def pSeq (t u : PTS) : PTS := fun De env => t { De with nx := fun env' => u De env' } env
@[simp] def pBreak : PTS := fun De env => De.bk env
@[simp] def pCont : PTS := fun De env => De.ct env
@[simp] def pDrop (t : PTE) : PTS := fun De env => t env (fun _ env' => De.nx env') De.ex
@[simp] def pRet (t : PTE) : PTS := fun De env => t env (fun o env' => De.rt o env') De.ex
@[simp] def pRetN : PTS := fun De env => De.rt (.d .non) env
@[simp] def pIf (c : PTT) (t u : PTS) : PTS := fun De env => c env (fun b env' => if b = true then t De env' else u De env') De.ex
abbrev PTG := O → Env → (Env → Prop) → Prop
def SimG (K : PySem.W.Frag) (pins : List Nat) (tg : TG) (pg : PTG) : Prop :=
  ∀ {σ0 H0 S0 Fs0} σ H S env Fs v o F (Qp : Env → Prop) (Q : L2.St → Hp → Prop), NxS K pins σ0 H0 S0 Fs0 σ H S env Fs → Val K false H0 Fs0 H S Fs v o F → pg o env Qp →
    (∀ σ' H' S' env' Fs', NxS K pins σ0 H0 S0 Fs0 σ' H' S' env' Fs' → Qp env' → Q σ' H') → tg v σ H Q
@[simp] def pgName (i : Nat) : PTG := fun o env Q => Q (env.set i (some o))
@[simp] def pAsg (t : PTE) (g : PTG) : PTS := fun De env => t env (fun o env' => g o env' De.nx) De.ex
section
variable {K : PySem.W.Frag} {W : WX} {b b1 b2 w w1 w2 : Bool} {i : Nat} {pins : List Nat}
theorem sim_next : SimS K W pins tNext pNext := fun σ H S env Fs De D hs ht nx rt bk ct x => nx σ H S env Fs (NxS.refl hs) ht
theorem sim_break : SimS K W pins tBreak pBreak := fun σ H S env Fs De D hs ht nx rt bk ct x => bk σ H S env Fs (NxS.refl hs) ht
theorem sim_cont : SimS K W pins tCont pCont := fun σ H S env Fs De D hs ht nx rt bk ct x => ct σ H S env Fs (NxS.refl hs) ht
theorem sim_seq {t u : TS} {p q : PTS} (h1 : SimS K W pins t p) (h2 : SimS K W pins u q) : SimS K W pins (tSeq t u) (pSeq p q) := fun σ H S env Fs De D hs ht nx rt bk ct x =>
  h1 σ H S env Fs { De with nx := fun env' => q De env' } { D with nx := u D } hs ht
    (fun σ1 H1 S1 env1 Fs1 n1 q1 => h2 σ1 H1 S1 env1 Fs1 De D n1.st q1 (fun σ2 H2 S2 env2 Fs2 n2 z => nx σ2 H2 S2 env2 Fs2 (n1.trans n2) z)
      (fun v o F σ2 H2 S2 env2 Fs2 n2 c z => rt v o F σ2 H2 S2 env2 Fs2 (n1.trans n2) (c.backS n1) z)
      (fun σ2 H2 S2 env2 Fs2 n2 z => bk σ2 H2 S2 env2 Fs2 (n1.trans n2) z) (fun σ2 H2 S2 env2 Fs2 n2 z => ct σ2 H2 S2 env2 Fs2 (n1.trans n2) z) (x.on n1))
    rt bk ct x
theorem sim_drop {te : TE} {t : PTE} (h : SimE K W b w te t) : SimS K W pins (tDrop te) (pDrop t) := fun σ H S env Fs De D hs ht nx rt bk ct x =>
  h σ H S env Fs _ _ _ hs ht (fun v o F H1 S1 env1 Fs1 n c q => nx σ H1 S1 env1 Fs1 n.s q) x.e
theorem sim_ret {te : TE} {t : PTE} (h : SimE K W b false te t) : SimS K W pins (tRet te) (pRet t) := fun σ H S env Fs De D hs ht nx rt bk ct x =>
  h σ H S env Fs _ _ _ hs ht (fun v o F H1 S1 env1 Fs1 n c q => rt v o F σ H1 S1 env1 Fs1 n.s c q) x.e
theorem sim_retN : SimS K W pins tRetN pRetN := fun σ H S env Fs De D hs ht nx rt bk ct x => rt _ _ [] σ H S env Fs (NxS.refl hs) (Val.data rp_non) ht
/-- a statement goes on from a later state -/
theorem SimS.from {t : TS} {p : PTS} (h : SimS K W pins t p) {σ0 σ : L2.St} {H0 S0 H S : Hp} {Fs0 Fs : Nat → List Addr} {env : Env} {De : PEnds} {D : Ends} (n1 : NxS K pins σ0 H0 S0 Fs0 σ H S env Fs) (ht : p De env)
    (nx : ∀ σ' H' S' env' Fs', NxS K pins σ0 H0 S0 Fs0 σ' H' S' env' Fs' → De.nx env' → D.nx σ' H')
    (rt : ∀ v o F σ' H' S' env' Fs', NxS K pins σ0 H0 S0 Fs0 σ' H' S' env' Fs' → Val K false H0 Fs0 H' S' Fs' v o F → De.rt o env' → D.rt v H')
    (bk : ∀ σ' H' S' env' Fs', NxS K pins σ0 H0 S0 Fs0 σ' H' S' env' Fs' → De.bk env' → D.bk σ' H')
    (ct : ∀ σ' H' S' env' Fs', NxS K pins σ0 H0 S0 Fs0 σ' H' S' env' Fs' → De.ct env' → D.ct σ' H')
    (x : XCS K W pins σ0 H0 S0 Fs0 De.ex) : t D σ H :=
  h σ H S env Fs De D n1.st ht (fun σ2 H2 S2 env2 Fs2 n2 z => nx σ2 H2 S2 env2 Fs2 (n1.trans n2) z)
    (fun v o F σ2 H2 S2 env2 Fs2 n2 c z => rt v o F σ2 H2 S2 env2 Fs2 (n1.trans n2) (c.backS n1) z)
    (fun σ2 H2 S2 env2 Fs2 n2 z => bk σ2 H2 S2 env2 Fs2 (n1.trans n2) z) (fun σ2 H2 S2 env2 Fs2 n2 z => ct σ2 H2 S2 env2 Fs2 (n1.trans n2) z) (x.on n1)

theorem sim_if {c : TT} {t u : TS} {pc : PTT} {p q : PTS} (hc : SimT K W b c pc) (h1 : SimS K W pins t p) (h2 : SimS K W pins u q) : SimS K W pins (tIfS c t u) (pIf pc p q) := fun σ H S env Fs De D hs ht nx rt bk ct x =>
  hc σ H S env Fs _ _ _ hs ht (fun k H1 S1 env1 Fs1 n z => match k, z with
    | true, z => h1.from n.s z nx rt bk ct x
    | false, z => h2.from n.s z nx rt bk ct x) x.e

/-! ### stores -/
theorem set_ge {α : Type} {l : List α} {i : Nat} {a : α} (h : l.length ≤ i) : l.set i a = l := by
  refine List.ext_getElem? fun j => ?_
  by_cases e : i = j
  · subst e
    rw [List.getElem?_eq_none (by rw [List.length_set]; exact h), List.getElem?_eq_none h]
  · rw [List.getElem?_set_ne e]
theorem NxS.set {σ0 σ : L2.St} {H0 S0 H S : Hp} {Fs0 Fs : Nat → List Addr} {env : Env} {v : V} {o : O} {F : List Addr} (n : NxS K pins σ0 H0 S0 Fs0 σ H S env Fs) (c : Val K false H0 Fs0 H S Fs v o F) (hp : i ∉ pins) :
    ∃ Fs', NxS K pins σ0 H0 S0 Fs0 (σ.set i (some v)) H S (env.set i (some o)) Fs' := by
  by_cases hi : i < env.length
  · refine ⟨put Fs i F, n.ext, n.st.set hi c.rep c.nos (c.own rfl), fun a h => (own_put h).elim (n.fr a) (c.fr a), fun j hj => ?_⟩
    rw [List.getElem?_set_ne (fun z => hp (by rw [z]; exact hj))]
    exact n.pin j hj
  · rw [set_ge (by rw [n.st.len]; omega), set_ge (by omega)]
    exact ⟨Fs, n⟩
theorem simg_name (hp : i ∉ pins) : SimG K pins (gName i) (pgName i) := fun σ H S env Fs v o F Qp Q n c ht k => by
  obtain ⟨Fs', n'⟩ := n.set c hp
  exact k _ H S _ Fs' n' ht
theorem sim_asg {te : TE} {t : PTE} {g : TG} {pg : PTG} (h : SimE K W b false te t) (hg : SimG K pins g pg) : SimS K W pins (tAsg te g) (pAsg t pg) := fun σ H S env Fs De D hs ht nx rt bk ct x =>
  h σ H S env Fs _ _ _ hs ht (fun v o F H1 S1 env1 Fs1 n c q => hg σ H1 S1 env1 Fs1 v o F _ _ n.s c q fun σ2 H2 S2 env2 Fs2 n2 z => nx σ2 H2 S2 env2 Fs2 n2 z) x.e
/-- a tuple taken apart -/
abbrev PTGs := List D → Env → (Env → Prop) → Prop
def SimGs (K : PySem.W.Frag) (pins : List Nat) (tg : TGs) (pg : PTGs) : Prop :=
  ∀ {σ0 H0 S0 Fs0} σ H S env Fs vs ds (Qp : Env → Prop) (Q : L2.St → Hp → Prop), NxS K pins σ0 H0 S0 Fs0 σ H S env Fs → RpL K S ds vs → pg ds env Qp →
    (∀ σ' H' S' env' Fs', NxS K pins σ0 H0 S0 Fs0 σ' H' S' env' Fs' → Qp env' → Q σ' H') → tg vs σ H Q
@[simp] def pgNil : PTGs := fun ds env Q => ds = [] ∧ Q env
@[simp] def pgCons (g : PTG) (u : PTGs) : PTGs := fun ds env Q => match ds with
  | d :: r => g (.d d) env fun env' => u r env' Q
  | [] => False
@[simp] def pgTup (n : Nat) (u : PTGs) : PTG := fun o env Q => match o with
  | .d (.tup ds) => ds.length = n ∧ u ds env Q
  | _ => False
theorem simgs_nil : SimGs K pins gNil pgNil := fun σ H S env Fs vs ds Qp Q n r ht k => by
  obtain ⟨e, q⟩ := ht
  subst e
  simp only [RpL] at r
  exact ⟨r, k σ H S env Fs n q⟩
theorem simgs_cons {g : TG} {u : TGs} {pg : PTG} {pu : PTGs} (h1 : SimG K pins g pg) (h2 : SimGs K pins u pu) :
    SimGs K pins (gCons g u) (pgCons pg pu) := fun σ H S env Fs vs ds Qp Q n r ht k => by
  cases ds with
  | nil => exact ht.elim
  | cons d ds =>
    simp only [RpL] at r
    obtain ⟨v, t, e, q, r2⟩ := r
    refine ⟨v, t, e, h1 σ H S env Fs v (.d d) [] _ _ (NxS.refl n.st) (Val.data q) ht fun σ' H' S' env' Fs' n' z => ?_⟩
    exact h2 σ' H' S' env' Fs' t ds _ _ (n.trans n') (RpL.mono n'.ext.sub ds t r2) z fun σ2 H2 S2 env2 Fs2 n2 z2 => k σ2 H2 S2 env2 Fs2 n2 z2
theorem simg_tup {n : Nat} {u : TGs} {pu : PTGs} (h : SimGs K pins u pu) : SimG K pins (gTup K n u) (pgTup n pu) := fun σ H S env Fs v o F Qp Q nn c ht k => by
  unfold pgTup at ht
  split at ht
  · rename_i ds
    have r := c.rp
    simp only [Rp] at r
    obtain ⟨a, xs, e, q, r1⟩ := r
    exact ⟨a, xs, e, sqT_sub nn.st.sub q, by rw [r1.length]; exact ht.1, h σ H S env Fs xs ds _ _ nn r1 ht.2 k⟩
  · exact ht.elim

/-! ### tests -/
@[simp] def pTest (t : PTE) : PTT := fun env Q E => t env (fun o env' => match o with
  | .d (.bl k) => Q k env'
  | _ => False) E
theorem sim_test {te : TE} {t : PTE} (h : SimE K W b w te t) : SimT K W b (tTest te) (pTest t) := fun σ H S env Fs Qp Ep Q hs ht k x =>
  h σ H S env Fs _ _ _ hs ht (fun v o F H1 S1 env1 Fs1 n c q => by
    split at q
    · have r := c.rp
      simp only [Rp] at r
      exact ⟨_, r, k _ H1 S1 env1 Fs1 n q⟩
    · exact q.elim) x
theorem sim_B {te : TE} {t : PTE} (h : SimE K W b w te t) : SimT K W b (tB te) (pTest t) := sim_test h
@[simp] def pAnd (t u : PTT) : PTT := fun env Q E => t env (fun c env1 => if c = true then u env1 Q E else Q false env1) E
@[simp] def pOr (t u : PTT) : PTT := fun env Q E => t env (fun c env1 => if c = true then Q true env1 else u env1 Q E) E
@[simp] def pNotT (t : PTT) : PTT := fun env Q E => t env (fun c env1 => Q (!c) env1) E
theorem Nx.orT {σ : L2.St} {H S H' S' : Hp} {env env' : Env} {Fs Fs' : Nat → List Addr} (n : Nx K b1 σ H S env Fs H' S' env' Fs') : Nx K (b1 || b2) σ H S env Fs H' S' env' Fs' :=
  n.to (fun h => by rw [h]; rfl) fun h => (Bool.or_eq_false_iff.mp h).1
theorem sim_and {t u : TT} {p q : PTT} (h1 : SimT K W b1 t p) (h2 : SimT K W b2 u q) : SimT K W (b1 || b2) (tAnd t u) (pAnd p q) := fun σ H S env Fs Qp Ep Q hs ht k x =>
  h1 σ H S env Fs _ _ _ hs ht (fun c H1 S1 env1 Fs1 n z => by
    cases c with
    | true => exact h2 σ H1 S1 env1 Fs1 _ _ _ n.st z (fun c2 H2 S2 env2 Fs2 n2 z2 => k c2 H2 S2 env2 Fs2 (n.trans n2) z2) (x.on n)
    | false => exact k false H1 S1 env1 Fs1 n.orT z) x
theorem sim_or {t u : TT} {p q : PTT} (h1 : SimT K W b1 t p) (h2 : SimT K W b2 u q) : SimT K W (b1 || b2) (tOr t u) (pOr p q) := fun σ H S env Fs Qp Ep Q hs ht k x =>
  h1 σ H S env Fs _ _ _ hs ht (fun c H1 S1 env1 Fs1 n z => by
    cases c with
    | false => exact h2 σ H1 S1 env1 Fs1 _ _ _ n.st z (fun c2 H2 S2 env2 Fs2 n2 z2 => k c2 H2 S2 env2 Fs2 (n.trans n2) z2) (x.on n)
    | true => exact k true H1 S1 env1 Fs1 n.orT z) x
theorem sim_notT {t : TT} {p : PTT} (h1 : SimT K W b1 t p) : SimT K W b1 (tNot t) (pNotT p) := fun σ H S env Fs Qp Ep Q hs ht k x =>
  h1 σ H S env Fs _ _ _ hs ht (fun c H1 S1 env1 Fs1 n z => k (!c) H1 S1 env1 Fs1 n z) x
/-! ### .. as values -/
@[simp] def pAndV (t u : PTE) : PTE := fun env Q E => t env (fun o env1 => match o with
  | .d (.bl c) => if c = true then u env1 Q E else Q (.d (.bl false)) env1
  | _ => False) E
@[simp] def pOrV (t u : PTE) : PTE := fun env Q E => t env (fun o env1 => match o with
  | .d (.bl c) => if c = true then Q (.d (.bl true)) env1 else u env1 Q E
  | _ => False) E
@[simp] def pNotV (t : PTE) : PTE := fun env Q E => t env (fun o env1 => match o with
  | .d (.bl c) => Q (.d (.bl !c)) env1
  | _ => False) E
@[simp] def pIfE (c : PTT) (t u : PTE) : PTE := fun env Q E => c env (fun k env1 => if k = true then t env1 Q E else u env1 Q E) E
theorem sim_andV {t u : TE} {p q : PTE} (h1 : SimE K W b1 w1 t p) (h3 : SimE K W b2 false u q) : SimE K W (b1 || b2) false (tAndV t u) (pAndV p q) := fun σ H S env Fs Qp Ep Q hs ht k x =>
  h1 σ H S env Fs _ _ _ hs ht (fun v o F H1 S1 env1 Fs1 n c z => by
    split at z
    · rename_i kk
      have r := c.rp
      simp only [Rp] at r
      refine ⟨kk, r, ?_⟩
      cases kk with
      | true => exact h3 σ H1 S1 env1 Fs1 _ _ _ n.st z (fun v2 o2 F2 H2 S2 env2 Fs2 n2 c2 z2 => k v2 o2 F2 H2 S2 env2 Fs2 (n.trans n2) (c2.back n) z2) (x.on n)
      | false => exact k _ _ [] H1 S1 env1 Fs1 n.orT (Val.data rp_bl) z
    · exact z.elim) x
theorem sim_orV {t u : TE} {p q : PTE} (h1 : SimE K W b1 w1 t p) (h3 : SimE K W b2 false u q) : SimE K W (b1 || b2) false (tOrV t u) (pOrV p q) := fun σ H S env Fs Qp Ep Q hs ht k x =>
  h1 σ H S env Fs _ _ _ hs ht (fun v o F H1 S1 env1 Fs1 n c z => by
    split at z
    · rename_i kk
      have r := c.rp
      simp only [Rp] at r
      refine ⟨kk, r, ?_⟩
      cases kk with
      | false => exact h3 σ H1 S1 env1 Fs1 _ _ _ n.st z (fun v2 o2 F2 H2 S2 env2 Fs2 n2 c2 z2 => k v2 o2 F2 H2 S2 env2 Fs2 (n.trans n2) (c2.back n) z2) (x.on n)
      | true => exact k _ _ [] H1 S1 env1 Fs1 n.orT (Val.data rp_bl) z
    · exact z.elim) x
theorem sim_notV {t : TE} {p : PTE} (h1 : SimE K W b1 w1 t p) : SimE K W b1 false (tNotV t) (pNotV p) := fun σ H S env Fs Qp Ep Q hs ht k x =>
  h1 σ H S env Fs _ _ _ hs ht (fun v o F H1 S1 env1 Fs1 n c z => by
    split at z
    · rename_i kk
      have r := c.rp
      simp only [Rp] at r
      exact ⟨kk, r, k _ _ [] H1 S1 env1 Fs1 n (Val.data rp_bl) z⟩
    · exact z.elim) x
theorem sim_ifE {c : TT} {t u : TE} {pc : PTT} {p q : PTE} (hc : SimT K W b c pc) (h1 : SimE K W b1 w1 t p) (h2 : SimE K W b2 w2 u q) : SimE K W (b || (b1 || b2)) (w1 || w2) (tIf c t u) (pIfE pc p q) := fun σ H S env Fs Qp Ep Q hs ht k x =>
  hc σ H S env Fs _ _ _ hs ht (fun kk H1 S1 env1 Fs1 n z => by
    cases kk with
    | true => exact h1 σ H1 S1 env1 Fs1 _ _ _ n.st z (fun v2 o2 F2 H2 S2 env2 Fs2 n2 c2 z2 => k v2 o2 F2 H2 S2 env2 Fs2 (n.trans n2.orT)
        (let d := c2.back n; ⟨d.rep, d.nos, d.fr, fun e => d.own (Bool.or_eq_false_iff.mp e).1⟩) z2) (x.on n)
    | false => exact h2 σ H1 S1 env1 Fs1 _ _ _ n.st z (fun v2 o2 F2 H2 S2 env2 Fs2 n2 c2 z2 => k v2 o2 F2 H2 S2 env2 Fs2 (n.trans (n2.to (fun h => by rw [h, Bool.or_true]) fun h => (Bool.or_eq_false_iff.mp h).2))
        (let d := c2.back n; ⟨d.rep, d.nos, d.fr, fun e => d.own (Bool.or_eq_false_iff.mp e).2⟩) z2) (x.on n)) x
end
end DL
end

section
set_option Elab.async false
set_option linter.all false
set_option maxRecDepth 100000
set_option maxHeartbeats 2000000
namespace L2
open PySem PySem.Spec PyProof.Rows
/-- what a list, a tuple, a text gives to a walk -/
def iAny (K : PySem.W.Frag) (te : TE) : TI := fun σ H R => te σ H fun v H1 => (∃ a xs, v = .ref a ∧ SqL K H1 a xs ∧ R (Itl K a) H1) ∨ (∃ a xs, v = .ref a ∧ SqT K H1 a xs ∧ R (Itt K a) H1) ∨ ∃ x, v = .str x ∧ R (Its x) H1
theorem pi_any {X : Cx} {tg l : Expr} {tl : TE} (hl : PE X l tl) : PI X tg l (iAny X.K tl) := by
  constructor
  intro pins s σ H R I h
  refine thn (hl.run pins s σ H _ I h) fun v s1 q => ?_
  obtain ⟨x, H1, I1, r1, q1⟩ := q
  have fresh : ∀ b ∈ [s1.heap.objs.size], FpOk X pins H1 b := fun b hb => by
    rw [List.mem_singleton.mp hb]
    exact I1.fpOk (Nat.le_refl _) (I1.hok.fresh (Nat.le_refl _))
  rcases q1 with ⟨a, xs, e, hq, q⟩ | ⟨a, xs, e, hq, q⟩ | ⟨x, e, q⟩
  · subst e; cases r1
    obtain ⟨its, rv, p, hz⟩ := I1.list hq
    exact wpAny_pyIter_list p.isList ⟨_, _, _, _, H1, rfl, I1.kept (t' := s1.toks) fun b o e => Heap.get?_push_of_some _ e, turn_list a _, ⟨_, Heap.get?_push_size _ rfl, rfl, rfl⟩, fresh, q⟩
  · subst e; cases r1
    obtain ⟨its, rv, p, hz⟩ := I1.tuple hq
    exact wpAny_pyIter_tuple (show s1.heap.IsTuple a its.toArray from p) ⟨_, _, _, _, H1, rfl, I1.kept (t' := s1.toks) fun b o e => Heap.get?_push_of_some _ e, turn_tuple a _, ⟨_, Heap.get?_push_size _ rfl, rfl, rfl⟩, fresh, q⟩
  · subst e
    obtain ⟨t, rfl⟩ := r1
    cases ha : x.cps.all (· < 128) with
    | false => exact wpAny_pyIter_wide ha (pi_one (tk := s1.toks) I1 _ (turn_str _ x t "str_iterator" (.inr rfl)) ⟨_, Heap.get?_push_size _ rfl, rfl, rfl⟩ q)
    | true => exact wpAny_pyIter_ascii ha (pi_one (tk := s1.toks) I1 _ (turn_str _ x t "str_ascii_iterator" (.inl rfl)) ⟨_, Heap.get?_push_size _ rfl, rfl, rfl⟩ q)
end L2
namespace DL
open PySem PySem.Spec L2 PyProof.Rows
/-! ### what is walked -/
abbrev PTI := Env → (List D → Env → Prop) → PX → Prop
def Walks (K : PySem.W.Frag) (J : It) (ds : List D) (S : Hp) : Prop := ∀ (i : Nat) (H' S' : Hp), Sub S S' → Sub S' H' →
  (i = ds.length → J.stop i H') ∧ ∀ d, ds[i]? = some d → J.go i H' ∧ ∀ x H2, J.yld i H' x H2 → ∃ S2, Ext (fun _ => False) S' H' S2 H2 ∧ Sub S2 H2 ∧ Rp K S2 d x
def SimI (K : PySem.W.Frag) (W : WX) (b : Bool) (ti : TI) (t : PTI) : Prop :=
  ∀ σ H S env Fs (Qp : List D → Env → Prop) (Ep : PX) (R : It → Hp → Prop), St K σ H S env Fs → t env Qp Ep →
    (∀ J ds H' S' env' Fs', Nx K b σ H S env Fs H' S' env' Fs' → Walks K J ds S' → Qp ds env' → R J H') → XC K W σ H S env Fs Ep → ti σ H R
/-- the items of data that is walked -/
@[simp] def D.items : D → Option (List D)
  | .lst ds => some ds
  | .kst ds => some ds
  | .tup ds => some ds
  | .str s => some (s.map fun c => .str [c])
  | _ => none
@[simp] def pIAny (t : PTE) : PTI := fun env Q E => t env (fun o env' => match o with
  | .d x => match x.items with
    | some ds => Q ds env'
    | none => False
  | _ => False) E
def forR (g : PTG) (body : PTS) (De : PEnds) : List D → Env → Prop
  | [], env => De.nx env
  | d :: ds, env => g (.d d) env fun env' => body { De with nx := forR g body De ds, ct := forR g body De ds, bk := De.nx } env'
@[simp] def pFor (pi : PTI) (g : PTG) (body : PTS) : PTS := fun De env => pi env (fun ds env' => forR g body De ds env') De.ex
def whileR (c : PTT) (body : PTS) (De : PEnds) : Nat → Env → Prop
  | 0, _ => False
  | n + 1, env => c env (fun k env' => if k = true then body { De with nx := whileR c body De n, ct := whileR c body De n, bk := De.nx } env' else De.nx env') De.ex
def pWhile (c : PTT) (body : PTS) : PTS := fun De env => ∃ n, whileR c body De n env
section
variable {K : PySem.W.Frag} {W : WX} {b b1 b2 w w1 w2 : Bool} {i : Nat} {pins : List Nat}
theorem Walks.mono {J : It} {ds : List D} {S S' : Hp} (h : Walks K J ds S) (s : Sub S S') : Walks K J ds S' := fun i H' S2 a c => h i H' S2 (s.trans a) c
theorem sim_iany {te : TE} {t : PTE} (h : SimE K W b w te t) : SimI K W b (iAny K te) (pIAny t) := fun σ H S env Fs Qp Ep R hs ht k x =>
  h σ H S env Fs _ _ _ hs ht (fun v o F H1 S1 env1 Fs1 n c q => by
    split at q
    · rename_i d
      split at q
      · rename_i ds eds
        have r := c.rp
        cases d with
        | lst es =>
          cases eds
          simp only [Rp] at r
          obtain ⟨a, xs, e, q1, r1⟩ := r
          refine .inl ⟨a, xs, e, .inl (.inl (n.st.sub a _ q1)), k _ _ H1 S1 env1 Fs1 n (fun i H' S' s1 s2 => ⟨fun hi => ⟨xs, .inl (.inl (s2 a _ (s1 a _ q1))), by rw [r1.length]; exact Nat.le_of_eq hi.symm⟩, fun d hd => ?_⟩) q⟩
          obtain ⟨y, hy, ry⟩ := r1.get hd
          exact ⟨⟨xs, y, .inl (.inl (s2 a _ (s1 a _ q1))), hy⟩, fun z H2 hz => ⟨S', by rw [hz.1]; exact Ext.refl, by rw [hz.1]; exact s2, by
            have := hz.2 xs (.inl (.inl (s2 a _ (s1 a _ q1))))
            rw [hy] at this
            cases this
            exact Rp.mono s1 _ _ ry⟩⟩
        | kst es =>
          cases eds
          simp only [Rp] at r
          obtain ⟨a, xs, e, q1, r1⟩ := r
          refine .inl ⟨a, xs, e, sqL_sub n.st.sub q1, k _ _ H1 S1 env1 Fs1 n (fun i H' S' s1 s2 => ⟨fun hi => ⟨xs, sqL_sub s2 (sqL_sub s1 q1), by rw [r1.length]; exact Nat.le_of_eq hi.symm⟩, fun d hd => ?_⟩) q⟩
          obtain ⟨y, hy, ry⟩ := r1.get hd
          exact ⟨⟨xs, y, sqL_sub s2 (sqL_sub s1 q1), hy⟩, fun z H2 hz => ⟨S', by rw [hz.1]; exact Ext.refl, by rw [hz.1]; exact s2, by
            have := hz.2 xs (sqL_sub s2 (sqL_sub s1 q1))
            rw [hy] at this
            cases this
            exact Rp.mono s1 _ _ ry⟩⟩
        | tup es =>
          cases eds
          simp only [Rp] at r
          obtain ⟨a, xs, e, q1, r1⟩ := r
          refine .inr (.inl ⟨a, xs, e, sqT_sub n.st.sub q1, k _ _ H1 S1 env1 Fs1 n (fun i H' S' s1 s2 => ⟨fun hi => ⟨xs, sqT_sub s2 (sqT_sub s1 q1), by rw [r1.length]; exact Nat.le_of_eq hi.symm⟩, fun d hd => ?_⟩) q⟩)
          obtain ⟨y, hy, ry⟩ := r1.get hd
          exact ⟨⟨xs, y, sqT_sub s2 (sqT_sub s1 q1), hy⟩, fun z H2 hz => ⟨S', by rw [hz.1]; exact Ext.refl, by rw [hz.1]; exact s2, by
            have := hz.2 xs (sqT_sub s2 (sqT_sub s1 q1))
            rw [hy] at this
            cases this
            exact Rp.mono s1 _ _ ry⟩⟩
        | str s =>
          cases eds
          simp only [Rp] at r
          refine .inr (.inr ⟨_, r.1, k _ _ H1 S1 env1 Fs1 n (fun i H' S' s1 s2 => ⟨fun hi => ?_, fun d hd => ?_⟩) q⟩)
          · show (s.toArray).size ≤ i
            have : s.length ≤ i := by simpa using Nat.le_of_eq hi.symm
            simpa using this
          · rw [List.getElem?_map] at hd
            cases hc : s[i]? with
            | none => rw [hc] at hd; cases hd
            | some ch =>
              rw [hc] at hd
              cases hd
              have hlt := (List.getElem?_eq_some_iff.mp hc).1
              refine ⟨by show i < s.toArray.size; simpa using hlt, fun z H2 hz => ⟨S', by rw [hz.1]; exact Ext.refl, by rw [hz.1]; exact s2, ?_⟩⟩
              obtain ⟨c2, h2, e2⟩ := hz.2
              have h2' : s[i]? = some c2 := by simpa using h2
              rw [hc] at h2'
              cases h2'
              rw [e2]
              simp only [Rp]
              exact ⟨trivial, fun k hk => by rw [List.mem_singleton.mp hk]; exact r.2.1 ch (List.mem_of_getElem? hc), by rw [sizeLine_eq]; simp⟩
        | _ => cases eds
      · exact q.elim
    · exact q.elim) x
theorem sim_for {ti : TI} {pi : PTI} {g : TG} {pg : PTG} {tb : TS} {pb : PTS} (hi : SimI K W b ti pi) (hg : SimG K pins g pg) (hb : SimS K W pins tb pb) : SimS K W pins (tFor ti g tb) (pFor pi pg pb) := fun σ H S env Fs De D hs ht nx rt bk ct x =>
  hi σ H S env Fs _ _ _ hs ht (fun J ds H1 S1 env1 Fs1 n0 wk q0 => by
    have n1 : NxS K pins σ H S Fs σ H1 S1 env1 Fs1 := n0.s
    refine ⟨fun i m σ' H' => ∃ S' env' Fs', NxS K pins σ H S Fs σ' H' S' env' Fs' ∧ Sub S1 S' ∧ (m = ds.length - i ∧ i ≤ ds.length) ∧ forR pg pb De (ds.drop i) env', ⟨_, S1, env1, Fs1, n1, Sub.refl _, ⟨rfl, Nat.zero_le _⟩, q0⟩, ?_⟩
    rintro i m σ' H' ⟨S', env', Fs', n, ss, em, q⟩
    obtain ⟨ws, wg⟩ := wk i H' S' ss n.st.sub
    cases hd : ds[i]? with
    | none =>
      have hi' : ds.length ≤ i := List.getElem?_eq_none_iff.mp hd
      rw [List.drop_eq_nil_of_le hi'] at q
      exact .inl ⟨ws (Nat.le_antisymm em.2 hi'), nx σ' H' S' env' Fs' n q⟩
    | some d =>
      obtain ⟨hlt, ed⟩ := List.getElem?_eq_some_iff.mp hd
      rw [List.drop_eq_getElem_cons hlt, ed] at q
      obtain ⟨go, yld⟩ := wg d hd
      refine .inr ⟨go, fun σ2 H2 => ∃ S2 env2 Fs2, NxS K pins σ H S Fs σ2 H2 S2 env2 Fs2 ∧ Sub S1 S2 ∧ forR pg pb De (ds.drop (i + 1)) env2, ?_, ?_⟩
      · rintro σ2 H2 ⟨S2, env2, Fs2, n2, s2, q2⟩
        exact ⟨ds.length - (i + 1), by omega, S2, env2, Fs2, n2, s2, ⟨rfl, hlt⟩, q2⟩
      · intro y H2 hy
        obtain ⟨S2, e2, s2, ry⟩ := yld y H2 hy
        have n2 : NxS K pins σ H S Fs σ' H2 S2 env' Fs' := n.trans (Nx.new (b := false) n.st e2 s2).s
        refine hg σ' H2 S2 env' Fs' y (.d d) [] _ _ (NxS.refl n2.st) (Val.data ry) q fun σ3 H3 S3 env3 Fs3 n3' q3 => ?_
        have n3 := n2.trans n3'
        have s3 : Sub S1 S3 := ss.trans (e2.sub.trans n3'.ext.sub)
        exact hb σ3 H3 S3 env3 Fs3 _ _ n3.st q3 (fun σ4 H4 S4 env4 Fs4 n4 q4 => ⟨S4, env4, Fs4, n3.trans n4, s3.trans n4.ext.sub, q4⟩) (fun v o F σ4 H4 S4 env4 Fs4 n4 c q4 => rt v o F σ4 H4 S4 env4 Fs4 (n3.trans n4) (c.backS n3) q4)
          (fun σ4 H4 S4 env4 Fs4 n4 q4 => nx σ4 H4 S4 env4 Fs4 (n3.trans n4) q4) (fun σ4 H4 S4 env4 Fs4 n4 q4 => ⟨S4, env4, Fs4, n3.trans n4, s3.trans n4.ext.sub, q4⟩) (x.on n3)) x.e
theorem sim_while {c : TT} {pc : PTT} {tb : TS} {pb : PTS} (hc : SimT K W b c pc) (hb : SimS K W pins tb pb) : SimS K W pins (tWhile c tb) (pWhile pc pb) := fun σ H S env Fs De D hs ht nx rt bk ct x => by
  obtain ⟨n0, q0⟩ := ht
  refine ⟨fun m σ' H' => ∃ S' env' Fs', NxS K pins σ H S Fs σ' H' S' env' Fs' ∧ whileR pc pb De m env', ⟨n0, S, env, Fs, NxS.refl hs, q0⟩, ?_⟩
  rintro m σ' H' ⟨S', env', Fs', n, q⟩
  cases m with
  | zero => exact q.elim
  | succ m =>
    refine hc σ' H' S' env' Fs' _ _ _ n.st q (fun k H2 S2 env2 Fs2 n2 z => ?_) (x.on n).e
    have n3 : NxS K pins σ H S Fs σ' H2 S2 env2 Fs2 := n.trans n2.s
    cases k with
    | false => exact nx σ' H2 S2 env2 Fs2 n3 z
    | true =>
      refine ⟨fun σ3 H3 => ∃ S3 env3 Fs3, NxS K pins σ H S Fs σ3 H3 S3 env3 Fs3 ∧ whileR pc pb De m env3, fun σ3 H3 h => ⟨m, Nat.lt_succ_self m, h⟩, ?_⟩
      exact hb σ' H2 S2 env2 Fs2 _ _ n3.st z (fun σ4 H4 S4 env4 Fs4 n4 q4 => ⟨S4, env4, Fs4, n3.trans n4, q4⟩) (fun v o F σ4 H4 S4 env4 Fs4 n4 c q4 => rt v o F σ4 H4 S4 env4 Fs4 (n3.trans n4) (c.backS n3) q4)
        (fun σ4 H4 S4 env4 Fs4 n4 q4 => nx σ4 H4 S4 env4 Fs4 (n3.trans n4) q4) (fun σ4 H4 S4 env4 Fs4 n4 q4 => ⟨S4, env4, Fs4, n3.trans n4, q4⟩) (x.on n3)
/-- range(n), range(a, b) -/
@[simp] def pRng1 (t : PTE) : PTI := fun env Q E => t env (fun o env' => match o with
  | .d (.int j) => -(2 ^ 62) ≤ j ∧ j < 2 ^ 62 ∧ Q ((List.range j.toNat).map fun (k : Nat) => D.int (k : Int)) env'
  | _ => False) E
theorem sim_rng1 {te : TE} {t : PTE} (h : SimE K W b w te t) : SimI K W b (iRng1 (tCons te tNil)) (pRng1 t) := fun σ H S env Fs Qp Ep R hs ht k x =>
  h σ H S env Fs _ _ _ hs ht (fun v o F H1 S1 env1 Fs1 n c q => by
    split at q
    · rename_i j
      have r := c.rp
      simp only [Rp] at r
      refine ⟨j, by rw [r], q.1, q.2.1, k _ _ H1 S1 env1 Fs1 n (fun i H' S' s1 s2 => ⟨fun hi => ?_, fun d hd => ?_⟩) q.2.2⟩
      · show j.toNat ≤ i
        have : j.toNat ≤ i := by simpa using Nat.le_of_eq hi.symm
        exact this
      · rw [List.getElem?_map] at hd
        by_cases hlt : i < j.toNat
        · rw [List.getElem?_range hlt] at hd
          cases hd
          refine ⟨hlt, fun z H2 hz => ⟨S', by rw [hz.1]; exact Ext.refl, by rw [hz.1]; exact s2, ?_⟩⟩
          rw [hz.2]
          simp only [Rp]
          rw [Int.zero_add]
        · rw [List.getElem?_eq_none (by simpa using hlt)] at hd
          cases hd
    · exact q.elim) x
end
end DL
end

section
set_option Elab.async false
set_option linter.all false
set_option maxRecDepth 100000
set_option maxHeartbeats 2000000
namespace DL
open PySem PySem.Spec L2 PyProof.Rows

/-! ### arguments; tuples and lists written -/
abbrev PTA := Env → (List D → Env → Prop) → PX → Prop
def SimA (K : PySem.W.Frag) (W : WX) (b : Bool) (n : Nat) (ta : TA) (t : PTA) : Prop :=
  ∀ σ H S env Fs (Qp : List D → Env → Prop) (Ep : PX) (Q : List V → Hp → Prop), St K σ H S env Fs → t env Qp Ep →
    (∀ vs ds H' S' env' Fs', Nx K b σ H S env Fs H' S' env' Fs' → RpL K S' ds vs → ds.length = n → Qp ds env' → Q vs H') → XC K W σ H S env Fs Ep → ta σ H Q
@[simp] def pNil : PTA := fun env Q _ => Q [] env
@[simp] def pCons (t : PTE) (u : PTA) : PTA := fun env Q E => t env (fun o env1 => match o with
  | .d x => u env1 (fun ds env2 => Q (x :: ds) env2) E
  | _ => False) E
@[simp] def pTup (u : PTA) : PTE := fun env Q E => u env (fun ds env' => Q (.d (.tup ds)) env') E
abbrev PTL := Env → (List O → Env → Prop) → PX → Prop
structure ValL (K : PySem.W.Frag) (H : Hp) (Fs : Nat → List Addr) (H' S' : Hp) (Fs' : Nat → List Addr) (vs : List V) (os : List O) (F : List Addr) : Prop where
  rep : RepL K S' H' os vs F
  nos : ∀ a, a ∈ F → S' a = none
  fr : ∀ a, a ∈ F → Own Fs a ∨ H a = none
  own : ∀ a, a ∈ F → ¬ Own Fs' a
def SimL (K : PySem.W.Frag) (W : WX) (b : Bool) (n : Nat) (ta : TA) (t : PTL) : Prop :=
  ∀ σ H S env Fs (Qp : List O → Env → Prop) (Ep : PX) (Q : List V → Hp → Prop), St K σ H S env Fs → t env Qp Ep →
    (∀ vs os F H' S' env' Fs', Nx K b σ H S env Fs H' S' env' Fs' → ValL K H Fs H' S' Fs' vs os F → os.length = n → Qp os env' → Q vs H') → XC K W σ H S env Fs Ep → ta σ H Q
@[simp] def pLNil : PTL := fun env Q _ => Q [] env
@[simp] def pLCons (t : PTE) (u : PTL) : PTL := fun env Q E => t env (fun o env1 => u env1 (fun os env2 => Q (o :: os) env2) E) E
@[simp] def pLst (u : PTL) : PTE := fun env Q E => u env (fun os env' => Q (.own os) env') E
section
variable {K : PySem.W.Frag} {W : WX} {b b1 b2 w w1 w2 : Bool} {n : Nat}
theorem sim_anil : SimA K W false 0 tNil pNil := fun σ H S env Fs Qp Ep Q hs ht k x => k [] [] H S env Fs (Nx.refl hs) .nil rfl ht
theorem sim_acons {te : TE} {t : PTE} {ta : TA} {u : PTA} (h : SimE K W b1 w te t) (hu : SimA K W b2 n ta u) : SimA K W (b1 || b2) (n + 1) (tCons te ta) (pCons t u) := fun σ H S env Fs Qp Ep Q hs ht k x =>
  h σ H S env Fs _ _ _ hs ht (fun v o F H1 S1 env1 Fs1 n1 c q => by
    split at q
    · rename_i d
      exact hu σ H1 S1 env1 Fs1 _ _ _ n1.st q (fun vs ds H2 S2 env2 Fs2 n2 r hl q2 => k (v :: vs) (d :: ds) H2 S2 env2 Fs2 (n1.trans n2) (.cons (Rp.mono n2.ext.sub _ _ c.rp) r) (by rw [List.length_cons, hl]) q2) (x.on n1)
    · exact q.elim) x
theorem sim_tup {ta : TA} {u : PTA} (h : SimA K W b n ta u) (hn : n ≤ 16777216) : SimE K W b false (tTup ta) (pTup u) := fun σ H S env Fs Qp Ep Q hs ht k x =>
  h σ H S env Fs _ _ _ hs ht (fun vs ds H1 S1 env1 Fs1 n1 r hl q => ⟨by rw [r.length, hl, sizeLine_eq]; exact hn, fun p np => (yields_of n1 k).tup n1.st.sub np r q⟩) x
theorem sim_lnil : SimL K W false 0 tNil pLNil := fun σ H S env Fs Qp Ep Q hs ht k x =>
  k [] [] [] H S env Fs (Nx.refl hs) ⟨by simp only [RepL]; exact ⟨trivial, trivial⟩, fun a z => absurd z (by simp), fun a z => absurd z (by simp), fun a z => absurd z (by simp)⟩ rfl ht
theorem sim_lcons {te : TE} {t : PTE} {ta : TA} {u : PTL} (h : SimE K W b1 false te t) (hu : SimL K W b2 n ta u) : SimL K W (b1 || b2) (n + 1) (tCons te ta) (pLCons t u) := fun σ H S env Fs Qp Ep Q hs ht k x =>
  h σ H S env Fs _ _ _ hs ht (fun v o F H1 S1 env1 Fs1 n1 c q =>
    hu σ H1 S1 env1 Fs1 _ _ _ n1.st q (fun vs os G H2 S2 env2 Fs2 n2 cl hl q2 => by
      have c2 := c.on n2 fun z => by cases z
      have dj : Disj F G := fun a ha hg => by
        rcases cl.fr a hg with z | z
        · exact c.own rfl a ha z
        · exact c.there a ha z
      refine k (v :: vs) (o :: os) (F ++ G) H2 S2 env2 Fs2 (n1.trans n2) ⟨?_, fun a ha => ?_, fun a ha => ?_, fun a ha => ?_⟩ (by rw [List.length_cons, hl]) q2
      · simp only [RepL]
        exact ⟨v, vs, F, G, rfl, rfl, dj, c2.rep, cl.rep⟩
      · exact (List.mem_append.mp ha).elim (c2.nos a) (cl.nos a)
      · exact (List.mem_append.mp ha).elim (c2.fr a) fun z => fr_trans n1.ext n1.fr (cl.fr a z)
      · exact (List.mem_append.mp ha).elim (c2.own rfl a) (cl.own a)) (x.on n1)) x
theorem sim_lst {ta : TA} {u : PTL} (h : SimL K W b n ta u) (hn : n ≤ 16777216) : SimE K W b false (tLst ta) (pLst u) := fun σ H S env Fs Qp Ep Q hs ht k x =>
  h σ H S env Fs _ _ _ hs ht (fun vs os G H1 S1 env1 Fs1 n1 c hl q => ⟨by rw [c.rep.length, hl, sizeLine_eq]; exact hn, fun p np => by
    have hS : S1 p = none := by
      cases e : S1 p with
      | none => rfl
      | some o => rw [n1.st.sub p o e] at np; cases np
    have e : Ext (fun _ => False) S1 H1 S1 (upd H1 p (.lst vs)) := ⟨Sub.refl _, fun a o h _ => by rw [upd_ne (ne_of_none h np)]; exact h, fun a h => by
      by_cases z : a = p
      · rw [z]; exact np
      · rw [upd_ne z] at h; exact h, fun a h _ _ => h⟩
    have sb : Sub S1 (upd H1 p (.lst vs)) := fun a o h => by rw [upd_ne (ne_of_none (n1.st.sub a o h) np)]; exact n1.st.sub a o h
    have n2 := n1.trans (Nx.new (b := false) n1.st e sb)
    rw [Bool.or_false] at n2
    have np' : p ∉ G := fun z => RepL.there os vs G c.rep p z np
    refine k (.ref p) (.own os) (p :: G) _ _ _ _ n2 ⟨?_, fun a ha => ?_, fun a ha => ?_, fun _ a ha z => ?_⟩ q
    · simp only [RepO]
      exact ⟨p, vs, G, rfl, upd_same, rfl, np', c.rep.ext e fun _ _ z => z⟩
    · rcases List.mem_cons.mp ha with z | z
      · rw [z]; exact hS
      · exact c.nos a z
    · rcases List.mem_cons.mp ha with z | z
      · rw [z]; exact .inr (n1.ext.there p np)
      · exact c.fr a z
    · rcases List.mem_cons.mp ha with y | y
      · rw [y] at z; exact n1.st.own p z np
      · exact c.own a y z⟩) x

/-! ### promises -/
abbrev PSpV := List D → (O → Prop) → (Exc → Prop) → Prop
abbrev PSpM := List O → List D → (O → List O → Prop) → Prop
def XYields (K : PySem.W.Frag) (S H : Hp) (Ep : Exc → Prop) (E : XK) : Prop :=
  ∀ (x : Exc) d v H' S', Ext (fun _ => False) S H S' H' → Sub S' H' → H' d = some (.xd [(x.fld, v)]) → H d = none → S' d = none → Rp K S' x.val v → Ep x → E (.ref (He.ga K x.cls)) (some d) H'
def spV (K : PySem.W.Frag) (sp : PSpV) : Sp := fun vs H Q E => ∃ S ds Qp Ep, Sub S H ∧ RpL K S ds vs ∧ sp ds Qp Ep ∧ Yields K S H Qp Q ∧ XYields K S H Ep E
def MYields (K : PySem.W.Frag) (S H : Hp) (a : Addr) (F : List Addr) (Qp : O → List O → Prop) (Q : VK) : Prop :=
  ∀ v o Fo H' S' xs' F', Ext (fun c => c ∈ F) S H S' H' → Sub S' H' → RepO K S' H' (.own xs') (.ref a) F' → RepO K S' H' o v Fo → Disj Fo F' → (∀ c ∈ Fo, S' c = none) → (∀ c ∈ Fo, c ∈ F ∨ H c = none) → (∀ c ∈ F', S' c = none) → (∀ c ∈ F', c ∈ F ∨ H c = none) →
    Qp o xs' → Q v H'
def spM (K : PySem.W.Frag) (sp : PSpM) : Sp := fun vs H Q E => ∃ S a xs F vs' ds Qp, vs = .ref a :: vs' ∧ Sub S H ∧ RepO K S H (.own xs) (.ref a) F ∧ (∀ c ∈ F, S c = none) ∧ RpL K S ds vs' ∧ sp xs ds Qp ∧ MYields K S H a F Qp Q
@[simp] def pCallV (sp : PSpV) (u : PTA) : PTE := fun env Q E => u env (fun ds env' => sp ds (fun o => Q o env') fun x => E x env') E
@[simp] def pCallM (sp : PSpM) (i : Nat) (u : PTA) : PTE := fun env Q E => isOwn env i ∧ u env (fun ds env' => withOwn env' i fun xs => sp xs ds fun o xs' => Q o (env'.set i (some (.own xs')))) E
theorem sim_callV {ta : TA} {u : PTA} {sp : PSpV} (h : SimA K W b n ta u) : SimE K W b false (tCallS (spV K sp) (WE W) ta) (pCallV sp u) := fun σ H S env Fs Qp Ep Q hs ht k x =>
  h σ H S env Fs _ _ _ hs ht (fun vs ds H1 S1 env1 Fs1 n1 r hl q => ⟨S1, ds, _, _, n1.st.sub, r, q, yields_of n1 k, fun y d v H' S' e sb hd fd sd rv hx => x y d v H' S' env1 Fs1 ((n1.trans (Nx.new (b := false) n1.st e sb)).up) hd (n1.ext.there d fd) sd (fun z => n1.st.own d z fd) rv hx⟩) x
theorem sim_callM {ta : TA} {u : PTA} {sp : PSpM} {i : Nat} (h : SimA K W b n ta u) : SimE K W true false (tCallS (spM K sp) (WE W) (tCons (tVar i) ta)) (pCallM sp i u) := fun σ H S env Fs Qp Ep Q hs ht k x => by
  obtain ⟨h0, ht⟩ := ht
  obtain ⟨a, ev, ty⟩ := hs.tyL h0
  refine ⟨_, ev, h σ H S env Fs _ _ _ hs ht (fun vs ds H1 S1 env1 Fs1 n1 r hl q => ?_) x⟩
  obtain ⟨os, e, q⟩ := withOwn_iff q
  obtain ⟨v', ev', ro⟩ := n1.st.rep i _ e
  rw [ev] at ev'
  cases ev'
  have oF : ∀ c ∈ Fs1 i, Own Fs1 c := fun c hc => ⟨i, hc⟩
  have hlt : i < env1.length := (List.getElem?_eq_some_iff.mp e).1
  refine ⟨S1, a, os, Fs1 i, vs, ds, _, rfl, n1.st.sub, ro, fun c hc => n1.st.nos c (oF c hc), r, q, fun v o Fo H' S' xs' F' ex sb rx rv dj no fo nx fx q2 => ?_⟩
  have notF : ∀ j, j ≠ i → ∀ c ∈ Fs1 j, c ∉ Fs1 i := fun j hj c hc z => hj (n1.st.dis j i c hc z)
  have st' : St K σ H' S' (env1.set i (some (.own xs'))) (put Fs1 i F') := by
    refine ⟨by rw [List.length_set]; exact n1.st.len, fun j o' hj => ?_, fun j l c hj hl2 => ?_, sb, fun c hc => ?_, fun c hc => ?_⟩
    · by_cases ej : j = i
      · subst ej
        rw [List.getElem?_set_self hlt] at hj
        cases hj
        exact ⟨.ref a, ev, by rw [put_same]; exact rx⟩
      · rw [List.getElem?_set_ne (fun z => ej z.symm)] at hj
        obtain ⟨u', e1, r'⟩ := n1.st.rep j o' hj
        exact ⟨u', e1, by rw [put_ne ej]; exact r'.ext ex (notF j ej)⟩
    · have key : ∀ m, m ≠ i → c ∈ Fs1 m → c ∈ F' → False := fun m hm h1 h2 => by
        rcases fx c h2 with z | z
        · exact notF m hm c h1 z
        · exact n1.st.own c ⟨m, h1⟩ z
      by_cases ej : j = i
      · subst ej
        by_cases el : l = j
        · exact el.symm
        · rw [put_same] at hj; rw [put_ne el] at hl2
          exact (key l el hl2 hj).elim
      · rw [put_ne ej] at hj
        by_cases el : l = i
        · subst el
          rw [put_same] at hl2
          exact (key j ej hj hl2).elim
        · rw [put_ne el] at hl2
          exact n1.st.dis j l c hj hl2
    · obtain ⟨j, hj⟩ := hc
      by_cases ej : j = i
      · subst ej; rw [put_same] at hj; exact nx c hj
      · rw [put_ne ej] at hj
        exact ex.sfr c (n1.st.nos c ⟨j, hj⟩) (n1.st.own c ⟨j, hj⟩) (notF j ej c hj)
    · obtain ⟨j, hj⟩ := hc
      by_cases ej : j = i
      · subst ej; rw [put_same] at hj
        exact RepO.there _ _ _ rx c hj
      · rw [put_ne ej] at hj
        exact fun z => n1.st.own c ⟨j, hj⟩ (ex.there c z)
  have up : ∀ c, c ∈ Fs1 i ∨ H1 c = none → Own Fs c ∨ H c = none := fun c hc => by
    rcases hc with z | z
    · exact n1.fr c (oF c z)
    · exact .inr (n1.ext.there c z)
  have nn : Nx K true σ H S env Fs H' S' (env1.set i (some (.own xs'))) (put Fs1 i F') := by
    refine ⟨n1.up.ext.trans ex fun c hc => ?_, st', fun c hc => ?_, fun z => by cases z⟩
    · rcases n1.fr c (oF c hc) with z | z
      · exact .inl ⟨rfl, z⟩
      · exact .inr z
    · rcases own_put hc with z | z
      · exact n1.fr c z
      · exact up c (fx c z)
  refine k v o Fo H' S' _ _ nn ⟨rv, no, fun c hc => up c (fo c hc), fun _ c hc z => ?_⟩ q2
  obtain ⟨j, hj⟩ := z
  by_cases ej : j = i
  · subst ej
    rw [put_same] at hj
    exact dj c hc hj
  · rw [put_ne ej] at hj
    rcases fo c hc with z | z
    · exact notF j ej c hj z
    · exact n1.st.own c ⟨j, hj⟩ z

/-! ### a def by its body -/
@[simp] def envV (n : Nat) (ds : List D) : Env := ds.map (fun d => some (.d d)) ++ List.replicate (n - ds.length) none
@[simp] def envM (n : Nat) (xs : List O) (ds : List D) : Env := some (.own xs) :: (ds.map (fun d => some (.d d)) ++ List.replicate (n - (ds.length + 1)) none)
@[simp] def endsV (Qp : O → Prop) (Ep : Exc → Prop) : PEnds := ⟨fun _ => Qp (.d .non), fun o _ => Qp o, fun _ => False, fun _ => False, fun x _ => Ep x⟩
@[simp] def endsM (Qp : O → List O → Prop) : PEnds := ⟨fun env => withOwn env 0 fun xs => Qp (.d .non) xs, fun o env => withOwn env 0 fun xs => Qp o xs, fun _ => False, fun _ => False, fun _ _ => False⟩
theorem start_get {N : List Str} {vs : List V} {i : Nat} {v : V} (h : vs[i]? = some v) : (L2.start N vs)[i]? = some (some v) := by
  unfold L2.start
  have hi := (List.getElem?_eq_some_iff.mp h).1
  rw [List.getElem?_append_left (by rw [List.length_map]; exact hi), List.getElem?_map, h]
  rfl
theorem envV_get {n : Nat} {ds : List D} {i : Nat} {o : O} (h : (envV n ds)[i]? = some (some o)) : ∃ d, ds[i]? = some d ∧ o = .d d := by
  unfold envV at h
  by_cases hi : i < ds.length
  · rw [List.getElem?_append_left (by rw [List.length_map]; exact hi), List.getElem?_map, List.getElem?_eq_getElem hi] at h
    cases h
    exact ⟨_, List.getElem?_eq_getElem hi, rfl⟩
  · rw [List.getElem?_append_right (by rw [List.length_map]; omega), List.getElem?_replicate] at h
    split at h <;> cases h
theorem own_nil {a : Addr} (h : Own (fun _ => []) a) : False := by
  obtain ⟨i, h⟩ := h
  cases h
theorem body_V {N : List Str} {t : TS} {p : PTS} {sp : PSpV} {vs : List V} {H : Hp} {Q : VK} {E : XK} (hs : spV K sp vs H Q E) (ht : SimS K (fun cls d _ H' => E cls d H') [] t p) (hN : ∀ ds Qp Ep, sp ds Qp Ep → ds.length ≤ N.length)
    (pure : ∀ ds Qp Ep, sp ds Qp Ep → p (endsV Qp Ep) (envV N.length ds)) : t { nx := fun _ H' => Q .non H', rt := Q } (L2.start N vs) H := by
  obtain ⟨S, ds, Qp, Ep, sb, r, h, y, xy⟩ := hs
  have hl := hN ds Qp Ep h
  have st : St K (L2.start N vs) H S (envV N.length ds) (fun _ => []) := by
    refine ⟨?_, fun i o hi => ?_, fun i j a hi => absurd hi (by simp), sb, fun a h => (own_nil h).elim, fun a h => (own_nil h).elim⟩
    · unfold L2.start envV
      simp only [List.length_append, List.length_map, List.length_replicate]
      rw [r.length]
    · obtain ⟨d, hd, e⟩ := envV_get hi
      obtain ⟨v, hv, rv⟩ := r.get hd
      refine ⟨v, start_get hv, ?_⟩
      rw [e]
      simp only [RepO]
      exact ⟨rv, trivial⟩
  have no : ∀ {S' H'} , Ext (Own fun _ => []) S H S' H' → Ext (fun _ => False) S H S' H' := fun e => e.mono fun a h => own_nil h
  have q := pure ds Qp Ep h
  refine ht (L2.start N vs) H S _ _ (endsV Qp Ep) _ st q (fun σ' H' S' env' Fs' n z => y _ _ [] H' S' (no n.ext) n.st.sub (by simp only [RepO]; exact ⟨rp_non, trivial⟩) (fun a h => absurd h (by simp)) (fun a h => absurd h (by simp)) z) (fun v o F σ' H' S' env' Fs' n c z => ?_) (fun σ' H' S' env' Fs' n z => z.elim) (fun σ' H' S' env' Fs' n z => z.elim)
    (fun x d v σ' H' S' env' Fs' n hd fd sd od rv z => xy x d v H' S' (no n.ext) n.st.sub hd fd sd rv z)
  exact y v o F H' S' (no n.ext) n.st.sub c.rep (fun a ha => (c.fr a ha).elim (fun z => (own_nil z).elim) id) c.nos z
theorem envM_get {n : Nat} {xs : List O} {ds : List D} {i : Nat} {o : O} (h : (envM n xs ds)[i + 1]? = some (some o)) : ∃ d, ds[i]? = some d ∧ o = .d d := by
  unfold envM at h
  rw [List.getElem?_cons_succ] at h
  by_cases hi : i < ds.length
  · rw [List.getElem?_append_left (by rw [List.length_map]; exact hi), List.getElem?_map, List.getElem?_eq_getElem hi] at h
    cases h
    exact ⟨_, List.getElem?_eq_getElem hi, rfl⟩
  · rw [List.getElem?_append_right (by rw [List.length_map]; omega), List.getElem?_replicate] at h
    split at h <;> cases h
theorem body_M {N : List Str} {t : TS} {p : PTS} {sp : PSpM} {vs : List V} {H : Hp} {Q : VK} {E : XK} (hs : spM K sp vs H Q E) (ht : SimS K (fun cls d _ H' => E cls d H') [0] t p) (hN : ∀ xs ds Qp, sp xs ds Qp → ds.length + 1 ≤ N.length)
    (pure : ∀ xs ds Qp, sp xs ds Qp → p (endsM Qp) (envM N.length xs ds)) : t { nx := fun _ H' => Q .non H', rt := Q } (L2.start N vs) H := by
  obtain ⟨S, a, xs, F, vs', ds, Qp, ev, sb, ro, nF, r, h, y⟩ := hs
  subst ev
  have hl := hN xs ds Qp h
  have g0 : (L2.start N (.ref a :: vs'))[0]? = some (some (.ref a)) := start_get (i := 0) rfl
  have st : St K (L2.start N (.ref a :: vs')) H S (envM N.length xs ds) (put (fun _ => []) 0 F) := by
    refine ⟨?_, fun i o hi => ?_, fun i j c hi hj => ?_, sb, fun c h => (own_put h).elim (fun z => (own_nil z).elim) (nF c), fun c h => (own_put h).elim (fun z => (own_nil z).elim) (RepO.there _ _ _ ro c)⟩
    · unfold L2.start envM
      simp only [List.length_append, List.length_map, List.length_replicate, List.length_cons]
      rw [r.length]
      omega
    · cases i with
      | zero =>
        have e : o = .own xs := by
          have : (some (some (.own xs)) : Option (Option O)) = some (some o) := hi
          cases this; rfl
        rw [e]
        exact ⟨.ref a, g0, by rw [put_same]; exact ro⟩
      | succ i =>
        obtain ⟨d, hd, e⟩ := envM_get hi
        obtain ⟨v, hv, rv⟩ := r.get hd
        refine ⟨v, start_get (i := i + 1) hv, ?_⟩
        rw [e, put_ne (Nat.succ_ne_zero i)]
        simp only [RepO]
        exact ⟨rv, trivial⟩
    · have z : ∀ k, c ∈ put (fun _ => []) 0 F k → k = 0 := fun k hk => by
        by_cases e : k = 0
        · exact e
        · rw [put_ne e] at hk; cases hk
      rw [z i hi, z j hj]
  have oF : ∀ c, Own (put (fun _ => []) 0 F) c → c ∈ F := fun c h => (own_put h).elim (fun z => (own_nil z).elim) id
  have fin : ∀ {σ' H' S' env' Fs' v o G}, NxS K [0] (L2.start N (.ref a :: vs')) H S (put (fun _ => []) 0 F) σ' H' S' env' Fs' → Val K false H (put (fun _ => []) 0 F) H' S' Fs' v o G → (withOwn env' 0 fun xs => Qp o xs) → Q v H' := fun {σ' H' S' env' Fs' v o G} n c z => by
    obtain ⟨xs', e, q⟩ := withOwn_iff z
    obtain ⟨w, ew, rw'⟩ := n.st.rep 0 _ e
    rw [n.pin 0 (by simp), g0] at ew
    cases ew
    refine y v o G H' S' xs' (Fs' 0) (n.ext.mono oF) n.st.sub rw' c.rep (fun b hb z => c.own rfl b hb ⟨0, z⟩) c.nos (fun b hb => (c.fr b hb).elim (fun z => .inl (oF b z)) .inr) (fun b hb => n.st.nos b ⟨0, hb⟩) (fun b hb => (n.fr b ⟨0, hb⟩).elim (fun z => .inl (oF b z)) .inr) q
  have q := pure xs ds Qp h
  exact ht (L2.start N (.ref a :: vs')) H S _ _ (endsM Qp) _ st q (fun σ' H' S' env' Fs' n z => fin n (Val.data rp_non) z) (fun v o F σ' H' S' env' Fs' n c z => fin n c z) (fun σ' H' S' env' Fs' n z => z.elim) (fun σ' H' S' env' Fs' n z => z.elim)
    (fun x d v σ' H' S' env' Fs' n hd fd sd od rv z => z.elim)
end
end DL
end

section
set_option Elab.async false
set_option linter.all false
set_option maxRecDepth 100000
set_option maxHeartbeats 2000000
namespace DL
open PySem PySem.Spec L2 PyProof.Rows

/-! ### a comprehension's own names -/
def wipeE (env : Env) : List Nat → Env
  | [] => env
  | v :: vs => (wipeE env vs).set v none
def restE (env : Env) : List Nat → Env → Env
  | [], e => e
  | v :: vs, e => (restE env vs e).set v ((env[v]?).getD none)
def noOwn (env : Env) (vs : List Nat) : Bool := vs.all fun v => match env[v]? with
  | some (some (.d _)) => true
  | some (some _) => false
  | _ => true
theorem wipeE_length (env : Env) : ∀ vs, (wipeE env vs).length = env.length
  | [] => rfl
  | v :: vs => by unfold wipeE; rw [List.length_set, wipeE_length env vs]
theorem restE_length (env : Env) : ∀ vs (e : Env), (restE env vs e).length = e.length
  | [], e => rfl
  | v :: vs, e => by unfold restE; rw [List.length_set, restE_length env vs e]
theorem restE_out (env : Env) {j : Nat} : ∀ vs (e : Env), j ∉ vs → (restE env vs e)[j]? = e[j]?
  | [], e, _ => rfl
  | v :: vs, e, h => by
    unfold restE
    rw [List.getElem?_set_ne (fun z => h (by rw [z]; exact List.mem_cons_self)), restE_out env vs e fun z => h (List.mem_cons_of_mem _ z)]
theorem restE_in (env : Env) {j : Nat} : ∀ vs (e : Env), j ∈ vs → j < e.length → (restE env vs e)[j]? = some ((env[j]?).getD none)
  | [], e, h, _ => by cases h
  | v :: vs, e, h, hl => by
    unfold restE
    by_cases z : v = j
    · subst z
      rw [List.getElem?_set_self (by rw [restE_length]; exact hl)]
    · rw [List.getElem?_set_ne z]
      exact restE_in env vs e ((List.mem_cons.mp h).elim (fun y => absurd y.symm z) id) hl
theorem wipe_out {σ : L2.St} {j : Nat} : ∀ vs : List Nat, j ∉ vs → (wipe σ vs)[j]? = σ[j]?
  | [], _ => rfl
  | v :: vs, h => by
    unfold wipe
    rw [List.getElem?_set_ne (fun z => h (by rw [z]; exact List.mem_cons_self)), wipe_out vs fun z => h (List.mem_cons_of_mem _ z)]
section
variable {K : PySem.W.Frag} {W : WX} {b b1 b2 w w1 w2 : Bool} {σ : L2.St} {H S : Hp} {env : Env} {Fs : Nat → List Addr}
theorem St.dropσ (s : St K σ H S env Fs) {i : Nat} : St K (σ.set i none) H S (env.set i none) (put Fs i []) where
  len := by rw [List.length_set, List.length_set]; exact s.len
  rep := fun j o' h => by
    by_cases e : j = i
    · subst e
      by_cases hi : j < env.length
      · rw [List.getElem?_set_self hi] at h; cases h
      · rw [List.getElem?_eq_none (by rw [List.length_set]; omega)] at h; cases h
    · rw [List.getElem?_set_ne (fun z => e z.symm)] at h
      obtain ⟨v', e1, r'⟩ := s.rep j o' h
      exact ⟨v', by rw [List.getElem?_set_ne (fun z => e z.symm)]; exact e1, by rw [put_ne e]; exact r'⟩
  dis := s.drop.dis
  sub := s.sub
  nos := s.drop.nos
  own := s.drop.own
theorem St.wiped (s : St K σ H S env Fs) : ∀ vs : List Nat, ∃ Fs', St K (wipe σ vs) H S (wipeE env vs) Fs' ∧ ∀ a, Own Fs' a → Own Fs a
  | [] => ⟨Fs, s, fun _ h => h⟩
  | v :: vs => by
    obtain ⟨Fs', s', o⟩ := s.wiped vs
    exact ⟨put Fs' v [], s'.dropσ, fun a h => o a (own_dropped h)⟩
/-- behind the turn the names stand as they stood -/
theorem St.restored (s : St K σ H S env Fs) {vs : List Nat} (hn : noOwn env vs = true) {σ2 : L2.St} {H2 S2 : Hp} {env2 : Env} {Fs2 : Nat → List Addr} (s2 : St K σ2 H2 S2 env2 Fs2) (sb : Sub S S2) (hw : wipe σ2 vs = wipe σ vs) :
    ∃ Fs', St K σ H2 S2 (restE env vs env2) Fs' ∧ ∀ a, Own Fs' a → Own Fs2 a := by
  have hl : σ2.length = σ.length := by rw [← wipe_length σ2 vs, hw, wipe_length]
  have oin : ∀ a, Own (fun j => if j ∈ vs then [] else Fs2 j) a → Own Fs2 a := fun a ⟨j, hj⟩ => by
    by_cases z : j ∈ vs
    · have hj' : a ∈ (if j ∈ vs then ([] : List Addr) else Fs2 j) := hj
      rw [if_pos z] at hj'; cases hj'
    · have hj' : a ∈ (if j ∈ vs then ([] : List Addr) else Fs2 j) := hj
      rw [if_neg z] at hj'; exact ⟨j, hj'⟩
  refine ⟨fun j => if j ∈ vs then [] else Fs2 j, ⟨by rw [restE_length, ← s2.len, hl], fun j o h => ?_, fun i j a hi hj => ?_, s2.sub, fun a h => s2.nos a (oin a h), fun a h => s2.own a (oin a h)⟩, oin⟩
  · by_cases z : j ∈ vs
    · have hj : j < env2.length := by
        have := (List.getElem?_eq_some_iff.mp h).1
        rw [restE_length] at this; exact this
      rw [restE_in env vs env2 z hj] at h
      have he : env[j]? = some (some o) := by
        cases e : env[j]? with
        | none => rw [e] at h; cases h
        | some x => rw [e] at h; cases h; rfl
      obtain ⟨v, ev, r⟩ := s.rep j o he
      have hd : ∃ d, o = .d d := by
        have := List.all_eq_true.mp hn j z
        rw [he] at this
        cases o with
        | d x => exact ⟨x, rfl⟩
        | own _ => cases this
        | dct _ => cases this
      obtain ⟨d, ed⟩ := hd
      subst ed
      refine ⟨v, ev, ?_⟩
      simp only [RepO] at r
      show RepO K S2 H2 (.d d) v (if j ∈ vs then [] else Fs2 j)
      rw [if_pos z]
      simp only [RepO]
      exact ⟨Rp.mono sb _ _ r.1, trivial⟩
    · rw [restE_out env vs env2 z] at h
      obtain ⟨v, ev, r⟩ := s2.rep j o h
      have e1 : σ2[j]? = σ[j]? := by rw [← wipe_out vs z, hw, wipe_out vs z]
      refine ⟨v, by rw [← e1]; exact ev, ?_⟩
      show RepO K S2 H2 o v (if j ∈ vs then [] else Fs2 j)
      rw [if_neg z]
      exact r
  · by_cases z1 : i ∈ vs
    · have hi' : a ∈ (if i ∈ vs then ([] : List Addr) else Fs2 i) := hi
      rw [if_pos z1] at hi'; cases hi'
    · by_cases z2 : j ∈ vs
      · have hj' : a ∈ (if j ∈ vs then ([] : List Addr) else Fs2 j) := hj
        rw [if_pos z2] at hj'; cases hj'
      · have hi' : a ∈ (if i ∈ vs then ([] : List Addr) else Fs2 i) := hi
        have hj' : a ∈ (if j ∈ vs then ([] : List Addr) else Fs2 j) := hj
        rw [if_neg z1] at hi'
        rw [if_neg z2] at hj'
        exact s2.dis i j a hi' hj'
end
/-- a target stores the comprehension's own names alone -/
def TGw (g : TG) (vs : List Nat) : Prop := ∀ v σ H Q, g v σ H Q → g v σ H fun σ2 H2 => wipe σ2 vs = wipe σ vs ∧ Q σ2 H2
def TGsw (g : TGs) (vs : List Nat) : Prop := ∀ v σ H Q, g v σ H Q → g v σ H fun σ2 H2 => wipe σ2 vs = wipe σ vs ∧ Q σ2 H2
theorem wipe_set {σ : L2.St} {i : Nat} {x : Option V} : ∀ {vs : List Nat}, i ∈ vs → wipe (σ.set i x) vs = wipe σ vs
  | [], h => by cases h
  | v :: vs, h => by
    unfold wipe
    by_cases z : i ∈ vs
    · rw [wipe_set z]
    · have e : i = v := (List.mem_cons.mp h).elim id fun y => absurd y z
      subst e
      refine List.ext_getElem? fun j => ?_
      by_cases ej : i = j
      · subst ej
        by_cases hl : i < σ.length
        · rw [List.getElem?_set_self (by rw [wipe_length, List.length_set]; exact hl), List.getElem?_set_self (by rw [wipe_length]; exact hl)]
        · rw [List.getElem?_eq_none (by rw [List.length_set, wipe_length, List.length_set]; omega), List.getElem?_eq_none (by rw [List.length_set, wipe_length]; omega)]
      · rw [List.getElem?_set_ne ej, List.getElem?_set_ne ej]
        by_cases zj : j ∈ vs
        · have key : ∀ τ : L2.St, j < τ.length → (wipe τ vs)[j]? = some none := fun τ hτ => by
            have gen : ∀ us : List Nat, j ∈ us → (wipe τ us)[j]? = some none := by
              intro us
              induction us with
              | nil => intro h; cases h
              | cons u us ih =>
                intro h
                unfold wipe
                by_cases eu : u = j
                · subst eu
                  rw [List.getElem?_set_self (by rw [wipe_length]; exact hτ)]
                · rw [List.getElem?_set_ne eu]
                  exact ih ((List.mem_cons.mp h).elim (fun y => absurd y.symm eu) id)
            exact gen vs zj
          by_cases hl : j < σ.length
          · rw [key _ (by rw [List.length_set]; exact hl), key _ hl]
          · rw [List.getElem?_eq_none (by rw [wipe_length, List.length_set]; omega), List.getElem?_eq_none (by rw [wipe_length]; omega)]
        · rw [wipe_out vs zj, wipe_out vs zj, List.getElem?_set_ne ej]
theorem tgw_name {i : Nat} {vs : List Nat} (h : i ∈ vs) : TGw (gName i) vs := fun v σ H Q q => ⟨wipe_set h, q⟩
theorem tgw_nil {vs : List Nat} : TGsw gNil vs := fun v σ H Q q => ⟨q.1, rfl, q.2⟩
theorem tgw_cons {g : TG} {u : TGs} {vs : List Nat} (h1 : TGw g vs) (h2 : TGsw u vs) (m : ∀ v σ H (Q Q' : L2.St → Hp → Prop), (∀ σ' H', Q σ' H' → Q' σ' H') → g v σ H Q → g v σ H Q') (m2 : ∀ v σ H (Q Q' : L2.St → Hp → Prop), (∀ σ' H', Q σ' H' → Q' σ' H') → u v σ H Q → u v σ H Q') :
    TGsw (gCons g u) vs := fun v σ H Q q => by
  obtain ⟨x, r, e, q⟩ := q
  refine ⟨x, r, e, m _ _ _ _ _ (fun σ1 H1 z => ?_) (h1 _ _ _ _ q)⟩
  exact m2 _ _ _ _ _ (fun σ2 H2 y => ⟨y.1.trans z.1, y.2⟩) (h2 _ _ _ _ z.2)
def MonoG (g : TG) : Prop := ∀ v σ H (Q Q' : L2.St → Hp → Prop), (∀ σ' H', Q σ' H' → Q' σ' H') → g v σ H Q → g v σ H Q'
def MonoGs (g : TGs) : Prop := ∀ v σ H (Q Q' : L2.St → Hp → Prop), (∀ σ' H', Q σ' H' → Q' σ' H') → g v σ H Q → g v σ H Q'
theorem mono_name {i : Nat} : MonoG (gName i) := fun v σ H Q Q' h q => h _ _ q
theorem mono_nil : MonoGs gNil := fun v σ H Q Q' h q => ⟨q.1, h _ _ q.2⟩
theorem mono_cons {g : TG} {u : TGs} (h1 : MonoG g) (h2 : MonoGs u) : MonoGs (gCons g u) := fun v σ H Q Q' h ⟨x, r, e, q⟩ => ⟨x, r, e, h1 _ _ _ _ _ (fun σ' H' z => h2 _ _ _ _ _ h z) q⟩
theorem mono_tup {K : PySem.W.Frag} {n : Nat} {u : TGs} (h : MonoGs u) : MonoG (gTup K n u) := fun v σ H Q Q' k ⟨a, xs, e, q1, q2, q⟩ => ⟨a, xs, e, q1, q2, h _ _ _ _ _ k q⟩
theorem tgw_tup {K : PySem.W.Frag} {n : Nat} {u : TGs} {vs : List Nat} (h : TGsw u vs) : TGw (gTup K n u) vs := fun v σ H Q ⟨a, xs, e, q1, q2, q⟩ => ⟨a, xs, e, q1, q2, h _ _ _ _ q⟩

/-! ### [e for x in it if t] -/
abbrev WT : WX := fun _ _ _ _ => True
def lcR (g : PTG) (tt : PTT) (te : PTE) (vs : List Nat) (E : PX) (Q : List O → Env → Prop) : List D → List O → Env → Prop
  | [], acc, env => Q acc env
  | d :: ds, acc, env => g (.d d) (wipeE env vs) fun env2 => tt env2 (fun k env3 => if k = true then te env3 (fun o env4 => acc.length < 16777216 ∧ lcR g tt te vs E Q ds (acc ++ [o]) (restE env vs env4)) E else lcR g tt te vs E Q ds acc (restE env vs env3)) E
@[simp] def pLc (pi : PTI) (g : PTG) (tt : PTT) (te : PTE) (vs : List Nat) : PTE := fun env Q E => pi env (fun ds env1 => noOwn env1 vs = true ∧ lcR g tt te vs E (fun acc env' => Q (.own acc) env') ds [] env1) E
@[simp] def pYes : PTT := fun env Q _ => Q true env
theorem restE_noOwn {env e : Env} {vs : List Nat} (h : noOwn env vs = true) (hl : env.length = e.length) : noOwn (restE env vs e) vs = true := by
  refine List.all_eq_true.mpr fun v hv => ?_
  have := List.all_eq_true.mp h v hv
  by_cases hlt : v < e.length
  · rw [restE_in env vs e hv hlt]
    cases ee : env[v]? with
    | none => rfl
    | some x => rw [ee] at this; cases x with
      | none => rfl
      | some o => exact this
  · rw [List.getElem?_eq_none (by rw [restE_length]; omega)]
section
variable {K : PySem.W.Frag} {W : WX} {b b1 b2 w w1 w2 : Bool}
theorem sim_yes : SimT K W false tYes pYes := fun σ H S env Fs Qp Ep Q hs ht k x => k true H S env Fs (Nx.refl hs) ht
theorem xc_true {σ : L2.St} {H S : Hp} {env : Env} {Fs : Nat → List Addr} {Ep : PX} : XC K WT σ H S env Fs Ep := fun _ _ _ _ _ _ _ _ _ _ _ _ _ _ => trivial
theorem wipe_idem {σ : L2.St} {vs : List Nat} : wipe (wipe σ vs) vs = wipe σ vs := by
  have gen : ∀ us : List Nat, (∀ u ∈ us, u ∈ vs) → wipe (wipe σ us) vs = wipe σ vs := by
    intro us
    induction us with
    | nil => intro _; rfl
    | cons u us ih =>
      intro h
      show wipe ((wipe σ us).set u none) vs = wipe σ vs
      rw [wipe_set (h u List.mem_cons_self), ih fun x hx => h x (List.mem_cons_of_mem _ hx)]
  exact gen vs fun _ h => h
theorem Val.onS {v : V} {o : O} {F : List Addr} {σ σ2 : L2.St} {H H1 S1 H2 S2 : Hp} {env2 : Env} {Fs Fs1 Fsw Fs2 : Nat → List Addr} {pins : List Nat} (c : Val K false H Fs H1 S1 Fs1 v o F) (ow : ∀ a, Own Fsw a → Own Fs1 a)
    (n : NxS K pins σ H1 S1 Fsw σ2 H2 S2 env2 Fs2) : Val K false H Fs H2 S2 Fs2 v o F := by
  have hn : ∀ x ∈ F, ¬ Own Fsw x := fun x hx z => c.own rfl x hx (ow x z)
  refine ⟨c.rep.ext n.ext hn, fun x hx => n.ext.sfr x (c.nos x hx) (c.there x hx) (hn x hx), c.fr, fun _ x hx z => ?_⟩
  rcases n.fr x z with q | q
  · exact hn x hx q
  · exact c.there x hx q
theorem Ext.at_ {S H : Hp} {D : Addr} {u : HO} : Ext (fun c => c = D) S H S (upd H D u) := ⟨Sub.refl _, fun c o h z => by rw [upd_ne z]; exact h, fun c h => by
    by_cases z : c = D
    · rw [z, upd_same] at h; cases h
    · rw [upd_ne z] at h; exact h, fun c h _ _ => h⟩
theorem St.at_ {σ : L2.St} {H S : Hp} {env : Env} {Fs : Nat → List Addr} (s : St K σ H S env Fs) {D : Addr} {u : HO} (hS : S D = none) (hD : ¬ Own Fs D) : St K σ (upd H D u) S env Fs where
  len := s.len
  rep := fun i o h => by
    obtain ⟨v, e, r⟩ := s.rep i o h
    exact ⟨v, e, r.ext Ext.at_ fun a ha z => hD (by rw [← z]; exact ⟨i, ha⟩)⟩
  dis := s.dis
  sub := fun a o h => by
    have z : a ≠ D := fun z => by rw [z, hS] at h; cases h
    rw [upd_ne z]; exact s.sub a o h
  nos := s.nos
  own := fun a h => by
    have z : a ≠ D := fun z => hD (by rw [← z]; exact h)
    rw [upd_ne z]; exact s.own a h
theorem sim_lc {wi : TI} {pi : PTI} {g : TG} {pg : PTG} {tt : TT} {ptt : PTT} {te : TE} {pte : PTE} {vs : List Nat} (hi : SimI K W b wi pi) (hg : SimG K [] g pg) (gw : TGw g vs) (gm : MonoG g) (htt : SimT K WT b1 tt ptt) (he : SimE K WT b2 false te pte) :
    SimE K W true false (tLc wi g tt te vs) (pLc pi pg ptt pte vs) := fun σ H S env Fs Qp Ep Q hs ht k x =>
  hi σ H S env Fs _ _ _ hs ht (fun J ds H1 S1 env1 Fs1 n0 wk q0 => by
    obtain ⟨no0, q0⟩ := q0
    intro D hD
    have hS1 : S1 D = none := by
      cases e : S1 D with
      | none => rfl
      | some o => rw [n0.st.sub D o e] at hD; cases hD
    have hDo : ¬ Own Fs1 D := fun z => n0.st.own D z hD
    have hH : H D = none := n0.ext.there D hD
    have ni : Nx K true σ H S env Fs (upd H1 D (.lst [])) S1 env1 Fs1 := ⟨n0.up.ext.trans Ext.at_ fun c hc => .inr (by rw [hc]; exact hH), n0.st.at_ hS1 hDo, n0.fr, fun z => by cases z⟩
    have ci : Val K false H Fs (upd H1 D (.lst [])) S1 Fs1 (.ref D) (.own []) [D] := by
      refine ⟨?_, fun a ha => by rw [List.mem_singleton.mp ha]; exact hS1, fun a ha => by rw [List.mem_singleton.mp ha]; exact .inr hH, fun _ a ha => by rw [List.mem_singleton.mp ha]; exact hDo⟩
      simp only [RepO, RepL]
      exact ⟨D, [], [], rfl, upd_same, rfl, by simp, rfl, rfl⟩
    refine ⟨fun i m H' => ∃ S' env' Fs' acc F, Nx K true σ H S env Fs H' S' env' Fs' ∧ Val K false H Fs H' S' Fs' (.ref D) (.own acc) F ∧ Sub S1 S' ∧ noOwn env' vs = true ∧ (m = ds.length - i ∧ i ≤ ds.length) ∧ lcR pg ptt pte vs Ep (fun acc env' => Qp (.own acc) env') (ds.drop i) acc env',
      ⟨_, S1, env1, Fs1, [], [D], ni, ci, Sub.refl _, no0, ⟨rfl, Nat.zero_le _⟩, q0⟩, ?_⟩
    rintro i m H' ⟨S', env', Fs', acc, F, n, c, ss, no, em, q⟩
    obtain ⟨ws, wg⟩ := wk i H' S' ss n.st.sub
    cases hd : ds[i]? with
    | none =>
      have hi' : ds.length ≤ i := List.getElem?_eq_none_iff.mp hd
      rw [List.drop_eq_nil_of_le hi'] at q
      exact .inl ⟨ws (Nat.le_antisymm em.2 hi'), k _ _ F H' S' env' Fs' n c q⟩
    | some d =>
      obtain ⟨hlt, ed⟩ := List.getElem?_eq_some_iff.mp hd
      rw [List.drop_eq_getElem_cons hlt, ed] at q
      obtain ⟨go, yld⟩ := wg d hd
      obtain ⟨N, eN⟩ : ∃ N : Hp → Prop, N = fun H6 => ∃ S' env' Fs' acc F, Nx K true σ H S env Fs H6 S' env' Fs' ∧ Val K false H Fs H6 S' Fs' (.ref D) (.own acc) F ∧ Sub S1 S' ∧ noOwn env' vs = true ∧ lcR pg ptt pte vs Ep (fun acc env' => Qp (.own acc) env') (ds.drop (i + 1)) acc env' := ⟨_, rfl⟩
      have toN : ∀ H6, (∃ S' env' Fs' acc F, Nx K true σ H S env Fs H6 S' env' Fs' ∧ Val K false H Fs H6 S' Fs' (.ref D) (.own acc) F ∧ Sub S1 S' ∧ noOwn env' vs = true ∧ lcR pg ptt pte vs Ep (fun acc env' => Qp (.own acc) env') (ds.drop (i + 1)) acc env') → N H6 := by
        rw [eN]; exact fun _ h => h
      refine .inr ⟨go, N, ?_, ?_⟩
      · rw [eN]
        rintro H6 ⟨S6, env6, Fs6, acc6, F6, n6, c6, s6, no6, q6⟩
        exact ⟨ds.length - (i + 1), by omega, S6, env6, Fs6, acc6, F6, n6, c6, s6, no6, ⟨rfl, hlt⟩, q6⟩
      · intro y H2 hy
        obtain ⟨S2, e2, s2, ry⟩ := yld y H2 hy
        have nn := Nx.new (b := false) n.st e2 s2
        have n2 : Nx K true σ H S env Fs H2 S2 env' Fs' := n.trans nn
        have c2 : Val K false H Fs H2 S2 Fs' (.ref D) (.own acc) F := c.on nn fun _ => rfl
        have ss2 : Sub S1 S2 := ss.trans e2.sub
        obtain ⟨Fsw, sw, ow⟩ := n2.st.wiped vs
        -- behind the turn's inner steps
        have fin : ∀ {σ3 H5 S5 env5 Fs5}, NxS K [] (wipe σ vs) H2 S2 Fsw σ3 H5 S5 env5 Fs5 → wipe σ3 vs = wipe σ vs → ∃ Fs6, Nx K true σ H S env Fs H5 S5 (restE env' vs env5) Fs6 ∧ (∀ a, Own Fs6 a → Own Fs5 a) ∧ Val K false H Fs H5 S5 Fs6 (.ref D) (.own acc) F ∧ noOwn (restE env' vs env5) vs = true := by
          intro σ3 H5 S5 env5 Fs5 nI hw
          obtain ⟨Fs6, s6, o6⟩ := n2.st.restored no nI.st nI.ext.sub hw
          have c5 := c2.onS ow nI
          refine ⟨Fs6, ⟨n2.ext.trans nI.ext fun a ha => ?_, s6, fun a ha => ?_, fun z => by cases z⟩, o6, ⟨c5.rep, c5.nos, c5.fr, fun e a ha z => c5.own e a ha (o6 a z)⟩, restE_noOwn no ?_⟩
          · rcases n2.fr a (ow a ha) with z | z
            · exact .inl ⟨rfl, z⟩
            · exact .inr z
          · rcases nI.fr a (o6 a ha) with z | z
            · exact n2.fr a (ow a z)
            · exact .inr (n2.ext.there a z)
          · rw [← n2.st.len, ← nI.st.len, ← wipe_length σ3 vs, hw, wipe_length]
        refine gm _ _ _ (fun σ3 H3 => wipe σ3 vs = wipe (wipe σ vs) vs ∧ (wipe σ3 vs = wipe σ vs → tt σ3 H3 fun kk H4 => if kk = true then te σ3 H4 fun y H5 => ∃ acc, H5 D = some (.lst acc) ∧ acc.length < sizeLine ∧ N (upd H5 D (.lst (acc ++ [y]))) else N H4)) _ (fun σ3 H3 z => ?_) (gw _ _ _ _ (hg (wipe σ vs) H2 S2 (wipeE env' vs) Fsw y (.d d) [] _ _ (NxS.refl sw) (Val.data ry) q fun σ3 H3 S3 env3 Fs3 n3 q3 hw => ?_))
        · have hw := z.1.trans wipe_idem
          exact ⟨hw, z.2 hw⟩
        · refine htt σ3 H3 S3 env3 Fs3 _ _ _ n3.st q3 (fun kk H4 S4 env4 Fs4 n4 z => ?_) xc_true
          have nI4 := n3.trans n4.s
          cases kk with
          | false =>
            obtain ⟨Fs6, n6, o6, c6, no6⟩ := fin nI4 hw
            exact toN _ ⟨S4, _, Fs6, acc, F, n6, c6, ss2.trans nI4.ext.sub, no6, z⟩
          | true =>
            refine he σ3 H4 S4 env4 Fs4 _ _ _ n4.st z (fun y5 o5 F5 H5 S5 env5 Fs5 n5 c5 z5 => ?_) xc_true
            obtain ⟨hl, z5⟩ := z5
            have nI := nI4.trans n5.s
            obtain ⟨Fs6, n6, o6, c6, no6⟩ := fin nI hw
            obtain ⟨D', xs, G, e1, hx, ef, ng, rl⟩ := own_rep c6.rep
            cases e1
            refine ⟨xs, hx, by rw [rl.length, sizeLine_eq]; exact hl, ?_⟩
            have dF : D ∈ F := by rw [ef]; exact List.mem_cons_self
            have dS : S5 D = none := c6.nos D dF
            have dO : ¬ Own Fs6 D := c6.own rfl D dF
            have d5 : ∀ a ∈ F5, a ∉ F := fun a ha hf => by
              have c4 := c2.onS ow nI4
              rcases c5.fr a ha with w | w
              · exact c4.own rfl a hf w
              · exact c4.there a hf w
            have frs : ∀ a, a ∈ F5 → Own Fs a ∨ H a = none := fun a ha => by
              rcases c5.fr a ha with w | w
              · rcases nI4.fr a w with u | u
                · exact n2.fr a (ow a u)
                · exact .inr (n2.ext.there a u)
              · exact .inr (n2.ext.there a (nI4.ext.there a w))
            refine toN _ ⟨S5, _, Fs6, acc ++ [o5], D :: (G ++ F5), ⟨n6.ext.trans Ext.at_ fun a ha => .inr (by rw [ha]; exact hH), n6.st.at_ dS dO, n6.fr, fun w => by cases w⟩, ⟨?_, fun a ha => ?_, fun a ha => ?_, fun _ a ha w => ?_⟩, ss2.trans nI.ext.sub, no6, z5⟩
            · have r1 : RepL K S5 H5 (acc ++ [o5]) (xs ++ [y5]) (G ++ F5) := rl.append (.one c5.rep) fun a ha hf => d5 a hf (by rw [ef]; exact List.mem_cons_of_mem _ ha)
              have nd : D ∉ G ++ F5 := fun w => (List.mem_append.mp w).elim ng fun u => d5 D u dF
              simp only [RepO]
              exact ⟨D, xs ++ [y5], G ++ F5, rfl, upd_same, rfl, nd, r1.ext Ext.at_ fun a ha w => nd (by rw [← w]; exact ha)⟩
            · rcases List.mem_cons.mp ha with w | w
              · rw [w]; exact dS
              · exact (List.mem_append.mp w).elim (fun u => c6.nos a (by rw [ef]; exact List.mem_cons_of_mem _ u)) (c5.nos a)
            · rcases List.mem_cons.mp ha with w | w
              · rw [w]; exact .inr hH
              · exact (List.mem_append.mp w).elim (fun u => c6.fr a (by rw [ef]; exact List.mem_cons_of_mem _ u)) (frs a)
            · rcases List.mem_cons.mp ha with u | u
              · rw [u] at w; exact dO w
              · exact (List.mem_append.mp u).elim (fun v => c6.own rfl a (by rw [ef]; exact List.mem_cons_of_mem _ v) w) (fun v => c5.own rfl a v (o6 a w))) x
end
end DL
end

section
set_option Elab.async false
set_option linter.all false
set_option maxRecDepth 100000
set_option maxHeartbeats 2000000
namespace DL
open PySem PySem.Spec L2 PyProof.Rows

/-! ### built-ins of one value -/
def OpC1 (K : PySem.W.Frag) (r : List V → Hp → VK → Prop) (f : PR1) : Prop := ∀ S H x o1 F1 (Qp : O → Prop) (Q : VK), Sub S H → RepO K S H o1 x F1 → f o1 Qp → Yields K S H Qp Q → r [x] H Q
theorem sim_c1 {K : PySem.W.Frag} {W : WX} {b w : Bool} {r : List V → Hp → VK → Prop} {f : PR1} {ta : TE} {pa : PTE} (ho : OpC1 K r f) (ha : SimE K W b w ta pa) : SimE K W b false (tCB r (tCons ta tNil)) (pUn f pa) :=
  fun σ H S env Fs Qp Ep Q hs ht k x =>
    ha σ H S env Fs _ Ep _ hs ht (fun v o F H1 S1 env1 Fs1 n1 c1 q1 => ho S1 H1 v o F _ _ n1.st.sub c1.rep q1 (yields_of n1 k)) x
/-- the length of a text, a list, a tuple, a dict -/
@[simp] def O.len : O → Option Nat
  | .d (.str s) => some s.length
  | .d (.lst ds) => some ds.length
  | .d (.kst ds) => some ds.length
  | .d (.tup ds) => some ds.length
  | .own os => some os.length
  | _ => none
@[simp] def fLen : PR1 := fun x Q => match x.len with
  | some n => Q (.d (.int n))
  | none => False
def rLenAll (K : PySem.W.Frag) : List V → Hp → VK → Prop := fun xs H Q => (∃ z, xs = [.str z] ∧ z.length ≤ sizeLine ∧ Q (.int z.length) H) ∨ (∃ p ys, xs = [.ref p] ∧ (SqL K H p ys ∨ SqT K H p ys) ∧ Q (.int ys.length) H)
theorem call_lenAll {X : Cx} : CallR X (.builtin "len") (rLenAll X.K) := fun pins s σ H xs us Q I r h => h.elim (fun h => call_len_str pins s σ H xs us Q I r h) fun h => call_len_seq pins s σ H xs us Q I r h
section
variable {K : PySem.W.Frag}
theorem oc_len : OpC1 K (rLenAll K) fLen := fun S H x o1 F1 Qp Q s h1 hf yl => by
  unfold fLen at hf
  split at hf
  · rename_i n en
    have fin : ∀ m : Nat, m = n → Q (.int m) H := fun m e => by rw [e]; exact yl.d s rp_int hf
    cases o1 with
    | d d =>
      have r1 := d_rp h1
      cases d with
      | str z =>
        cases en
        simp only [Rp] at r1
        refine .inl ⟨_, by rw [r1.1], by rw [str_len]; exact r1.2.2, ?_⟩
        exact fin _ (str_len z)
      | lst ds =>
        cases en
        simp only [Rp] at r1
        obtain ⟨a, xs, e, q, r⟩ := r1
        exact .inr ⟨a, xs, by rw [e], .inl (.inl (.inl (s a _ q))), fin _ r.length⟩
      | kst ds =>
        cases en
        simp only [Rp] at r1
        obtain ⟨a, xs, e, q, r⟩ := r1
        exact .inr ⟨a, xs, by rw [e], .inl (sqL_sub s q), fin _ r.length⟩
      | tup ds =>
        cases en
        simp only [Rp] at r1
        obtain ⟨a, xs, e, q, r⟩ := r1
        exact .inr ⟨a, xs, by rw [e], .inr (sqT_sub s q), fin _ r.length⟩
      | _ => cases en
    | own os =>
      cases en
      obtain ⟨a, xs, G, e, q, ef, ng, r⟩ := own_rep h1
      exact .inr ⟨a, xs, by rw [e], .inl (.inl (.inl q)), fin _ r.length⟩
    | dct _ => cases en
  · exact hf.elim
@[simp] def fAbs : PR1 := fun x Q => match x with
  | .d (.int i) => Q (.d (.int (if i < 0 then -i else i)))
  | _ => False
theorem oc_abs : OpC1 K (fun xs H Q => ∃ i, xs = [.int i] ∧ Q (.int (if i < 0 then -i else i)) H) fAbs := fun S H x o1 F1 Qp Q s h1 hf yl => by
  unfold fAbs at hf
  split at hf
  · have r1 := d_rp h1
    simp only [Rp] at r1
    exact ⟨_, by rw [r1], yl.d s rp_int hf⟩
  · exact hf.elim
@[simp] def fInt : PR1 := fun x Q => match x with
  | .d (.int i) => Q (.d (.int i))
  | .d (.bl k) => Q (.d (.int (if k then 1 else 0)))
  | _ => False
theorem oc_int : OpC1 K (fun xs H Q => (∃ i, xs = [.int i] ∧ Q (.int i) H) ∨ ∃ k, xs = [.bl k] ∧ Q (.int (if k then 1 else 0)) H) fInt := fun S H x o1 F1 Qp Q s h1 hf yl => by
  unfold fInt at hf
  split at hf
  · have r1 := d_rp h1
    simp only [Rp] at r1
    exact .inl ⟨_, by rw [r1], yl.d s rp_int hf⟩
  · have r1 := d_rp h1
    simp only [Rp] at r1
    exact .inr ⟨_, by rw [r1], yl.d s rp_int hf⟩
  · exact hf.elim
/-- ints, truth values out of data -/
def toInts : List D → Option (List Int)
  | [] => some []
  | .int i :: r => (toInts r).map (i :: ·)
  | _ :: _ => none
def toBools : List D → Option (List Bool)
  | [] => some []
  | .bl i :: r => (toBools r).map (i :: ·)
  | _ :: _ => none
@[simp] theorem toInts_map (ns : List Int) : toInts (ns.map D.int) = some ns := by
  induction ns with
  | nil => rfl
  | cons n r ih => simp [toInts, ih]
@[simp] theorem toBools_map (ns : List Bool) : toBools (ns.map D.bl) = some ns := by
  induction ns with
  | nil => rfl
  | cons n r ih => simp [toBools, ih]
theorem toInts_rp {S : Hp} : ∀ {ds : List D} {ns : List Int} {vs : List V}, toInts ds = some ns → RpL K S ds vs → vs = ns.map V.int
  | [], ns, vs, h, r => by
    cases h
    simp only [RpL] at r
    rw [r]; rfl
  | .int i :: ds, ns, vs, h, r => by
    unfold toInts at h
    cases e : toInts ds with
    | none => rw [e] at h; cases h
    | some l =>
      rw [e] at h
      have en : ns = i :: l := (Option.some.inj h).symm
      simp only [RpL, Rp] at r
      obtain ⟨v, t, ev, q, r2⟩ := r
      rw [en, ev, q, toInts_rp e r2]; rfl
  | .non :: _, _, _, h, _ => by cases h
  | .bl _ :: _, _, _, h, _ => by cases h
  | .str _ :: _, _, _, h, _ => by cases h
  | .tup _ :: _, _, _, h, _ => by cases h
  | .lst _ :: _, _, _, h, _ => by cases h
  | .kst _ :: _, _, _, h, _ => by cases h
  | .dic _ :: _, _, _, h, _ => by cases h
  | .fn _ :: _, _, _, h, _ => by cases h
  | .exc _ _ _ _ _ :: _, _, _, h, _ => by cases h
theorem toBools_rp {S : Hp} : ∀ {ds : List D} {ns : List Bool} {vs : List V}, toBools ds = some ns → RpL K S ds vs → vs = ns.map V.bl
  | [], ns, vs, h, r => by
    cases h
    simp only [RpL] at r
    rw [r]; rfl
  | .bl i :: ds, ns, vs, h, r => by
    unfold toBools at h
    cases e : toBools ds with
    | none => rw [e] at h; cases h
    | some l =>
      rw [e] at h
      have en : ns = i :: l := (Option.some.inj h).symm
      simp only [RpL, Rp] at r
      obtain ⟨v, t, ev, q, r2⟩ := r
      rw [en, ev, q, toBools_rp e r2]; rfl
  | .non :: _, _, _, h, _ => by cases h
  | .int _ :: _, _, _, h, _ => by cases h
  | .str _ :: _, _, _, h, _ => by cases h
  | .tup _ :: _, _, _, h, _ => by cases h
  | .lst _ :: _, _, _, h, _ => by cases h
  | .kst _ :: _, _, _, h, _ => by cases h
  | .dic _ :: _, _, _, h, _ => by cases h
  | .fn _ :: _, _, _, h, _ => by cases h
  | .exc _ _ _ _ _ :: _, _, _, h, _ => by cases h
def fSum : PR1 := fun x Q => match x.lis.bind toInts with
  | some ns => Q (.d (.int ns.sum))
  | none => False
def fAll : PR1 := fun x Q => match x.lis.bind toBools with
  | some ns => Q (.d (.bl (ns.all id)))
  | none => False
def fAny : PR1 := fun x Q => match x.lis.bind toBools with
  | some ns => Q (.d (.bl (ns.any id)))
  | none => False
theorem oc_sum : OpC1 K (rSum K) fSum := fun S H x o1 F1 Qp Q s h1 hf yl => by
  unfold fSum at hf
  split at hf
  · rename_i ns e
    obtain ⟨ds, e1, e2⟩ := Option.bind_eq_some_iff.mp e
    obtain ⟨a, xs, ev, q, r⟩ := lis_rep s h1 e1
    have ex := toInts_rp e2 r
    subst ex
    exact ⟨a, ns, by rw [ev], q, yl.d s rp_int hf⟩
  · exact hf.elim
theorem oc_all : OpC1 K (rAll K) fAll := fun S H x o1 F1 Qp Q s h1 hf yl => by
  unfold fAll at hf
  split at hf
  · rename_i ns e
    obtain ⟨ds, e1, e2⟩ := Option.bind_eq_some_iff.mp e
    obtain ⟨a, xs, ev, q, r⟩ := lis_rep s h1 e1
    have ex := toBools_rp e2 r
    subst ex
    exact ⟨a, ns, by rw [ev], q, yl.d s rp_bl hf⟩
  · exact hf.elim
theorem oc_any : OpC1 K (rAny K) fAny := fun S H x o1 F1 Qp Q s h1 hf yl => by
  unfold fAny at hf
  split at hf
  · rename_i ns e
    obtain ⟨ds, e1, e2⟩ := Option.bind_eq_some_iff.mp e
    obtain ⟨a, xs, ev, q, r⟩ := lis_rep s h1 e1
    have ex := toBools_rp e2 r
    subst ex
    exact ⟨a, ns, by rw [ev], q, yl.d s rp_bl hf⟩
  · exact hf.elim
/-- list(x), tuple(x) of a list, a tuple -/
@[simp] def O.seq : O → Option (List D)
  | .d (.tup ds) => some ds
  | o => o.lis
@[simp] def fList : PR1 := fun x Q => match x.seq with
  | some ds => Q (.own (ds.map O.d))
  | none => False
@[simp] def fTuple : PR1 := fun x Q => match x.seq with
  | some ds => Q (.d (.tup ds))
  | none => False
theorem seq_cases {S H : Hp} (s : Sub S H) {o : O} {ds : List D} {v : V} {F : List Addr} (h : RepO K S H o v F) (e : o.seq = some ds) :
    (∃ a xs, v = .ref a ∧ SqL K H a xs ∧ RpL K S ds xs) ∨ ∃ a xs, v = .ref a ∧ SqT K H a xs ∧ RpL K S ds xs ∧ o = .d (.tup ds) := by
  by_cases ht : ∃ es, o = .d (.tup es)
  · obtain ⟨es, rfl⟩ := ht
    cases e
    have r := d_rp h
    simp only [Rp] at r
    obtain ⟨a, xs, e1, q1, r1⟩ := r
    exact .inr ⟨a, xs, e1, sqT_sub s q1, r1, rfl⟩
  · have e2 : o.lis = some ds := by
      unfold O.seq at e
      split at e
      · rename_i es
        exact absurd ⟨es, rfl⟩ ht
      · exact e
    exact .inl (lis_rep s h e2)
theorem oc_list : OpC1 K (fun xs H Q => ∃ p ys, xs = [.ref p] ∧ (SqL K H p ys ∨ SqT K H p ys) ∧ ∀ l, H l = none → Q (.ref l) (upd H l (.lst ys))) fList := fun S H x o1 F1 Qp Q s h1 hf yl => by
  unfold fList at hf
  split at hf
  · rename_i ds e
    rcases seq_cases s h1 e with ⟨a, xs, ev, q, r⟩ | ⟨a, xs, ev, q, r, _⟩
    · exact ⟨a, xs, by rw [ev], .inl q, fun l nl => yl.own s nl r hf⟩
    · exact ⟨a, xs, by rw [ev], .inr q, fun l nl => yl.own s nl r hf⟩
  · exact hf.elim
theorem oc_tuple : OpC1 K (fun xs H Q => ∃ p ys, xs = [.ref p] ∧ ((SqL K H p ys ∧ ∀ l, H l = none → Q (.ref l) (upd H l (.tup ys))) ∨ (SqT K H p ys ∧ Q (.ref p) H))) fTuple := fun S H x o1 F1 Qp Q s h1 hf yl => by
  unfold fTuple at hf
  split at hf
  · rename_i ds e
    rcases seq_cases s h1 e with ⟨a, xs, ev, q, r⟩ | ⟨a, xs, ev, q, r, eo⟩
    · exact ⟨a, xs, by rw [ev], .inl ⟨q, fun l nl => yl.tup s nl r hf⟩⟩
    · refine ⟨a, xs, by rw [ev], .inr ⟨q, ?_⟩⟩
      subst eo
      rw [← ev]
      exact yl.d s (d_rp h1) hf
  · exact hf.elim
end
/-! ### isinstance(x, T), T a built-in type -/
def D.ty : D → String
  | .non => "NoneType"
  | .bl _ => "bool"
  | .int _ => "int"
  | .str _ => "str"
  | .tup _ => "tuple"
  | .lst _ => "list"
  | .kst _ => "list"
  | .dic _ => "dict"
  | .fn _ => "function"
  | .exc _ _ _ _ _ => "function"
def O.ty : O → String
  | .d x => x.ty
  | .own _ => "list"
  | .dct _ => "dict"
def isIn (a T : String) : Bool := decide (a = T) || (decide (a = "bool") && decide (T = "int"))
@[simp] def pIsi (T : String) (t : PTE) : PTE := fun env Q E => t env (fun o env' => o.ty ≠ "function" ∧ Q (.d (.bl (isIn o.ty T))) env') E
theorem tyX_of {K : PySem.W.Frag} {S H : Hp} (s : Sub S H) {o : O} {v : V} {F : List Addr} (h : RepO K S H o v F) (hf : o.ty ≠ "function") : TyX K H v (.type o.ty) := by
  cases o with
  | d d =>
    have r := d_rp h
    cases d with
    | non => simp only [Rp] at r; rw [r]; exact .base .non
    | bl b => simp only [Rp] at r; rw [r]; exact .base (.bl b)
    | int b => simp only [Rp] at r; rw [r]; exact .base (.int b)
    | str b => simp only [Rp] at r; rw [r.1]; exact .base (.str _)
    | tup ds =>
      simp only [Rp] at r
      obtain ⟨a, xs, e, q, _⟩ := r
      rw [e]
      rcases q with (q | ⟨ob, q⟩) | ⟨ob, its, n, q, c, _⟩
      · exact .base (.tup (s a _ q))
      · exact .fTuple (s a _ q)
      · exact .kTuple q c
    | lst ds =>
      simp only [Rp] at r
      obtain ⟨a, xs, e, q, _⟩ := r
      rw [e]
      exact .base (.lst (s a _ q))
    | kst ds =>
      simp only [Rp] at r
      obtain ⟨a, xs, e, q, _⟩ := r
      rw [e]
      rcases q with (q | ⟨ob, q⟩) | ⟨ob, its, n, q, c, _⟩
      · exact .base (.lst (s a _ q))
      · exact .base (.frz (s a _ q))
      · exact .kList q c
    | dic ds =>
      simp only [Rp] at r
      obtain ⟨a, xs, e, q, _⟩ := r
      rw [e]
      exact .base (.dK (s a _ q))
    | fn a => exact absurd rfl hf
    | exc a d c f x => exact absurd rfl hf
  | own os =>
    obtain ⟨a, xs, G, e, q, _⟩ := own_rep h
    rw [e]
    exact .base (.lst q)
  | dct kvs =>
    simp only [RepO] at h
    obtain ⟨a, xs, G, e, q, _⟩ := h
    rw [e]
    exact .base (.dK q)
def okTy (T : String) : Bool := ["NoneType", "bool", "int", "str", "tuple", "list", "dict"].all fun a => decide (kitB a T = some (isIn a T))
theorem o_ty_in (o : O) (h : o.ty ≠ "function") : o.ty ∈ (["NoneType", "bool", "int", "str", "tuple", "list", "dict"] : List String) := by
  cases o with
  | d d => cases d <;> first | exact absurd rfl h | simp [O.ty, D.ty]
  | own _ => simp [O.ty]
  | dct _ => simp [O.ty]
theorem sim_isi {K : PySem.W.Frag} {W : WX} {b w : Bool} {T : String} {ta : TE} {pa : PTE} (hT : okTy T = true) (ha : SimE K W b w ta pa) : SimE K W b false (tCB (rIsi K) (tCons ta (tCons (tC (.ty T)) tNil))) (pIsi T pa) := fun σ H S env Fs Qp Ep Q hs ht k x =>
  ha σ H S env Fs _ _ _ hs ht (fun v o F H1 S1 env1 Fs1 n1 c1 q1 => by
    have hk := of_decide_eq_true (List.all_eq_true.mp hT _ (o_ty_in o q1.1))
    exact ⟨v, .ty T, .type o.ty, .type T, _, rfl, .ty T, tyX_of n1.st.sub c1.rep q1.1, kit_ty hk, (yields_of n1 k).d n1.st.sub rp_bl q1.2⟩) x
theorem okTy_str : okTy "str" = true := by decide +kernel
theorem okTy_int : okTy "int" = true := by decide +kernel
theorem okTy_bool : okTy "bool" = true := by decide +kernel
theorem okTy_tuple : okTy "tuple" = true := by decide +kernel
theorem okTy_list : okTy "list" = true := by decide +kernel
theorem okTy_dict : okTy "dict" = true := by decide +kernel
end DL
end

section
set_option Elab.async false
set_option linter.all false
set_option maxRecDepth 100000
set_option maxHeartbeats 2000000
namespace DL
open PySem PySem.Spec L2 PyProof.Rows

/-! ### own exceptions with one field: class C: def __init__(self, f): self.f = f -/
def spI (C : Addr) (fld : Str) : Sp := fun vs H Q _ => ∃ a v, vs = [.ref a, v] ∧ H a = some (exo a C none) ∧ ∀ dx, H dx = none → dx ≠ a → Q .non (upd (upd H dx (exd dx [(fld, v)])) a (exo a C (some dx)))
/-- what the written part says of such a class -/
structure XCls (K : PySem.W.Frag) (name fld : Str) (fI : Addr) : Prop where
  oex : OexC K (He.ga K name)
  xf : XfC K (He.ga K name)
  no : PySem.W.findIn K (.ref (He.ga K name)) fld = some none
  iC : PySem.W.findIn K (.ref (He.ga K name)) "__init__" = some (some (.ref fI))
  tI : PySem.W.typeIn K (.ref fI) = some (.type "function")
theorem init_ok {P : Program} {w : World} {K : PySem.W.Frag} {mg : Str → Option Value} {base : Heap} {name qual fld : Str} {st : Stmt} {f : Addr} {fd : FuncData} {fI : Addr} (F : Fun K "__init__" qual st f fd) (T : XCls K name fld fI)
    (S : FnScope ["self", fld] ["self", fld] (defScope st)) (hb : ∀ (cdv : Value) (A : Around) (outer : List PySem.Env) (s : Shared) (H : Hp) (E : XK), PSs (cxOf CX0 P w K mg base ["self", fld] qual (defScope st) f cdv A outer s H E).nox (defBody st) (tOst K fld (tVar 0) (tVar 1))) :
    FnOk P w K mg base CX0 1 f fd ["self", fld] (spI (He.ga K name) fld) := by
  refine F.ok S (fun vs H Q E h => ?_) (fun cdv A outer s H vs Q E hr h => ⟨_, hb cdv A outer s H E, ?_⟩)
  · obtain ⟨a, v, e, _⟩ := h
    rw [e]; rfl
  · obtain ⟨a, v, e, ha, k⟩ := h
    subst e
    exact ⟨v, rfl, .ref a, rfl, a, He.ga K name, rfl, T.oex, T.no, .inl ⟨ha, fun dx n ne => k dx n ne⟩⟩
/-- raise C(e) -/
def tRaise1 (C : Addr) (fld : Str) (W : WX) (te : TE) : TS := fun _ σ H => tMkO C (spI C fld) [] (tCons te tNil) σ H fun cls d H' => W cls d σ H'
@[simp] def pRaise (cls fld : Str) (t : PTE) : PTS := fun De env => t env (fun o env' => match o with
  | .d x => De.ex ⟨cls, fld, x⟩ env'
  | _ => False) De.ex
theorem ps_raise1 {X : Cx} {W : WX} {x fld : Str} {fI : Addr} {fd : FuncData} {p pos pos2 : Pos} {e : Expr} {te : TE} (hc : X.calm = true) (tk : Takes X W) (T : XCls X.K x fld fI) (F : FnOk X.prog X.w X.K X.mg X.base CX0 1 fI fd ["self", fld] (spI (He.ga X.K x) fld))
    (hr : Room 2 X.A) (hb : Binds X.K fd ["self", fld] []) (hg : Gl X x) (hm : X.mg x = some (.ref (He.ga X.K x))) (ha : PE X e te)
    (hdb : (x == ("__debug__" : Str)) = false := by decide) (hs : starEach (e :: []) X.env = (false, eval e X.env) :: starEach [] X.env := by rfl) (hpl : (backTo pos (starEach [] X.env)).any (·.1) = false := by rfl) :
    PS X (.Raise (some (.Call (.Name x p) [e] [] pos)) none pos2) (tRaise1 (He.ga X.K x) fld W te) :=
  ps_raise hc tk (pmk_oex T.oex T.iC T.tI F hr hb .nil pass0 hg hm (pa_cons ha pa_nil hs) hdb hs hpl)
theorem sim_raise1 {K : PySem.W.Frag} {W : WX} {b w : Bool} {pins : List Nat} {x fld : Str} {te : TE} {t : PTE} (h : SimE K W b w te t) : SimS K W pins (tRaise1 (He.ga K x) fld W te) (pRaise x fld t) := fun σ H S env Fs De D hs ht nx rt bk ct xc =>
  h σ H S env Fs _ _ _ hs ht (fun v o F H1 S1 env1 Fs1 n c q => by
    split at q
    · rename_i d
      refine ⟨by simp, fun a na => ⟨a, v, rfl, upd_same, fun dx ndx ne => ?_⟩⟩
      rw [upd_ne ne] at ndx
      refine ⟨rfl, dx, [(fld, v)], upd_same, ?_, ndx, ?_⟩
      · rw [upd_ne ne, upd_same]
      · have eh : upd (del (upd (upd (upd H1 a (exo a (He.ga K x) none)) dx (exd dx [(fld, v)])) a (exo a (He.ga K x) (some dx))) a) dx (.xd [(fld, v)]) = upd H1 dx (.xd [(fld, v)]) := by
          funext c
          by_cases e1 : c = dx
          · rw [e1, upd_same, upd_same]
          · rw [upd_ne e1, upd_ne e1]
            by_cases e2 : c = a
            · rw [e2, del_same, na]
            · rw [del_ne e2, upd_ne e2, upd_ne e1, upd_ne e2]
        rw [eh]
        have hS : S1 dx = none := by
          cases e : S1 dx with
          | none => rfl
          | some o => rw [n.st.sub dx o e] at ndx; cases ndx
        have ex : Ext (fun _ => False) S1 H1 S1 (upd H1 dx (.xd [(fld, v)])) := ⟨Sub.refl _, fun c u h _ => by rw [upd_ne (ne_of_none h ndx)]; exact h, fun c h => by
          by_cases z : c = dx
          · rw [z]; exact ndx
          · rw [upd_ne z] at h; exact h, fun c h _ _ => h⟩
        have sb : Sub S1 (upd H1 dx (.xd [(fld, v)])) := fun c u h => by rw [upd_ne (ne_of_none (n.st.sub c u h) ndx)]; exact n.st.sub c u h
        exact xc ⟨x, fld, d⟩ dx v σ _ S1 env1 Fs1 (n.trans (Nx.new (b := false) n.st ex sb)).s upd_same (n.ext.there dx ndx) hS (fun z => n.st.own dx z ndx) c.rp q
    · exact q.elim) xc.e
/-! ### try: .. except C as n: suite -/
@[simp] def endsSuite (De : PEnds) (i : Nat) : PEnds := ⟨fun env => De.nx (env.set i none), De.rt, fun env => De.bk (env.set i none), fun env => De.ct (env.set i none), fun _ _ => False⟩
@[simp] def pTryAs (L : List Str) (c : Str) (i : Nat) (body : PTS) (suite : Addr → Addr → PTS) : PTS := fun De env => body { De with ex := fun x env' => x.cls ∈ L ∧ if x.cls = c then ∀ a d, suite a d (endsSuite De i) (env'.set i (some (.d (.exc a d x.cls x.fld x.val)))) else De.ex x env' } env
/-- how the classes' names are told apart -/
def ExM (K : PySem.W.Frag) (L : List Str) (c : Str) : Prop := ∀ x ∈ L, PySem.W.exmOne K (.ref (He.ga K x)) (.ref (He.ga K c)) = some (decide (x = c))
section
variable {K : PySem.W.Frag} {W : WX} {b w : Bool} {pins : List Nat} {i : Nat}
theorem NxS.none {σ0 σ : L2.St} {H0 S0 H S : Hp} {Fs0 Fs : Nat → List Addr} {env : Env} (n : NxS K pins σ0 H0 S0 Fs0 σ H S env Fs) (hp : i ∉ pins) : NxS K pins σ0 H0 S0 Fs0 (σ.set i none) H S (env.set i none) (put Fs i []) :=
  ⟨n.ext, n.st.dropσ, fun a h => n.fr a (own_dropped h), fun j hj => by rw [List.getElem?_set_ne (fun z => hp (by rw [z]; exact hj))]; exact n.pin j hj⟩
theorem sim_try_as {L : List Str} {c : Str} {tb : WX → TS} {ts : Addr → Value → Option Addr → TS} {pb : PTS} {ps : Addr → Addr → PTS} (hm : ExM K L c) (hp : i ∉ pins) (hb : ∀ W, SimS K W pins (tb W) pb) (hs : ∀ a d, SimS K (fun _ _ _ _ => False) pins (ts a (.ref (He.ga K c)) (some d)) (ps a d)) :
    SimS K W pins (fun D σ H => tb (wAs K (.ref (He.ga K c)) i ts W D) D σ H) (pTryAs L c i pb ps) := fun σ H S env Fs De D hst ht nx rt bk ct xc =>
  hb _ σ H S env Fs { De with ex := fun x env' => x.cls ∈ L ∧ if x.cls = c then ∀ a d, ps a d (endsSuite De i) (env'.set i (some (.d (.exc a d x.cls x.fld x.val)))) else De.ex x env' } D hst ht nx rt bk ct fun x d v σ' H' S' env' Fs' n hd fd sd od rv hx => by
    obtain ⟨hL, hx⟩ := hx
    refine ⟨_, hm x.cls hL, fun e a na => ?_, fun e => ?_⟩
    · have ec := of_decide_eq_true e
      rw [if_pos ec] at hx
      rw [ec]
      -- the exception's dict becomes part of S
      have hF : ∀ c ∈ [d], S' c = none := fun c hc => by rw [List.mem_singleton.mp hc]; exact sd
      have hO : ∀ c ∈ [d], ¬ Own Fs' c := fun c hc => by rw [List.mem_singleton.mp hc]; exact od
      have n2 : NxS K pins σ H S Fs σ' H' (addS S' H' [d]) env' Fs' := ⟨n.ext.trans (Ext.grow (P := fun c => c = d) hF fun c hc => .inl (List.mem_singleton.mp hc)) fun c hc => .inr (by rw [hc]; exact fd), n.st.grow hF hO, n.fr, n.pin⟩
      have rv2 : Rp K (addS S' H' [d]) (.exc a d x.cls x.fld x.val) (.ref a) := by
        simp only [Rp]
        exact ⟨trivial, v, by rw [addS_at (by simp)]; exact hd, Rp.mono (addS_sub hF) _ _ rv⟩
      obtain ⟨Fs3, n3⟩ := n2.set (i := i) (Val.data rv2) hp
      refine (hs a d).from n3 (hx a d) (fun σ4 H4 S4 env4 Fs4 n4 q => nx _ H4 S4 _ _ (n4.none hp) q) (fun v o F σ4 H4 S4 env4 Fs4 n4 c q => rt v o F σ4 H4 S4 env4 Fs4 n4 c q) (fun σ4 H4 S4 env4 Fs4 n4 q => bk _ H4 S4 _ _ (n4.none hp) q) (fun σ4 H4 S4 env4 Fs4 n4 q => ct _ H4 S4 _ _ (n4.none hp) q)
        (fun _ _ _ _ _ _ _ _ _ _ _ _ _ _ z => z.elim)
    · have ec := of_decide_eq_false e
      rw [if_neg ec] at hx
      exact xc x d v σ' H' S' env' Fs' n hd fd sd od rv hx
/-- n.f in the suite of «except c as n», n in slot i, of the exception that was caught -/
@[simp] def pXf (a d : Addr) (c f : Str) (i : Nat) : PTE := fun env Q _ => match env[i]? with
  | some (some (.d (.exc a' d' c' g x))) => a' = a ∧ d' = d ∧ c' = c ∧ g = f ∧ Q (.d x) env
  | _ => False
theorem sim_xf {c f : Str} {a d : Addr} : SimE K W false false (tXf a (.ref (He.ga K c)) (some d) (He.ga K c) f (tVar i)) (pXf a d c f i) := fun σ H S env Fs Qp Ep Q hs ht k x => by
  unfold pXf at ht
  split at ht
  · rename_i a' d' c' g y ho
    obtain ⟨e1, e2, e3, e4, q⟩ := ht
    subst e1 e2 e3 e4
    obtain ⟨v, ev, r⟩ := hs.rep i _ ho
    have r1 := d_rp r
    simp only [Rp] at r1
    obtain ⟨e5, u, hd, ru⟩ := r1
    exact ⟨v, ev, e5, rfl, _, _, u, rfl, hs.sub _ _ hd, by simp [List.lookup], k u _ [] H S env Fs (Nx.refl hs) (Val.data ru) q⟩
  · exact ht.elim
end
end DL
end

section
set_option Elab.async false
set_option linter.all false
set_option maxRecDepth 100000
set_option maxHeartbeats 2000000
namespace DL
open PySem PySem.Spec L2 PyProof.Rows

/-! ### x[i] = e -/
section
variable {K : PySem.W.Frag} {S H : Hp}
theorem RepL.set_ : ∀ {os : List O} {xs : List V} {F : List Addr} (m : Nat) {o : O} {v : V} {G : List Addr}, RepL K S H os xs F → RepO K S H o v G → Disj F G → ∃ F', RepL K S H (os.set m o) (xs.set m v) F' ∧ ∀ c ∈ F', c ∈ F ∨ c ∈ G
  | [], xs, F, m, o, v, G, h, q, dj => by
    simp only [RepL] at h
    rw [h.1, h.2]
    exact ⟨[], by simp only [List.set_nil, RepL]; exact ⟨trivial, trivial⟩, fun c hc => absurd hc (by simp)⟩
  | p :: os, xs, F, m, o, v, G, h, q, dj => by
    simp only [RepL] at h
    obtain ⟨u, r, F1, F2, e, ef, d1, q1, t⟩ := h
    subst e ef
    cases m with
    | zero =>
      refine ⟨G ++ F2, ?_, fun c hc => (List.mem_append.mp hc).elim .inr fun z => .inl (List.mem_append_right _ z)⟩
      simp only [List.set_cons_zero, RepL]
      exact ⟨v, r, G, F2, rfl, rfl, fun a ha hb => dj a (List.mem_append_right _ hb) ha, q, t⟩
    | succ m =>
      obtain ⟨F', r', hF'⟩ := RepL.set_ m t q fun a ha => dj a (List.mem_append_right _ ha)
      refine ⟨F1 ++ F', ?_, fun c hc => (List.mem_append.mp hc).elim (fun z => .inl (List.mem_append_left _ z)) fun z => (hF' c z).elim (fun y => .inl (List.mem_append_right _ y)) .inr⟩
      simp only [List.set_cons_succ, RepL]
      exact ⟨u, _, F1, F', rfl, rfl, fun a ha hb => (hF' a hb).elim (d1 a ha) (dj a (List.mem_append_left _ ha)), q1, r'⟩
end
@[simp] def pSetItem (i : Nat) (idx val : PTE) : PTS := fun De env => val env (fun o env1 => isOwn env1 i ∧ idx env1 (fun k env2 => withOwn env2 i fun xs => match k with
  | .d (.int j) => match ixN xs.length j with
    | some m => De.nx (env2.set i (some (.own (xs.set m o))))
    | none => False
  | _ => False) De.ex) De.ex
section
variable {K : PySem.W.Frag} {W : WX} {b b1 b2 w w1 w2 : Bool} {pins : List Nat} {i j n : Nat}
theorem sim_setL {te ti : TE} {t u : PTE} (hv : SimE K W b1 false te t) (hi : SimE K W b2 w ti u) : SimS K W pins (tAsg te (gSub (tVar i) ti rSetL)) (pSetItem i u t) := fun σ H S env Fs De D hs ht nx rt bk ct x =>
  hv σ H S env Fs _ _ _ hs ht (fun v o F H1 S1 env1 Fs1 n1 c1 q1 => by
    obtain ⟨h0, q1⟩ := q1
    obtain ⟨a, ev, ty⟩ := n1.st.tyL h0
    refine ⟨_, ev, hi σ H1 S1 env1 Fs1 _ _ _ n1.st q1 (fun k ok Fk H2 S2 env2 Fs2 n2 c2 q2 => ?_) (x.e.on n1)⟩
    obtain ⟨os, e, q2⟩ := withOwn_iff q2
    have n12 := n1.trans n2
    obtain ⟨a', xs, G, ev', hx, ef, rl, m⟩ := n12.mut e
    obtain rfl : a = a' := by rw [ev] at ev'; cases ev'; rfl
    split at q2
    · rename_i jj _
      split at q2
      · rename_i mm em
        have rk := c2.rp
        simp only [Rp] at rk
        have c := c1.on n2 fun z => by cases z
        have dj : Disj G F := fun z hz hf => c.own rfl z hf ⟨i, by rw [ef]; exact List.mem_cons_of_mem _ hz⟩
        obtain ⟨F', r', hF'⟩ := rl.set_ mm c.rep dj
        have m1 := m (os.set mm o) (xs.set mm v) F' r' fun z hz => (hF' z hz).elim .inl fun y => .inr ⟨c.own rfl z y, c.nos z y, c.fr z y⟩
        rw [← rl.length] at em
        exact ⟨a, xs, jj, mm, rfl, rk, hx, em, nx σ _ S2 _ _ m1.s q2⟩
      · exact q2.elim
    · exact q2.elim) x.e

/-! ### x op= e -/
@[simp] def pAug (i : Nat) (f : PR2) (t : PTE) : PTS := fun De env => match env[i]? with
  | some (some (.d x)) => t env (fun y env1 => f (.d x) y fun z => De.nx (env1.set i (some z))) De.ex
  | _ => False
theorem sim_aug {te : TE} {t : PTE} {ti : TIp} {f : PR2} (ho : Op2 K ti f) (h : SimE K W b w te t) (hp : i ∉ pins) : SimS K W pins (tAug i te ti) (pAug i f t) := fun σ H S env Fs De D hs ht nx rt bk ct x => by
  unfold pAug at ht
  split at ht
  · rename_i d hd
    obtain ⟨v, ev, r⟩ := hs.rep i _ hd
    refine ⟨v, ev, h σ H S env Fs _ _ _ hs ht (fun y o F H1 S1 env1 Fs1 n c q => ?_) x.e⟩
    have rv : RepO K S1 H1 (.d d) v [] := by
      simp only [RepO]
      exact ⟨Rp.mono n.ext.sub _ _ (d_rp r), trivial⟩
    refine ho S1 H1 v y _ _ _ _ _ _ n.st.sub rv c.rep q fun z oz Fz H2 S2 e sb rz fz nz qz => ?_
    have n2 := n.trans (Nx.new (b := false) n.st e sb)
    obtain ⟨Fs', n3⟩ := (n2.s (pins := pins)).set (i := i) (F := Fz) ⟨rz, nz, fun a ha => .inr (n.ext.there a (fz a ha)), fun _ a ha y => n.st.own a y (fz a ha)⟩ hp
    exact nx _ H2 S2 _ Fs' n3 qz
  · exact ht.elim
theorem o2_ipI {f : Int → Int → Int} : Op2 K (ipI f) (fI0 fun i j => .int (f i j)) := o2_I0 (g := fun i j => .int (f i j)) fun _ _ _ => rp_int
@[simp] def fIadd : PR2 := fI0 fun i j => .int (i + j)
@[simp] def fIsub : PR2 := fI0 fun i j => .int (i - j)
theorem o2_iadd : Op2 K (ipI fun i j => i + j) fIadd := o2_ipI
theorem o2_isub : Op2 K (ipI fun i j => i - j) fIsub := o2_ipI

/-! ### a, b = e, f -/
@[simp] def pPar (i j : Nat) (u : PTL) : PTS := fun De env => u env (fun os env' => match os with
  | [x, y] => De.nx ((env'.set i (some x)).set j (some y))
  | _ => False) De.ex
theorem sim_par {ta : TA} {u : PTL} (h : SimL K W b n ta u) (hi : i ∉ pins) (hj : j ∉ pins) : SimS K W pins (tPar i j ta) (pPar i j u) := fun σ H S env Fs De D hs ht nx rt bk ct x =>
  h σ H S env Fs _ _ _ hs ht (fun vs os F H1 S1 env1 Fs1 n1 c hl q => by
    split at q
    · rename_i o1 o2
      have r := c.rep
      simp only [RepL] at r
      obtain ⟨v, t, F1, F2, e, ef, d1, r1, w, t2, F3, F4, e2, ef2, d2, r2, e3, e4⟩ := r
      subst e3 e4 e2
      rw [List.append_nil] at ef2
      subst ef2
      subst e ef
      refine ⟨v, w, rfl, ?_⟩
      by_cases hlt : i < env1.length
      · have s1 := n1.st.set hlt r1 (fun a ha => c.nos a (List.mem_append_left _ ha)) (fun a ha => c.own a (List.mem_append_left _ ha))
        have n2 : NxS K pins σ H S Fs (σ.set i (some v)) H1 S1 (env1.set i (some o1)) (put Fs1 i F1) := ⟨(n1.s (pins := pins)).ext, s1, fun a ha => (own_put ha).elim (n1.fr a) fun z => c.fr a (List.mem_append_left _ z), fun l hl => by rw [List.getElem?_set_ne (fun z => hi (by rw [z]; exact hl))]⟩
        obtain ⟨Fs', n3⟩ := n2.set (i := j) (F := F2) ⟨r2, fun a ha => c.nos a (List.mem_append_right _ ha), fun a ha => c.fr a (List.mem_append_right _ ha), fun _ a ha z => (own_put z).elim (c.own a (List.mem_append_right _ ha)) fun y => d1 a y ha⟩ hj
        exact nx _ H1 S1 _ Fs' n3 q
      · have e5 : σ.set i (some v) = σ := set_ge (by rw [n1.st.len]; omega)
        have e6 : env1.set i (some o1) = env1 := set_ge (by omega)
        rw [e5]
        rw [e6] at q
        obtain ⟨Fs', n3⟩ := (n1.s (pins := pins)).set (i := j) (F := F2) ⟨r2, fun a ha => c.nos a (List.mem_append_right _ ha), fun a ha => c.fr a (List.mem_append_right _ ha), fun _ a ha z => c.own a (List.mem_append_right _ ha) z⟩ hj
        exact nx _ H1 S1 _ Fs' n3 q
    · exact q.elim) x.e

/-! ### text.index(text) -/
abbrev rSIndex : V → List V → Hp → VK → Prop := fun x xs H Q => ∃ a b i rest, x = .str a ∧ xs = [.str b] ∧ Builtin.Str.occurrences a b 0 a.length 1 = i :: rest ∧ Q (.int (i : Nat)) H
@[simp] def pSIndex (t u : PTE) : PTE := fun env Q E => t env (fun o env1 => match o with
  | .d (.str z) => u env1 (fun o2 env2 => match o2 with
    | .d (.str y) => ∃ i rest, Builtin.Str.occurrences ⟨z.toArray⟩ ⟨y.toArray⟩ 0 z.length 1 = i :: rest ∧ Q (.d (.int (i : Nat))) env2
    | _ => False) E
  | _ => False) E
theorem sim_sindex {te tf : TE} {t u : PTE} (h1 : SimE K W b1 w1 te t) (h2 : SimE K W b2 w2 tf u) : SimE K W (b1 || b2) false (tBM K "str" rSIndex te (tCons tf tNil)) (pSIndex t u) := fun σ H S env Fs Qp Ep Q hs ht k x =>
  h1 σ H S env Fs _ _ _ hs ht (fun v o F H1 S1 env1 Fs1 n1 c1 q1 => by
    split at q1
    · rename_i z
      have r1 := c1.rp
      simp only [Rp] at r1
      rw [r1.1]
      refine ⟨rfl, h2 σ H1 S1 env1 Fs1 _ _ _ n1.st q1 (fun v2 o2 F2 H2 S2 env2 Fs2 n2 c2 q2 => ?_) (x.on n1)⟩
      split at q2
      · rename_i y
        obtain ⟨i, rest, e, q2⟩ := q2
        have r2 := c2.rp
        simp only [Rp] at r2
        exact ⟨_, _, i, rest, rfl, by rw [r2.1], by rw [str_len]; exact e, k _ _ [] H2 S2 env2 Fs2 (n1.trans n2) (Val.data rp_int) q2⟩
      · exact q2.elim
    · exact q1.elim) x
end

/-! ### dicts -/
@[simp] def D.key : D → Option Key
  | .int i => some (.inl i)
  | .str s => some (.inr ⟨s.toArray⟩)
  | _ => none
theorem key_rep {K : PySem.W.Frag} {S : Hp} {d : D} {v : V} {k : Key} (h : Rp K S d v) (e : d.key = some k) : v = kV k := by
  cases d with
  | int i => cases e; simp only [Rp] at h; exact h
  | str s => cases e; simp only [Rp] at h; exact h.1
  | _ => cases e
def lk {α : Type} (kvs : List (Key × α)) (k : Key) : Option α := (kvs.find? fun kv => decide (kv.1 = k)).map (·.2)
theorem lk_rep {K : PySem.W.Frag} {S : Hp} {k : Key} : ∀ {kvs : List (Key × D)} {ps : List (Key × V)}, RpK K S kvs ps → (∀ d, lk kvs k = some d → ∃ v, valV ps k = some v ∧ Rp K S d v) ∧ (lk kvs k = none → valV ps k = none)
  | [], ps, h => by
    simp only [RpK] at h
    subst h
    exact ⟨fun d e => (by cases e), fun _ => rfl⟩
  | (k', d) :: kvs, ps, h => by
    simp only [RpK] at h
    obtain ⟨v, r, e, q, t⟩ := h
    subst e
    obtain ⟨i1, i2⟩ := lk_rep (k := k) t
    unfold lk valV at *
    by_cases z : k' = k
    · simp only [List.find?_cons, decide_eq_true z, Option.map_some]
      exact ⟨fun d2 e => (by cases e; exact ⟨v, rfl, q⟩), fun e => (by cases e)⟩
    · simp only [List.find?_cons, decide_eq_false z]
      exact ⟨i1, i2⟩
def flatK : List (Key × O) → Option (List (Key × D))
  | [] => some []
  | (k, .d x) :: r => (flatK r).map ((k, x) :: ·)
  | _ :: _ => none
@[simp] theorem flatK_map (ds : List (Key × D)) : flatK (ds.map fun p => (p.1, O.d p.2)) = some ds := by
  induction ds with
  | nil => rfl
  | cons d r ih => obtain ⟨k, d⟩ := d; simp [flatK, ih]
theorem repK_flat {K : PySem.W.Frag} {S H : Hp} : ∀ {os : List (Key × O)} {ds : List (Key × D)} {ps : List (Key × V)} {F : List Addr}, flatK os = some ds → RepK K S H os ps F → RpK K S ds ps ∧ F = []
  | [], ds, ps, F, e, h => by
    cases e
    simp only [RepK] at h
    simp only [RpK]
    exact h
  | (k, .d x) :: os, ds, ps, F, e, h => by
    unfold flatK at e
    cases e1 : flatK os with
    | none => rw [e1] at e; cases e
    | some l =>
      rw [e1] at e
      have ed : ds = (k, x) :: l := (Option.some.inj e).symm
      subst ed
      simp only [RepK, RepO] at h
      obtain ⟨v, r, F1, F2, ep, ef, dj, ⟨q, e2⟩, t⟩ := h
      obtain ⟨r1, e3⟩ := repK_flat e1 t
      simp only [RpK]
      exact ⟨⟨v, r, ep, q, r1⟩, by rw [ef, e2, e3]; rfl⟩
  | (k, .own _) :: os, _, _, _, e, _ => by cases e
  | (k, .dct _) :: os, _, _, _, e, _ => by cases e
/-- the entries of a dict, read -/
@[simp] def O.kvs : O → Option (List (Key × D))
  | .d (.dic l) => some l
  | .dct l => flatK l
  | _ => none
theorem kvs_rep {K : PySem.W.Frag} {S H : Hp} (s : Sub S H) {o : O} {l : List (Key × D)} {v : V} {F : List Addr} (h : RepO K S H o v F) (e : o.kvs = some l) : ∃ a ps, v = .ref a ∧ H a = some (.dK ps) ∧ RpK K S l ps := by
  cases o with
  | d x =>
    have r := d_rp h
    cases x with
    | dic l2 =>
      cases e
      simp only [Rp] at r
      obtain ⟨a, ps, e1, q, r1⟩ := r
      exact ⟨a, ps, e1, s a _ q, r1⟩
    | _ => cases e
  | own _ => cases e
  | dct l2 =>
    simp only [RepO] at h
    obtain ⟨a, ps, G, e1, q, ef, ng, r⟩ := h
    exact ⟨a, ps, e1, q, (repK_flat e r).1⟩
/-- d.get(k, x) -/
@[simp] def pDGet2 (t u w : PTE) : PTE := fun env Q E => t env (fun o env1 => o.kvs.isSome = true ∧ u env1 (fun k env2 => w env2 (fun x env3 => match o.kvs, k, x with
  | some l, .d kd, .d xd => match kd.key with
    | some key => Q (.d ((lk l key).getD xd)) env3
    | none => False
  | _, _, _ => False) E) E) E
section
variable {K : PySem.W.Frag} {W : WX} {b b1 b2 b3 w w1 w2 w3 : Bool}
theorem sim_dget2 {te tf tg : TE} {t u p : PTE} (h1 : SimE K W b1 w1 te t) (h2 : SimE K W b2 w2 tf u) (h3 : SimE K W b3 w3 tg p) (hc : w1 = true → (b2 || b3) = false) : SimE K W (b1 || (b2 || b3)) false (tDGet2 te tf tg) (pDGet2 t u p) := fun σ H S env Fs Qp Ep Q hs ht k x =>
  h1 σ H S env Fs _ _ _ hs ht (fun v o F H1 S1 env1 Fs1 n1 c1 q1 => by
    obtain ⟨e0, q1⟩ := q1
    cases el : o.kvs with
    | none => rw [el] at e0; cases e0
    | some l =>
      obtain ⟨a, ps, ev, hp, r⟩ := kvs_rep n1.st.sub c1.rep el
      refine ⟨a, ev, .inl ⟨ps, .inl hp⟩, h2 σ H1 S1 env1 Fs1 _ _ _ n1.st q1 (fun y oy Fy H2 S2 env2 Fs2 n2 c2 q2 => h3 σ H2 S2 env2 Fs2 _ _ _ n2.st q2 (fun z oz Fz H3 S3 env3 Fs3 n3 c3 q3 => ?_) (x.on (n1.trans n2))) (x.on n1)⟩
      have c1' := c1.on (n2.trans n3) hc
      have c2' : Rp K S3 oy.frz y ∨ True := .inr trivial
      rw [el] at q3
      split at q3
      · rename_i l2 kd xd e2
        cases e2
        split at q3
        · rename_i key ek
          obtain ⟨a', ps', ev', hp', r'⟩ := kvs_rep n3.st.sub c1'.rep el
          rw [ev] at ev'
          cases ev'
          have rk := Rp.mono n3.ext.sub _ _ c2.rp
          have rx := c3.rp
          have ey := key_rep rk ek
          subst ey
          obtain ⟨i1, i2⟩ := lk_rep (k := key) r'
          have fin : ∀ u d, Rp K S3 d u → d = (lk l key).getD xd → Q u H3 := fun u d hr hd => k u (.d d) [] H3 S3 env3 Fs3 (n1.trans (n2.trans n3)) (Val.data hr) (by rw [hd]; exact q3)
          refine ⟨valV ps' key, DGet.k hp', ?_⟩
          cases e4 : lk l key with
          | none =>
            rw [i2 e4]
            exact fin z xd rx (by rw [e4]; rfl)
          | some d =>
            obtain ⟨u, hu, ru⟩ := i1 d e4
            rw [hu]
            exact fin u d ru (by rw [e4]; rfl)
        · exact q3.elim
      · exact q3.elim) x
end
end DL
end

section
set_option Elab.async false
set_option linter.all false
set_option maxRecDepth 100000
set_option maxHeartbeats 2000000
namespace L2
open PySem PySem.Spec PyProof.Rows
/-! ### f(k = e, ..): keywords alone, put in the parameters' order by their places -/
@[simp] def pickL {α : Type} (idx : List Nat) (xs : List α) : List α := idx.filterMap (xs[·]?)
theorem pickL_vals {vs : List V} {us : List Value} (r : Vals vs us) : ∀ idx : List Nat, Vals (pickL idx vs) (pickL idx us)
  | [] => .nil
  | i :: idx => by
    have ih := pickL_vals r idx
    unfold pickL at *
    rw [List.filterMap_cons, List.filterMap_cons]
    cases e : vs[i]? with
    | none => rw [r.none_of e]; exact ih
    | some v =>
      obtain ⟨u, e2, rv⟩ := r.get e
      rw [e2]
      exact .cons rv ih
def tCallKS (sp : Sp) (idx : List Nat) (E : L2.St → XK) (tk : TA) : TE := fun σ H Q => tk σ H fun zs H1 => sp (pickL idx zs) H1 Q (E σ)
theorem pe_callKS {X : Cx} {CX : CXT} {k : Nat} {f : Addr} {fd : FuncData} {ps ks : List Str} {sp : Sp} {E : L2.St → XK} {x : Str} {p pos : Pos} {kws : List Keyword} {tk : TA} {idx : List Nat} (F : FnOk X.prog X.w X.K X.mg X.base CX k f fd ps sp) (hr : Room k X.A) (hg : Gl X x)
    (hm : X.mg x = some (.ref f)) (hk : PySem.W.keepIn X.K (.ref f) = true) (hb : ∀ (s : Shared) (ws : List Value), X.K.In s.heap → (pickL idx ws).length = ps.length → BindsTo s fd ⟨[], ks.zip ws⟩ (ps.zip (pickL idx ws)))
    (hx : ∀ σ, PassesAt CX X σ (E σ)) (hkw : PK X kws tk) (hall : (backToKw pos (keywordEach kws X.env)).all (·.1.isSome) = true := by rfl) (hks : (backToKw pos (keywordEach kws X.env)).filterMap (·.1) = ks := by rfl)
    (hdb : (x == ("__debug__" : Str)) = false := by decide) (hpl : ((backTo pos (starEach [] X.env)).any (·.1) || (backToKw pos (keywordEach kws X.env)).any (·.1.isNone)) = false := by rfl) :
    PE X (.Call (.Name x p) [] kws pos) (tCallKS sp idx E tk) := by
  constructor
  intro pins s σ H Q I h
  refine wpAny_Call_Name_kw (ld_glob I hg hm ?_ hdb)
  refine PySem.W.callWith_KW0 (h₀ := X.base) I.ok.mod.kin hk hall (thn (hkw.run pos pins s σ H _ I h) fun ws s1 q => ?_) hpl
  obtain ⟨zs, H1, I1, rz, q⟩ := q
  refine ⟨I1.kIn, ?_⟩
  rw [hks]
  have r2 := pickL_vals rz idx
  have hl : (pickL idx ws).length = ps.length := by rw [← r2.length]; exact F.len _ _ _ _ q
  refine wpAny_call (codeAny_mono (F.run X.A X.stack s1 H1 ⟨[], ks.zip ws⟩ (pickL idx ws) (pickL idx zs) Q (E σ) hr I1.env0 (hb s1 ws I1.kIn hl) r2 q) fun r s' hq => ?_)
  match r, hq with
  | .error e, hq => exact hx σ pins H1 s1 e s' I1 hq
  | .ok (.ret u), hq => exact I1.after hq
  | .ok .next, hq => exact hq.elim
  | .ok .brk, hq => exact hq.elim
  | .ok .cont, hq => exact hq.elim
end L2
namespace DL
open PySem PySem.Spec L2 PyProof.Rows
theorem pickL_rp {K : PySem.W.Frag} {S : Hp} {ds : List D} {vs : List V} (r : RpL K S ds vs) : ∀ idx : List Nat, RpL K S (pickL idx ds) (pickL idx vs)
  | [] => .nil
  | i :: idx => by
    have ih := pickL_rp r idx
    unfold pickL at *
    rw [List.filterMap_cons, List.filterMap_cons]
    cases e : ds[i]? with
    | none =>
      have e2 : vs[i]? = none := by
        cases e2 : vs[i]? with
        | none => rfl
        | some v =>
          obtain ⟨d, h, _⟩ := r.of_get e2
          rw [e] at h; cases h
      rw [e2]; exact ih
    | some d =>
      obtain ⟨v, e2, rv⟩ := r.get e
      rw [e2]
      exact .cons rv ih
@[simp] def pCallVK (sp : PSpV) (idx : List Nat) (u : PTA) : PTE := fun env Q E => u env (fun ds env' => sp (pickL idx ds) (fun o => Q o env') fun x => E x env') E
section
variable {K : PySem.W.Frag} {W : WX} {b b1 b2 b3 w w1 w2 w3 : Bool} {n : Nat}
theorem sim_callVK {ta : TA} {u : PTA} {sp : PSpV} {idx : List Nat} (h : SimA K W b n ta u) : SimE K W b false (tCallKS (spV K sp) idx (WE W) ta) (pCallVK sp idx u) := fun σ H S env Fs Qp Ep Q hs ht k x =>
  h σ H S env Fs _ _ _ hs ht (fun vs ds H1 S1 env1 Fs1 n1 r hl q => ⟨S1, pickL idx ds, _, _, n1.st.sub, pickL_rp r idx, q, yields_of n1 k, fun y d v H' S' e sb hd fd sd rv hx => x y d v H' S' env1 Fs1 ((n1.trans (Nx.new (b := false) n1.st e sb)).up) hd (n1.ext.there d fd) sd (fun z => n1.st.own d z fd) rv hx⟩) x
/-- a call within a comprehension: nothing is raised -/
@[simp] def pCallV0 (sp : PSpV) (u : PTA) : PTE := fun env Q E => u env (fun ds env' => sp ds (fun o => Q o env') fun _ => False) E
theorem sim_callV0 {ta : TA} {u : PTA} {sp : PSpV} (h : SimA K W b n ta u) : SimE K W b false (tCall (spV K sp) [] E0 ta) (pCallV0 sp u) := fun σ H S env Fs Qp Ep Q hs ht k x =>
  h σ H S env Fs _ _ _ hs ht (fun vs ds H1 S1 env1 Fs1 n1 r hl q => ⟨S1, ds, _, _, n1.st.sub, by rw [List.append_nil]; exact r, q, yields_of n1 k, fun y d v H' S' e sb hd fd sd rv hx => hx.elim⟩) x
/-- a op1 b op2 c -/
@[simp] def pChain (f g : PR2) (t u p : PTE) : PTE := fun env Q E => t env (fun x env1 => u env1 (fun y env2 => f x y fun z => match z with
  | .d (.bl k) => if k = true then p env2 (fun w env3 => g y w fun r => Q r env3) E else Q (.d (.bl false)) env2
  | _ => False) E) E
theorem sim_chain {r r' : R2} {f g : PR2} {ta tb tc : TE} {t u p : PTE} (h1 : Op2 K r f) (h2 : Op2 K r' g) (ha : SimE K W b1 w1 ta t) (hb : SimE K W b2 false tb u) (hc : SimE K W b3 w3 tc p) (hp : w1 = true → b2 = false) :
    SimE K W ((b1 || b2) || b3) false (tChain r r' ta tb tc) (pChain f g t u p) := fun σ H S env Fs Qp Ep Q hs ht k x =>
  ha σ H S env Fs _ Ep _ hs ht (fun v o F H1 S1 env1 Fs1 n1 c1 q1 =>
    hb σ H1 S1 env1 Fs1 _ Ep _ n1.st q1 (fun v2 o2 F2 H2 S2 env2 Fs2 n2 c2 q2 =>
      h1 S2 H2 v v2 o o2 F F2 _ _ n2.st.sub (c1.on n2 hp).rep c2.rep q2 fun z oz Fz H3 S3 e sb rz fz nz qz => by
        have n12 := n1.trans n2
        have nn := Nx.new (b := false) n2.st e sb
        have n3 := n12.trans nn
        rw [Bool.or_false] at n3
        split at qz
        · rename_i kk
          have r1 := d_rp rz
          simp only [Rp] at r1
          refine ⟨kk, r1, ?_⟩
          cases kk with
          | false => exact k _ _ [] H3 S3 env2 Fs2 n3.orT (Val.data rp_bl) qz
          | true =>
            have c3 := (c2.back n1).on nn fun _ => rfl
            exact hc σ H3 S3 env2 Fs2 _ Ep _ n3.st qz (fun v4 o4 F4 H4 S4 env4 Fs4 n4 c4 q4 =>
              h2 S4 H4 v2 v4 o2 o4 F2 F4 _ _ n4.st.sub (c3.on n4 fun z => by cases z).rep c4.rep q4 (yields_of (n3.trans n4) k)) (x.on n3)
        · exact qz.elim) (x.on n1)) x
end
end DL
end

section
set_option Elab.async false
set_option linter.all false
set_option maxRecDepth 100000
set_option maxHeartbeats 2000000
namespace L2
open PySem PySem.Spec PyProof.Rows
/-! ### zip(x, y), x and y each a list, a tuple or a text -/
inductive ZV where
  | L (a : Addr) | T (a : Addr) | S (x : Str)
def ZV.has (K : PySem.W.Frag) (H : Hp) : ZV → List V → Prop
  | .L a, vs => SqL K H a vs
  | .T a, vs => SqT K H a vs
  | .S x, vs => vs = x.cps.toList.map fun c => V.str ⟨#[c]⟩
def ZV.v : ZV → V
  | .L a => .ref a
  | .T a => .ref a
  | .S x => .str x
/-- the iterator at it over the value u, at turn i -/
def ZV.itr : ZV → Value → Heap → Addr → Nat → Prop
  | .L a, _, h, it, i => h.IsListIter it a i
  | .T a, _, h, it, i => h.IsTupleIter it a i
  | .S x, u, h, it, i => ∃ t, u = .str x t ∧ h.IsStrIter it (strIterType x) x t i
def ItZ (K : PySem.W.Frag) (p q : ZV) : It :=
  ⟨fun i H => ∃ xs ys x y, p.has K H xs ∧ q.has K H ys ∧ xs[i]? = some x ∧ ys[i]? = some y,
    fun i H v H' => ∃ T x y, v = .ref T ∧ H T = none ∧ H' = upd H T (.tup [x, y]) ∧ (∀ xs, p.has K H xs → xs[i]? = some x) ∧ ∀ ys, q.has K H ys → ys[i]? = some y,
    fun i H => ∃ xs ys, p.has K H xs ∧ q.has K H ys ∧ i ≤ xs.length ∧ i ≤ ys.length ∧ (i = xs.length ∨ i = ys.length)⟩
section
variable {X : Cx} {pins : List (Addr × Obj)} {σ : L2.St} {H : Hp} {s : Shared}
theorem ZV.inj (I : Inv X pins σ H s) {p : ZV} {xs ys : List V} (h : p.has X.K H xs) (q : p.has X.K H ys) : xs = ys := by
  cases p with
  | L a => exact I.list_inj h q
  | T a => exact I.tuple_inj h q
  | S x => exact h.trans q.symm
theorem ZV.itr_at {p : ZV} {u : Value} {h h' : Heap} {it : Addr} {i : Nat} (st : p.itr u h it i) (k : ∀ o, h.get? it = some o → h'.get? it = some o) : p.itr u h' it i := by
  cases p with
  | L a => exact Heap.IsListIter.at st k
  | T a => exact Heap.IsTupleIter.at st k
  | S x =>
    obtain ⟨t, e, o, ho, r⟩ := st
    exact ⟨t, e, o, k o ho, r⟩
theorem ZV.itr_obj {p : ZV} {u : Value} {h : Heap} {it : Addr} {i : Nat} (st : p.itr u h it i) : ∃ o, h.get? it = some o ∧ ∀ v, o.data ≠ .cell v := by
  cases p with
  | L a =>
    obtain ⟨o, ho, _, hd⟩ := st
    exact ⟨o, ho, fun v z => by rw [hd] at z; cases z⟩
  | T a =>
    obtain ⟨o, ho, _, hd⟩ := st
    exact ⟨o, ho, fun v z => by rw [hd] at z; cases z⟩
  | S x =>
    obtain ⟨t, e, o, ho, _, hd⟩ := st
    exact ⟨o, ho, fun v z => by rw [hd] at z; cases z⟩
/-- what the library draws from such an iterator -/
structure ZDraw (X : Cx) (s : Shared) (H : Hp) (p : ZV) (u : Value) (it : Addr) (vs : List V) (fp : List Addr) (P : Nat → Value → Prop) (St : Nat → Heap → Prop) : Prop where
  d : Draws X.prog X.w X.A.in1 it fp vs.length P St
  item : ∀ i v, P i v → ∃ x, vs[i]? = some x ∧ RelV x v
  on : ∀ i, p.itr u s.heap it i → St i s.heap
  off : ∀ i h, St i h → p.itr u h it i
  cells : ∀ b ∈ fp, b = it ∨ (∃ o, s.heap.get? b = some o ∧ p.v = .ref b)
  mem : it ∈ fp
theorem ZV.draw (I : Inv X pins σ H s) (hc : X.calm = true) {p : ZV} {u : Value} (r : RelV p.v u) {it : Addr} (ne : p.v ≠ .ref it) {vs : List V} (h : p.has X.K H vs) : ∃ fp P St, ZDraw X s H p u it vs fp P St := by
  have hh : X.A.in1.handled = none := I.ok.hd hc
  cases p with
  | L a =>
    obtain ⟨its, rv, pl, _⟩ := I.list h
    have D := Draws.list (prog := X.prog) (w := X.w) hh it a (fun e => ne (by rw [← e]; rfl)) its.toArray
    rw [List.size_toArray, ← rv.length] at D
    refine ⟨_, _, _, D, fun i v hv => ?_, fun i st => ⟨st, pl.isList⟩, fun i h st => st.1, fun b hb => ?_, by simp⟩
    · have hv' : its[i]? = some v := by simpa using hv
      cases e : vs[i]? with
      | none => rw [rv.none_of e] at hv'; cases hv'
      | some x =>
        obtain ⟨w', e2, r2⟩ := rv.get e
        rw [hv'] at e2; cases e2
        exact ⟨x, rfl, r2⟩
    · rcases List.mem_cons.mp hb with z | z
      · exact .inl z
      · rw [List.mem_singleton.mp z]
        obtain ⟨o, ho, _⟩ := pl.isList
        exact .inr ⟨o, ho, rfl⟩
  | T a =>
    obtain ⟨its, rv, pl, _⟩ := I.tuple h
    have D := Draws.tuple (prog := X.prog) (w := X.w) hh it a (fun e => ne (by rw [← e]; rfl)) its.toArray
    rw [List.size_toArray, ← rv.length] at D
    refine ⟨_, _, _, D, fun i v hv => ?_, fun i st => ⟨st, pl⟩, fun i h st => st.1, fun b hb => ?_, by simp⟩
    · have hv' : its[i]? = some v := by simpa using hv
      cases e : vs[i]? with
      | none => rw [rv.none_of e] at hv'; cases hv'
      | some x =>
        obtain ⟨w', e2, r2⟩ := rv.get e
        rw [hv'] at e2; cases e2
        exact ⟨x, rfl, r2⟩
    · rcases List.mem_cons.mp hb with z | z
      · exact .inl z
      · rw [List.mem_singleton.mp z]
        obtain ⟨o, ho, _⟩ := pl
        exact .inr ⟨o, ho, rfl⟩
  | S x =>
    obtain ⟨t, e⟩ := r
    subst e
    have D := Draws.text (prog := X.prog) (w := X.w) hh it x t
    have el : vs.length = x.cps.size := by
      have := congrArg List.length h
      simpa using this
    rw [← el] at D
    refine ⟨_, _, _, D, fun i v hv => ?_, fun i st => ?_, fun i h st => ⟨t, rfl, st⟩, fun b hb => .inl (List.mem_singleton.mp hb), by simp⟩
    · obtain ⟨c, w', hcx, ev⟩ := hv
      have hv' : vs = x.cps.toList.map fun c => V.str ⟨#[c]⟩ := h
      refine ⟨.str ⟨#[c]⟩, ?_, ⟨w', ev⟩⟩
      rw [hv', List.getElem?_map]
      have : x.cps.toList[i]? = some c := by rw [Array.getElem?_toList]; exact hcx
      rw [this]; rfl
    · obtain ⟨t', e, st⟩ := st
      cases e
      exact st
/-- apart: the zip's own cells and the two iterators are five cells -/
structure Apart5 (z TI TO i1 i2 : Addr) : Prop where
  a1 : TI ≠ z
  a2 : TO ≠ z
  a3 : i1 ≠ z
  a4 : i2 ≠ z
  a5 : TI ≠ TO
  a6 : TI ≠ i1
  a7 : TI ≠ i2
  a8 : TO ≠ i1
  a9 : TO ≠ i2
  a10 : i1 ≠ i2
theorem neN {a b : Nat} (h : a < b ∨ b < a) : (a : Addr) ≠ b := fun e => by
  have e' : a = b := e
  omega
theorem apart5 (n : Nat) : Apart5 (n + 4) (n + 2) (n + 3) n (n + 1) := ⟨neN (by omega), neN (by omega), neN (by omega), neN (by omega), neN (by omega), neN (by omega), neN (by omega), neN (by omega), neN (by omega), neN (by omega)⟩
theorem ZDraw.sep {p q : ZV} {u1 u2 : Value} {z TI TO i1 i2 : Addr} {xs ys : List V} {f1 f2 : List Addr} {P1 P2 : Nat → Value → Prop} {S1 S2 : Nat → Heap → Prop} (A : Apart5 z TI TO i1 i2) (D1 : ZDraw X s H p u1 i1 xs f1 P1 S1) (D2 : ZDraw X s H q u2 i2 ys f2 P2 S2)
    (n1 : ∀ b ∈ [z, TI, TO, i1, i2], p.v ≠ .ref b) (n2 : ∀ b ∈ [z, TI, TO, i1, i2], q.v ≠ .ref b) : ZipSep2 z TI TO i1 i2 f1 f2 where
  TIz := A.a1
  TOz := A.a2
  TITO := A.a5
  TIi1 := A.a6
  mem1 := D1.mem
  zf1 := fun h => (D1.cells z h).elim (fun e => A.a3 e.symm) fun ⟨_, e⟩ => n1 z (by simp) e.2
  Tf1 := fun h => (D1.cells TO h).elim A.a8 fun ⟨_, e⟩ => n1 TO (by simp) e.2
  TIi2 := A.a7
  mem2 := D2.mem
  zf2 := fun h => (D2.cells z h).elim (fun e => A.a4 e.symm) fun ⟨_, e⟩ => n2 z (by simp) e.2
  Tf2 := fun h => (D2.cells TO h).elim A.a9 fun ⟨_, e⟩ => n2 TO (by simp) e.2
  sep1_2 := fun h => (D2.cells i1 h).elim A.a10 fun ⟨_, e⟩ => n2 i1 (by simp) e.2
  sep2_1 := fun h => (D1.cells i2 h).elim (fun e => A.a10 e.symm) fun ⟨_, e⟩ => n1 i2 (by simp) e.2
theorem turn_Z {P : Program} {w : World} {K : PySem.W.Frag} {elts : List Expr} {kk : Nat} {tpos : Pos} {p q : ZV} {u1 u2 : Value} {z TI TO i1 i2 : Addr} (A : Apart5 z TI TO i1 i2) (r1 : RelV p.v u1) (r2 : RelV q.v u2)
    (n1 : ∀ b ∈ [z, TI, TO, i1, i2], p.v ≠ .ref b) (n2 : ∀ b ∈ [z, TI, TO, i1, i2], q.v ≠ .ref b) :
    Turn P w K (.Tuple elts kk tpos) (ItZ K p q) [z, TI, TO, i1, i2] z (fun i h => IsZip h z TI TO .none ∧ IsTupOf2 h TI (.ref i1) (.ref i2) ∧ (∃ x y, IsTupOf2 h TO x y) ∧ p.itr u1 h i1 i ∧ q.itr u2 h i2 i) where
  mem := by simp
  obj := fun i h st c hc => by
    obtain ⟨hz, hTI, ⟨x, y, hTO⟩, h1, h2⟩ := st
    simp only [List.mem_cons, List.not_mem_nil, or_false] at hc
    rcases hc with e | e | e | e | e
    · rw [e]; exact ⟨_, hz, fun v q => nomatch q⟩
    · rw [e]; exact ⟨_, hTI, fun v q => nomatch q⟩
    · rw [e]; exact ⟨_, hTO, fun v q => nomatch q⟩
    · rw [e]; exact ZV.itr_obj h1
    · rw [e]; exact ZV.itr_obj h2
  keep := fun i h h' st k => by
    obtain ⟨hz, hTI, ⟨x, y, hTO⟩, h1, h2⟩ := st
    exact ⟨k z (by simp) _ hz, k TI (by simp) _ hTI, ⟨x, y, k TO (by simp) _ hTO⟩, ZV.itr_at h1 fun o e => k i1 (by simp) o e, ZV.itr_at h2 fun o e => k i2 (by simp) o e⟩
  item := fun X hP hw hK hc i pins s σ H E I hf st hg => by
    subst hP hw hK
    obtain ⟨hz, hTI, ⟨x0, y0, hTO⟩, h1, h2⟩ := st
    obtain ⟨xs, ys, x, y, hx, hy, gx, gy⟩ := hg
    obtain ⟨f1, P1, S1, D1⟩ := ZV.draw I hc r1 (it := i1) (n1 i1 (by simp)) hx
    obtain ⟨f2, P2, S2, D2⟩ := ZV.draw I hc r2 (it := i2) (n2 i2 (by simp)) hy
    have hzl : z < s.heap.objs.size := Heap.lt_size hz
    refine wpAny_pyNext_zipD2_item (D1.sep A D2 n1 n2) D1.d D2.d hz hTI hTO (D1.on i h1) (D2.on i h2) (List.getElem?_eq_some_iff.mp gx).1 (List.getElem?_eq_some_iff.mp gy).1 fun w1 w2 h' tk p1 p2 z' TO' s1 s2 hT hsz hk => ?_
    refine ⟨_, rfl, wpAny_letOwnedTupleGo_zip (s := { s with heap := h', toks := tk }) z' fun h'' z'' sb => ?_⟩
    obtain ⟨x', ex, rx⟩ := D1.item i w1 p1
    obtain ⟨y', ey, ry⟩ := D2.item i w2 p2
    have hT2 : h''.get? s.heap.objs.size = some { cls := .type "tuple", data := .seq #[w1, w2] } := (sb.2 _ (Nat.ne_of_gt hzl)).trans hT
    have new : ObjOk X.prog X.w (upd H s.heap.objs.size (.tup [x', y'])) h'' s.heap.objs.size (.tup [x', y']) := ⟨by show 2 ≤ sizeLine; decide, [w1, w2], .cons rx (.cons ry .nil), ⟨_, hT2, rfl, _, rfl⟩⟩
    have kk2 : ∀ c o, c ∉ [z, TI, TO, i1, i2] → s.heap.get? c = some o → h''.get? c = some o := fun c o hb e => by
      simp only [List.mem_cons, List.not_mem_nil, or_false, not_or] at hb
      exact (sb.2 c hb.1).trans (hk c o hb.1 hb.2.2.1 hb.2.2.2.1 hb.2.2.2.2 e)
    have I1 : Inv X pins σ (upd H s.heap.objs.size (.tup [x', y'])) { s with heap := h'', toks := tk } := I.turnedNew (t' := tk) kk2 hf (Nat.le_refl _) new
    refine ⟨.ref s.heap.objs.size, _, I1, rfl, ⟨_, x', y', rfl, I.hok.fresh (Nat.le_refl _), rfl, fun l hl => ?_, fun l hl => ?_⟩, ⟨z'', ?_, ⟨w1, w2, ?_⟩, ?_, ?_⟩, fun c hcm => ?_⟩
    · rw [ZV.inj I hl hx]; exact ex
    · rw [ZV.inj I hl hy]; exact ey
    · exact (sb.2 _ A.a1).trans (hk _ _ A.a1 A.a5 A.a6 A.a7 hTI)
    · exact (sb.2 _ A.a2).trans TO'
    · exact ZV.itr_at (D1.off _ _ s1) fun o e => (sb.2 _ A.a3).trans e
    · exact ZV.itr_at (D2.off _ _ s2) fun o e => (sb.2 _ A.a4).trans e
    · have hlt : c < s.heap.objs.size := by
        simp only [List.mem_cons, List.not_mem_nil, or_false] at hcm
        rcases hcm with e | e | e | e | e
        · rw [e]; exact hzl
        · rw [e]; exact Heap.lt_size hTI
        · rw [e]; exact Heap.lt_size hTO
        · rw [e]; obtain ⟨_, e1, _⟩ := ZV.itr_obj h1; exact Heap.lt_size e1
        · rw [e]; obtain ⟨_, e1, _⟩ := ZV.itr_obj h2; exact Heap.lt_size e1
      rw [upd_ne (Nat.ne_of_lt hlt)]
      exact (hf c hcm).1
  done := fun X hP hw hK hc i pins s σ H E I hf st hg => by
    subst hP hw hK
    obtain ⟨hz, hTI, ⟨x0, y0, hTO⟩, h1, h2⟩ := st
    obtain ⟨xs, ys, hx, hy, l1, l2, he⟩ := hg
    obtain ⟨f1, P1, S1, D1⟩ := ZV.draw I hc r1 (it := i1) (n1 i1 (by simp)) hx
    obtain ⟨f2, P2, S2, D2⟩ := ZV.draw I hc r2 (it := i2) (n2 i2 (by simp)) hy
    exact wpAny_pyNext_zipD2_end (D1.sep A D2 n1 n2) D1.d D2.d hz hTI hTO (D1.on i h1) (D2.on i h2) l1 l2 he fun h' tk hk => ⟨rfl, I.turnedL (t' := tk) (ch := [z, TI, TO, i1, i2]) (fun c o hb e => by
      simp only [List.mem_cons, List.not_mem_nil, or_false, not_or] at hb
      exact hk c o hb.1 hb.2.2.1 hb.2.2.2.1 hb.2.2.2.2 e) hf⟩
  self := fun A i s Q E st h => wpAny_pyIter_zip st.1 h
def iZipZ (K : PySem.W.Frag) (ta : TA) : TI := fun σ H R => ta σ H fun vs H1 => ∃ p q, vs = [ZV.v p, ZV.v q] ∧ (∃ xs, p.has K H1 xs) ∧ (∃ ys, q.has K H1 ys) ∧ R (ItZ K p q) H1
/-- iter(u): what it lays -/
theorem ZV.begins (I : Inv X pins σ H s) {p : ZV} {u : Value} (r : RelV p.v u) {vs : List V} (h : p.has X.K H vs) : ∃ o R, Begins u o R ∧ R s.heap ∧ ∀ h' it, h'.get? it = some o → p.itr u h' it 0 := by
  cases p with
  | L a =>
    obtain ⟨its, rv, pl, _⟩ := I.list h
    obtain rfl : u = Value.ref a := r
    exact ⟨_, _, begins_list a its.toArray, pl.isList, fun h' it e => ⟨_, e, rfl, rfl⟩⟩
  | T a =>
    obtain ⟨its, rv, pl, _⟩ := I.tuple h
    obtain rfl : u = Value.ref a := r
    exact ⟨_, _, begins_tuple a its.toArray, pl, fun h' it e => ⟨_, e, rfl, rfl⟩⟩
  | S x =>
    obtain ⟨t, e⟩ := r
    subst e
    exact ⟨_, _, begins_text x t, trivial, fun h' it e => ⟨t, rfl, _, e, rfl, rfl⟩⟩
theorem ZV.there (I : Inv X pins σ H s) {p : ZV} {vs : List V} (h : p.has X.K H vs) {b : Addr} (e : p.v = .ref b) : b < s.heap.objs.size := by
  cases p with
  | L a =>
    cases e
    obtain ⟨its, rv, pl, _⟩ := I.list h
    obtain ⟨o, ho, _⟩ := pl.isList
    exact Heap.lt_size ho
  | T a =>
    cases e
    obtain ⟨its, rv, pl, _⟩ := I.tuple h
    obtain ⟨o, ho, _⟩ := pl
    exact Heap.lt_size ho
  | S x => cases e
theorem pi_zipZ {e e2 : Expr} {ta : TA} {p pos tpos : Pos} {elts : List Expr} {kk : Nat} (hg : Gl X "zip") (hm : X.mg "zip" = none) (ha : PA X [e, e2] ta)
    (hs : starEach [e, e2] X.env = (false, eval e X.env) :: starEach [e2] X.env := by rfl) (hpl : (backTo pos (starEach [e2] X.env)).any (·.1) = false := by rfl) :
    PI X (.Tuple elts kk tpos) (.Call (.Name "zip" p) [e, e2] [] pos) (iZipZ X.K ta) := by
  constructor
  intro pins s σ H R I h
  refine Call_ (ld_blt I hg hm PyProof.Rows.boot_zip (PyProof.Rows.callWith_type1 (thn (ha.run pos pins s σ H _ I h) fun us s1 q0 => ?_) hs hpl))
  obtain ⟨vs, H1, I1, r1, a, b, ex, ⟨xs, hx⟩, ⟨ys, hy⟩, q⟩ := q0
  subst ex
  cases r1 with
  | @cons _ u1 _ _ ra rr =>
    cases rr with
    | @cons _ u2 _ _ rb rr =>
      cases rr
      obtain ⟨o1, R1, B1, h1, g1⟩ := ZV.begins I1 ra hx
      obtain ⟨o2, R2, B2, h2, g2⟩ := ZV.begins I1 rb hy
      have low1 : ∀ c ∈ [s1.heap.objs.size + 4, s1.heap.objs.size + 2, s1.heap.objs.size + 3, s1.heap.objs.size, s1.heap.objs.size + 1], s1.heap.objs.size ≤ c := fun c hc => by
        simp only [List.mem_cons, List.not_mem_nil, or_false] at hc
        rcases hc with e | e | e | e | e <;> omega
      have ap : Apart5 (s1.heap.objs.size + 4) (s1.heap.objs.size + 2) (s1.heap.objs.size + 3) s1.heap.objs.size (s1.heap.objs.size + 1) := apart5 _
      refine zip_begins2 B1 B2 h1 h2 fun h' hz hTI hTO e1 e2 hsz hk => wpAny_pyIter_zip hz ?_
      have I2 : Inv X pins σ H1 { s1 with heap := h' } := I1.kept (t' := s1.toks) hk
      exact ⟨_, _, _, _, H1, rfl, I2, turn_Z ap ra rb (fun c hc e => absurd (ZV.there I1 hx e) (Nat.not_lt.mpr (low1 c hc))) (fun c hc e => absurd (ZV.there I1 hy e) (Nat.not_lt.mpr (low1 c hc))), ⟨hz, hTI, ⟨_, _, hTO⟩, g1 _ _ e1, g2 _ _ e2⟩,
        fun c hc => I1.fpOk (low1 c hc) (I1.hok.fresh (low1 c hc)), q⟩
end
end L2
namespace DL
open PySem PySem.Spec L2 PyProof.Rows
/-- for a, b in zip(x, y): pairs of data -/
@[simp] def zipD : List D → List D → List D
  | x :: xs, y :: ys => .tup [x, y] :: zipD xs ys
  | _, _ => []
theorem zipD_length : ∀ xs ys : List D, (zipD xs ys).length = min xs.length ys.length
  | [], ys => by simp [zipD]
  | x :: xs, [] => by simp [zipD]
  | x :: xs, y :: ys => by simp only [zipD, List.length_cons, zipD_length xs ys]; omega
theorem zipD_get : ∀ {xs ys : List D} {i : Nat} {d : D}, (zipD xs ys)[i]? = some d → ∃ x y, xs[i]? = some x ∧ ys[i]? = some y ∧ d = .tup [x, y]
  | [], ys, i, d, h => by simp [zipD] at h
  | x :: xs, [], i, d, h => by simp [zipD] at h
  | x :: xs, y :: ys, 0, d, h => by
    simp [zipD] at h
    exact ⟨x, y, rfl, rfl, h.symm⟩
  | x :: xs, y :: ys, i + 1, d, h => by
    have h' : (zipD xs ys)[i]? = some d := by simpa [zipD] using h
    obtain ⟨a, b, h1, h2, h3⟩ := zipD_get h'
    exact ⟨a, b, by simpa using h1, by simpa using h2, h3⟩
@[simp] def pIZip (t u : PTE) : PTI := fun env Q E => t env (fun o env1 => u env1 (fun o2 env2 => match o, o2 with
  | .d x, .d y => match x.items, y.items with
    | some xs, some ys => Q (zipD xs ys) env2
    | _, _ => False
  | _, _ => False) E) E
theorem zv_of {K : PySem.W.Frag} {S : Hp} {d : D} {v : V} {ds : List D} (r : Rp K S d v) (e : d.items = some ds) : ∃ p xs, v = ZV.v p ∧ RpL K S ds xs ∧ ∀ H, Sub S H → p.has K H xs := by
  cases d with
  | lst es =>
    cases e
    simp only [Rp] at r
    obtain ⟨a, xs, e1, q1, r1⟩ := r
    exact ⟨.L a, xs, e1, r1, fun H s => .inl (.inl (s a _ q1))⟩
  | kst es =>
    cases e
    simp only [Rp] at r
    obtain ⟨a, xs, e1, q1, r1⟩ := r
    exact ⟨.L a, xs, e1, r1, fun H s => sqL_sub s q1⟩
  | tup es =>
    cases e
    simp only [Rp] at r
    obtain ⟨a, xs, e1, q1, r1⟩ := r
    exact ⟨.T a, xs, e1, r1, fun H s => sqT_sub s q1⟩
  | str s =>
    cases e
    simp only [Rp] at r
    have gen : ∀ l : List Nat, okS l → RpL K S (l.map fun c => D.str [c]) (l.map fun c => V.str ⟨#[c]⟩) := by
      intro l
      induction l with
      | nil => intro _; exact .nil
      | cons c l ih =>
        intro h
        refine .cons ?_ (ih fun k hk => h k (List.mem_cons_of_mem _ hk))
        simp only [Rp]
        exact ⟨trivial, fun k hk => by rw [List.mem_singleton.mp hk]; exact h c List.mem_cons_self, by rw [sizeLine_eq]; simp⟩
    exact ⟨.S ⟨s.toArray⟩, s.map fun c => V.str ⟨#[c]⟩, r.1, gen s r.2.1, fun H _ => by simp [ZV.has]⟩
  | _ => cases e
section
variable {K : PySem.W.Frag} {W : WX} {b b1 b2 w w1 w2 : Bool}
theorem sim_izip {te tf : TE} {t u : PTE} (h1 : SimE K W b1 w1 te t) (h2 : SimE K W b2 w2 tf u) : SimI K W (b1 || b2) (iZipZ K (tCons te (tCons tf tNil))) (pIZip t u) := fun σ H S env Fs Qp Ep R hs ht k x =>
  h1 σ H S env Fs _ _ _ hs ht (fun v o F H1 S1 env1 Fs1 n1 c1 q1 => h2 σ H1 S1 env1 Fs1 _ _ _ n1.st q1 (fun v2 o2 F2 H2 S2 env2 Fs2 n2 c2 q2 => by
    split at q2
    · rename_i x y
      split at q2
      · rename_i xs ys ex ey
        have rx := Rp.mono n2.ext.sub _ _ c1.rp
        have ry := c2.rp
        obtain ⟨p, vx, e1, r1, g1⟩ := zv_of rx ex
        obtain ⟨q, vy, e2, r2, g2⟩ := zv_of ry ey
        refine ⟨p, q, by rw [e1, e2], ⟨vx, g1 H2 n2.st.sub⟩, ⟨vy, g2 H2 n2.st.sub⟩, k _ (zipD xs ys) H2 S2 env2 Fs2 (n1.trans n2) (fun i H' S' s1 s2 => ⟨fun hi => ?_, fun d hd => ?_⟩) q2⟩
        · rw [zipD_length] at hi
          refine ⟨vx, vy, g1 H' (s1.trans s2), g2 H' (s1.trans s2), ?_⟩
          rw [r1.length, r2.length]
          omega
        · obtain ⟨dx, dy, hx, hy, ed⟩ := zipD_get hd
          obtain ⟨ux, hux, rux⟩ := r1.get hx
          obtain ⟨uy, huy, ruy⟩ := r2.get hy
          refine ⟨⟨vx, vy, ux, uy, g1 H' (s1.trans s2), g2 H' (s1.trans s2), hux, huy⟩, fun z H3 hz => ?_⟩
          obtain ⟨T, a, c, ez, nT, eH, ha, hc⟩ := hz
          have ea := ha vx (g1 H' (s1.trans s2))
          have ec := hc vy (g2 H' (s1.trans s2))
          rw [hux] at ea
          rw [huy] at ec
          cases ea
          cases ec
          subst ez eH ed
          have nS : S' T = none := by
            cases e : S' T with
            | none => rfl
            | some o => rw [s2 T o e] at nT; cases nT
          have sS : Sub S' (upd S' T (.tup [ux, uy])) := fun c o h => by rw [upd_ne (ne_of_none h nS)]; exact h
          refine ⟨upd S' T (.tup [ux, uy]), ⟨sS, fun c o h _ => by rw [upd_ne (ne_of_none h nT)]; exact h, fun c h => ?_, fun c h hh _ => ?_⟩, fun c o h => ?_, ?_⟩
          · by_cases y : c = T
            · rw [y]; exact nT
            · rw [upd_ne y] at h; exact h
          · by_cases y : c = T
            · rw [y] at hh; exact absurd nT hh
            · rw [upd_ne y]; exact h
          · by_cases y : c = T
            · rw [y, upd_same] at h ⊢; exact h
            · rw [upd_ne y] at h ⊢; exact s2 c o h
          · simp only [Rp]
            exact ⟨T, [ux, uy], rfl, .inl (.inl upd_same), .cons (Rp.mono (s1.trans sS) _ _ rux) (.cons (Rp.mono (s1.trans sS) _ _ ruy) .nil)⟩
      · exact q2.elim
    · exact q2.elim) (x.on n1)) x
end
end DL
end

section
set_option Elab.async false
set_option linter.all false
set_option maxRecDepth 100000
set_option maxHeartbeats 2000000
namespace DL
open PySem PySem.Spec L2 PyProof.Rows

/-! ### defs by their bodies -/
theorem passX0 {X : Cx} : Passes (L2.CX X.prog X.w) X E0 := fun _ _ _ _ _ _ _ h => by
  obtain ⟨a, B, H', cls, d, _, _, _, _, _, _, _, z⟩ := h
  exact z.elim
section
variable {P : Program} {w : World} {K : PySem.W.Frag} {mg : Str → Option Value} {base : Heap} {x qual : Str} {params : Arguments} {body : List Stmt} {scope : Scope} {dvs : List V} {kws : List (Str × V)} {f : Addr} {fd : FuncData} {N ps : List Str} {k : Nat}
theorem fnV {sp : PSpV} {p : PTS} (F : FunD K x qual params body scope dvs kws f fd) (S : FnScope N ps scope) (hps : ps.length ≤ N.length) (hl : ∀ ds Qp Ep, sp ds Qp Ep → ds.length = ps.length)
    (hb : ∀ (cdv : Value) (A : Around) (outer : List PySem.Env) (s : Shared) (H : Hp) (E : XK), Room k (A.deeper (envOfC qual scope s.heap.objs.size f cdv)) →
      ∃ t, PSs (cxOf (L2.CX P w) P w K mg base N qual scope f cdv A outer s H E) body t ∧ SimS K (fun cls d _ H' => E cls d H') [] t p)
    (pure : ∀ ds Qp Ep, sp ds Qp Ep → p (endsV Qp Ep) (envV N.length ds)) : FnOk P w K mg base (L2.CX P w) (k + 1) f fd ps (spV K sp) := by
  refine F.ok S (fun vs H Q E h => ?_) (fun cdv A outer s H vs Q E hr h => ?_)
  · obtain ⟨S', ds, Qp, Ep, sb, r, h, _⟩ := h
    rw [r.length]
    exact hl ds Qp Ep h
  · obtain ⟨t, h1, h2⟩ := hb cdv A outer s H E hr
    exact ⟨t, h1, body_V h h2 (fun ds Qp Ep h => by rw [hl ds Qp Ep h]; exact hps) pure⟩
theorem fnM {sp : PSpM} {p : PTS} (F : FunD K x qual params body scope dvs kws f fd) (S : FnScope N ps scope) (hps : ps.length ≤ N.length) (hl : ∀ xs ds Qp, sp xs ds Qp → ds.length + 1 = ps.length)
    (hb : ∀ (cdv : Value) (A : Around) (outer : List PySem.Env) (s : Shared) (H : Hp) (E : XK), Room k (A.deeper (envOfC qual scope s.heap.objs.size f cdv)) →
      ∃ t, PSs (cxOf (L2.CX P w) P w K mg base N qual scope f cdv A outer s H E) body t ∧ SimS K (fun cls d _ H' => E cls d H') [0] t p)
    (pure : ∀ xs ds Qp, sp xs ds Qp → p (endsM Qp) (envM N.length xs ds)) : FnOk P w K mg base (L2.CX P w) (k + 1) f fd ps (spM K sp) := by
  refine F.ok S (fun vs H Q E h => ?_) (fun cdv A outer s H vs Q E hr h => ?_)
  · obtain ⟨S', a, xs, G, vs', ds, Qp, e, sb, ro, nF, r, h, _⟩ := h
    rw [e, List.length_cons, r.length]
    exact hl xs ds Qp h
  · obtain ⟨t, h1, h2⟩ := hb cdv A outer s H E hr
    exact ⟨t, h1, body_M h h2 (fun xs ds Qp h => by rw [hl xs ds Qp h]; exact hps) pure⟩
theorem bindsD {n : Nat} (F : FunD K x qual params body scope [] [] f fd)
    (h : ∀ (kV doc pm : Value) (an : Option Addr) (cdv ct : Value) (us : List Value), us.length = ps.length → bindArgs (PySem.W.fnOf x qual params body scope .none kV doc pm an cdv ct) ⟨us, []⟩ = Pure.pure (ps.zip us)) : Binds K fd ps [] := F.bindsN h
end
/-! ### texts as constants -/
theorem rp_lit {K : PySem.W.Frag} {x : Str} {l : List Nat} (h : (decide (x.cps.toList = l) && (l.all (fun c => decide (c < 0x110000)) && decide (l.length ≤ 16777216))) = true) (S : Hp) : Rp K S (.str l) (.str x) := by
  simp only [Bool.and_eq_true, decide_eq_true_eq, List.all_eq_true] at h
  obtain ⟨h1, h2, h3⟩ := h
  simp only [Rp]
  refine ⟨?_, h2, by rw [sizeLine_eq]; exact h3⟩
  rw [← h1]
/-! ### {k: c, ..} of constants -/
@[simp] def pDispC (kvs : List (Key × D)) : PTE := fun env Q _ => Q (.dct (kvs.map fun kv => (kv.1, .d kv.2))) env
theorem pairs_c {σ : L2.St} : ∀ {ps : List (Key × V)} {H : Hp} {Q : List (V × V) → Hp → Prop}, Q (ps.map fun kv => (kV kv.1, kv.2)) H → tPairs (ps.map fun kv => (tC (kV kv.1), tC kv.2)) σ H Q
  | [], H, Q, h => h
  | p :: ps, H, Q, h => pairs_c (ps := ps) (Q := fun qs H3 => Q ((kV p.1, p.2) :: qs) H3) h
theorem repK_c {K : PySem.W.Frag} {S H : Hp} : ∀ {kvs : List (Key × D)} {ps : List (Key × V)}, RpK K S kvs ps → RepK K S H (kvs.map fun kv => (kv.1, O.d kv.2)) ps []
  | [], ps, h => by
    simp only [RpK] at h
    simp only [List.map_nil, RepK]
    exact ⟨h, trivial⟩
  | (k, d) :: kvs, ps, h => by
    simp only [RpK] at h
    obtain ⟨v, r, e, rv, t⟩ := h
    simp only [List.map_cons, RepK]
    exact ⟨v, r, [], [], e, rfl, fun a z => absurd z (by simp), by simp only [RepO]; exact ⟨rv, trivial⟩, repK_c t⟩
theorem sim_dispC {K : PySem.W.Frag} {W : WX} {ps : List (Key × V)} {kvs : List (Key × D)} (h : ∀ S, RpK K S kvs ps) (hm : mergeK [] ps = ps) (hl : ps.length ≤ 15) : SimE K W false false (tDisp (ps.map fun kv => (tC (kV kv.1), tC kv.2))) (pDispC kvs) := fun σ H S env Fs Qp Ep Q hs ht k x => by
  intro p np
  refine pairs_c ⟨upd_same, ps, rfl, hl, ?_⟩
  rw [hm]
  have eh : upd (upd H p (.dK [])) p (.dK ps) = upd H p (.dK ps) := by
    funext c
    by_cases e : c = p
    · rw [e, upd_same, upd_same]
    · rw [upd_ne e, upd_ne e, upd_ne e]
  rw [eh]
  have ex : Ext (fun _ => False) S H S (upd H p (.dK ps)) := ⟨Sub.refl _, fun c u h _ => by rw [upd_ne (ne_of_none h np)]; exact h, fun c h => by
    by_cases z : c = p
    · rw [z]; exact np
    · rw [upd_ne z] at h; exact h, fun c h _ _ => h⟩
  have sb : Sub S (upd H p (.dK ps)) := fun c u h => by rw [upd_ne (ne_of_none (hs.sub c u h) np)]; exact hs.sub c u h
  refine k (.ref p) _ [p] _ S env Fs (Nx.new hs ex sb) ⟨?_, fun a ha => ?_, fun a ha => ?_, fun _ a ha z => ?_⟩ ht
  · simp only [RepO]
    exact ⟨p, ps, [], rfl, upd_same, rfl, by simp, repK_c (h S)⟩
  · rw [List.mem_singleton.mp ha]
    cases e : S p with
    | none => rfl
    | some o => rw [hs.sub p o e] at np; cases np
  · rw [List.mem_singleton.mp ha]; exact .inr np
  · rw [List.mem_singleton.mp ha] at z; exact hs.own p z np
/-! ### the head's facts -/
abbrev Bo := PySem.W.Frag → Bool
abbrev AlB : Type := Bool × List He.FnW
def obsB (bs : List Bo) (fn : List He.DefD) (K : PySem.W.Frag) : AlB := ((bs.all fun b => b K) && fn.all fun d => d.ok K, fn.map fun d => He.fnW K d.at_)
def SaysB (bs : List Bo) (fn : List He.DefD) (K : PySem.W.Frag) : Prop := obsB bs fn K = He.valD fn
def obsBG (n : Nat) (bs : List Bo) (fn : List He.DefD) (g : Addr → Option Obj) : AlB := obsB bs fn (He.frG g (He.asD g n))
def hookB (n : Nat) (bs : List Bo) (fn : List He.DefD) : PySem.W.Hook where
  α := AlB
  obs := fun s => obsBG n bs fn s.heap.get?
  val := fun _ => He.valD fn
  says := fun _ h => ∃ K : PySem.W.Frag, K.In h ∧ SaysB bs fn K
  of := fun _ _ e => ⟨_, He.frG_in, e⟩
  keeps := fun _ _ _ ⟨K, hK, c⟩ k => ⟨K, PySem.W.Frag.In.keeps hK k, c⟩
theorem obsBG_eq {n : Nat} {bs : List Bo} {fn : List He.DefD} {g : Addr → Option Obj} {s : Shared} (h : ∀ a, g a = s.heap.get? a) : obsBG n bs fn g = (hookB n bs fn).obs s := by
  have e : g = s.heap.get? := funext h
  rw [e] <;> rfl
section
variable {bs : List Bo} {fn : List He.DefD} {K : PySem.W.Frag}
theorem SaysB.fact (c : SaysB bs fn K) (i : Nat) {b : Bo} (h : bs[i]? = some b := by rfl) : b K = true := by
  have c0 : ((bs.all fun b => b K) && fn.all fun d => d.ok K) = true := congrArg Prod.fst c
  exact List.all_eq_true.mp (Bool.and_eq_true_iff.mp c0).1 b (List.mem_of_getElem? h)
theorem SaysB.def_ (c : SaysB bs fn K) (i : Nat) {d : He.DefD} (h : fn[i]? = some d := by rfl) : ∃ fd, FunD K d.name d.qual d.params d.body d.scope (d.dvs K) (d.kws K) (He.fAd K d.at_) fd := by
  have c0 : ((bs.all fun b => b K) && fn.all fun d => d.ok K) = true := congrArg Prod.fst c
  have e : fn.map (fun d => He.fnW K d.at_) = fn.map He.DefD.val := congrArg Prod.snd c
  have e2 : (fn.map fun d => He.fnW K d.at_)[i]? = (fn.map He.DefD.val)[i]? := by rw [e]
  rw [List.getElem?_map, List.getElem?_map, h] at e2
  exact He.DefD.funD (Option.some.inj e2) (List.all_eq_true.mp (Bool.and_eq_true_iff.mp c0).2 d (List.mem_of_getElem? h))
end
def gloB (x : Str) : Bo := fun K => (He.Fa.glo x).ok K
def freeB (x : Str) : Bo := fun K => (He.Fa.free x).ok K
def intB (x : Str) (i : Int) : Bo := fun K => (He.Fa.int x i).ok K
def strB (x z : Str) : Bo := fun K => (He.Fa.str x z).ok K
def tupB (x : Str) (vs : List He.Dv) : Bo := fun K => He.tupB K x vs
def lstB (x : Str) (vs : List He.Dv) : Bo := fun K => He.lstB K x vs
def exmB (x y : Str) (b : Bool) : Bo := fun K => (He.Fa.exm x y b).ok K
/-- an own exception class, one of ValueError's, whose __init__ is a def -/
def xB (x fld : Str) : Bo := fun K =>
  (match K.lookup (He.ga K x) with
    | some ⟨.type c, _, .cls ⟨_, _, .ref C :: bm, _, _, true, _, _, _, _, false⟩, sl⟩ => (match sl.toList with
      | [_, _, _, _, some (.builtin n), _] => decide (c = "type") && (decide (C = He.ga K x) && (decide (n = "ValueError.__new__") && PySem.HandSPX.refsVE bm))
      | _ => false)
    | _ => false) &&
  (decide (PySem.W.findIn K (.ref (He.ga K x)) "__setattr__" = some (some (.builtin "object.__setattr__"))) && (decide (PySem.W.subIn K (.ref (He.ga K x)) (.type "BaseException") = some true) && (decide (PySem.W.typeIn K (.ref (He.ga K x)) = some (.type "type")) &&
  (PySem.W.keepIn K (.ref (He.ga K x)) && (xfB K (He.ga K x) && (decide (PySem.W.findIn K (.ref (He.ga K x)) fld = some none) && (decide (PySem.W.findIn K (.ref (He.ga K x)) "__init__" = some (some (.ref (He.fAd K (x, some "__init__"))))) &&
  decide (PySem.W.typeIn K (.ref (He.fAd K (x, some "__init__"))) = some (.type "function")))))))))
theorem xB_ok {K : PySem.W.Frag} {x fld : Str} (h : xB x fld K = true) : XCls K x fld (He.fAd K (x, some "__init__")) := by
  unfold xB at h
  simp only [Bool.and_eq_true, decide_eq_true_eq] at h
  obtain ⟨h1, h2, h3, h4, h5, h6, h7, h8, h9⟩ := h
  refine ⟨⟨?_, h2, h3, h4, h5⟩, xfB_ok h6, h7, h8, h9⟩
  split at h1
  · rename_i c dd nm q C bm N bs sn sub ab col sl hK
    split at h1
    · rename_i k0 k1 k2 k3 n k5 hs
      simp only [Bool.and_eq_true, decide_eq_true_eq] at h1
      obtain ⟨e1, e2, e3, e4⟩ := h1
      subst e1 e3
      refine ⟨nm, bs, N, q, bm, sn, sub, ab, col, dd, k0, k1, k2, k3, k5, ?_, e4⟩
      rw [hK, e2]
      have : sl = #[k0, k1, k2, k3, some (.builtin "ValueError.__new__"), k5] := by
        obtain ⟨l⟩ := sl
        simp only at hs
        rw [hs]
      rw [this]
    · cases h1
  · cases h1
theorem fun_of {K : PySem.W.Frag} {x qual : Str} {st : Stmt} {f : Addr} {fd : FuncData} (F : FunD K x qual (defArgs st) (defBody st) (defScope st) [] [] f fd) : Fun K x qual st f fd := by
  obtain ⟨oc, od, dV, kV, doc, pm, an, cdv, ct, osl, e, lk, hcd, hD, _⟩ := F.ex
  rcases hD with ⟨_, e0⟩ | ⟨z, _⟩
  · subst e0
    exact ⟨⟨oc, od, kV, doc, pm, an, cdv, ct, osl, e, lk, hcd⟩, F.kp⟩
  · exact absurd rfl z
end DL
end

section
set_option Elab.async false
set_option linter.all false
set_option maxRecDepth 100000
set_option maxHeartbeats 2000000
namespace DL
open PySem PySem.Spec L2 PyProof.Rows

/-! ### products: ints, a list, a tuple -/
def fMul : PR2 := fun x y Q => match x, y with
  | .d (.int i), .d (.int j) => CMulW i j ∧ Q (.d (.int (i * j)))
  | .d (.tup ds), .d (.int k) => ds ≠ [] ∧ 2 ≤ k ∧ k ≤ 1000 ∧ ds.length ≤ 1000 ∧ Q (.d (.tup (List.replicate k.toNat ds).flatten))
  | o, .d (.int k) => match o.lisT with
    | some ds => -(2 ^ 63) ≤ k ∧ k < 2 ^ 63 ∧ ds.length * k.toNat ≤ 16777216 ∧ Q (.own ((List.replicate k.toNat ds).flatten.map O.d))
    | none => False
  | _, _ => False
def rMulAll (K : PySem.W.Frag) : R2 := fun x y H Q => (rI CMulW fun i j => .int (i * j)) x y H Q ∨ rRep x y H Q ∨ rRepT K x y H Q
theorem op_mulAll {X : Cx} : OpR X (binaryOp .Mult) (rMulAll X.K) := fun pins s σ H x y v u Q I rx ry h => by
  rcases h with h | h | h
  · exact op_mulW pins s σ H x y v u Q I rx ry h
  · exact op_rep pins s σ H x y v u Q I rx ry h
  · exact op_repT pins s σ H x y v u Q I rx ry h
theorem RpL.rep {K : PySem.W.Frag} {S : Hp} {ds : List D} {vs : List V} (h : RpL K S ds vs) : ∀ n : Nat, RpL K S (List.replicate n ds).flatten (List.replicate n vs).flatten
  | 0 => by simp only [List.replicate_zero, List.flatten_nil, RpL]
  | n + 1 => by
    simp only [List.replicate_succ, List.flatten_cons]
    exact h.append (h.rep n)
theorem o2_mul {K : PySem.W.Frag} : Op2 K (rMulAll K) fMul := fun S H x y o1 o2 F1 F2 Qp Q s h1 h2 hf yl => by
  unfold fMul at hf
  split at hf
  · have r1 := d_rp h1
    have r2 := d_rp h2
    simp only [Rp] at r1 r2
    exact .inl ⟨_, _, r1, r2, hf.1, yl.d s rp_int hf.2⟩
  · have r1 := d_rp h1
    have r2 := d_rp h2
    simp only [Rp] at r1 r2
    obtain ⟨p, xs, e, q, l⟩ := r1
    obtain ⟨n0, k1, k2, k3, qq⟩ := hf
    refine .inr (.inr ⟨p, _, xs, e, r2, sqT_sub s q, fun z => n0 ?_, k1, k2, ?_, fun t ht => yl.tup s ht (l.rep _) qq⟩)
    · have := l.length
      rw [z] at this
      exact List.eq_nil_of_length_eq_zero this.symm
    · rw [l.length]; exact k3
  · have r2 := d_rp h2
    simp only [Rp] at r2
    split at hf
    · rename_i ds e
      obtain ⟨k1, k2, k3, qq⟩ := hf
      obtain ⟨p, xs, e1, q, l⟩ := lisT_rep s h1 e
      exact .inr (.inl ⟨p, _, xs, e1, r2, q, k1, k2, by rw [l.length, sizeLine_eq]; exact k3, fun t ht => yl.own s ht (l.rep _) qq⟩)
    · exact hf.elim
  · exact hf.elim

/-! ### a call that only looks at what it is handed -/
def RpOs (K : PySem.W.Frag) (S H : Hp) (vs : List V) (os : List O) (F : List Addr) : Prop := RpL K (addS S H F) (os.map O.frz) vs ∧ ∀ c ∈ F, S c = none ∧ H c ≠ none
def SimB (K : PySem.W.Frag) (W : WX) (b : Bool) (n : Nat) (ta : TA) (t : PTL) : Prop :=
  ∀ σ H S env Fs (Qp : List O → Env → Prop) (Ep : PX) (Q : List V → Hp → Prop), St K σ H S env Fs → t env Qp Ep →
    (∀ vs os F H' S' env' Fs', Nx K b σ H S env Fs H' S' env' Fs' → RpOs K S' H' vs os F → os.length = n → Qp os env' → Q vs H') → XC K W σ H S env Fs Ep → ta σ H Q
@[simp] def D.scal : D → Bool
  | .non => true
  | .bl _ => true
  | .int _ => true
  | .str _ => true
  | _ => false
theorem rp_scal {K : PySem.W.Frag} {S T : Hp} {d : D} {v : V} (h : d.scal = true) (r : Rp K S d v) : Rp K T d v := by
  cases d with
  | non => exact r
  | bl b => exact r
  | int b => exact r
  | str b => exact r
  | _ => cases h
@[simp] def pCallB (sp : PSpV) (u : PTL) : PTE := fun env Q E => u env (fun os env' => sp (os.map O.frz) (fun o => match o with
  | .d x => x.scal = true ∧ Q (.d x) env'
  | _ => False) fun _ => False) E
theorem addS_mono {S S' H H' : Hp} {F G : List Addr} (s : Sub S S') (k : ∀ c ∈ F, ∀ u, H c = some u → H' c = some u) (hF : ∀ c ∈ F, c ∈ G) (ha : ∀ a o, a ∉ F → S a = some o → a ∉ G ∨ H' a = some o) : Sub (addS S H F) (addS S' H' G) := fun a o q => by
  by_cases z : a ∈ F
  · rw [addS_at z] at q
    rw [addS_at (hF a z)]
    exact k a z o q
  · rw [addS_ne z] at q
    by_cases y : a ∈ G
    · rw [addS_at y]
      rcases ha a o z q with w | w
      · exact absurd y w
      · exact w
    · rw [addS_ne y]; exact s a o q
section
variable {K : PySem.W.Frag} {W : WX} {b b1 b2 w w1 w2 : Bool} {n : Nat}
theorem sim_bnil : SimB K W false 0 tNil pLNil := fun σ H S env Fs Qp Ep Q hs ht k x =>
  k [] [] [] H S env Fs (Nx.refl hs) ⟨by simp only [List.map_nil, RpL], fun c z => absurd z (by simp)⟩ rfl ht
theorem sim_bcons {te : TE} {t : PTE} {ta : TA} {u : PTL} (h : SimE K W b1 w te t) (hu : SimB K W b2 n ta u) (hw : w = true → b2 = false) : SimB K W (b1 || b2) (n + 1) (tCons te ta) (pLCons t u) := fun σ H S env Fs Qp Ep Q hs ht k x =>
  h σ H S env Fs _ _ _ hs ht (fun v o F H1 S1 env1 Fs1 n1 c q =>
    hu σ H1 S1 env1 Fs1 _ _ _ n1.st q (fun vs os G H2 S2 env2 Fs2 n2 cl hl q2 => by
      have c2 := c.on n2 hw
      have sb : Sub S2 H2 := n2.st.sub
      have hF : ∀ c ∈ F ++ G, S2 c = none ∧ H2 c ≠ none := fun c hc => (List.mem_append.mp hc).elim (fun z => ⟨c2.nos c z, c2.there c z⟩) (cl.2 c)
      refine k (v :: vs) (o :: os) (F ++ G) H2 S2 env2 Fs2 (n1.trans n2) ⟨?_, hF⟩ (by rw [List.length_cons, hl]) q2
      rw [List.map_cons]
      refine .cons ?_ (RpL.mono ?_ _ _ cl.1)
      · have r := frz_rp (addS_sub c2.nos) o v F c2.rep fun a h => addS_at h
        refine Rp.mono (addS_mono (Sub.refl _) (fun _ _ _ z => z) (fun _ z => List.mem_append_left _ z) fun a o _ q => .inr (sb a o q)) _ _ r
      · exact addS_mono (Sub.refl _) (fun _ _ _ z => z) (fun _ z => List.mem_append_right _ z) fun a o _ q => .inr (sb a o q)) (x.on n1)) x
theorem sim_callB {ta : TA} {u : PTL} {sp : PSpV} (h : SimB K W b n ta u) : SimE K W b false (tCallS (spV K sp) (WE W) ta) (pCallB sp u) := fun σ H S env Fs Qp Ep Q hs ht k x =>
  h σ H S env Fs _ _ _ hs ht (fun vs os F H1 S1 env1 Fs1 n1 r hl q => ⟨addS S1 H1 F, os.map O.frz, _, _, addS_in n1.st.sub, r.1, q, fun v o Fo H' S' e sb ro fo no qo => by
    dsimp only at qo
    split at qo
    · rename_i d
      have rd := rp_scal (T := S1) qo.1 (d_rp ro)
      have e1 : Ext (fun _ => False) S1 H1 S1 H' := ⟨Sub.refl _, fun a u h _ => e.keep a u h id, e.there, fun a h _ _ => h⟩
      have sb1 : Sub S1 H' := fun a u h => e.keep a u (n1.st.sub a u h) id
      have n2 := n1.trans (Nx.new (b := false) n1.st e1 sb1)
      rw [Bool.or_false] at n2
      exact k v _ [] H' S1 env1 Fs1 n2 (Val.data rd) qo.2
    · exact qo.elim, fun y d v H' S' e sb hd fd sd rv hx => hx.elim⟩) x
end
/-! ### x[j].append(e), x[j].reverse(): the list in a name's list -/
section
variable {K : PySem.W.Frag} {S H : Hp}
/-- one of the items: its part, and what another one in its place brings -/
theorem RepL.at : ∀ {os : List O} {xs : List V} {F : List Addr} {j : Nat} {o : O}, RepL K S H os xs F → os[j]? = some o → ∃ v A B G, xs[j]? = some v ∧ F = A ++ (B ++ G) ∧ RepO K S H o v B ∧ Disj A B ∧ Disj B G ∧ Disj A G ∧
    ∀ (S' H' : Hp) (o' : O) (B' : List Addr), Sub S S' → (∀ c u, c ∈ A ++ G → H c = some u → H' c = some u) → RepO K S' H' o' v B' → Disj A B' → Disj B' G → RepL K S' H' (os.set j o') xs (A ++ (B' ++ G))
  | [], xs, F, j, o, h, e => by simp at e
  | a :: os, xs, F, 0, o, h, e => by
    cases e
    simp only [RepL] at h
    obtain ⟨v, r, F1, F2, ex, ef, dj, q, t⟩ := h
    refine ⟨v, [], F1, F2, by rw [ex]; rfl, by rw [ef]; rfl, q, fun a z => absurd z (by simp), dj, fun a z => absurd z (by simp), fun S' H' o' B' s k ro d1 d2 => ?_⟩
    rw [List.set_cons_zero]
    simp only [RepL]
    exact ⟨v, r, B', F2, ex, rfl, d2, ro, RepL.mono s os r F2 t fun c u hc => k c u hc⟩
  | a :: os, xs, F, j + 1, o, h, e => by
    simp only [RepL] at h
    obtain ⟨v, r, F1, F2, ex, ef, dj, q, t⟩ := h
    obtain ⟨w, A, B, G, ew, eF, ro, d1, d2, d3, up⟩ := RepL.at t e
    refine ⟨w, F1 ++ A, B, G, by rw [ex]; exact ew, by rw [ef, eF, List.append_assoc], ro, fun c hc => ?_, d2, fun c hc => ?_, fun S' H' o' B' s k ro' d1' d2' => ?_⟩
    · rcases List.mem_append.mp hc with z | z
      · exact fun y => dj c z (by rw [eF]; exact List.mem_append_right _ (List.mem_append_left _ y))
      · exact d1 c z
    · rcases List.mem_append.mp hc with z | z
      · exact fun y => dj c z (by rw [eF]; exact List.mem_append_right _ (List.mem_append_right _ y))
      · exact d3 c z
    · have t' := up S' H' o' B' s (fun c u hc => k c u (by rw [List.append_assoc]; exact List.mem_append_right _ hc)) ro' (fun c hc => d1' c (List.mem_append_right _ hc)) d2'
      rw [List.set_cons_succ]
      simp only [RepL]
      refine ⟨v, r, F1, A ++ (B' ++ G), ex, by rw [List.append_assoc], fun c hc y => ?_, RepO.mono s a v F1 q fun c u hc => k c u (List.mem_append_left _ (List.mem_append_left _ hc)), t'⟩
      rcases List.mem_append.mp y with z | z
      · exact dj c hc (by rw [eF]; exact List.mem_append_left _ z)
      · rcases List.mem_append.mp z with z | z
        · exact d1' c (List.mem_append_left _ hc) z
        · exact dj c hc (by rw [eF]; exact List.mem_append_right _ (List.mem_append_right _ z))
end
section
variable {K : PySem.W.Frag} {b : Bool} {σ : L2.St} {H S H1 S1 : Hp} {env env1 : Env} {Fs Fs1 : Nat → List Addr} {i : Nat}
/-- one of the objects that a name owns is changed -/
theorem Nx.chg (n : Nx K b σ H S env Fs H1 S1 env1 Fs1) (hlt : i < env1.length) {a : Addr} {v : V} {G' : List Addr} {u : HO} {o' : O} (ev : σ[i]? = some (some v)) (ha : a ∈ Fs1 i)
    (rep : RepO K S1 (upd H1 a u) o' v G') (th : ∀ c ∈ G', c ≠ a → H1 c ≠ none) (hG : ∀ c ∈ G', c ∈ Fs1 i ∨ (¬ Own Fs1 c ∧ S1 c = none ∧ (Own Fs c ∨ H c = none))) :
    Nx K true σ H S env Fs (upd H1 a u) S1 (env1.set i (some o')) (put Fs1 i G') := by
  have oa : Own Fs1 a := ⟨i, ha⟩
  have hx : Ext (fun c => c = a) S1 H1 S1 (upd H1 a u) := ⟨Sub.refl _, fun c o h z => by rw [upd_ne z]; exact h, fun c h => by
    by_cases z : c = a
    · rw [z, upd_same] at h; cases h
    · rw [upd_ne z] at h; exact h, fun c h _ _ => h⟩
  have hS1 : S1 a = none := n.st.nos a oa
  refine ⟨n.up.ext.trans hx fun c h => ?_, ⟨by rw [List.length_set]; exact n.st.len, fun j o h => ?_, fun j k c hj hk => ?_, fun c o h => ?_, fun c h => ?_, fun c h => ?_⟩, fun c h => ?_, fun z => by cases z⟩
  · rw [h]
    rcases n.fr a oa with w | w
    · exact .inl ⟨rfl, w⟩
    · exact .inr w
  · by_cases ej : j = i
    · subst ej
      rw [List.getElem?_set_self hlt] at h
      cases h
      exact ⟨v, ev, by rw [put_same]; exact rep⟩
    · rw [List.getElem?_set_ne (fun z => ej z.symm)] at h
      obtain ⟨v', e1, r'⟩ := n.st.rep j o h
      refine ⟨v', e1, ?_⟩
      rw [put_ne ej]
      exact r'.ext hx fun c hc z => ej (n.st.dis j i c hc (by rw [z]; exact ha))
  · have inG : ∀ c, c ∈ put Fs1 i G' i → c ∈ Fs1 i ∨ ¬ Own Fs1 c := fun c h => by
      rw [put_same] at h
      rcases hG c h with y | y
      · exact .inl y
      · exact .inr y.1
    by_cases ej : j = i
    · subst ej
      by_cases ek : k = j
      · exact ek.symm
      · rw [put_ne ek] at hk
        rcases inG c hj with w | w
        · exact n.st.dis j k c w hk
        · exact absurd ⟨k, hk⟩ w
    · rw [put_ne ej] at hj
      by_cases ek : k = i
      · subst ek
        rcases inG c hk with w | w
        · exact n.st.dis j k c hj w
        · exact absurd ⟨j, hj⟩ w
      · rw [put_ne ek] at hk
        exact n.st.dis j k c hj hk
  · have z : c ≠ a := fun z => by rw [z, hS1] at h; cases h
    rw [upd_ne z]
    exact n.st.sub c o h
  · rcases own_put h with w | w
    · exact n.st.nos c w
    · rcases hG c w with u | u
      · exact n.st.nos c ⟨i, u⟩
      · exact u.2.1
  · by_cases z : c = a
    · rw [z, upd_same]; intro y; cases y
    · rw [upd_ne z]
      rcases own_put h with w | w
      · exact n.st.own c w
      · exact th c w z
  · rcases own_put h with w | w
    · exact n.fr c w
    · rcases hG c w with u | u
      · exact n.fr c ⟨i, u⟩
      · exact u.2.2
theorem Nx.mut2 (n : Nx K b σ H S env Fs H1 S1 env1 Fs1) {os ys : List O} {j : Nat} (hi : env1[i]? = some (some (.own os))) (hj : os[j]? = some (.own ys)) :
    ∃ a xs c zs G, σ[i]? = some (some (.ref a)) ∧ H1 a = some (.lst xs) ∧ xs[j]? = some (.ref c) ∧ H1 c = some (.lst zs) ∧ RepL K S1 H1 ys zs G ∧ (∀ z ∈ G, z ∈ Fs1 i) ∧
    ∀ ys' zs' G', RepL K S1 H1 ys' zs' G' → (∀ z ∈ G', z ∈ G ∨ (¬ Own Fs1 z ∧ S1 z = none ∧ (Own Fs z ∨ H z = none))) → ∃ F', Nx K true σ H S env Fs (upd H1 c (.lst zs')) S1 (env1.set i (some (.own (os.set j (.own ys'))))) (put Fs1 i F') := by
  obtain ⟨v, ev, r⟩ := n.st.rep i _ hi
  obtain ⟨a, xs, F, e, q, ef, ng, rl⟩ := own_rep r
  subst e
  have hlt : i < env1.length := (List.getElem?_eq_some_iff.mp hi).1
  obtain ⟨v, A, B, C, exj, eF, ro, d1, d2, d3, up⟩ := rl.at hj
  obtain ⟨c, zs, G, ec, qc, eB, nc, rz⟩ := own_rep ro
  subst ec
  have cF : c ∈ F := by rw [eF, eB]; exact List.mem_append_right _ (List.mem_append_left _ List.mem_cons_self)
  have hc : c ∈ Fs1 i := by rw [ef]; exact List.mem_cons_of_mem _ cF
  have gF : ∀ z ∈ G, z ∈ F := fun z hz => by rw [eF, eB]; exact List.mem_append_right _ (List.mem_append_left _ (List.mem_cons_of_mem _ hz))
  have ca : a ≠ c := fun z => ng (by rw [z]; exact cF)
  refine ⟨a, xs, c, zs, G, ev, q, exj, qc, rz, fun z hz => by rw [ef]; exact List.mem_cons_of_mem _ (gF z hz), fun ys' zs' G' rz' hG => ?_⟩
  have old : ∀ z ∈ G', ∀ {T : List Addr}, (∀ y ∈ T, y ∈ F) → (z ∈ G → z ∉ T) → z ∉ T := fun z hz T hT h y => by
    rcases hG z hz with w | w
    · exact h w y
    · exact w.1 ⟨i, by rw [ef]; exact List.mem_cons_of_mem _ (hT z y)⟩
  have hA : ∀ y ∈ A, y ∈ F := fun y hy => by rw [eF]; exact List.mem_append_left _ hy
  have hC : ∀ y ∈ C, y ∈ F := fun y hy => by rw [eF]; exact List.mem_append_right _ (List.mem_append_right _ hy)
  have gB : ∀ z ∈ G, z ∈ B := fun z hz => by rw [eB]; exact List.mem_cons_of_mem _ hz
  have cB : c ∈ B := by rw [eB]; exact List.mem_cons_self
  have cG' : c ∉ G' := fun z => old c z (T := [c]) (fun y hy => by rw [List.mem_singleton.mp hy]; exact cF) (fun y => absurd y nc) (by simp)
  have aG' : a ∉ G' := fun z => by
    rcases hG a z with w | w
    · exact ng (gF a w)
    · exact w.1 ⟨i, by rw [ef]; exact List.mem_cons_self⟩
  have ro' : RepO K S1 (upd H1 c (.lst zs')) (.own ys') (.ref c) (c :: G') := by
    simp only [RepO]
    exact ⟨c, zs', G', rfl, upd_same, rfl, cG', RepL.mono (Sub.refl _) ys' zs' G' rz' fun y w hy hw => by rw [upd_ne (fun z => cG' (by rw [← z]; exact hy))]; exact hw⟩
  have dA : Disj A (c :: G') := fun y hy z => by
    rcases List.mem_cons.mp z with w | w
    · exact d1 y hy (by rw [w]; exact cB)
    · exact old y w hA (fun u v => d1 y v (gB y u)) hy
  have dC : Disj (c :: G') C := fun y hy z => by
    rcases List.mem_cons.mp hy with w | w
    · exact d2 y (by rw [w]; exact cB) z
    · exact old y w hC (fun u => d2 y (gB y u)) z
  have rl' := up S1 (upd H1 c (.lst zs')) (.own ys') (c :: G') (Sub.refl _) (fun y w hy hw => by
    rw [upd_ne (fun z => ?_)]
    · exact hw
    · rcases List.mem_append.mp hy with u | u
      · exact d1 y u (by rw [z]; exact cB)
      · exact d2 c cB (by rw [← z]; exact u)) ro' dA dC
  refine ⟨a :: (A ++ (c :: G' ++ C)), n.chg hlt ev hc ?_ (fun y hy ne => ?_) fun y hy => ?_⟩
  · simp only [RepO]
    refine ⟨a, xs, _, rfl, by rw [upd_ne ca]; exact q, rfl, fun z => ?_, rl'⟩
    rcases List.mem_append.mp z with u | u
    · exact ng (hA a u)
    · rcases List.mem_append.mp u with u | u
      · rcases List.mem_cons.mp u with u | u
        · exact ca u
        · exact aG' u
      · exact ng (hC a u)
  · rcases List.mem_cons.mp hy with u | u
    · rw [u, q]; intro z; cases z
    · have inF : y ∈ F → H1 y ≠ none := fun h => RepL.there os xs F rl y h
      rcases List.mem_append.mp u with u | u
      · exact inF (hA y u)
      · rcases List.mem_append.mp u with u | u
        · rcases List.mem_cons.mp u with u | u
          · exact absurd u ne
          · exact RepL.there ys' zs' G' rz' y u
        · exact inF (hC y u)
  · have inF : y ∈ F → y ∈ Fs1 i := fun h => by rw [ef]; exact List.mem_cons_of_mem _ h
    rcases List.mem_cons.mp hy with u | u
    · exact .inl (by rw [ef, u]; exact List.mem_cons_self)
    · rcases List.mem_append.mp u with u | u
      · exact .inl (inF (hA y u))
      · rcases List.mem_append.mp u with u | u
        · rcases List.mem_cons.mp u with u | u
          · exact .inl (inF (by rw [u]; exact cF))
          · exact (hG y u).elim (fun z => .inl (inF (gF y z))) .inr
        · exact .inl (inF (hC y u))
end
@[simp] def withOwn2 (env : Env) (i j : Nat) (k : List O → List O → Prop) : Prop := withOwn env i fun os => match os[j]? with
  | some (.own ys) => k os ys
  | _ => False
theorem withOwn2_iff {env : Env} {i j : Nat} {k : List O → List O → Prop} (h : withOwn2 env i j k) : ∃ os ys, env[i]? = some (some (.own os)) ∧ os[j]? = some (.own ys) ∧ k os ys := by
  obtain ⟨os, e, h⟩ := withOwn_iff h
  split at h
  · rename_i ys ey
    exact ⟨os, ys, e, ey, h⟩
  · exact h.elim
@[simp] def pAppend2 (i j : Nat) (t : PTE) : PTE := fun env Q E => (withOwn2 env i j fun _ _ => True) ∧ t env (fun o env1 => withOwn2 env1 i j fun os ys => ys.length < 16777216 ∧ Q (.d .non) (env1.set i (some (.own (os.set j (.own (ys ++ [o]))))))) E
@[simp] def pReverse2 (i j : Nat) : PTE := fun env Q _ => withOwn2 env i j fun os ys => match flatL ys with
  | some ds => Q (.d .non) (env.set i (some (.own (os.set j (.own (ds.reverse.map O.d))))))
  | none => False
@[simp] def pPop2 (i j : Nat) : PTE := fun env Q _ => withOwn2 env i j fun os ys => match ys.getLast? with
  | some (.d d) => Q (.d d) (env.set i (some (.own (os.set j (.own ys.dropLast)))))
  | _ => False
section
variable {K : PySem.W.Frag} {W : WX} {b b1 b2 w w1 w2 : Bool} {i j : Nat}
theorem atI_nat' {α : Type} {xs : List α} {j : Nat} {v : α} (h : xs[j]? = some v) : atI xs (j : Int) = some v := atI_nat h
theorem ix2 {σ : L2.St} {H S : Hp} {env : Env} {Fs : Nat → List Addr} (hs : St K σ H S env Fs) {os ys : List O} (e : env[i]? = some (some (.own os))) (ej : os[j]? = some (.own ys)) {Q : VK} (k : ∀ c, (∃ a xs, σ[i]? = some (some (.ref a)) ∧ H a = some (.lst xs) ∧ xs[j]? = some (.ref c)) → tyV K "list" (.ref c) H → Q (.ref c) H) :
    tOp (rIx K) (tVar i) (tC (.int (j : Int))) σ H Q := by
  obtain ⟨a, xs, c, zs, G, ev, q, ex, qc, rz, _, _⟩ := (Nx.refl (b := true) hs).mut2 e ej
  exact ⟨_, ev, .inl ⟨a, xs, (j : Int), .ref c, rfl, rfl, .inl (.inl q), atI_nat' ex, k c ⟨a, xs, ev, q, ex⟩ (.inl ⟨rfl, zs, .inl (.inl qc)⟩)⟩⟩
theorem sim_append2 {ta : TE} {t : PTE} (ha : SimE K W false false ta t) : SimE K W true false (tBM K "list" rAppend (tOp (rIx K) (tVar i) (tC (.int (j : Int)))) (tCons ta tNil)) (pAppend2 i j t) := fun σ H S env Fs Qp Ep Q hs ht k x => by
  obtain ⟨h0, ht⟩ := ht
  obtain ⟨os, ys, e, ej, _⟩ := withOwn2_iff h0
  refine ix2 hs e ej fun c hc ty => ⟨ty, ha σ H S env Fs _ Ep _ hs ht (fun v o F H1 S1 env1 Fs1 n cv q => ?_) x⟩
  obtain ⟨rfl, rfl⟩ := n.pure rfl
  obtain ⟨os', ys', e', ej', hl, q⟩ := withOwn2_iff q
  obtain ⟨a, xs, ev, hx, hxc⟩ := hc
  obtain ⟨a', xs', c', zs, G, ev', hx', hxc', hz, rz, gI, m⟩ := n.mut2 e' ej'
  rw [ev] at ev'
  cases ev'
  have hx2 := n.ext.keep a _ hx fun z => by cases z.1
  rw [hx2] at hx'
  cases hx'
  rw [hxc] at hxc'
  cases hxc'
  refine ⟨c, zs, v, rfl, rfl, hz, by rw [rz.length, sizeLine_eq]; exact hl, ?_⟩
  have dj : Disj G F := fun z hz hf => cv.own rfl z hf ⟨i, gI z hz⟩
  obtain ⟨F', m1⟩ := m (ys' ++ [o]) (zs ++ [v]) (G ++ F) (rz.append (.one cv.rep) dj) fun c' hc => by
    rcases List.mem_append.mp hc with z | z
    · exact .inl z
    · exact .inr ⟨cv.own rfl c' z, cv.nos c' z, cv.fr c' z⟩
  exact k _ _ [] _ _ _ _ m1 (Val.data rp_non) q
theorem sim_reverse2 : SimE K W true false (tBM0 K "list" rReverse (tOp (rIx K) (tVar i) (tC (.int (j : Int))))) (pReverse2 i j) := fun σ H S env Fs Qp Ep Q hs ht k x => by
  obtain ⟨os, ys, e, ej, q⟩ := withOwn2_iff ht
  refine ix2 hs e ej fun c hc ty => ⟨ty, ?_⟩
  obtain ⟨a, xs, ev, hx, hxc⟩ := hc
  split at q
  · rename_i ds eds
    have eo := flatL_eq eds
    subst eo
    obtain ⟨a', xs', c', zs, G, ev', hx', hxc', hz, rz, gI, m⟩ := (Nx.refl (b := true) hs).mut2 e ej
    rw [ev] at ev'
    cases ev'
    rw [hx] at hx'
    cases hx'
    rw [hxc] at hxc'
    cases hxc'
    obtain ⟨rr, eG⟩ := repL_d.mp rz
    subst eG
    obtain ⟨F', m1⟩ := m (ds.reverse.map O.d) zs.reverse [] (repL_d.mpr ⟨rr.reverse, rfl⟩) fun c hc => absurd hc (by simp)
    exact ⟨c, zs, rfl, rfl, hz, k _ _ [] _ _ _ _ m1 (Val.data rp_non) q⟩
  · exact q.elim
end
/-! ### built-ins of several values -/
def OpCn (K : PySem.W.Frag) (r : List V → Hp → VK → Prop) (f : List D → (O → Prop) → Prop) : Prop := ∀ S H vs ds (Qp : O → Prop) (Q : VK), Sub S H → RpL K S ds vs → f ds Qp → Yields K S H Qp Q → r vs H Q
@[simp] def pCn (f : List D → (O → Prop) → Prop) (u : PTA) : PTE := fun env Q E => u env (fun ds env' => f ds fun o => Q o env') E
theorem sim_cn {K : PySem.W.Frag} {W : WX} {b : Bool} {n : Nat} {r : List V → Hp → VK → Prop} {f : List D → (O → Prop) → Prop} {ta : TA} {u : PTA} (ho : OpCn K r f) (h : SimA K W b n ta u) : SimE K W b false (tCB r ta) (pCn f u) := fun σ H S env Fs Qp Ep Q hs ht k x =>
  h σ H S env Fs _ _ _ hs ht (fun vs ds H1 S1 env1 Fs1 n1 r1 hl q => ho S1 H1 vs ds _ _ n1.st.sub r1 q (yields_of n1 k)) x
@[simp] def fMax2 : List D → (O → Prop) → Prop := fun ds Q => match ds with
  | [.int i, .int j] => Q (.d (.int (if j > i then j else i)))
  | _ => False
@[simp] def fMin2 : List D → (O → Prop) → Prop := fun ds Q => match ds with
  | [.int i, .int j] => Q (.d (.int (if j < i then j else i)))
  | _ => False
theorem two_ints {K : PySem.W.Frag} {S : Hp} {i j : Int} {vs : List V} (r : RpL K S [.int i, .int j] vs) : vs = [.int i, .int j] := by
  simp only [RpL, Rp] at r
  obtain ⟨v, t, e, e1, w, t2, e2, e3, e4⟩ := r
  subst e e1 e2 e3 e4
  rfl
theorem oc_max2 {K : PySem.W.Frag} : OpCn K (fun xs H Q => ∃ i j, xs = [.int i, .int j] ∧ Q (.int (if j > i then j else i)) H) fMax2 := fun S H vs ds Qp Q s r hf yl => by
  unfold fMax2 at hf
  split at hf
  · exact ⟨_, _, two_ints r, yl.d s rp_int hf⟩
  · exact hf.elim
theorem oc_min2 {K : PySem.W.Frag} : OpCn K (fun xs H Q => ∃ i j, xs = [.int i, .int j] ∧ Q (.int (if j < i then j else i)) H) fMin2 := fun S H vs ds Qp Q s r hf yl => by
  unfold fMin2 at hf
  split at hf
  · exact ⟨_, _, two_ints r, yl.d s rp_int hf⟩
  · exact hf.elim
end DL
end

section
set_option Elab.async false
set_option linter.all false
set_option maxRecDepth 100000
set_option maxHeartbeats 2000000
namespace DL
open PySem PySem.Spec L2 PyProof.Rows

/-! ### what a law's walk stands on -/
structure CxtG (bs : List Bo) (fns : List He.DefD) (K : PySem.W.Frag) (mg : Str → Option Value) : Prop where
  says : SaysB bs fns K
  hp : ∃ h : Heap, K.In h ∧ h.Ns mainGlobals mg
section
variable {bs : List Bo} {fns : List He.DefD} {K : PySem.W.Frag} {mg : Str → Option Value}
theorem CxtG.glo (C : CxtG bs fns K mg) (i : Nat) {x : Str} (h : bs[i]? = some (gloB x) := by rfl) : mg x = some (.ref (He.ga K x)) := by
  obtain ⟨hp, X, G⟩ := C.hp
  exact He.glo_ok X G (C.says.fact i h)
theorem CxtG.free (C : CxtG bs fns K mg) (i : Nat) {x : Str} (h : bs[i]? = some (freeB x) := by rfl) : mg x = none := by
  obtain ⟨hp, X, G⟩ := C.hp
  exact He.free_ok X G (C.says.fact i h)
theorem CxtG.int (C : CxtG bs fns K mg) (j : Nat) {x : Str} {i : Int} (h : bs[j]? = some (intB x i) := by rfl) : ∃ t, mg x = some (.int i t) := by
  obtain ⟨hp, X, G⟩ := C.hp
  exact He.int_ok X G (C.says.fact j h)
theorem CxtG.str (C : CxtG bs fns K mg) (j : Nat) {x z : Str} (h : bs[j]? = some (strB x z) := by rfl) : ∃ t, mg x = some (.str z t) := by
  obtain ⟨hp, X, G⟩ := C.hp
  exact He.str_ok X G (C.says.fact j h)
theorem CxtG.tup (C : CxtG bs fns K mg) (j : Nat) {x : Str} {vs : List He.Dv} {ds : List D} (r : ∀ S, RpL K S ds (vs.map (He.Dv.v K))) (S : Hp) (h : bs[j]? = some (tupB x vs) := by rfl) : Rp K S (.tup ds) (.ref (He.ga K x)) := by
  simp only [Rp]
  exact ⟨_, _, rfl, He.tupB_ok (C.says.fact j h) S, r S⟩
theorem CxtG.fn (C : CxtG bs fns K mg) (j : Nat) {x : Str} {st : Stmt} (h : fns[j]? = some ⟨(x, none), x, x, defArgs st, defBody st, defScope st, [], []⟩ := by rfl) : ∃ fd, FunD K x x (defArgs st) (defBody st) (defScope st) [] [] (He.ga K x) fd := C.says.def_ j h
end
theorem Room.u1 {k : Nat} {A : Around} (r : Room k A) : A.units + 1 < cLine := by have := r.un; omega
def Okf (P : Program) (w : World) (K : PySem.W.Frag) (mg : Str → Option Value) (base : Heap) (k : Nat) (x : Str) (st : Stmt) (ps : List Str) (sp : Sp) : Prop :=
  (∃ fd, FunD K x x (defArgs st) (defBody st) (defScope st) [] [] (He.ga K x) fd ∧ Binds K fd ps [] ∧ FnOk P w K mg base (L2.CX P w) k (He.ga K x) fd ps sp) ∧ mg x = some (.ref (He.ga K x))
section
variable {P : Program} {w : World} {K : PySem.W.Frag} {mg : Str → Option Value} {base : Heap} {k : Nat} {x : Str} {st : Stmt} {ps : List Str} {sp : Sp}
theorem Okf.ex (h : Okf P w K mg base k x st ps sp) : ∃ fd, FunD K x x (defArgs st) (defBody st) (defScope st) [] [] (He.ga K x) fd ∧ Binds K fd ps [] ∧ FnOk P w K mg base (L2.CX P w) k (He.ga K x) fd ps sp := h.1
theorem Okf.gm (h : Okf P w K mg base k x st ps sp) : mg x = some (.ref (He.ga K x)) := h.2
end
def Okx (P : Program) (w : World) (K : PySem.W.Frag) (mg : Str → Option Value) (base : Heap) (x fld : Str) : Prop :=
  XCls K x fld (He.fAd K (x, some "__init__")) ∧ ∃ fd, Binds K fd ["self", fld] [] ∧ FnOk P w K mg base CX0 1 (He.fAd K (x, some "__init__")) fd ["self", fld] (spI (He.ga K x) fld) ∧ mg x = some (.ref (He.ga K x))
section
variable {P : Program} {w : World} {K : PySem.W.Frag} {mg : Str → Option Value} {base : Heap} {k : Nat} {f : Addr} {fd : FuncData} {ps : List Str}
theorem noV {sp : PSpV} (h : ∀ ds Qp Ep, ¬ sp ds Qp Ep) : FnOk P w K mg base (L2.CX P w) k f fd ps (spV K sp) := by
  refine ⟨fun vs H Q E z => ?_, fun A outer s H args us vs Q E _ _ _ _ z => ?_⟩ <;>
  · obtain ⟨S, ds, Qp, Ep, _, _, z, _⟩ := z
    exact absurd z (h ds Qp Ep)
theorem noM {sp : PSpM} (h : ∀ xs ds Qp, ¬ sp xs ds Qp) : FnOk P w K mg base (L2.CX P w) k f fd ps (spM K sp) := by
  refine ⟨fun vs H Q E z => ?_, fun A outer s H args us vs Q E _ _ _ _ z => ?_⟩ <;>
  · obtain ⟨S, a, xs, F, vs', ds, Qp, _, _, _, _, _, z, _⟩ := z
    exact absurd z (h xs ds Qp)
theorem fm_all {α β : Type} {f : α → Option β} : ∀ {l : List α}, (l.filterMap f).length = l.length → ∀ i ∈ l, (f i).isSome = true
  | [], _, i, hi => absurd hi (by simp)
  | a :: l, h, i, hi => by
    rw [List.filterMap_cons] at h
    cases e : f a with
    | none =>
      rw [e] at h
      have := List.length_filterMap_le f l
      simp only [List.length_cons] at h
      omega
    | some b =>
      rw [e] at h
      simp only [List.length_cons, Nat.add_right_cancel_iff] at h
      rcases List.mem_cons.mp hi with z | z
      · rw [z, e]; rfl
      · exact fm_all h i z
theorem kbD {x qual : Str} {params : Arguments} {body : List Stmt} {scope : Scope} {ks : List Str} {idx : List Nat} (F : FunD K x qual params body scope [] [] f fd)
    (h : ∀ (kV doc pm : Value) (an : Option Addr) (cdv ct : Value) (us : List Value), us.length = ks.length → bindArgs (PySem.W.fnOf x qual params body scope .none kV doc pm an cdv ct) ⟨[], ks.zip us⟩ = Pure.pure (ps.zip (pickL idx us)))
    (hi : ∀ i ∈ idx, i < ks.length := by decide) (hm : ks.length - 1 ∈ idx := by decide) (hps : ps.length = idx.length := by rfl) :
    ∀ (s : Shared) (ws : List Value), K.In s.heap → (pickL idx ws).length = ps.length → BindsTo s fd ⟨[], ks.zip ws⟩ (ps.zip (pickL idx ws)) := by
  obtain ⟨oc, od, dV, kV, doc, pm, an, cdv, ct, osl, rfl, lk, hcd, hD, hK⟩ := F.ex
  rcases hD with ⟨_, rfl⟩ | ⟨z, _⟩
  · intro s ws _ hw
    have h1 := fm_all (hw.trans hps) _ hm
    have h2 : ks.length ≤ ws.length := by
      have : ks.length - 1 < ws.length := by
        rw [Option.isSome_iff_exists] at h1
        obtain ⟨b, hb⟩ := h1
        exact (List.getElem?_eq_some_iff.mp hb).1
      omega
    have e1 : ks.zip ws = ks.zip (ws.take ks.length) := by
      rw [List.zip_eq_zip_take_min, Nat.min_eq_left h2, List.take_length]
    have e2 : pickL idx ws = pickL idx (ws.take ks.length) := by
      unfold pickL
      clear h hm hps hw h1
      induction idx with
      | nil => rfl
      | cons i r ih =>
        rw [List.filterMap_cons, List.filterMap_cons, List.getElem?_take, if_pos (hi i (List.mem_cons_self ..)), ih fun j hj => hi j (List.mem_cons_of_mem _ hj)]
    rw [e1, e2]
    exact .of_eq (h kV doc pm an cdv ct _ (by rw [List.length_take]; omega))
  · exact absurd rfl z
end
section
variable {K : PySem.W.Frag} {W : WX} {pins : List Nat} {i : Nat}
def tTry (K : PySem.W.Frag) (c : Value) (i : Nat) (tb : WX → TS) (ts : Addr → Value → Option Addr → TS) (W : WX) : TS := fun D σ H => tb (wAs K c i ts W D) D σ H
theorem sim_try_as2 {L : List Str} {c : Str} {tb : WX → TS} {ts : Addr → Value → Option Addr → TS} {pb : PTS} {ps : Addr → Addr → PTS} (hm : ExM K L c) (hp : i ∉ pins) (hb : ∀ W, SimS K W pins (tb W) pb)
    (hs : ∀ a cls dd d, cls = Value.ref (He.ga K c) → dd = some d → SimS K (fun _ _ _ _ => False) pins (ts a cls dd) (ps a d)) : SimS K W pins (tTry K (.ref (He.ga K c)) i tb ts W) (pTryAs L c i pb ps) :=
  sim_try_as hm hp hb fun a d => hs a _ _ d rfl rfl
theorem ps_try2 {X : Cx} {x n : Str} {c : Value} {i : Nat} {body suite : List Stmt} {b₀ : Stmt} {np pos pos' : Pos} {tb : WX → TS} {ts : Addr → Value → Option Addr → TS} {Wout : WX} (hs : X.stack = X.env :: X.outer) (hf : X.env.frame = some X.env.locals) (hN : X.N.Nodup) (hi : X.N[i]? = some n)
    (hln : X.env.kindOf n = some .local) (hc : Names X x c) (tk : Takes X Wout) (hb : ∀ (W : WX) (pn : List (Addr × Obj)) (xe : Value → Shared → Prop), Takes (X.tr pn xe) W → PassesOwn (model X.prog X.w) X.A X.env xe → PSs (X.tr pn xe) body (tb W))
    (hsu : ∀ (a : Addr) (oe : Obj) (cls : Value) (d : Option Addr) (pn : List (Addr × Obj)), Zc cls d oe → (∃ vs, oe.data = .fields vs) → PSs (X.suite a ((a, oe) :: pn)) (b₀ :: suite) (ts a cls d)) :
    PS X (.Try body [.ExceptHandler (some (.Name x np)) (some n) (b₀ :: suite) pos'] [] [] pos) (tTry X.K c i tb ts Wout) := ps_try_as hs hf hN hi hln hc tk hb hsu
theorem sim_xf2 {c f : Str} {a d : Addr} {cls : Value} {dd : Option Addr} (e1 : cls = .ref (He.ga K c)) (e2 : dd = some d) : SimE K W false false (tXf a cls dd (He.ga K c) f (tVar i)) (pXf a d c f i) := by
  subst e1 e2
  exact sim_xf
end
end DL
end

section
set_option Elab.async false
set_option linter.all false
set_option maxRecDepth 100000
set_option maxHeartbeats 2000000
namespace DL
open PySem PySem.Spec L2 PyProof.Rows

/-! ### plain lemmas for pure readings -/
@[simp] theorem atI_0 {α : Type} {a : α} {l : List α} : atI (a :: l) 0 = some a := atI_nat (j := 0) rfl
@[simp] theorem atI_1 {α : Type} {a b : α} {l : List α} : atI (a :: b :: l) 1 = some b := atI_nat (j := 1) rfl
@[simp] theorem atI_2 {α : Type} {a b c : α} {l : List α} : atI (a :: b :: c :: l) 2 = some c := atI_nat (j := 2) rfl
@[simp] theorem atI_3 {α : Type} {a b c d : α} {l : List α} : atI (a :: b :: c :: d :: l) 3 = some d := atI_nat (j := 3) rfl
@[simp] theorem eqv_str {a b : List Nat} : (D.str a).eqv (.str b) = decide (a = b) := rfl
@[simp] theorem eqv_int {a b : Int} : (D.int a).eqv (.int b) = decide (a = b) := rfl
@[simp] theorem eqv_bl {a b : Bool} : (D.bl a).eqv (.bl b) = (a == b) := rfl
@[simp] theorem eqv_lst {a b : List D} : (D.lst a).eqv (.lst b) = eqvL a b := rfl
@[simp] theorem eqv_lst_str {a : List D} {b : List Nat} : (D.lst a).eqv (.str b) = false := rfl
@[simp] theorem eqvL_nil : eqvL [] [] = true := rfl
@[simp] theorem eqvL_cn {x : D} {xs : List D} : eqvL (x :: xs) [] = false := rfl
@[simp] theorem eqvL_nc {x : D} {xs : List D} : eqvL [] (x :: xs) = false := rfl
@[simp] theorem eqvL_cc {x y : D} {xs ys : List D} : eqvL (x :: xs) (y :: ys) = (x.eqv y && eqvL xs ys) := rfl
@[simp] theorem plain_lst {l : List D} : D.plain (.lst l) = plainL l := rfl
@[simp] theorem plain_tup {l : List D} : D.plain (.tup l) = plainL l := rfl
@[simp] theorem plainL_nil : plainL [] = true := rfl
@[simp] theorem plainL_cons {d : D} {l : List D} : plainL (d :: l) = (d.plain && plainL l) := rfl
@[simp] theorem depth_lst {l : List D} : D.depth (.lst l) = depthL l + 1 := rfl
@[simp] theorem depth_tup {l : List D} : D.depth (.tup l) = depthL l + 1 := rfl
@[simp] theorem depth_str {l : List Nat} : D.depth (.str l) = 0 := rfl
@[simp] theorem depth_int {l : Int} : D.depth (.int l) = 0 := rfl
@[simp] theorem depth_bl {l : Bool} : D.depth (.bl l) = 0 := rfl
@[simp] theorem depthL_nil : depthL [] = 0 := rfl
@[simp] theorem depthL_cons {d : D} {l : List D} : depthL (d :: l) = max d.depth (depthL l) := rfl
@[simp] theorem ceq_str {a b : List Nat} : CEq (.str a) (.str b) ↔ True := by simp [CEq]
@[simp] theorem ceq_int {a b : Int} : CEq (.int a) (.int b) ↔ True := by simp [CEq]
@[simp] theorem ceq_bl {a b : Bool} : CEq (.bl a) (.bl b) ↔ True := by simp [CEq]
@[simp] theorem flatL_cons {d : D} {r : List O} : flatL (.d d :: r) = (flatL r).map (d :: ·) := rfl
@[simp] theorem frzL_map (ds : List D) : frzL (ds.map O.d) = ds := by
  induction ds with
  | nil => rfl
  | cons d r ih => simp [ih]
@[simp] theorem cut_1 {α : Type} {a : α} {l : List α} : cutL (a :: l) (some 1) none = l := by
  simp [cutL, HT.sIx]
@[simp] theorem fIx_tup {ds : List D} {i : Int} {Q} : fIx (.d (.tup ds)) (.d (.int i)) Q = (match atI ds i with | some d => Q (.d d) | none => False) := rfl
@[simp] theorem fIx_str {ds : List Nat} {i : Int} {Q} : fIx (.d (.str ds)) (.d (.int i)) Q = (match atI ds i with | some d => Q (.d (.str [d])) | none => False) := rfl
@[simp] theorem fIx_lst {ds : List D} {i : Int} {Q} : fIx (.d (.lst ds)) (.d (.int i)) Q = (match atI ds i with | some d => Q (.d d) | none => False) := rfl
@[simp] theorem fIx_kst {ds : List D} {i : Int} {Q} : fIx (.d (.kst ds)) (.d (.int i)) Q = (match atI ds i with | some d => Q (.d d) | none => False) := rfl
@[simp] theorem fIx_own {os : List O} {i : Int} {Q} : fIx (.own os) (.d (.int i)) Q = (match flatL os with | some ds => (match atI ds i with | some d => Q (.d d) | none => False) | none => False) := rfl
@[simp] theorem fAdd_int {i j : Int} {Q} : fAdd (.d (.int i)) (.d (.int j)) Q = Q (.d (.int (i + j))) := rfl
@[simp] theorem fAdd_str {i j : List Nat} {Q} : fAdd (.d (.str i)) (.d (.str j)) Q = (i.length + j.length ≤ 16777216 ∧ Q (.d (.str (i ++ j)))) := rfl
@[simp] theorem fAdd_tup {i j : List D} {Q} : fAdd (.d (.tup i)) (.d (.tup j)) Q = (i.length + j.length ≤ 16777216 ∧ Q (.d (.tup (i ++ j)))) := rfl
@[simp] theorem fAdd_ll {i j : List D} {Q} : fAdd (.d (.lst i)) (.d (.lst j)) Q = (i.length + j.length ≤ 16777216 ∧ Q (.own ((i ++ j).map O.d))) := rfl
@[simp] theorem fAdd_lo {i : List D} {j : List O} {Q} : fAdd (.d (.lst i)) (.own j) Q = (match flatL j with | some b => i.length + b.length ≤ 16777216 ∧ Q (.own ((i ++ b).map O.d)) | none => False) := by
  unfold fAdd
  simp only [O.lisT]
  cases flatL j <;> rfl
@[simp] theorem fAdd_ol {i : List O} {j : List D} {Q} : fAdd (.own i) (.d (.lst j)) Q = (match flatL i with | some b => b.length + j.length ≤ 16777216 ∧ Q (.own ((b ++ j).map O.d)) | none => False) := by
  unfold fAdd
  simp only [O.lisT]
  cases flatL i <;> rfl
@[simp] theorem fAdd_oo {i j : List O} {Q} : fAdd (.own i) (.own j) Q = (match flatL i, flatL j with | some a, some b => a.length + b.length ≤ 16777216 ∧ Q (.own ((a ++ b).map O.d)) | _, _ => False) := rfl
@[simp] theorem fMul_int {i j : Int} {Q} : fMul (.d (.int i)) (.d (.int j)) Q = (CMulW i j ∧ Q (.d (.int (i * j)))) := rfl
@[simp] theorem fMul_own {i : List O} {k : Int} {Q} : fMul (.own i) (.d (.int k)) Q = (match flatL i with | some ds => -(2 ^ 63) ≤ k ∧ k < 2 ^ 63 ∧ ds.length * k.toNat ≤ 16777216 ∧ Q (.own ((List.replicate k.toNat ds).flatten.map O.d)) | none => False) := rfl
@[simp] theorem fInB_sign {n : Bool} {c : Nat} {z : List Nat} {Q} : fInB n (.d (.str [c])) (.d (.str z)) Q = Q (.d (.bl (if n then !decide (c ∈ z) else decide (c ∈ z)))) := rfl
@[simp] theorem fSum_lst {ds : List Int} {Q} : fSum (.d (.lst (ds.map D.int))) Q = Q (.d (.int ds.sum)) := by simp [fSum]
@[simp] theorem fSum_own {ds : List Int} {Q} : fSum (.own ((ds.map D.int).map O.d)) Q = Q (.d (.int ds.sum)) := by simp only [fSum, lis_own, Option.bind_some, toInts_map]
@[simp] theorem fAll_own {ds : List Bool} {Q} : fAll (.own ((ds.map D.bl).map O.d)) Q = Q (.d (.bl (ds.all id))) := by simp only [fAll, lis_own, Option.bind_some, toBools_map]
@[simp] theorem get_nn {α : Type} {l : List α} {n : Nat} : l[(n : Nat)]? = l[n]? := rfl
/-! ### walks over lists -/
theorem forR_nil {g : PTG} {b : PTS} {De : PEnds} {env : Env} : forR g b De [] env = De.nx env := rfl
theorem forR_cons {g : PTG} {b : PTS} {De : PEnds} {d : D} {ds : List D} {env : Env} : forR g b De (d :: ds) env = g (.d d) env fun env' => b { De with nx := forR g b De ds, ct := forR g b De ds, bk := De.nx } env' := rfl
/-- a for loop by an invariant over what is walked and what is to come -/
theorem forR_inv {g : PTG} {b : PTS} {De : PEnds} (I : List D → Env → Prop) (hn : ∀ env, I [] env → De.nx env)
    (hs : ∀ d ds env, I (d :: ds) env → g (.d d) env fun env' => b { De with nx := I ds, ct := I ds, bk := De.nx } env') (mg : ∀ o env (Q Q' : Env → Prop), (∀ e, Q e → Q' e) → g o env Q → g o env Q')
    (mb : ∀ (N N' : Env → Prop) env, (∀ e, N e → N' e) → b { De with nx := N, ct := N, bk := De.nx } env → b { De with nx := N', ct := N', bk := De.nx } env) : ∀ (ds : List D) (env : Env), I ds env → forR g b De ds env
  | [], env, h => hn env h
  | d :: ds, env, h => by
    rw [forR_cons]
    exact mg _ _ _ _ (fun e q => mb _ _ e (fun e' q' => forR_inv I hn hs mg mb ds e' q') q) (hs d ds env h)
theorem depthL_map_d (ds : List D) : frzL (ds.map O.d) = ds := frzL_map ds
theorem eqvL_nil_r (ds : List D) : eqvL ds [] = ds.isEmpty := by cases ds <;> rfl
@[simp] theorem fNe_nil {ds : List D} {Q} : fNe (.own (ds.map O.d)) (.own []) Q ↔ plainL ds = true ∧ Q (.d (.bl (!ds.isEmpty))) := by
  simp only [fNe, O.frz, frzL_map, frzL, CEq, D.plain, plainL_nil, D.depth, depthL_nil, D.eqv, eqvL_nil_r]
  constructor
  · rintro ⟨⟨h, _⟩, q⟩; exact ⟨h, q⟩
  · rintro ⟨h, q⟩; exact ⟨⟨h, trivial, by omega⟩, q⟩
@[simp] theorem fEq_nil {ds : List D} {Q} : fEq (.own (ds.map O.d)) (.own []) Q ↔ plainL ds = true ∧ Q (.d (.bl ds.isEmpty)) := by
  simp only [fEq, O.frz, frzL_map, frzL, CEq, D.plain, plainL_nil, D.depth, depthL_nil, D.eqv, eqvL_nil_r]
  constructor
  · rintro ⟨⟨h, _⟩, q⟩; exact ⟨h, q⟩
  · rintro ⟨h, q⟩; exact ⟨⟨h, trivial, by omega⟩, q⟩
@[simp] theorem fNe_str {a b : List Nat} {Q} : fNe (.d (.str a)) (.d (.str b)) Q ↔ Q (.d (.bl (!decide (a = b)))) := by simp [fNe]
@[simp] theorem fEq_str {a b : List Nat} {Q} : fEq (.d (.str a)) (.d (.str b)) Q ↔ Q (.d (.bl (decide (a = b)))) := by simp [fEq]
@[simp] theorem fNe_int {a b : Int} {Q} : fNe (.d (.int a)) (.d (.int b)) Q ↔ Q (.d (.bl (!decide (a = b)))) := by simp [fNe]
@[simp] theorem fEq_int {a b : Int} {Q} : fEq (.d (.int a)) (.d (.int b)) Q ↔ Q (.d (.bl (decide (a = b)))) := by simp [fEq]
@[simp] theorem fNe_bl {a b : Bool} {Q} : fNe (.d (.bl a)) (.d (.bl b)) Q ↔ Q (.d (.bl (!(a == b)))) := by simp [fNe]
@[simp] theorem fEq_bl {a b : Bool} {Q} : fEq (.d (.bl a)) (.d (.bl b)) Q ↔ Q (.d (.bl (a == b))) := by simp [fEq]
@[simp] theorem flatL_mapr (ds : List D) : flatL (ds.map O.d).reverse = some ds.reverse := by rw [← List.map_reverse, flatL_map]
@[simp] theorem lisT_ownr (ds : List D) : (O.own (ds.map O.d).reverse).lisT = some ds.reverse := flatL_mapr ds
@[simp] theorem lis_ownr (ds : List D) : (O.own (ds.map O.d).reverse).lis = some ds.reverse := flatL_mapr ds
@[simp] theorem frzL_mapr (ds : List D) : frzL (ds.map O.d).reverse = ds.reverse := by rw [← List.map_reverse, frzL_map]
@[simp] theorem isNon_non : D.isNon .non = true := rfl
@[simp] theorem isNon_str {a} : D.isNon (.str a) = false := rfl
@[simp] theorem isNon_int {a} : D.isNon (.int a) = false := rfl
@[simp] theorem isNon_bl {a} : D.isNon (.bl a) = false := rfl
@[simp] theorem isNon_tup {a} : D.isNon (.tup a) = false := rfl
@[simp] theorem isNon_lst {a} : D.isNon (.lst a) = false := rfl
@[simp] theorem frzL_append : ∀ (xs ys : List O), frzL (xs ++ ys) = frzL xs ++ frzL ys
  | [], ys => rfl
  | x :: xs, ys => by simp only [List.cons_append, frzL, frzL_append xs ys]
@[simp] theorem flatL_append_map : ∀ (xs : List D) (ys : List O), flatL (xs.map O.d ++ ys) = (flatL ys).map (xs ++ ·)
  | [], ys => by simp
  | x :: xs, ys => by
    simp only [List.map_cons, List.cons_append, flatL, flatL_append_map xs ys]
    cases flatL ys <;> rfl
end DL
end

section
set_option Elab.async false
set_option linter.all false
set_option maxRecDepth 100000
set_option maxHeartbeats 2000000
namespace DL
open PySem PySem.Spec L2 PyProof.Rows

/-! ### twins of the readings that unfold by themselves (with_reducible conv => whnf goes through them) -/
abbrev nth {α : Type} : List α → Nat → Option α
  | [], _ => none
  | x :: _, 0 => some x
  | _ :: l, n + 1 => nth l n
abbrev setN {α : Type} : List α → Nat → α → List α
  | [], _, _ => []
  | _ :: l, 0, a => a :: l
  | x :: l, n + 1, a => x :: setN l n a
theorem nth_eq {α : Type} : ∀ (l : List α) (i : Nat), l[i]? = nth l i
  | [], _ => rfl
  | _ :: _, 0 => rfl
  | _ :: l, n + 1 => nth_eq l n
theorem setN_eq {α : Type} (a : α) : ∀ (l : List α) (i : Nat), l.set i a = setN l i a
  | [], _ => rfl
  | _ :: _, 0 => rfl
  | x :: l, n + 1 => congrArg (x :: ·) (setN_eq a l n)
abbrev setK {α : Type} : List α → Nat → α → (List α → Prop) → Prop
  | [], _, _, k => k []
  | _ :: l, 0, a, k => k (a :: l)
  | x :: l, n + 1, a, k => setK l n a fun r => k (x :: r)
theorem setK_eq {α : Type} (a : α) : ∀ (l : List α) (i : Nat) (k : List α → Prop), setK l i a k = k (setN l i a)
  | [], _, _ => rfl
  | _ :: _, 0, _ => rfl
  | x :: l, n + 1, k => setK_eq a l n fun r => k (x :: r)
/-- stops: a choice; an option that has a value; an owned thing given away -/
def cut_ (c : Bool) (p q : Prop) : Prop := if c = true then p else q
def onS {α : Type} (o : Option α) (k : α → Prop) : Prop := match o with
  | some x => k x
  | none => False
def onF (o : O) (k : D → Prop) : Prop := k o.frz
theorem g_t {c : Bool} {p q : Prop} (h : c = true) (k : p) : cut_ c p q := by rw [h]; exact k
theorem g_f {c : Bool} {p q : Prop} (h : c = false) (k : q) : cut_ c p q := by rw [h]; exact k
theorem g_cut {c : Bool} {p q : Prop} (h1 : c = true → p) (h2 : c = false → q) : cut_ c p q := by cases c <;> simp_all [cut_]
theorem g_S {α : Type} {o : Option α} {x : α} {k : α → Prop} (h : o = some x) (q : k x) : onS o k := by rw [h]; exact q
theorem g_F {o : O} {d : D} {k : D → Prop} (h : o.frz = d) (q : k d) : onF o k := by unfold onF; rw [h]; exact q
theorem iff_cut {c : Bool} {p q : Prop} : (if c = true then p else q) = cut_ c p q := rfl
abbrev wVar (env : Env) (i : Nat) (k : O → Prop) : Prop := match nth env i with
  | some (some o) => k o
  | _ => False
abbrev wD (o : O) (k : D → Prop) : Prop := match o with
  | .d x => k x
  | _ => False
abbrev wB (o : O) (k : Bool → Prop) : Prop := match o with
  | .d (.bl x) => k x
  | _ => False
abbrev wI (o : O) (k : Int → Prop) : Prop := match o with
  | .d (.int x) => k x
  | _ => False
abbrev wT (o : O) (k : List D → Prop) : Prop := match o with
  | .d (.tup x) => k x
  | _ => False
abbrev wW (o : O) (k : List O → Prop) : Prop := match o with
  | .own x => k x
  | _ => False
abbrev wF (o : O) (k : D → Prop) : Prop := match o with
  | .d x => k x
  | o => onF o k
abbrev wOwn (env : Env) (i : Nat) (k : List O → Prop) : Prop := wVar env i fun o => wW o k
abbrev wIt (o : O) (k : List D → Prop) : Prop := match o with
  | .d (.lst x) => k x
  | .d (.kst x) => k x
  | .d (.tup x) => k x
  | .d (.str x) => k (x.map fun c => .str [c])
  | _ => False
abbrev wOwn2 (env : Env) (i j : Nat) (k : List O → List O → Prop) : Prop := wOwn env i fun os => match nth os j with
  | some (.own ys) => k os ys
  | _ => False
abbrev wIts (o : O) (k : List D → Prop) : Prop := match o with
  | .d (.tup x) => k x
  | .d (.lst x) => k x
  | .own os => onS (flatL os) k
  | _ => False
abbrev wLis (o : O) (k : List D → Prop) : Prop := match o with
  | .d (.lst x) => k x
  | .d (.kst x) => k x
  | .own os => onS (flatL os) k
  | _ => False
abbrev wLisT (o : O) (k : List D → Prop) : Prop := match o with
  | .d (.lst x) => k x
  | .own os => onS (flatL os) k
  | _ => False
abbrev wSeq (o : O) (k : List D → Prop) : Prop := match o with
  | .d (.tup x) => k x
  | .d (.lst x) => k x
  | .d (.kst x) => k x
  | .own os => onS (flatL os) k
  | _ => False
abbrev kInts (g : Int → Int → (O → Prop) → Prop) : PR2 := fun x y Q => match x, y with
  | .d (.int i), .d (.int j) => g i j Q
  | _, _ => False
abbrev pick {α : Type} : List Nat → List α → List α
  | [], _ => []
  | i :: r, xs => match nth xs i with
    | some x => x :: pick r xs
    | none => pick r xs
theorem pick_eq {α : Type} (xs : List α) : ∀ idx : List Nat, pickL idx xs = pick idx xs
  | [] => rfl
  | i :: r => by
    have e : pickL (i :: r) xs = (match xs[i]? with | some x => x :: pickL r xs | none => pickL r xs) := by
      simp only [pickL, List.filterMap_cons]
      cases xs[i]? <;> rfl
    rw [e, pick_eq xs r]
    simp only [pick, nth_eq]
section
variable {o : O} {k : List D → Prop}
theorem wIts_eq : (match o.its with | some ds => k ds | none => False) = wIts o k := by
  cases o with
  | d x => cases x <;> rfl
  | own os => simp only [O.its, O.lisT, wIts, onS]; cases flatL os <;> rfl
  | dct _ => rfl
theorem wLis_eq : (match o.lis with | some ds => k ds | none => False) = wLis o k := by
  cases o with
  | d x => cases x <;> rfl
  | own os => simp only [O.lis, wLis, onS]; cases flatL os <;> rfl
  | dct _ => rfl
theorem wLisT_eq : (match o.lisT with | some ds => k ds | none => False) = wLisT o k := by
  cases o with
  | d x => cases x <;> rfl
  | own os => simp only [O.lisT, wLisT, onS]; cases flatL os <;> rfl
  | dct _ => rfl
theorem wSeq_eq : (match o.seq with | some ds => k ds | none => False) = wSeq o k := by
  cases o with
  | d x => cases x <;> rfl
  | own os => simp only [O.seq, O.lis, wSeq, onS]; cases flatL os <;> rfl
  | dct _ => rfl
theorem wIt_eq {o : O} : (match o with | .d x => (match x.items with | some ds => k ds | none => False) | _ => False) = wIt o k := by
  cases o with
  | d x => cases x <;> rfl
  | own os => rfl
  | dct _ => rfl
end
theorem e_onS {α : Type} {o : Option α} {k : α → Prop} : (match o with | some x => k x | none => False) = onS o k := by cases o <;> rfl
theorem e_isOwn {env : Env} {i : Nat} : isOwn env i = wOwn env i fun _ => True := by
  unfold isOwn
  rw [nth_eq]
  cases h : nth env i with
  | none => simp only [wOwn, wVar, h]
  | some o => cases o with
    | none => simp only [wOwn, wVar, h]
    | some o => cases o <;> simp only [wOwn, wVar, wW, h]
theorem e_withOwn {env : Env} {i : Nat} {k : List O → Prop} : withOwn env i k = wOwn env i k := by
  unfold withOwn
  rw [nth_eq]
  cases h : nth env i with
  | none => simp only [wOwn, wVar, h]
  | some o => cases o with
    | none => simp only [wOwn, wVar, h]
    | some o => cases o <;> simp only [wOwn, wVar, wW, h]
theorem e_withOwn2 {env : Env} {i j : Nat} {k : List O → List O → Prop} : withOwn2 env i j k = wOwn2 env i j k := by
  unfold withOwn2
  rw [e_withOwn]
  refine congrArg (wOwn env i) (funext fun os => ?_)
  rw [nth_eq]
  all_goals
    cases nth os j with
    | none => rfl
    | some o => cases o <;> rfl
theorem e_F {o : O} {k : D → Prop} : k o.frz = wF o k := by cases o <;> rfl
theorem cA {α β γ : Sort _} {f : α → β → γ} {x y : α} {e : β} (h : x = y) : f x e = f y e := by rw [h]
theorem cP {p q r s : Prop} (h : p = q) (k : r = s) : (p ∧ r) = (q ∧ s) := by rw [h, k]

abbrev kSub : PR2 := kInts fun i j Q => Q (.d (.int (i - j)))
abbrev kFdivW : PR2 := kInts fun i j Q => CDivW i j ∧ Q (.d (.int (i / j)))
abbrev kMod : PR2 := kInts fun i j Q => 0 < j ∧ Q (.d (.int (i % j)))
abbrev kPow : PR2 := kInts fun i j Q => CPow i j ∧ Q (.d (.int (i ^ j.toNat)))
abbrev kLt : PR2 := kInts fun i j Q => Q (.d (.bl (decide (i < j))))
abbrev kLe : PR2 := kInts fun i j Q => Q (.d (.bl (decide (i ≤ j))))
abbrev kGt : PR2 := kInts fun i j Q => Q (.d (.bl (decide (j < i))))
abbrev kGe : PR2 := kInts fun i j Q => Q (.d (.bl (decide (j ≤ i))))
abbrev kIadd : PR2 := kInts fun i j Q => Q (.d (.int (i + j)))
abbrev kIsub : PR2 := kInts fun i j Q => Q (.d (.int (i - j)))
abbrev kNeg : PR1 := fun x Q => wI x fun i => Q (.d (.int (-i)))
abbrev kAbs : PR1 := fun x Q => wI x fun i => Q (.d (.int (if i < 0 then -i else i)))
abbrev kInt : PR1 := fun x Q => match x with
  | .d (.int i) => Q (.d (.int i))
  | .d (.bl k) => Q (.d (.int (if k = true then 1 else 0)))
  | _ => False
abbrev kLen : PR1 := fun x Q => match x with
  | .d (.str s) => Q (.d (.int s.length))
  | .d (.lst s) => Q (.d (.int s.length))
  | .d (.kst s) => Q (.d (.int s.length))
  | .d (.tup s) => Q (.d (.int s.length))
  | .own s => Q (.d (.int s.length))
  | _ => False
abbrev kSum : PR1 := fun x Q => wLis x fun ds => onS (toInts ds) fun ns => Q (.d (.int ns.sum))
abbrev kAll : PR1 := fun x Q => wLis x fun ds => onS (toBools ds) fun ns => Q (.d (.bl (ns.all id)))
abbrev kAny : PR1 := fun x Q => wLis x fun ds => onS (toBools ds) fun ns => Q (.d (.bl (ns.any id)))
abbrev kList : PR1 := fun x Q => wSeq x fun ds => Q (.own (ds.map O.d))
abbrev kTuple : PR1 := fun x Q => wSeq x fun ds => Q (.d (.tup ds))
abbrev kAdd : PR2 := fun x y Q => match x with
  | .d (.int i) => wI y fun j => Q (.d (.int (i + j)))
  | .d (.str i) => (match y with
    | .d (.str j) => i.length + j.length ≤ 16777216 ∧ Q (.d (.str (i ++ j)))
    | _ => False)
  | .d (.tup i) => wT y fun j => i.length + j.length ≤ 16777216 ∧ Q (.d (.tup (i ++ j)))
  | .d (.lst i) => wLisT y fun j => i.length + j.length ≤ 16777216 ∧ Q (.own ((i ++ j).map O.d))
  | .own os => onS (flatL os) fun i => wLisT y fun j => i.length + j.length ≤ 16777216 ∧ Q (.own ((i ++ j).map O.d))
  | _ => False
abbrev kMul : PR2 := fun x y Q => match x with
  | .d (.int i) => wI y fun j => CMulW i j ∧ Q (.d (.int (i * j)))
  | .d (.tup ds) => wI y fun k => ds ≠ [] ∧ 2 ≤ k ∧ k ≤ 1000 ∧ ds.length ≤ 1000 ∧ Q (.d (.tup (List.replicate k.toNat ds).flatten))
  | o => wI y fun k => wLisT o fun ds => -(2 ^ 63) ≤ k ∧ k < 2 ^ 63 ∧ ds.length * k.toNat ≤ 16777216 ∧ Q (.own ((List.replicate k.toNat ds).flatten.map O.d))
abbrev kIx : PR2 := fun x y Q => wI y fun i => match x with
  | .d (.str s) => onS (atI s i) fun c => Q (.d (.str [c]))
  | .d (.tup ds) => onS (atI ds i) fun d => Q (.d d)
  | o => wLis o fun ds => onS (atI ds i) fun d => Q (.d d)
abbrev kSl : PSl := fun x lo hi Q => match x with
  | .d (.str s) => Q (.d (.str (cutL s lo hi)))
  | .d (.tup ds) => Q (.d (.tup (cutL ds lo hi)))
  | o => wLis o fun ds => Q (.own ((cutL ds lo hi).map O.d))
abbrev kRev : PR1 := fun x Q => match x with
  | .d (.tup ds) => Q (.d (.tup ds.reverse))
  | o => wLis o fun ds => Q (.own (ds.reverse.map O.d))
abbrev kIsn (neg : Bool) : PR2 := fun x y Q => match y with
  | .d .non => (match x with
    | .d .non => Q (.d (.bl (!neg)))
    | .d (.bl _) => Q (.d (.bl neg))
    | .d (.int _) => Q (.d (.bl neg))
    | .d (.str _) => Q (.d (.bl neg))
    | .d (.tup _) => Q (.d (.bl neg))
    | .d (.lst _) => Q (.d (.bl neg))
    | .own _ => Q (.d (.bl neg))
    | x => Q (.d (.bl (if neg then !x.frz.isNon else x.frz.isNon))))
  | y => if neg then fNot x y Q else fIs x y Q
abbrev kEq : PR2 := fun x y Q => match x, y with
  | .d (.str a), .d (.str b) => Q (.d (.bl (decide (a = b))))
  | .d (.int a), .d (.int b) => Q (.d (.bl (decide (a = b))))
  | .d (.bl a), .d (.bl b) => Q (.d (.bl (a == b)))
  | x, y => CEq x.frz y.frz ∧ Q (.d (.bl (x.frz.eqv y.frz)))
abbrev kNe : PR2 := fun x y Q => match x, y with
  | .d (.str a), .d (.str b) => Q (.d (.bl (!decide (a = b))))
  | .d (.int a), .d (.int b) => Q (.d (.bl (!decide (a = b))))
  | .d (.bl a), .d (.bl b) => Q (.d (.bl (!(a == b))))
  | x, y => CEq x.frz y.frz ∧ Q (.d (.bl (!x.frz.eqv y.frz)))
abbrev kIn : PR2 := fun x y Q => wD x fun d => match y with
  | .d (.str z) => (match d with
    | .str [c] => Q (.d (.bl (decide (c ∈ z))))
    | _ => False)
  | .d (.tup ds) => d.flat = true ∧ ds.all D.flat = true ∧ Q (.d (.bl (inD d ds)))
  | o => wLis o fun ds => d.plain = true ∧ plainL ds = true ∧ d.depth ≤ 60 ∧ depthL ds ≤ 60 ∧ Q (.d (.bl (inD d ds)))
abbrev kNin : PR2 := fun x y Q => wD x fun d => match y with
  | .d (.str z) => (match d with
    | .str [c] => Q (.d (.bl (!decide (c ∈ z))))
    | _ => False)
  | .d (.tup ds) => d.flat = true ∧ ds.all D.flat = true ∧ Q (.d (.bl (!inD d ds)))
  | o => wLis o fun ds => d.plain = true ∧ plainL ds = true ∧ d.depth ≤ 60 ∧ depthL ds ≤ 60 ∧ Q (.d (.bl (!inD d ds)))

abbrev cVar (i : Nat) : PTE := fun env Q _ => wVar env i fun o => wD o fun x => Q (.d x) env
abbrev cBor (i : Nat) : PTE := fun env Q _ => wVar env i fun o => Q o env
abbrev cMov (i : Nat) : PTE := fun env Q _ => wVar env i fun o => setK env i none fun envz => Q o envz
abbrev cFrz (i : Nat) : PTE := fun env Q _ => wVar env i fun o => wF o fun x => setK env i (some (.d x)) fun envz => Q (.d x) envz
abbrev cC (d : D) : PTE := fun env Q _ => Q (.d d) env
abbrev cGive (t : PTE) : PTE := fun env Q E => t env (fun o env1 => wF o fun x => Q (.d x) env1) E
abbrev cOp (f : PR2) (t u : PTE) : PTE := fun env Q E => t env (fun x env1 => u env1 (fun y env2 => f x y fun z => Q z env2) E) E
abbrev cUn (f : PR1) (t : PTE) : PTE := fun env Q E => t env (fun x env1 => f x fun z => Q z env1) E
abbrev cNil  : PTA := fun env Q _ => Q [] env
abbrev cCons (t : PTE) (u : PTA) : PTA := fun env Q E => t env (fun o env1 => wD o fun x => u env1 (fun ds env2 => Q (x :: ds) env2) E) E
abbrev cTup (u : PTA) : PTE := fun env Q E => u env (fun ds env1 => Q (.d (.tup ds)) env1) E
abbrev cLNil  : PTL := fun env Q _ => Q [] env
abbrev cLCons (t : PTE) (u : PTL) : PTL := fun env Q E => t env (fun o env1 => u env1 (fun os env2 => Q (o :: os) env2) E) E
abbrev cLst (u : PTL) : PTE := fun env Q E => u env (fun os env1 => Q (.own os) env1) E
abbrev cCallV (sp : PSpV) (u : PTA) : PTE := fun env Q E => u env (fun ds env1 => sp ds (fun o => Q o env1) fun x => E x env1) E
abbrev cCallV0 (sp : PSpV) (u : PTA) : PTE := fun env Q E => u env (fun ds env1 => sp ds (fun o => Q o env1) fun _ => False) E
abbrev cCallVK (sp : PSpV) (idx : List Nat) (u : PTA) : PTE := fun env Q E => u env (fun ds env1 => sp (pick idx ds) (fun o => Q o env1) fun x => E x env1) E
abbrev cCallM (sp : PSpM) (i : Nat) (u : PTA) : PTE := fun env Q E => wOwn env i (fun _ => True) ∧ u env (fun ds env1 => wOwn env1 i fun xs => sp xs ds fun o xs1 => setK env1 i (some (.own xs1)) fun envz => Q o envz) E
abbrev cCallB (sp : PSpV) (u : PTL) : PTE := fun env Q E => u env (fun os env1 => sp (os.map O.frz) (fun o => wD o fun x => x.scal = true ∧ Q (.d x) env1) fun _ => False) E
abbrev cNext  : PTS := fun De env => De.nx env
abbrev cSeq (t u : PTS) : PTS := fun De env => match De with
  | ⟨nx, rt, bk, ct, ex⟩ => t ⟨fun env1 => u ⟨nx, rt, bk, ct, ex⟩ env1, rt, bk, ct, ex⟩ env
abbrev cBreak  : PTS := fun De env => De.bk env
abbrev cCont  : PTS := fun De env => De.ct env
abbrev cDrop (t : PTE) : PTS := fun De env => t env (fun _ env1 => De.nx env1) De.ex
abbrev cRet (t : PTE) : PTS := fun De env => t env (fun o env1 => De.rt o env1) De.ex
abbrev cRetN  : PTS := fun De env => De.rt (.d .non) env
abbrev cIf (c : PTT) (t u : PTS) : PTS := fun De env => c env (fun b env1 => cut_ b (t De env1) (u De env1)) De.ex
abbrev cgName (i : Nat) : PTG := fun o env Q => setK env i (some o) fun envz => Q envz
abbrev cAsg (t : PTE) (g : PTG) : PTS := fun De env => t env (fun o env1 => g o env1 De.nx) De.ex
abbrev cgNil  : PTGs := fun ds env Q => ds = [] ∧ Q env
abbrev cgCons (g : PTG) (u : PTGs) : PTGs := fun ds env Q => match ds with
  | d :: r => g (.d d) env fun env1 => u r env1 Q
  | [] => False
abbrev cgTup (n : Nat) (u : PTGs) : PTG := fun o env Q => wT o fun ds => ds.length = n ∧ u ds env Q
abbrev cTest (t : PTE) : PTT := fun env Q E => t env (fun o env1 => wB o fun k => Q k env1) E
abbrev cAnd (t u : PTT) : PTT := fun env Q E => t env (fun c env1 => cut_ c (u env1 Q E) (Q false env1)) E
abbrev cOr (t u : PTT) : PTT := fun env Q E => t env (fun c env1 => cut_ c (Q true env1) (u env1 Q E)) E
abbrev cNotT (t : PTT) : PTT := fun env Q E => t env (fun c env1 => Q (!c) env1) E
abbrev cAndV (t u : PTE) : PTE := fun env Q E => t env (fun o env1 => wB o fun c => cut_ c (u env1 Q E) (Q (.d (.bl false)) env1)) E
abbrev cOrV (t u : PTE) : PTE := fun env Q E => t env (fun o env1 => wB o fun c => cut_ c (Q (.d (.bl true)) env1) (u env1 Q E)) E
abbrev cNotV (t : PTE) : PTE := fun env Q E => t env (fun o env1 => wB o fun c => Q (.d (.bl (!c))) env1) E
abbrev cIfE (c : PTT) (t u : PTE) : PTE := fun env Q E => c env (fun k env1 => cut_ k (t env1 Q E) (u env1 Q E)) E
abbrev cNoPart  : PTO := fun env Q _ => Q none env
abbrev cPart (t : PTE) : PTO := fun env Q E => t env (fun o env1 => wI o fun i => Q (some i) env1) E
abbrev cSl (f : PSl) (t : PTE) (a b : PTO) : PTE := fun env Q E => t env (fun x env1 => a env1 (fun l env2 => b env2 (fun h env3 => f x l h fun z => Q z env3) E) E) E
abbrev cIAny (t : PTE) : PTI := fun env Q E => t env (fun o env1 => wIt o fun ds => Q ds env1) E
abbrev cFor (a : PTI) (g : PTG) (b : PTS) : PTS := fun De env => a env (fun ds env1 => forR g b De ds env1) De.ex
abbrev cWhile (c : PTT) (b : PTS) : PTS := fun De env => ∃ n, whileR c b De n env
abbrev cRng1 (t : PTE) : PTI := fun env Q E => t env (fun o env1 => wI o fun j => -(2 ^ 62) ≤ j ∧ j < 2 ^ 62 ∧ Q ((List.range j.toNat).map fun (k : Nat) => D.int (k : Int)) env1) E
abbrev cIZip (t u : PTE) : PTI := fun env Q E => t env (fun o env1 => u env1 (fun o2 env2 => wIt o fun xs => wIt o2 fun ys => Q (zipD xs ys) env2) E) E
abbrev cLc (a : PTI) (g : PTG) (tt : PTT) (t : PTE) (vs : List Nat) : PTE := fun env Q E => a env (fun ds env1 => noOwn env1 vs = true ∧ lcR g tt t vs E (fun acc env2 => Q (.own acc) env2) ds [] env1) E
abbrev cYes  : PTT := fun env Q _ => Q true env
abbrev cAppend (i : Nat) (t : PTE) : PTE := fun env Q E => wOwn env i (fun _ => True) ∧ t env (fun o env1 => wOwn env1 i fun xs => xs.length < 16777216 ∧ setK env1 i (some (.own (xs ++ [o]))) fun envz => Q (.d .non) envz) E
abbrev cPop (i : Nat) : PTE := fun env Q _ => wOwn env i fun xs => onS xs.getLast? fun o => setK env i (some (.own xs.dropLast)) fun envz => Q o envz
abbrev cPopAt (i : Nat) (t : PTE) : PTE := fun env Q E => wOwn env i (fun _ => True) ∧ t env (fun o env1 => wOwn env1 i fun xs => onS (flatL xs) fun ds => wI o fun k => onS (ixN ds.length k) fun j => onS ds[j]? fun d => setK env1 i (some (.own ((ds.eraseIdx j).map O.d))) fun envz => Q (.d d) envz) E
abbrev cExtend (i : Nat) (t : PTE) : PTE := fun env Q E => wOwn env i (fun _ => True) ∧ t env (fun o env1 => wOwn env1 i fun xs => wIts o fun ds => xs.length + ds.length ≤ 16777216 ∧ setK env1 i (some (.own (xs ++ ds.map O.d))) fun envz => Q (.d .non) envz) E
abbrev cReverse (i : Nat) : PTE := fun env Q _ => wOwn env i fun xs => onS (flatL xs) fun ds => setK env i (some (.own (ds.reverse.map O.d))) fun envz => Q (.d .non) envz
abbrev cSetItem (i : Nat) (idx val : PTE) : PTS := fun De env => val env (fun o env1 => wOwn env1 i (fun _ => True) ∧ idx env1 (fun k env2 => wOwn env2 i fun xs => wI k fun j => onS (ixN xs.length j) fun m => setK env2 i (some (.own (xs.set m o))) fun envz => De.nx envz) De.ex) De.ex
abbrev cAug (i : Nat) (f : PR2) (t : PTE) : PTS := fun De env => wVar env i fun o => wD o fun x => t env (fun y env1 => f (.d x) y fun z => setK env1 i (some z) fun envz => De.nx envz) De.ex
abbrev cPar (i j : Nat) (u : PTL) : PTS := fun De env => u env (fun os env1 => match os with
  | [x, y] => setK env1 i (some x) fun env2 => setK env2 j (some y) fun env3 => De.nx env3
  | _ => False) De.ex
abbrev cSIndex (t u : PTE) : PTE := fun env Q E => t env (fun o env1 => match o with
  | .d (.str z) => u env1 (fun o2 env2 => match o2 with
    | .d (.str y) => ∃ i rest, Builtin.Str.occurrences ⟨z.toArray⟩ ⟨y.toArray⟩ 0 z.length 1 = i :: rest ∧ Q (.d (.int (i : Nat))) env2
    | _ => False) E
  | _ => False) E
abbrev cIsi (T : String) (t : PTE) : PTE := fun env Q E => t env (fun o env1 => o.ty ≠ "function" ∧ Q (.d (.bl (isIn o.ty T))) env1) E
abbrev cDispC (kvs : List (Key × D)) : PTE := fun env Q _ => Q (.dct (kvs.map fun kv => (kv.1, .d kv.2))) env
abbrev cDGet2 (t u w : PTE) : PTE := fun env Q E => t env (fun o env1 => o.kvs.isSome = true ∧ u env1 (fun k env2 => w env2 (fun x env3 => onS o.kvs fun l => wD k fun kd => wD x fun xd => onS kd.key fun key => Q (.d ((lk l key).getD xd)) env3) E) E) E
abbrev cCn (f : List D → (O → Prop) → Prop) (u : PTA) : PTE := fun env Q E => u env (fun ds env1 => f ds fun o => Q o env1) E
abbrev cChain (f g : PR2) (t u p : PTE) : PTE := fun env Q E => t env (fun x env1 => u env1 (fun y env2 => f x y fun z => wB z fun k => cut_ k (p env2 (fun w env3 => g y w fun r => Q r env3) E) (Q (.d (.bl false)) env2)) E) E
abbrev cRaise (c f : Str) (t : PTE) : PTS := fun De env => t env (fun o env1 => wD o fun x => De.ex ⟨c, f, x⟩ env1) De.ex
abbrev cTryAs (L : List Str) (c : Str) (i : Nat) (body : PTS) (suite : Addr → Addr → PTS) : PTS := fun De env => body ⟨De.nx, De.rt, De.bk, De.ct, fun x env1 => x.cls ∈ L ∧ cut_ (decide (x.cls = c)) (∀ a d, suite a d ⟨fun env => De.nx (setN env i none), De.rt, fun env => De.bk (setN env i none), fun env => De.ct (setN env i none), fun _ _ => False⟩ (setN env1 i (some (.d (.exc a d x.cls x.fld x.val))))) (De.ex x env1)⟩ env
abbrev cXf (a d : Addr) (c f : Str) (i : Nat) : PTE := fun env Q _ => wVar env i fun o => match o with
  | .d (.exc a1 d1 c1 g x) => a1 = a ∧ d1 = d ∧ c1 = c ∧ g = f ∧ Q (.d x) env
  | _ => False
abbrev cAppend2 (i j : Nat) (t : PTE) : PTE := fun env Q E => wOwn2 env i j (fun _ _ => True) ∧ t env (fun o env1 => wOwn2 env1 i j fun os ys => ys.length < 16777216 ∧ setK env1 i (some (.own (os.set j (.own (ys ++ [o]))))) fun envz => Q (.d .non) envz) E
abbrev cReverse2 (i j : Nat) : PTE := fun env Q _ => wOwn2 env i j fun os ys => onS (flatL ys) fun ds => setK env i (some (.own (os.set j (.own (ds.reverse.map O.d))))) fun envz => Q (.d .non) envz
abbrev cPop2 (i j : Nat) : PTE := fun env Q _ => wOwn2 env i j fun os ys => onS ys.getLast? fun o => wD o fun d => setK env i (some (.own (os.set j (.own ys.dropLast)))) fun envz => Q (.d d) envz
theorem e_Var : @pVar = @cVar := by
  funext i env Q E
  simp only [pVar, cVar, nth_eq, setN_eq, setK_eq]
  all_goals
    cases h : nth env i with
    | none => simp only [wVar, h]
    | some o => cases o with
      | none => simp only [wVar, h]
      | some o => rcases o with x | x | x <;> simp only [wVar, wD, wF, h]
theorem e_Bor : @pBor = @cBor := by
  funext i env Q E
  simp only [pBor, cBor, nth_eq, setN_eq, setK_eq]
  all_goals
    cases h : nth env i with
    | none => simp only [wVar, h]
    | some o => cases o with
      | none => simp only [wVar, h]
      | some o => simp only [wVar, wD, wF, h]
theorem e_Mov : @pMov = @cMov := by
  funext i env Q E
  simp only [pMov, cMov, nth_eq, setN_eq, setK_eq]
  all_goals
    cases h : nth env i with
    | none => simp only [wVar, h]
    | some o => cases o with
      | none => simp only [wVar, h]
      | some o => simp only [wVar, wD, wF, h]
theorem e_Frz : @pFrz = @cFrz := by
  funext i env Q E
  simp only [pFrz, cFrz, nth_eq, setN_eq, setK_eq]
  all_goals
    cases h : nth env i with
    | none => simp only [wVar, h]
    | some o => cases o with
      | none => simp only [wVar, h]
      | some o => rcases o with x | x | x <;> simp only [wVar, wD, wF, h] <;> rfl
theorem e_C : @pC = @cC := rfl
theorem e_Give : @pGive = @cGive := by
  funext t env Q E
  refine cA (f := t env) (funext fun o => funext fun env1 => ?_)
  exact e_F (k := fun x => Q (.d x) env1)
theorem e_Op : @pOp = @cOp := rfl
theorem e_Un : @pUn = @cUn := rfl
theorem e_Nil : @pNil = @cNil := rfl
theorem e_Cons : @pCons = @cCons := by
  funext t u env Q E
  refine cA (f := t env) (funext fun o => funext fun env1 => ?_)
  rcases o with x | x | x <;> rfl
theorem e_Tup : @pTup = @cTup := rfl
theorem e_LNil : @pLNil = @cLNil := rfl
theorem e_LCons : @pLCons = @cLCons := rfl
theorem e_Lst : @pLst = @cLst := rfl
theorem e_CallV : @pCallV = @cCallV := rfl
theorem e_CallV0 : @pCallV0 = @cCallV0 := rfl
theorem e_CallVK : @pCallVK = @cCallVK := by
  funext sp idx u env Q E
  simp only [pCallVK, cCallVK, pick_eq]
theorem e_CallM : @pCallM = @cCallM := by
  funext sp i u env Q E
  simp only [pCallM, cCallM, e_isOwn, e_withOwn, setN_eq, setK_eq]
theorem e_CallB : @pCallB = @cCallB := by
  funext sp u env Q E
  refine cA (f := u env) (funext fun os => funext fun env1 => ?_)
  refine congrArg (fun z => sp (os.map O.frz) z fun _ => False) (funext fun o => ?_)
  rcases o with x | x | x <;> rfl
theorem e_Next : @pNext = @cNext := rfl
theorem e_Seq : @pSeq = @cSeq := by
  funext t u De env
  rfl
theorem e_Break : @pBreak = @cBreak := rfl
theorem e_Cont : @pCont = @cCont := rfl
theorem e_Drop : @pDrop = @cDrop := rfl
theorem e_Ret : @pRet = @cRet := rfl
theorem e_RetN : @pRetN = @cRetN := rfl
theorem e_If : @pIf = @cIf := rfl
theorem e_gName : @pgName = @cgName := by
  funext i o env Q
  simp only [pgName, cgName, setN_eq, setK_eq]
theorem e_Asg : @pAsg = @cAsg := rfl
theorem e_gNil : @pgNil = @cgNil := rfl
theorem e_gCons : @pgCons = @cgCons := by
  funext g u ds env Q
  cases ds <;> rfl
theorem e_gTup : @pgTup = @cgTup := by
  funext n u o env Q
  rcases o with x | x | x
  · cases x <;> rfl
  · rfl
  · rfl
theorem e_Test : @pTest = @cTest := by
  funext t env Q E
  refine cA (f := t env) (funext fun o => funext fun env1 => ?_)
  rcases o with x | x | x
  · cases x <;> rfl
  · rfl
  · rfl
theorem e_And : @pAnd = @cAnd := rfl
theorem e_Or : @pOr = @cOr := rfl
theorem e_NotT : @pNotT = @cNotT := rfl
theorem e_AndV : @pAndV = @cAndV := by
  funext t u env Q E
  refine cA (f := t env) (funext fun o => funext fun env1 => ?_)
  rcases o with x | x | x
  · cases x <;> rfl
  · rfl
  · rfl
theorem e_OrV : @pOrV = @cOrV := by
  funext t u env Q E
  refine cA (f := t env) (funext fun o => funext fun env1 => ?_)
  rcases o with x | x | x
  · cases x <;> rfl
  · rfl
  · rfl
theorem e_NotV : @pNotV = @cNotV := by
  funext t env Q E
  refine cA (f := t env) (funext fun o => funext fun env1 => ?_)
  rcases o with x | x | x
  · cases x <;> rfl
  · rfl
  · rfl
theorem e_IfE : @pIfE = @cIfE := rfl
theorem e_NoPart : @pNoPart = @cNoPart := rfl
theorem e_Part : @pPart = @cPart := by
  funext t env Q E
  refine cA (f := t env) (funext fun o => funext fun env1 => ?_)
  rcases o with x | x | x
  · cases x <;> rfl
  · rfl
  · rfl
theorem e_Sl : @pSl = @cSl := rfl
theorem e_IAny : @pIAny = @cIAny := by
  funext t env Q E
  refine cA (f := t env) (funext fun o => funext fun env1 => ?_)
  rcases o with x | x | x
  · cases x <;> rfl
  · rfl
  · rfl
theorem e_For : @pFor = @cFor := rfl
theorem e_While : @pWhile = @cWhile := rfl
theorem e_Rng1 : @pRng1 = @cRng1 := by
  funext t env Q E
  refine cA (f := t env) (funext fun o => funext fun env1 => ?_)
  rcases o with x | x | x
  · cases x <;> rfl
  · rfl
  · rfl
theorem e_IZip : @pIZip = @cIZip := by
  funext t u env Q E
  refine cA (f := t env) (funext fun o => funext fun env1 => ?_)
  refine cA (f := u env1) (funext fun o2 => funext fun env2 => ?_)
  rcases o with x | x | x <;> rcases o2 with y | y | y
  · cases x <;> cases y <;> rfl
  · cases x <;> rfl
  · cases x <;> rfl
  all_goals rfl
theorem e_Lc : @pLc = @cLc := rfl
theorem e_Yes : @pYes = @cYes := rfl
theorem e_Append : @pAppend = @cAppend := by
  funext i t env Q E
  simp only [pAppend, cAppend, e_isOwn, e_withOwn, setN_eq, setK_eq]
theorem e_Pop : @pPop = @cPop := by
  funext i env Q E
  simp only [pPop, cPop, e_withOwn, setN_eq, setK_eq]
  refine congrArg (wOwn env i) (funext fun xs => ?_)
  cases xs.getLast? <;> rfl
theorem e_PopAt : @pPopAt = @cPopAt := by
  funext i t env Q E
  simp only [pPopAt, cPopAt, e_isOwn, e_withOwn, setN_eq, setK_eq]
  refine cP rfl (cA (f := t env) (funext fun o => funext fun env1 => congrArg (wOwn env1 i) (funext fun xs => ?_)))
  cases flatL xs with
  | none => rfl
  | some ds =>
    rcases o with x | x | x
    · cases x with
      | int k => simp only [onS, wI]; cases ixN ds.length k with
        | none => rfl
        | some j => simp only; cases ds[j]? <;> rfl
      | _ => rfl
    · rfl
    · rfl
theorem e_Extend : @pExtend = @cExtend := by
  funext i t env Q E
  simp only [pExtend, cExtend, e_isOwn, e_withOwn, setN_eq, setK_eq]
  exact cP rfl (cA (f := t env) (funext fun o => funext fun env1 => congrArg (wOwn env1 i) (funext fun xs => wIts_eq)))
theorem e_Reverse : @pReverse = @cReverse := by
  funext i env Q E
  simp only [pReverse, cReverse, e_withOwn, setN_eq, setK_eq]
  refine congrArg (wOwn env i) (funext fun xs => ?_)
  cases flatL xs <;> rfl
theorem e_SetItem : @pSetItem = @cSetItem := by
  funext i idx val De env
  simp only [pSetItem, cSetItem, e_isOwn, e_withOwn, setN_eq, setK_eq]
  refine cA (f := val env) (funext fun o => funext fun env1 => cP rfl ?_)
  refine cA (f := idx env1) (funext fun o => funext fun env2 => congrArg (wOwn env2 i) (funext fun xs => ?_))
  rcases o with x | x | x
  · cases x with
    | int j => simp only [wI, onS]; cases ixN xs.length j <;> rfl
    | _ => rfl
  · rfl
  · rfl
theorem e_Aug : @pAug = @cAug := by
  funext i f t De env
  simp only [pAug, cAug, nth_eq, setN_eq, setK_eq]
  all_goals
    cases h : nth env i with
    | none => simp only [wVar, h]
    | some o => cases o with
      | none => simp only [wVar, h]
      | some o => rcases o with x | x | x <;> simp only [wVar, wD, h]
theorem e_Par : @pPar = @cPar := by
  funext i j u De env
  simp only [pPar, cPar, setN_eq, setK_eq]
  all_goals rfl
theorem e_SIndex : @pSIndex = @cSIndex := by
  funext t u env Q E
  refine cA (f := t env) (funext fun o => funext fun env1 => ?_)
  rcases o with x | x | x
  · cases x with
    | str z =>
      refine cA (f := u env1) (funext fun o => funext fun env2 => ?_)
      rcases o with x | x | x
      · cases x <;> rfl
      · rfl
      · rfl
    | _ => rfl
  · rfl
  · rfl
theorem e_Isi : @pIsi = @cIsi := rfl
theorem e_DispC : @pDispC = @cDispC := rfl
theorem e_DGet2 : @pDGet2 = @cDGet2 := by
  funext t u w env Q E
  simp only [pDGet2, cDGet2]
  refine cA (f := t env) (funext fun o => funext fun env1 => cP rfl ?_)
  refine cA (f := u env1) (funext fun k => funext fun env2 => ?_)
  refine cA (f := w env2) (funext fun x => funext fun env3 => ?_)
  cases o.kvs with
  | none => rfl
  | some l =>
    rcases k with k | k | k <;> rcases x with x | x | x
    · simp only [onS, wD]; cases k.key <;> rfl
    all_goals rfl
theorem e_Cn : @pCn = @cCn := rfl
theorem e_Chain : @pChain = @cChain := by
  funext f g t u p env Q E
  refine cA (f := t env) (funext fun x => funext fun env1 => ?_)
  refine cA (f := u env1) (funext fun y => funext fun env2 => ?_)
  refine congrArg (f x y) (funext fun o => ?_)
  rcases o with x | x | x
  · cases x <;> rfl
  · rfl
  · rfl
theorem e_Raise : @pRaise = @cRaise := by
  funext c f t De env
  refine cA (f := t env) (funext fun o => funext fun env1 => ?_)
  rcases o with x | x | x <;> rfl
theorem e_TryAs : @pTryAs = @cTryAs := by
  funext L c i body suite De env
  simp only [pTryAs, cTryAs, endsSuite, setN_eq, cut_, decide_eq_true_eq]
theorem e_Xf : @pXf = @cXf := by
  funext a d c f i env Q E
  simp only [pXf, cXf, nth_eq, setN_eq, setK_eq]
  all_goals
    cases h : nth env i with
    | none => simp only [wVar, h]
    | some o => cases o with
      | none => simp only [wVar, h]
      | some o => rcases o with x | x | x <;> (first | (cases x <;> simp only [wVar, h]; done) | simp only [wVar, h])
theorem e_Append2 : @pAppend2 = @cAppend2 := by
  funext i j t env Q E
  simp only [pAppend2, cAppend2, e_withOwn2, setN_eq, setK_eq]
theorem e_Reverse2 : @pReverse2 = @cReverse2 := by
  funext i j env Q E
  simp only [pReverse2, cReverse2, e_withOwn2, setN_eq, setK_eq]
  refine congrArg (wOwn2 env i j) (funext fun os => funext fun ys => ?_)
  cases flatL ys <;> rfl
theorem e_Pop2 : @pPop2 = @cPop2 := by
  funext i j env Q E
  simp only [pPop2, cPop2, e_withOwn2, setN_eq, setK_eq]
  refine congrArg (wOwn2 env i j) (funext fun os => funext fun ys => ?_)
  cases ys.getLast? with
  | none => rfl
  | some o => cases o <;> rfl
theorem h_Sub : fSub = kSub := by
  funext x y Q
  rcases x with x | x | x <;> rcases y with y | y | y
  · cases x <;> cases y <;> rfl
  · cases x <;> rfl
  · cases x <;> rfl
  all_goals rfl
theorem h_FdivW : fFdivW = kFdivW := by
  funext x y Q
  rcases x with x | x | x <;> rcases y with y | y | y
  · cases x <;> cases y <;> rfl
  · cases x <;> rfl
  · cases x <;> rfl
  all_goals rfl
theorem h_Mod : fMod = kMod := by
  funext x y Q
  rcases x with x | x | x <;> rcases y with y | y | y
  · cases x <;> cases y <;> rfl
  · cases x <;> rfl
  · cases x <;> rfl
  all_goals rfl
theorem h_Pow : fPow = kPow := by
  funext x y Q
  rcases x with x | x | x <;> rcases y with y | y | y
  · cases x <;> cases y <;> rfl
  · cases x <;> rfl
  · cases x <;> rfl
  all_goals rfl
theorem h_Lt : fLt = kLt := by
  funext x y Q
  rcases x with x | x | x <;> rcases y with y | y | y
  · cases x <;> cases y <;> rfl
  · cases x <;> rfl
  · cases x <;> rfl
  all_goals rfl
theorem h_Le : fLe = kLe := by
  funext x y Q
  rcases x with x | x | x <;> rcases y with y | y | y
  · cases x <;> cases y <;> rfl
  · cases x <;> rfl
  · cases x <;> rfl
  all_goals rfl
theorem h_Gt : fGt = kGt := by
  funext x y Q
  rcases x with x | x | x <;> rcases y with y | y | y
  · cases x <;> cases y <;> rfl
  · cases x <;> rfl
  · cases x <;> rfl
  all_goals rfl
theorem h_Ge : fGe = kGe := by
  funext x y Q
  rcases x with x | x | x <;> rcases y with y | y | y
  · cases x <;> cases y <;> rfl
  · cases x <;> rfl
  · cases x <;> rfl
  all_goals rfl
theorem h_Iadd : fIadd = kIadd := by
  funext x y Q
  rcases x with x | x | x <;> rcases y with y | y | y
  · cases x <;> cases y <;> rfl
  · cases x <;> rfl
  · cases x <;> rfl
  all_goals rfl
theorem h_Isub : fIsub = kIsub := by
  funext x y Q
  rcases x with x | x | x <;> rcases y with y | y | y
  · cases x <;> cases y <;> rfl
  · cases x <;> rfl
  · cases x <;> rfl
  all_goals rfl
theorem h_Neg : fNeg = kNeg := by
  funext o Q
  rcases o with x | x | x
  · cases x <;> rfl
  · rfl
  · rfl
theorem h_Abs : fAbs = kAbs := by
  funext o Q
  rcases o with x | x | x
  · cases x <;> rfl
  · rfl
  · rfl
theorem h_Int : fInt = kInt := by
  funext o Q
  rcases o with x | x | x
  · cases x <;> rfl
  · rfl
  · rfl
theorem h_Len : fLen = kLen := by
  funext o Q
  rcases o with x | x | x
  · cases x <;> rfl
  · rfl
  · rfl
theorem h_Sum : fSum = kSum := by
  funext o Q
  simp only [fSum, kSum]
  rw [← wLis_eq]
  cases o.lis with
  | none => rfl
  | some ds => simp only [Option.bind_some]; cases toInts ds <;> rfl
theorem h_All : fAll = kAll := by
  funext o Q
  simp only [fAll, kAll]
  rw [← wLis_eq]
  cases o.lis with
  | none => rfl
  | some ds => simp only [Option.bind_some]; cases toBools ds <;> rfl
theorem h_Any : fAny = kAny := by
  funext o Q
  simp only [fAny, kAny]
  rw [← wLis_eq]
  cases o.lis with
  | none => rfl
  | some ds => simp only [Option.bind_some]; cases toBools ds <;> rfl
theorem h_List : fList = kList := by
  funext o Q
  exact wSeq_eq
theorem h_Tuple : fTuple = kTuple := by
  funext o Q
  exact wSeq_eq
theorem e_lisT2 {x y : O} {k : List D → List D → Prop} : (match x.lisT, y.lisT with | some a, some b => k a b | _, _ => False) = wLisT x fun a => wLisT y fun b => k a b := by
  rw [← wLisT_eq]
  cases x.lisT with
  | none => rfl
  | some a => simp only; rw [← wLisT_eq]; cases y.lisT <;> rfl
theorem h_Add : fAdd = kAdd := by
  funext x y Q
  rcases x with x | x | x
  · cases x with
    | int i => rcases y with y | y | y
               · cases y <;> rfl
               · rfl
               · rfl
    | str i => rcases y with y | y | y
               · cases y <;> rfl
               · rfl
               · rfl
    | tup i => rcases y with y | y | y
               · cases y <;> rfl
               · rfl
               · rfl
    | lst i => exact e_lisT2 (x := .d (.lst i)) (y := y)
    | _ => rcases y with y | y | y
           · cases y <;> rfl
           · rfl
           · rfl
  · exact e_lisT2 (x := .own x) (y := y)
  · rfl
theorem h_Mul : fMul = kMul := by
  funext x y Q
  rcases y with y | y | y
  · cases y with
    | int k => rcases x with x | x | x
               · cases x with
                 | lst ds => rfl
                 | _ => rfl
               · exact wLisT_eq
               · rfl
    | _ => rcases x with x | x | x
           · cases x <;> rfl
           · rfl
           · rfl
  · rcases x with x | x | x
    · cases x <;> rfl
    · rfl
    · rfl
  · rcases x with x | x | x
    · cases x <;> rfl
    · rfl
    · rfl
theorem h_Ix : fIx = kIx := by
  funext x y Q
  rcases y with y | y | y
  · cases y with
    | int k => rcases x with x | x | x
               · cases x with
                 | str s => simp only [fIx, kIx, wI]; cases atI s k <;> rfl
                 | tup s => simp only [fIx, kIx, wI]; cases atI s k <;> rfl
                 | lst s => simp only [fIx, kIx, wI, wLis, O.lis]; cases atI s k <;> rfl
                 | kst s => simp only [fIx, kIx, wI, wLis, O.lis]; cases atI s k <;> rfl
                 | _ => rfl
               · simp only [fIx, kIx, wI]
                 rw [← wLis_eq]
                 cases (O.own x).lis with
                 | none => rfl
                 | some ds => simp only; cases atI ds k <;> rfl
               · rfl
    | _ => rcases x with x | x | x
           · cases x <;> rfl
           · rfl
           · rfl
  · rcases x with x | x | x
    · cases x <;> rfl
    · rfl
    · rfl
  · rcases x with x | x | x
    · cases x <;> rfl
    · rfl
    · rfl
theorem h_Sl : fSl = kSl := by
  funext x lo hi Q
  rcases x with x | x | x
  · cases x <;> rfl
  · exact wLis_eq
  · rfl
theorem h_Rev : fRev = kRev := by
  funext x Q
  rcases x with x | x | x
  · cases x <;> rfl
  · exact wLis_eq
  · rfl
theorem h_Is : fIs = kIsn false := by
  funext x y Q
  rcases y with y | y | y
  · cases y with
    | non => rcases x with x | x | x
             · cases x <;> rfl
             · rfl
             · rfl
    | _ => rfl
  · rfl
  · rfl
theorem h_Not : fNot = kIsn true := by
  funext x y Q
  rcases y with y | y | y
  · cases y with
    | non => rcases x with x | x | x
             · cases x <;> rfl
             · rfl
             · rfl
    | _ => rfl
  · rfl
  · rfl
theorem h_Eq : fEq = kEq := by
  funext x y Q
  rcases x with x | x | x
  · rcases y with y | y | y
    · cases x with
      | str a => cases y with
        | str b => exact propext fEq_str
        | _ => rfl
      | int a => cases y with
        | int b => exact propext fEq_int
        | _ => rfl
      | bl a => cases y with
        | bl b => exact propext fEq_bl
        | _ => rfl
      | _ => rfl
    · cases x <;> rfl
    · cases x <;> rfl
  · rfl
  · rfl
theorem h_Ne : fNe = kNe := by
  funext x y Q
  rcases x with x | x | x
  · rcases y with y | y | y
    · cases x with
      | str a => cases y with
        | str b => exact propext fNe_str
        | _ => rfl
      | int a => cases y with
        | int b => exact propext fNe_int
        | _ => rfl
      | bl a => cases y with
        | bl b => exact propext fNe_bl
        | _ => rfl
      | _ => rfl
    · cases x <;> rfl
    · cases x <;> rfl
  · rfl
  · rfl
theorem h_In : fIn = kIn := by
  funext x y Q
  rcases x with d | x | x
  · rcases y with y | y | y
    · cases y with
      | str z =>
        cases d with
        | str s =>
          cases s with
          | nil => rfl
          | cons c r => cases r <;> rfl
        | _ => rfl
      | tup ds => cases d with
        | str s => cases s with
          | nil => rfl
          | cons c r => cases r <;> rfl
        | _ => rfl
      | _ => cases d with
        | str s => cases s with
          | nil => rfl
          | cons c r => cases r <;> rfl
        | _ => rfl
    · have e : ∀ d : D, fInB false (.d d) (.own y) Q = (match (O.own y).lis with
        | some ds => d.plain = true ∧ plainL ds = true ∧ d.depth ≤ 60 ∧ depthL ds ≤ 60 ∧ Q (.d (.bl (if false = true then !inD d ds else inD d ds)))
        | none => False) := fun d => by
        cases d with
        | str s => cases s with
          | nil => rfl
          | cons c r => cases r <;> rfl
        | _ => rfl
      exact (e d).trans wLis_eq
    · cases d with
      | str s => cases s with
        | nil => rfl
        | cons c r => cases r <;> rfl
      | _ => rfl
  · rcases y with y | y | y
    · cases y <;> rfl
    · rfl
    · rfl
  · rcases y with y | y | y
    · cases y <;> rfl
    · rfl
    · rfl
theorem h_Nin : fNin = kNin := by
  funext x y Q
  rcases x with d | x | x
  · rcases y with y | y | y
    · cases y with
      | str z =>
        cases d with
        | str s =>
          cases s with
          | nil => rfl
          | cons c r => cases r <;> rfl
        | _ => rfl
      | tup ds => cases d with
        | str s => cases s with
          | nil => rfl
          | cons c r => cases r <;> rfl
        | _ => rfl
      | _ => cases d with
        | str s => cases s with
          | nil => rfl
          | cons c r => cases r <;> rfl
        | _ => rfl
    · have e : ∀ d : D, fInB true (.d d) (.own y) Q = (match (O.own y).lis with
        | some ds => d.plain = true ∧ plainL ds = true ∧ d.depth ≤ 60 ∧ depthL ds ≤ 60 ∧ Q (.d (.bl (if true = true then !inD d ds else inD d ds)))
        | none => False) := fun d => by
        cases d with
        | str s => cases s with
          | nil => rfl
          | cons c r => cases r <;> rfl
        | _ => rfl
      exact (e d).trans wLis_eq
    · cases d with
      | str s => cases s with
        | nil => rfl
        | cons c r => cases r <;> rfl
      | _ => rfl
  · rcases y with y | y | y
    · cases y <;> rfl
    · rfl
    · rfl
  · rcases y with y | y | y
    · cases y <;> rfl
    · rfl
    · rfl
abbrev cEndsV (Qp : O → Prop) (Ep : Exc → Prop) : PEnds := ⟨fun _ => Qp (.d .non), fun o _ => Qp o, fun _ => False, fun _ => False, fun x _ => Ep x⟩
abbrev cEndsM (Qp : O → List O → Prop) : PEnds := ⟨fun env => wOwn env 0 fun xs => Qp (.d .non) xs, fun o env => wOwn env 0 fun xs => Qp o xs, fun _ => False, fun _ => False, fun _ _ => False⟩
theorem e_endsV : endsV = cEndsV := rfl
theorem e_endsM : endsM = cEndsM := by
  funext Qp
  simp only [endsM, cEndsM, e_withOwn]
abbrev kMax2 : List D → (O → Prop) → Prop := fun ds Q => match ds with
  | [.int i, .int j] => Q (.d (.int (if j > i then j else i)))
  | _ => False
abbrev kMin2 : List D → (O → Prop) → Prop := fun ds Q => match ds with
  | [.int i, .int j] => Q (.d (.int (if j < i then j else i)))
  | _ => False
theorem h_Max2 : fMax2 = kMax2 := rfl
theorem h_Min2 : fMin2 = kMin2 := rfl
theorem g_flat {ds : List D} {k : List D → Prop} (q : k ds) : onS (flatL (ds.map O.d)) k := by rw [flatL_map]; exact q
theorem g_lt {α : Type} {xs : List α} {i : Nat} {x : α} {k : α → Prop} (h : xs[i]? = some x) (q : k x) : onS (atI xs (i : Int)) k := g_S (atI_nat h) q
theorem g_last {α : Type} {xs : List α} {x : α} {k : α → Prop} (q : k x) : onS (xs ++ [x]).getLast? k := g_S (by simp) q
abbrev wipeN (env : Env) : List Nat → Env
  | [] => env
  | v :: vs => wipeN (setN env v none) vs

end DL
end

section
set_option Elab.async false
set_option linter.all false
set_option maxRecDepth 100000
set_option maxHeartbeats 2000000
namespace DL
open PySem PySem.Spec L2 PyProof.Rows

/-! ### loops by an invariant; the rest of the walk is at hand in the step -/
theorem forR_ind {g : PTG} {b : PTS} {De : PEnds} (I : List D → Env → Prop) (hn : ∀ env, I [] env → De.nx env)
    (hs : ∀ d ds env, I (d :: ds) env → (∀ env', I ds env' → forR g b De ds env') → g (.d d) env fun env' => b ⟨forR g b De ds, De.rt, De.nx, forR g b De ds, De.ex⟩ env') :
    ∀ (ds : List D) (env : Env), I ds env → forR g b De ds env
  | [], env, h => hn env h
  | d :: ds, env, h => hs d ds env h fun env' h' => forR_ind I hn hs ds env' h'
theorem u_forC {g : PTG} {b : PTS} {De : PEnds} {d : D} {ds : List D} {env : Env} : forR g b De (d :: ds) env = g (.d d) env fun env' => b ⟨forR g b De ds, De.rt, De.nx, forR g b De ds, De.ex⟩ env' := rfl
theorem u_forN {g : PTG} {b : PTS} {De : PEnds} {env : Env} : forR g b De [] env = De.nx env := rfl
theorem whileR_ind {c : PTT} {b : PTS} {De : PEnds} (I : Nat → Env → Prop) (h0 : ∀ env, ¬ I 0 env)
    (hs : ∀ n env, I (n + 1) env → (∀ env', I n env' → whileR c b De n env') → c env (fun k env' => cut_ k (b ⟨whileR c b De n, De.rt, De.nx, whileR c b De n, De.ex⟩ env') (De.nx env')) De.ex) :
    ∀ (n : Nat) (env : Env), I n env → whileR c b De n env
  | 0, env, h => (h0 env h).elim
  | n + 1, env, h => hs n env h fun env' h' => whileR_ind I h0 hs n env' h'
/-! ### comprehensions -/
abbrev wipeK : Env → List Nat → (Env → Prop) → Prop
  | env, [], k => k env
  | env, v :: vs, k => wipeK env vs fun e => setK e v none k
theorem wipeK_eq : ∀ (env : Env) (vs : List Nat) (k : Env → Prop), wipeK env vs k = k (wipeE env vs)
  | env, [], k => rfl
  | env, v :: vs, k => by
    show wipeK env vs (fun e => setK e v none k) = _
    rw [wipeK_eq env vs]
    simp only [setK_eq, wipeE, setN_eq]

theorem lcR_ind {g : PTG} {tt : PTT} {te : PTE} {vs : List Nat} {E : PX} {Q : List O → Env → Prop} (I : List D → List O → Env → Prop) (hn : ∀ acc env, I [] acc env → Q acc env)
    (hs : ∀ d ds acc env, I (d :: ds) acc env → (∀ acc' env', I ds acc' env' → lcR g tt te vs E Q ds acc' env') → wipeK env vs fun env0 => g (.d d) env0 fun env2 => tt env2 (fun k env3 => cut_ k (te env3 (fun o env4 => acc.length < 16777216 ∧ lcR g tt te vs E Q ds (acc ++ [o]) (restE env vs env4)) E) (lcR g tt te vs E Q ds acc (restE env vs env3))) E) :
    ∀ (ds : List D) (acc : List O) (env : Env), I ds acc env → lcR g tt te vs E Q ds acc env
  | [], acc, env, h => hn acc env h
  | d :: ds, acc, env, h => by
    have hz := hs d ds acc env h fun acc' env' h' => lcR_ind I hn hs ds acc' env' h'
    rw [wipeK_eq] at hz
    exact hz
theorem lcR_fm {g : PTG} {tt : PTT} {te : PTE} {vs : List Nat} {E : PX} {Q : List O → Env → Prop} {F : D → Option D} {env : Env} : ∀ (ds : List D) (acc : List O),
    (∀ d ∈ ds, ∀ (R : O → Env → Prop) (R0 : Env → Prop), (match F d with | some x => ∀ e, restE env vs e = env → R (.d x) e | none => ∀ e, restE env vs e = env → R0 e) → wipeK env vs fun env0 => g (.d d) env0 fun env2 => tt env2 (fun k env3 => cut_ k (te env3 R E) (R0 env3)) E) →
    acc.length + ds.length ≤ 16777216 → Q (acc ++ (ds.filterMap F).map O.d) env → lcR g tt te vs E Q ds acc env
  | [], acc, _, _, h => by simpa [lcR] using h
  | d :: ds, acc, hs, hl, h => by
    unfold lcR
    have hz := hs d (List.mem_cons_self ..) (fun o env4 => acc.length < 16777216 ∧ lcR g tt te vs E Q ds (acc ++ [o]) (restE env vs env4)) (fun env3 => lcR g tt te vs E Q ds acc (restE env vs env3))
    rw [wipeK_eq] at hz
    refine hz ?_
    simp only [List.length_cons] at hl
    cases e : F d with
    | some x =>
      intro e4 h4
      refine ⟨by omega, ?_⟩
      rw [h4]
      refine lcR_fm ds _ (fun d hd => hs d (List.mem_cons_of_mem _ hd)) (by rw [List.length_append, List.length_singleton]; omega) ?_
      rw [List.filterMap_cons, e] at h
      simpa using h
    | none =>
      intro e4 h4
      show lcR g tt te vs E Q ds acc (restE env vs e4)
      rw [h4]
      refine lcR_fm ds _ (fun d hd => hs d (List.mem_cons_of_mem _ hd)) (by omega) ?_
      rw [List.filterMap_cons, e] at h
      exact h
theorem lcR_map {g : PTG} {te : PTE} {vs : List Nat} {E : PX} {Q : List O → Env → Prop} {F : D → D} {env : Env} (ds : List D) (acc : List O)
    (hs : ∀ d ∈ ds, ∀ (R : O → Env → Prop), (∀ e, restE env vs e = env → R (.d (F d)) e) → wipeK env vs fun env0 => g (.d d) env0 fun env2 => te env2 R E)
    (hl : acc.length + ds.length ≤ 16777216) (h : Q (acc ++ (ds.map F).map O.d) env) : lcR g cYes te vs E Q ds acc env :=
  lcR_fm (F := fun d => some (F d)) ds acc (fun d hd R R0 z => show wipeK env vs (fun env0 => g (.d d) env0 fun env2 => te env2 R E) from hs d hd R z) hl (by simpa using h)
theorem forR_go {g : PTG} {b : PTS} {De : PEnds} (I : List D → Env → Prop) {ds : List D} {env : Env} (h : I ds env) (hn : ∀ env, I [] env → De.nx env)
    (hs : ∀ d ds env, I (d :: ds) env → (∀ env', I ds env' → forR g b De ds env') → g (.d d) env fun env' => b ⟨forR g b De ds, De.rt, De.nx, forR g b De ds, De.ex⟩ env') : forR g b De ds env := forR_ind I hn hs ds env h
theorem whileR_go {c : PTT} {b : PTS} {De : PEnds} (I : Nat → Env → Prop) {n : Nat} {env : Env} (h : I n env) (h0 : ∀ env, ¬ I 0 env)
    (hs : ∀ n env, I (n + 1) env → (∀ env', I n env' → whileR c b De n env') → c env (fun k env' => cut_ k (b ⟨whileR c b De n, De.rt, De.nx, whileR c b De n, De.ex⟩ env') (De.nx env')) De.ex) : ∃ n, whileR c b De n env := ⟨n, whileR_ind I h0 hs n env h⟩
theorem lcR_go {g : PTG} {tt : PTT} {te : PTE} {vs : List Nat} {E : PX} {Q : List O → Env → Prop} (I : List D → List O → Env → Prop) {ds : List D} {acc : List O} {env : Env} (h : I ds acc env) (hn : ∀ acc env, I [] acc env → Q acc env)
    (hs : ∀ d ds acc env, I (d :: ds) acc env → (∀ acc' env', I ds acc' env' → lcR g tt te vs E Q ds acc' env') → wipeK env vs fun env0 => g (.d d) env0 fun env2 => tt env2 (fun k env3 => cut_ k (te env3 (fun o env4 => acc.length < 16777216 ∧ lcR g tt te vs E Q ds (acc ++ [o]) (restE env vs env4)) E) (lcR g tt te vs E Q ds acc (restE env vs env3))) E) : lcR g tt te vs E Q ds acc env := lcR_ind I hn hs ds acc env h
/-! ### a choice of which one thing alone is known behind -/
theorem cut_same {c : Bool} {t u : PTE} {env : Env} {Q : O → Env → Prop} {E : PX} (P : O → Prop) (ht : c = true → ∀ R : O → Env → Prop, (∀ o, P o → R o env) → t env R E)
    (hu : c = false → ∀ R : O → Env → Prop, (∀ o, P o → R o env) → u env R E) (h : ∀ o, P o → Q o env) : cut_ c (t env Q E) (u env Q E) := g_cut (fun z => ht z Q h) fun z => hu z Q h
theorem cut_sameS {c : Bool} {t u : PTS} {De : PEnds} {env : Env} (P : Env → Prop) (ht : c = true → ∀ R : Env → Prop, (∀ e, P e → R e) → t ⟨R, De.rt, De.bk, De.ct, De.ex⟩ env)
    (hu : c = false → ∀ R : Env → Prop, (∀ e, P e → R e) → u ⟨R, De.rt, De.bk, De.ct, De.ex⟩ env) (h : ∀ e, P e → De.nx e) : cut_ c (t De env) (u De env) := g_cut (fun z => ht z De.nx h) fun z => hu z De.nx h
/-! ### slices -/
theorem cut_take {α : Type} (l : List α) (k : Nat) : cutL l none (some (k : Int)) = l.take k := by
  simp only [cutL, HT.sIx_none, HT.sIx_nat, List.drop_zero, Nat.sub_zero]
  rw [List.take_eq_take_iff]
  omega
theorem cut_drop {α : Type} (l : List α) (k : Nat) : cutL l (some (k : Int)) none = l.drop k := by
  simp only [cutL, HT.sIx_none, HT.sIx_nat]
  by_cases h : k ≤ l.length
  · rw [Nat.min_eq_left h, List.take_of_length_le (by rw [List.length_drop]; omega)]
  · rw [Nat.min_eq_right (by omega), List.drop_length, List.take_nil, List.drop_of_length_le (by omega)]
theorem cut_tl {α : Type} (l : List α) : cutL l (some 1) none = l.drop 1 := cut_drop l 1
theorem cut_hd {α : Type} (l : List α) : cutL l none (some 1) = l.take 1 := cut_take l 1
end DL
end

section
set_option Elab.async false
set_option linter.all false
set_option maxRecDepth 100000
set_option maxHeartbeats 2000000
namespace DL
open PySem PySem.Spec L2 PyProof.Rows
/-! ### the end -/
theorem same_fd {K : PySem.W.Frag} {x qual x' qual' : Str} {params params' : Arguments} {body body' : List Stmt} {scope scope' : Scope} {dvs dvs' : List V} {kws kws' : List (Str × V)} {f : Addr} {fd fd' : FuncData}
    (a : FunD K x qual params body scope dvs kws f fd) (b : FunD K x' qual' params' body' scope' dvs' kws' f fd') : fd = fd' := by
  obtain ⟨oc, od, dV, kV, doc, pm, an, cdv, ct, osl, e1, lk, _⟩ := a.ex
  obtain ⟨oc2, od2, dV2, kV2, doc2, pm2, an2, cdv2, ct2, osl2, e2, lk2, _⟩ := b.ex
  rw [lk] at lk2
  cases lk2
  rfl
theorem noX {P : Program} {w : World} {outer : List PySem.Env} {H : Hp} {s s' : Shared} {u : Value} (h : L2.CX P w outer H s (fun _ _ _ => False) u s') : False := by
  obtain ⟨a, B, H', cls, d, _, _, _, _, _, _, _, z⟩ := h
  exact z
theorem int_rows {K : PySem.W.Frag} {S : Hp} : ∀ ns : List Int, RpL K S (ns.map D.int) (ns.map V.int)
  | [] => RpL.nil
  | n :: ns => RpL.cons rp_int (int_rows ns)
/-- the law's call: its one argument is the script -/
theorem start_of {K : PySem.W.Frag} {sp : PSpV} {H : Hp} {a : Addr} {ns : List Int} (hS : SqL K H a (ns.map V.int)) (h : sp [.kst (ns.map D.int)] (fun o => o = .d (.bl true)) fun _ => False) :
    spV K sp [.ref a] H (fun v _ => v = .bl true) fun _ _ _ => False := by
  refine ⟨H, [.kst (ns.map D.int)], _, _, Sub.refl H, RpL.cons ?_ RpL.nil, h, ?_, ?_⟩
  · simp only [Rp]
    exact ⟨a, _, rfl, hS, int_rows ns⟩
  · intro v o F H' S' _ _ r _ _ q
    subst q
    have r' := d_rp r
    simp only [Rp] at r'
    exact r'
  · intro x d v H' S' _ _ _ _ _ _ z
    exact z
end DL
end

section
set_option Elab.async false
set_option linter.all false
set_option maxRecDepth 100000
set_option maxHeartbeats 2000000
namespace Law
open PySem PySem.Spec L2 PyProof.Rows DL

/-! ### terms -/
abbrev sVar : List Nat := [118, 97, 114]
abbrev sLam : List Nat := [108, 97, 109]
abbrev sApp : List Nat := [97, 112, 112]
inductive Tm where
  | var (x : List Nat) | lam (x : List Nat) (b : Tm) | app (f a : Tm)
def Tm.enc : Tm → D
  | .var x => .tup [.str sVar, .str x]
  | .lam x b => .tup [.str sLam, .str x, b.enc]
  | .app f a => .tup [.str sApp, f.enc, a.enc]
def Tm.kids : Tm → List Tm
  | .var _ => []
  | .lam _ b => [b]
  | .app f a => [f, a]
def Tm.size : Tm → Nat
  | .var _ => 1
  | .lam _ b => b.size + 1
  | .app f a => f.size + a.size + 1
def Tm.depth : Tm → Nat
  | .var _ => 1
  | .lam _ b => b.depth + 1
  | .app f a => max f.depth a.depth + 1
def lets : Tm → List Nat
  | .var _ => []
  | .lam _ _ => [98]
  | .app _ _ => [102, 97]
def heads : Tm → List D
  | .var x => [.str sVar, .str x]
  | .lam x _ => [.str sLam, .str x]
  | .app _ _ => [.str sApp]
def letters : List Nat := [97, 98, 99, 100, 101, 102, 103, 104, 105, 106, 107, 108, 109, 110, 111, 112, 113, 114, 115, 116, 117, 118, 119, 120, 121, 122]
def okN (x : List Nat) : Prop := 1 ≤ x.length ∧ x.length ≤ 4 ∧ ∀ c ∈ x, c ∈ letters
def Tm.ok : Tm → Prop
  | .var x => okN x
  | .lam x b => okN x ∧ b.ok
  | .app f a => f.ok ∧ a.ok
@[simp] theorem Tm.plain : ∀ t : Tm, t.enc.plain = true
  | .var x => rfl
  | .lam x b => by simp [Tm.enc, Tm.plain b]
  | .app f a => by simp [Tm.enc, Tm.plain f, Tm.plain a]

/-! ### parts_of, head_of, letters_of -/
def s_parts_of : PSpV := fun ds Q _ => ∃ t : Tm, ds = [t.enc] ∧ Q (.d (.tup (t.kids.map Tm.enc)))
def s_head_of : PSpV := fun ds Q _ => ∃ t : Tm, ds = [t.enc] ∧ Q (.d (.tup (heads t)))
def s_letters_of : PSpV := fun ds Q _ => ∃ t : Tm, ds = [t.enc] ∧ Q (.d (.str (lets t)))
theorem len_parts_of : ∀ ds Qp Ep, s_parts_of ds Qp Ep → ds.length = 1 := fun ds Q E ⟨t, e, _⟩ => by rw [e]; rfl
theorem len_head_of : ∀ ds Qp Ep, s_head_of ds Qp Ep → ds.length = 1 := fun ds Q E ⟨t, e, _⟩ => by rw [e]; rfl
theorem len_letters_of : ∀ ds Qp Ep, s_letters_of ds Qp Ep → ds.length = 1 := fun ds Q E ⟨t, e, _⟩ => by rw [e]; rfl
def d_APP : D := .tup [.str sApp]
abbrev N_parts_of : List Str := ["part"]
def b_parts_of : PTS := (pSeq (pIf (pTest (pOp fEq (pOp fIx (pVar 0) (pC (.int (0)))) (pC (.str [97, 112, 112])))) (pRet (pSl fSl (pVar 0) (pPart (pC (.int (1)))) pNoPart)) pNext)
    (pRet (pIfE (pTest (pOp fEq (pOp fIx (pVar 0) (pC (.int (0)))) (pC (.str [108, 97, 109])))) (pSl fSl (pVar 0) (pPart (pUn fNeg (pC (.int (1))))) pNoPart) (pTup pNil))))

abbrev N_head_of : List Str := ["part"]
def b_head_of : PTS := (pSeq (pIf (pTest (pOp fEq (pOp fIx (pVar 0) (pC (.int (0)))) (pC (.str [97, 112, 112])))) (pRet (pC d_APP)) pNext)
    (pRet (pIfE (pTest (pOp fEq (pOp fIx (pVar 0) (pC (.int (0)))) (pC (.str [108, 97, 109])))) (pSl fSl (pVar 0) pNoPart (pPart (pUn fNeg (pC (.int (1)))))) (pVar 0))))

abbrev N_letters_of : List Str := ["part"]
def b_letters_of : PTS := (pSeq (pIf (pTest (pOp fEq (pOp fIx (pVar 0) (pC (.int (0)))) (pC (.str [97, 112, 112])))) (pRet (pC (.str [102, 97]))) pNext)
    (pRet (pIfE (pTest (pOp fEq (pOp fIx (pVar 0) (pC (.int (0)))) (pC (.str [108, 97, 109])))) (pC (.str [98])) (pC (.str [])))))

theorem pure_parts_of : ∀ ds Qp Ep, s_parts_of ds Qp Ep → b_parts_of (endsV Qp Ep) (envV 1 ds) := fun ds Q E ⟨t, e, h⟩ => by
  subst e
  cases t <;> simpa [b_parts_of, Tm.enc, Tm.kids, sVar, sLam, sApp, cutL, HT.sIx] using h
theorem pure_head_of : ∀ ds Qp Ep, s_head_of ds Qp Ep → b_head_of (endsV Qp Ep) (envV 1 ds) := fun ds Q E ⟨t, e, h⟩ => by
  subst e
  cases t <;> simpa [b_head_of, Tm.enc, heads, sVar, sLam, sApp, cutL, HT.sIx, d_APP] using h
theorem pure_letters_of : ∀ ds Qp Ep, s_letters_of ds Qp Ep → b_letters_of (endsV Qp Ep) (envV 1 ds) := fun ds Q E ⟨t, e, h⟩ => by
  subst e
  cases t <;> simpa [b_letters_of, Tm.enc, lets, sVar, sLam, sApp] using h
end Law
end

section
set_option Elab.async false
set_option linter.all false
set_option maxRecDepth 100000
set_option maxHeartbeats 2000000
namespace Law
open PySem PySem.Spec L2 PyProof.Rows DL

theorem Tm.inj : ∀ {t u : Tm}, t.enc = u.enc → t = u
  | .var x, .var y, h => by simp [Tm.enc] at h; rw [h]
  | .lam x b, .lam y c, h => by simp [Tm.enc] at h; rw [h.1, Tm.inj h.2]
  | .app f a, .app g b, h => by simp [Tm.enc] at h; rw [Tm.inj h.1, Tm.inj h.2]
  | .var x, .lam y c, h => by simp [Tm.enc] at h
  | .var x, .app y c, h => by simp [Tm.enc] at h
  | .lam x b, .var y, h => by simp [Tm.enc] at h
  | .lam x b, .app y c, h => by simp [Tm.enc] at h
  | .app x b, .var y, h => by simp [Tm.enc] at h
  | .app x b, .lam y c, h => by simp [Tm.enc] at h
@[simp] theorem enc_inj {t u : Tm} : t.enc = u.enc ↔ t = u := ⟨Tm.inj, fun h => by rw [h]⟩
@[simp] theorem enc_non (t : Tm) : (t.enc.isNon) = false := by cases t <;> rfl
@[simp] theorem c_parts {t : Tm} {Q E} : s_parts_of [t.enc] Q E ↔ Q (.d (.tup (t.kids.map Tm.enc))) := by simp [s_parts_of]
@[simp] theorem c_head {t : Tm} {Q E} : s_head_of [t.enc] Q E ↔ Q (.d (.tup (heads t))) := by simp [s_head_of]
@[simp] theorem c_lets {t : Tm} {Q E} : s_letters_of [t.enc] Q E ↔ Q (.d (.str (lets t))) := by simp [s_letters_of]
/-! ### comprehensions -/
theorem lcR_fm {g : PTG} {tt : PTT} {te : PTE} {vs : List Nat} {E : PX} {Q : List O → DL.Env → Prop} {F : D → Option D} {env : DL.Env} : ∀ (ds : List D) (acc : List O),
    (∀ d ∈ ds, ∀ (R : O → DL.Env → Prop) (R0 : DL.Env → Prop), (match F d with | some x => ∀ e, restE env vs e = env → R (.d x) e | none => ∀ e, restE env vs e = env → R0 e) → g (.d d) (wipeE env vs) fun env2 => tt env2 (fun k env3 => if k = true then te env3 R E else R0 env3) E) →
    acc.length + ds.length ≤ 16777216 → Q (acc ++ (ds.filterMap F).map O.d) env → lcR g tt te vs E Q ds acc env
  | [], acc, _, _, h => by simpa [lcR] using h
  | d :: ds, acc, hs, hl, h => by
    unfold lcR
    refine hs d (List.mem_cons_self ..) (fun o env4 => acc.length < 16777216 ∧ lcR g tt te vs E Q ds (acc ++ [o]) (restE env vs env4)) (fun env3 => lcR g tt te vs E Q ds acc (restE env vs env3)) ?_
    simp only [List.length_cons] at hl
    cases e : F d with
    | some x =>
      intro e4 h4
      refine ⟨by omega, ?_⟩
      rw [h4]
      refine lcR_fm ds _ (fun d hd => hs d (List.mem_cons_of_mem _ hd)) (by rw [List.length_append, List.length_singleton]; omega) ?_
      rw [List.filterMap_cons, e] at h
      simpa using h
    | none =>
      intro e4 h4
      show lcR g tt te vs E Q ds acc (restE env vs e4)
      rw [h4]
      refine lcR_fm ds _ (fun d hd => hs d (List.mem_cons_of_mem _ hd)) (by omega) ?_
      rw [List.filterMap_cons, e] at h
      exact h
theorem lcR_map {g : PTG} {te : PTE} {vs : List Nat} {E : PX} {Q : List O → DL.Env → Prop} {F : D → D} {env : DL.Env} (ds : List D) (acc : List O)
    (hs : ∀ d ∈ ds, ∀ (R : O → DL.Env → Prop), (∀ e, restE env vs e = env → R (.d (F d)) e) → g (.d d) (wipeE env vs) fun env2 => te env2 R E)
    (hl : acc.length + ds.length ≤ 16777216) (h : Q (acc ++ (ds.map F).map O.d) env) : lcR g pYes te vs E Q ds acc env :=
  lcR_fm (F := fun d => some (F d)) ds acc (fun d hd R R0 z => by simpa using hs d hd R z) hl (by simpa using h)
/-! ### names -/
def s_is_letters : PSpV := fun ds Q _ => ∃ s, okN s ∧ ds = [.str s, .int 4] ∧ Q (.d (.bl true))
def s_is_name : PSpV := fun ds Q _ => ∃ s, okN s ∧ ds = [.str s] ∧ Q (.d (.bl true))
theorem len_is_letters : ∀ ds Qp Ep, s_is_letters ds Qp Ep → ds.length = 2 := fun ds Q E ⟨t, _, e, _⟩ => by rw [e]; rfl
theorem len_is_name : ∀ ds Qp Ep, s_is_name ds Qp Ep → ds.length = 1 := fun ds Q E ⟨t, _, e, _⟩ => by rw [e]; rfl
abbrev N_is_letters : List Str := ["value", "most", "sign"]
def b_is_letters : PTS := (pRet (pAndV (pIsi "str" (pVar 0)) (pAndV (pChain fLe fLe (pC (.int (1))) (pUn fLen (pVar 0)) (pVar 1)) (pUn fAll (pLc (pIAny (pVar 0)) (pgName 2) pYes (pOp fIn (pVar 2) (pC (.str [97, 98, 99, 100, 101, 102, 103, 104, 105, 106, 107, 108, 109, 110, 111, 112, 113, 114, 115, 116, 117, 118, 119, 120, 121, 122]))) [2])))))

abbrev N_is_name : List Str := ["value"]
def b_is_name : PTS := (pRet (pCallV s_is_letters (pCons (pVar 0) (pCons (pC (.int (4))) pNil))))

theorem pure_is_letters : ∀ ds Qp Ep, s_is_letters ds Qp Ep → b_is_letters (endsV Qp Ep) (envV 3 ds) := fun ds Q E ⟨s, ok, e, h⟩ => by
  subst e
  obtain ⟨h1, h2, h3⟩ := ok
  have h4 : (s.length : Int) ≤ 4 := by omega
  have h5 : (1 : Int) ≤ s.length := by omega
  simp [b_is_letters, O.ty, D.ty, isIn, h4, h5, noOwn]
  refine lcR_map (F := fun d => .bl true) _ _ (fun d hd R hR => ?_) (by simp; omega) ?_
  · obtain ⟨c, hc, rfl⟩ := List.mem_map.mp hd
    have := h3 c hc
    simp only [letters] at this
    simp [wipeE, this]
    exact hR _ (by simp [restE])
  · have e1 : (s.map (fun c => D.str [c])).map (fun d => D.bl true) = (s.map fun _ => true).map D.bl := by simp
    rw [List.nil_append, e1]
    simp only [fAll_own]
    have e2 : (s.map fun _ => true).all id = true := by rw [List.all_map]; exact List.all_eq_true.mpr fun _ _ => rfl
    rw [e2]
    simpa using h
theorem pure_is_name : ∀ ds Qp Ep, s_is_name ds Qp Ep → b_is_name (endsV Qp Ep) (envV 1 ds) := fun ds Q E ⟨s, ok, e, h⟩ => by
  subst e
  simp [b_is_name]
  exact ⟨s, ok, rfl, h⟩
/-! ### parts by their places -/
def Tm.step : Tm → Nat → Option Tm
  | .var _, _ => none
  | .lam _ b, c => if c = 98 then some b else none
  | .app f a, c => if c = 102 then some f else if c = 97 then some a else none
def Tm.at? : Tm → List Nat → Option Tm
  | t, [] => some t
  | t, c :: p => match t.step c with
    | some u => u.at? p
    | none => none
def dO : Option Tm → D
  | some u => u.enc
  | none => .non
def s_part_at : PSpV := fun ds Q _ => ∃ (t : Tm) (p : List Nat), ds = [t.enc, .str p] ∧ Q (.d (dO (t.at? p)))
theorem len_part_at : ∀ ds Qp Ep, s_part_at ds Qp Ep → ds.length = 2 := fun ds Q E ⟨t, p, e, _⟩ => by rw [e]; rfl
@[simp] theorem c_part_at {t : Tm} {p : List Nat} {Q E} : s_part_at [t.enc, .str p] Q E ↔ Q (.d (dO (t.at? p))) := ⟨fun ⟨t', p', e, h⟩ => by simp at e; rw [e.1, e.2]; exact h, fun h => ⟨t, p, rfl, h⟩⟩
abbrev N_part_at : List Str := ["term", "place", "found", "letter", "letters"]
def l1_part_at : PTS := (pSeq (pAsg (pCallV s_letters_of (pCons (pVar 2) pNil)) (pgName 4))
    (pSeq (pIf (pTest (pOp fNin (pVar 3) (pVar 4))) (pRet (pC .non)) pNext)
    (pAsg (pOp fIx (pGive (pCallV s_parts_of (pCons (pVar 2) pNil))) (pSIndex (pVar 4) (pVar 3))) (pgName 2))))
theorem l1_part_at_eq {De : PEnds} {env : DL.Env} : l1_part_at De env = (pSeq (pAsg (pCallV s_letters_of (pCons (pVar 2) pNil)) (pgName 4))
    (pSeq (pIf (pTest (pOp fNin (pVar 3) (pVar 4))) (pRet (pC .non)) pNext)
    (pAsg (pOp fIx (pGive (pCallV s_parts_of (pCons (pVar 2) pNil))) (pSIndex (pVar 4) (pVar 3))) (pgName 2)))) De env := rfl
def b_part_at : PTS := (pSeq (pAsg (pVar 0) (pgName 2))
    (pSeq (pFor (pIAny (pVar 1)) (pgName 3) l1_part_at)
    (pRet (pVar 2))))

theorem pure_part_at : ∀ ds Qp Ep, s_part_at ds Qp Ep → b_part_at (endsV Qp Ep) (envV 5 ds) := fun ds Q E ⟨t, p, e, h⟩ => by
  subst e
  simp [b_part_at]
  have key : ∀ (p : List Nat) (t : Tm) (a b c d : Option O) (De : PEnds), (∀ (x : D) a b c d, Q (.d x) → De.nx [a, b, some (.d x), c, d]) → (∀ o e, Q o → De.rt o e) → Q (.d (dO (t.at? p))) →
      forR (pgName 3) l1_part_at De (p.map fun c => .str [c]) [a, b, some (.d t.enc), c, d] := fun p => by
    induction p with
    | nil => intro t a b c d De hn hr h; exact hn _ _ _ _ _ h
    | cons x p ih =>
      intro t a b c d De hn hr h
      rw [List.map_cons, forR_cons]
      cases t with
      | var y => simp [l1_part_at_eq, lets]; exact hr _ _ h
      | lam y u =>
        by_cases e : x = 98
        · subst e
          simp [Tm.at?, Tm.step] at h
          simp [l1_part_at_eq, lets, Tm.kids]
          exact ⟨0, ⟨[], by decide +kernel⟩, by simpa using ih u _ _ _ _ De hn hr h⟩
        · simp [Tm.at?, Tm.step, e, dO] at h
          simp [l1_part_at_eq, lets, e]
          exact hr _ _ h
      | app f u =>
        by_cases e : x = 102
        · subst e
          simp [Tm.at?, Tm.step] at h
          simp [l1_part_at_eq, lets, Tm.kids]
          exact ⟨0, ⟨[], by decide +kernel⟩, by simpa using ih f _ _ _ _ De hn hr h⟩
        · by_cases e2 : x = 97
          · subst e2
            simp [Tm.at?, Tm.step] at h
            simp [l1_part_at_eq, lets, Tm.kids]
            exact ⟨1, ⟨[], by decide +kernel⟩, by simpa using ih u _ _ _ _ De hn hr h⟩
          · simp [Tm.at?, Tm.step, e, e2, dO] at h
            simp [l1_part_at_eq, lets, e, e2]
            exact hr _ _ h
  exact key p t _ _ _ _ _ (fun x a b c d z => by simpa using z) (fun o e z => z) h
end Law
end

section
set_option Elab.async false
set_option linter.all false
set_option maxRecDepth 100000
set_option maxHeartbeats 2000000
namespace Law
open PySem PySem.Spec L2 PyProof.Rows DL

@[simp] theorem c_is_name {s : List Nat} {Q E} : s_is_name [.str s] Q E ↔ okN s ∧ Q (.d (.bl true)) := ⟨fun ⟨t, ok, e, h⟩ => by simp [-List.map_map] at e; rw [e]; exact ⟨ok, h⟩, fun h => ⟨s, h.1, rfl, h.2⟩⟩
/-! ### forms -/
def s_has_form : PSpV := fun ds Q _ => ∃ t : Tm, t.ok ∧ ds = [t.enc] ∧ Q (.d (.bl true))
theorem len_has_form : ∀ ds Qp Ep, s_has_form ds Qp Ep → ds.length = 1 := fun ds Q E ⟨t, _, e, _⟩ => by rw [e]; rfl
@[simp] theorem c_has_form {t : Tm} {Q E} : s_has_form [t.enc] Q E ↔ t.ok ∧ Q (.d (.bl true)) := ⟨fun ⟨u, ok, e, h⟩ => by simp [-List.map_map] at e; rw [e]; exact ⟨ok, h⟩, fun h => ⟨t, h.1, rfl, h.2⟩⟩
abbrev N_has_form : List Str := ["value"]
def b_has_form : PTS := (pSeq (pIf (pOr (pNotT (pTest (pIsi "tuple" (pVar 0)))) (pOr (pNotT (pTest (pChain fLe fLe (pC (.int (2))) (pUn fLen (pVar 0)) (pC (.int (3)))))) (pNotT (pTest (pIsi "str" (pOp fIx (pVar 0) (pC (.int (0))))))))) (pRet (pC (.bl false))) pNext)
    (pSeq (pIf (pTest (pOp fEq (pOp fIx (pVar 0) (pC (.int (0)))) (pC (.str [97, 112, 112])))) (pRet (pOp fEq (pUn fLen (pVar 0)) (pC (.int (3))))) pNext)
    (pRet (pAndV (pOp fEq (pUn fLen (pVar 0)) (pDGet2 (pDispC [(Sum.inr ⟨([118, 97, 114] : List Nat).toArray⟩, .int (2)), (Sum.inr ⟨([108, 97, 109] : List Nat).toArray⟩, .int (3))]) (pOp fIx (pVar 0) (pC (.int (0)))) (pC (.int (0))))) (pCallV s_is_name (pCons (pOp fIx (pVar 0) (pC (.int (1)))) pNil))))))

theorem pure_has_form : ∀ ds Qp Ep, s_has_form ds Qp Ep → b_has_form (endsV Qp Ep) (envV 1 ds) := fun ds Q E ⟨t, ok, e, h⟩ => by
  subst e
  cases t <;> simp [-List.map_map, b_has_form, Tm.enc, O.ty, D.ty, isIn, flatK, lk, sVar, sLam, sApp] <;> simp_all [Tm.ok]
def s_fits_term : PSpV := fun ds Q _ => ∃ t : Tm, t.ok ∧ t.size ≤ 2000 ∧ ds = [t.enc] ∧ Q (.d (.bl true))
theorem len_fits_term : ∀ ds Qp Ep, s_fits_term ds Qp Ep → ds.length = 1 := fun ds Q E ⟨t, _, _, e, _⟩ => by rw [e]; rfl
abbrev N_fits_term : List Str := ["value", "waiting", "count", "item"]
def t1_fits_term : PTT := (pTest (pOp fNe (pBor 1) (pLst pLNil)))
theorem t1_fits_term_eq {Q : Bool → DL.Env → Prop} {E : PX} {env : DL.Env} : t1_fits_term env Q E = (pTest (pOp fNe (pBor 1) (pLst pLNil))) env Q E := rfl
def l2_fits_term : PTS := (pSeq (pAsg (pGive (pPop 1)) (pgName 3))
    (pSeq (pAug 2 fIadd (pC (.int (1))))
    (pSeq (pIf (pOr (pTest (pOp fGt (pVar 2) (pC (.int (2000))))) (pNotT (pTest (pCallV s_has_form (pCons (pVar 3) pNil))))) (pRet (pC (.bl false))) pNext)
    (pDrop (pExtend 1 (pCallV s_parts_of (pCons (pVar 3) pNil)))))))
theorem l2_fits_term_eq {De : PEnds} {env : DL.Env} : l2_fits_term De env = (pSeq (pAsg (pGive (pPop 1)) (pgName 3))
    (pSeq (pAug 2 fIadd (pC (.int (1))))
    (pSeq (pIf (pOr (pTest (pOp fGt (pVar 2) (pC (.int (2000))))) (pNotT (pTest (pCallV s_has_form (pCons (pVar 3) pNil))))) (pRet (pC (.bl false))) pNext)
    (pDrop (pExtend 1 (pCallV s_parts_of (pCons (pVar 3) pNil))))))) De env := rfl
def b_fits_term : PTS := (pSeq (pPar 1 2 (pLCons (pLst (pLCons (pVar 0) pLNil)) (pLCons (pC (.int (0))) pLNil)))
    (pSeq (pWhile t1_fits_term l2_fits_term)
    (pRet (pC (.bl true)))))

def sizes (ts : List Tm) : Nat := (ts.map Tm.size).sum
theorem size_pos (t : Tm) : 1 ≤ t.size := by cases t <;> simp [-List.map_map, Tm.size]
theorem sizes_app (a b : List Tm) : sizes (a ++ b) = sizes a + sizes b := by simp [-List.map_map, sizes]
theorem sizes_len : ∀ ts : List Tm, ts.length ≤ sizes ts
  | [] => Nat.le_refl _
  | t :: ts => by
    have := sizes_len ts
    have := size_pos t
    simp [-List.map_map, sizes] at *
    omega
theorem size_kids (t : Tm) : t.size = sizes t.kids + 1 := by cases t <;> simp [-List.map_map, Tm.size, Tm.kids, sizes]
theorem ok_kids {t : Tm} (h : t.ok) : ∀ u ∈ t.kids, u.ok := by
  cases t <;> simp [-List.map_map, Tm.kids, Tm.ok] at *
  · exact h.2
  · exact h
theorem plainL_enc : ∀ ts : List Tm, plainL (ts.map Tm.enc) = true
  | [] => rfl
  | t :: ts => by simp [-List.map_map, plainL_enc ts]
theorem fits_loop {v : Option O} {De : PEnds} (hn : ∀ a b c, De.nx [v, a, b, c]) : ∀ (n : Nat) (ts : List Tm) (k : Int) (c : Option O), sizes ts + 1 ≤ n → 0 ≤ k → k + sizes ts ≤ 2000 → (∀ t ∈ ts, t.ok) →
    whileR t1_fits_term l2_fits_term De n [v, some (.own ((ts.map Tm.enc).map O.d)), some (.d (.int k)), c]
  | 0, ts, k, c, h, _, _, _ => by omega
  | n + 1, ts, k, c, h, k0, hk, ok => by
    unfold whileR
    rcases List.eq_nil_or_concat ts with rfl | ⟨l, t, rfl⟩
    · simp only [t1_fits_term_eq, pSeq, pTest, pOp, pBor, pLst, pLNil, List.getElem?_cons_succ, List.getElem?_cons_zero, fNe_nil]
      exact ⟨rfl, by simpa [-List.map_map] using hn _ _ _⟩
    · rw [List.concat_eq_append] at *
      have e1 := size_kids t
      have e2 := sizes_len l
      have e5 : l.length ≤ 2000 := by rw [sizes_app] at hk; omega
      have e3 : sizes [t] = t.size := by simp [-List.map_map, sizes]
      have okt := ok t (by simp [-List.map_map])
      have pl := plainL_enc (l ++ [t])
      rw [sizes_app, e3] at h hk
      have e4 := sizes_len t.kids
      simp only [t1_fits_term_eq, pSeq, pTest, pOp, pBor, pLst, pLNil, List.getElem?_cons_succ, List.getElem?_cons_zero, fNe_nil]
      refine ⟨pl, ?_⟩
      have hk2 : ¬ (2000 < k + 1) := by omega
      simp [-List.map_map, l2_fits_term_eq, okt, hk2]
      refine ⟨by omega, ?_⟩
      have ih := fits_loop hn n (l ++ t.kids) (k + 1) (some (.d t.enc)) (by rw [sizes_app]; omega) (by omega) (by rw [sizes_app]; omega) (fun u hu => (List.mem_append.mp hu).elim (fun z => ok u (by simp [-List.map_map, z])) (ok_kids okt u))
      simpa [-List.map_map] using ih
theorem pure_fits_term : ∀ ds Qp Ep, s_fits_term ds Qp Ep → b_fits_term (endsV Qp Ep) (envV 4 ds) := fun ds Q E ⟨t, ok, hs, e, h⟩ => by
  subst e
  simp [-List.map_map, b_fits_term]
  refine ⟨sizes [t] + 1, ?_⟩
  have := fits_loop (v := some (.d t.enc)) (De := { endsV Q E with nx := fun env' => Q (.d (.bl true)) }) (fun _ _ _ => h) (sizes [t] + 1) [t] 0 none (Nat.le_refl _) (by omega) (by simp [-List.map_map, sizes]; omega) (fun u hu => by rw [List.mem_singleton.mp hu]; exact ok)
  simpa [-List.map_map] using this
end Law
end

section
set_option Elab.async false
set_option linter.all false
set_option maxRecDepth 100000
set_option maxHeartbeats 2000000
namespace Law
open PySem PySem.Spec L2 PyProof.Rows DL

/-! ### check_term -/
def s_check_term : PSpV := fun ds Q _ => ∃ t : Tm, t.ok ∧ t.size ≤ 2000 ∧ ds = [t.enc] ∧ Q (.d .non)
theorem len_check_term : ∀ ds Qp Ep, s_check_term ds Qp Ep → ds.length = 1 := fun ds Q E ⟨t, _, _, e, _⟩ => by rw [e]; rfl
@[simp] theorem c_fits_term {t : Tm} {Q E} : s_fits_term [t.enc] Q E ↔ t.ok ∧ t.size ≤ 2000 ∧ Q (.d (.bl true)) := ⟨fun ⟨u, ok, s, e, h⟩ => by simp [-List.map_map] at e; rw [e]; exact ⟨ok, s, h⟩, fun h => ⟨t, h.1, h.2.1, rfl, h.2.2⟩⟩
@[simp] theorem c_check_term {t : Tm} {Q E} : s_check_term [t.enc] Q E ↔ t.ok ∧ t.size ≤ 2000 ∧ Q (.d .non) := ⟨fun ⟨u, ok, s, e, h⟩ => by simp [-List.map_map] at e; rw [e]; exact ⟨ok, s, h⟩, fun h => ⟨t, h.1, h.2.1, rfl, h.2.2⟩⟩
abbrev N_check_term : List Str := ["term"]
def b_check_term : PTS := (pIf (pNotT (pTest (pCallV s_fits_term (pCons (pVar 0) pNil)))) (pRaise "InvalidTerm" "given" (pVar 0)) pNext)

theorem pure_check_term : ∀ ds Qp Ep, s_check_term ds Qp Ep → b_check_term (endsV Qp Ep) (envV 1 ds) := fun ds Q E ⟨t, ok, hs, e, h⟩ => by
  subst e
  simp [-List.map_map, b_check_term, ok, hs]
  exact h
/-! ### walk_parts -/
def walkT : List Nat → Tm → List (List Nat × Tm)
  | p, .var x => [(p, .var x)]
  | p, .lam x b => (p, .lam x b) :: walkT (p ++ [98]) b
  | p, .app f a => (p, .app f a) :: (walkT (p ++ [102]) f ++ walkT (p ++ [97]) a)
def pr (q : List Nat × Tm) : D := .tup [.str q.1, q.2.enc]
theorem walkT_len : ∀ (t : Tm) (p : List Nat), (walkT p t).length = t.size
  | .var x, p => rfl
  | .lam x b, p => by simp [-List.map_map, walkT, Tm.size, walkT_len b]
  | .app f a, p => by simp [-List.map_map, walkT, Tm.size, walkT_len f, walkT_len a]
theorem size_depth : ∀ t : Tm, t.depth ≤ t.size
  | .var x => Nat.le_refl _
  | .lam x b => by have := size_depth b; simp [-List.map_map, Tm.depth, Tm.size]; omega
  | .app f a => by have := size_depth f; have := size_depth a; simp [-List.map_map, Tm.depth, Tm.size]; omega
/-- the parts inside, with their places -/
def kidsP : List Nat × Tm → List (List Nat × Tm)
  | (p, .var _) => []
  | (p, .lam _ b) => [(p ++ [98], b)]
  | (p, .app f a) => [(p ++ [102], f), (p ++ [97], a)]
theorem walkT_kids (q : List Nat × Tm) : walkT q.1 q.2 = q :: (kidsP q).flatMap fun r => walkT r.1 r.2 := by
  obtain ⟨p, t⟩ := q
  cases t <;> simp [-List.map_map, walkT, kidsP]
def todo (qs : List (List Nat × Tm)) : List (List Nat × Tm) := qs.reverse.flatMap fun r => walkT r.1 r.2
theorem plainL_pr : ∀ qs : List (List Nat × Tm), plainL (qs.map pr) = true
  | [] => rfl
  | q :: qs => by simp [-List.map_map, plainL_pr qs, pr]
def s_walk_parts : PSpV := fun ds Q _ => ∃ t : Tm, t.size ≤ 4000 ∧ ds = [t.enc] ∧ Q (.own (((walkT [] t).map pr).map O.d))
theorem len_walk_parts : ∀ ds Qp Ep, s_walk_parts ds Qp Ep → ds.length = 1 := fun ds Q E ⟨t, _, e, _⟩ => by rw [e]; rfl
@[simp] theorem c_walk_parts {t : Tm} {Q E} : s_walk_parts [t.enc] Q E ↔ t.size ≤ 4000 ∧ Q (.own (((walkT [] t).map pr).map O.d)) := ⟨fun ⟨u, s, e, h⟩ => by simp [-List.map_map] at e; rw [e]; exact ⟨s, h⟩, fun h => ⟨t, h.1, rfl, h.2⟩⟩
abbrev N_walk_parts : List Str := ["term", "found", "waiting", "inside", "place", "part", "letter", "item"]
def t1_walk_parts : PTT := (pTest (pOp fNe (pBor 2) (pLst pLNil)))
theorem t1_walk_parts_eq {Q : Bool → DL.Env → Prop} {E : PX} {env : DL.Env} : t1_walk_parts env Q E = (pTest (pOp fNe (pBor 2) (pLst pLNil))) env Q E := rfl
def l2_walk_parts : PTS := (pSeq (pAsg (pGive (pPop 2)) (pgTup 2 (pgCons (pgName 4) (pgCons (pgName 5) pgNil))))
    (pSeq (pDrop (pAppend 1 (pTup (pCons (pVar 4) (pCons (pVar 5) pNil)))))
    (pSeq (pAsg (pGive (pLc (pIZip (pCallV s_letters_of (pCons (pVar 5) pNil)) (pGive (pCallV s_parts_of (pCons (pVar 5) pNil)))) (pgTup 2 (pgCons (pgName 6) (pgCons (pgName 7) pgNil))) pYes (pTup (pCons (pGive (pOp fAdd (pVar 4) (pVar 6))) (pCons (pVar 7) pNil))) [6, 7])) (pgName 3))
    (pDrop (pExtend 2 (pUn fRev (pVar 3)))))))
theorem l2_walk_parts_eq {De : PEnds} {env : DL.Env} : l2_walk_parts De env = (pSeq (pAsg (pGive (pPop 2)) (pgTup 2 (pgCons (pgName 4) (pgCons (pgName 5) pgNil))))
    (pSeq (pDrop (pAppend 1 (pTup (pCons (pVar 4) (pCons (pVar 5) pNil)))))
    (pSeq (pAsg (pGive (pLc (pIZip (pCallV s_letters_of (pCons (pVar 5) pNil)) (pGive (pCallV s_parts_of (pCons (pVar 5) pNil)))) (pgTup 2 (pgCons (pgName 6) (pgCons (pgName 7) pgNil))) pYes (pTup (pCons (pGive (pOp fAdd (pVar 4) (pVar 6))) (pCons (pVar 7) pNil))) [6, 7])) (pgName 3))
    (pDrop (pExtend 2 (pUn fRev (pVar 3))))))) De env := rfl
def b_walk_parts : PTS := (pSeq (pPar 1 2 (pLCons (pLst pLNil) (pLCons (pLst (pLCons (pTup (pCons (pC (.str [])) (pCons (pVar 0) pNil))) pLNil)) pLNil)))
    (pSeq (pWhile t1_walk_parts l2_walk_parts)
    (pRet (pMov 1))))

theorem zip_kids (q : List Nat × Tm) : zipD ((lets q.2).map fun c => .str [c]) (q.2.kids.map Tm.enc) = (List.zip (lets q.2) q.2.kids).map fun z => .tup [.str [z.1], z.2.enc] := by
  obtain ⟨p, t⟩ := q
  cases t <;> rfl
theorem walk_loop {v : Option O} {De : PEnds} {fin : List (List Nat × Tm)} (hn : ∀ b c d e, De.nx [v, some (.own ((fin.map pr).map O.d)), b, c, d, e, none, none]) (hf : fin.length ≤ 4000) : ∀ (n : Nat) (qs done : List (List Nat × Tm)) (c d e : Option O),
    (todo qs).length + 1 ≤ n → done ++ todo qs = fin → (∀ q ∈ qs, q.1.length + q.2.depth ≤ 4000) → whileR t1_walk_parts l2_walk_parts De n [v, some (.own ((done.map pr).map O.d)), some (.own ((qs.map pr).map O.d)), c, d, e, none, none]
  | 0, qs, done, c, d, e, h, _, _ => by omega
  | n + 1, qs, done, c, d, e, h, hd, hq => by
    unfold whileR
    rcases List.eq_nil_or_concat qs with rfl | ⟨l, q, rfl⟩
    · have e0 : done = fin := by simpa [-List.map_map, todo] using hd
      subst e0
      simp only [t1_walk_parts_eq, pSeq, pTest, pOp, pBor, pLst, pLNil, List.getElem?_cons_succ, List.getElem?_cons_zero, fNe_nil]
      exact ⟨rfl, by simpa [-List.map_map] using hn _ _ _ _⟩
    · rw [List.concat_eq_append] at *
      have e1 : todo (l ++ [q]) = q :: todo (l ++ (kidsP q).reverse) := by
        simp only [todo, List.reverse_append, List.reverse_cons, List.reverse_nil, List.nil_append, List.cons_append, List.flatMap_cons, List.reverse_reverse, List.flatMap_append]
        rw [walkT_kids q]
        rfl
      rw [e1] at h hd
      simp only [List.length_cons] at h
      have hl : done.length + (todo (l ++ (kidsP q).reverse)).length + 1 = fin.length := by rw [← hd]; simp [-List.map_map]; omega
      have e2 : (l ++ (kidsP q).reverse).length ≤ (todo (l ++ (kidsP q).reverse)).length := by
        generalize l ++ (kidsP q).reverse = m
        unfold todo
        rw [← List.length_reverse (as := m)]
        generalize m.reverse = m
        induction m with
        | nil => simp [-List.map_map]
        | cons a m ih =>
          simp only [List.flatMap_cons, List.length_append, List.length_cons, walkT_len]
          have := size_pos a.2
          omega
      have pl := plainL_pr (l ++ [q])
      have hqq := hq q (by simp [-List.map_map])
      have ih := walk_loop hn hf n (l ++ (kidsP q).reverse) (done ++ [q]) (some (.d (.lst ((kidsP q).map pr)))) (some (.d (.str q.1))) (some (.d q.2.enc)) (by omega) (by rw [List.append_assoc]; exact hd) (fun r hr => by
        rcases List.mem_append.mp hr with z | z
        · exact hq r (by simp [-List.map_map, z])
        · have z := List.mem_reverse.mp z
          obtain ⟨p, t⟩ := q
          cases t <;> simp [-List.map_map, kidsP, Tm.depth] at z hqq
          · subst z; simp [-List.map_map]; omega
          · rcases z with rfl | rfl <;> simp [-List.map_map] <;> omega)
      simp only [t1_walk_parts_eq, pSeq, pTest, pOp, pBor, pLst, pLNil, List.getElem?_cons_succ, List.getElem?_cons_zero, fNe_nil]
      refine ⟨pl, ?_⟩
      simp only [List.length_append] at e2
      simp [-List.map_map, l2_walk_parts_eq, pr, noOwn, zip_kids]
      refine ⟨by omega, ?_⟩
      refine lcR_map (F := fun d => match d with | .tup [.str c, u] => .tup [.str (q.1 ++ c), u] | _ => .non) _ _ (fun d hd R hR => ?_) ?_ ?_
      · obtain ⟨z, hz, rfl⟩ := List.mem_map.mp hd
        have : q.1.length + q.2.depth ≤ 4000 := hqq
        simp [-List.map_map, wipeE]
        refine ⟨by omega, hR _ (by simp [-List.map_map, restE])⟩
      · have : (List.zip (lets q.2) q.2.kids).length ≤ 2 := by
          obtain ⟨p, t⟩ := q
          cases t <;> simp [-List.map_map, lets, Tm.kids]
        simp only [List.length_nil, List.length_map]
        omega
      · have e3 : ((List.zip (lets q.2) q.2.kids).map fun z => D.tup [.str [z.1], z.2.enc]).map (fun d => match d with | .tup [.str c, u] => D.tup [.str (q.1 ++ c), u] | _ => .non) = (kidsP q).map pr := by
          obtain ⟨p, t⟩ := q
          cases t <;> rfl
        rw [e3]
        simp [-List.map_map]
        refine ⟨?_, by simpa [-List.map_map, pr] using ih⟩
        simp [-List.map_map] at e2
        omega
theorem pure_walk_parts : ∀ ds Qp Ep, s_walk_parts ds Qp Ep → b_walk_parts (endsV Qp Ep) (envV 8 ds) := fun ds Q E ⟨t, hs, e, h⟩ => by
  subst e
  simp [-List.map_map, b_walk_parts]
  have l0 : (walkT [] t).length = t.size := walkT_len t []
  have e0 : todo [([], t)] = walkT [] t := by simp [-List.map_map, todo]
  refine ⟨t.size + 1, ?_⟩
  have := walk_loop (v := some (.d t.enc)) (De := { endsV Q E with nx := fun env' => pRet (pMov 1) (endsV Q E) env' }) (fin := walkT [] t) (fun b c d e => by simpa [-List.map_map] using h) (by omega) (t.size + 1) [([], t)] [] none none none (by rw [e0]; omega) (by rw [e0]; rfl) (fun q hq => by
    rw [List.mem_singleton.mp hq]
    have := size_depth t
    simp [-List.map_map]
    omega)
  simpa [-List.map_map, pr] using this
/-! ### replaced -/
def Tm.setAt : Tm → List Nat → Tm → Tm
  | _, [], o => o
  | .var x, _ :: _, _ => .var x
  | .lam x b, _ :: p, o => .lam x (b.setAt p o)
  | .app f a, c :: p, o => if c = 102 then .app (f.setAt p o) a else .app f (a.setAt p o)
def ixOf : Tm → Nat → Nat
  | .app _ _, c => if c = 102 then 0 else 1
  | _, _ => 0
def setKid : Tm → Nat → Tm → Tm
  | .var x, _, _ => .var x
  | .lam x _, _, o => .lam x o
  | .app f a, i, o => if i = 0 then .app o a else .app f o
def trail : Tm → List Nat → List (Tm × Nat)
  | _, [] => []
  | t, c :: p => (t, ixOf t c) :: match t.step c with
    | some u => trail u p
    | none => []
theorem trail_set : ∀ (p : List Nat) (t o u : Tm), t.at? p = some u → (trail t p).foldr (fun q acc => setKid q.1 q.2 acc) o = t.setAt p o
  | [], t, o, u, h => by cases t <;> rfl
  | c :: p, t, o, u, h => by
    unfold Tm.at? at h
    cases e : t.step c with
    | none => rw [e] at h; cases h
    | some w =>
      rw [e] at h
      have ih := trail_set p w o u h
      simp only [trail, e, List.foldr_cons, ih]
      cases t with
      | var x => cases e
      | lam x b =>
        simp only [Tm.step] at e
        split at e
        · cases e; rfl
        · cases e
      | app f a =>
        simp only [Tm.step] at e
        split at e
        · rename_i hc
          cases e
          simp [-List.map_map, ixOf, hc, setKid, Tm.setAt]
        · rename_i hc
          split at e
          · cases e
            simp [-List.map_map, ixOf, hc, setKid, Tm.setAt]
          · cases e
def prN (q : Tm × Nat) : D := .tup [q.1.enc, .int (q.2 : Int)]
def s_replaced : PSpV := fun ds Q _ => ∃ (t o u : Tm) (p : List Nat), t.at? p = some u ∧ p.length ≤ 4000 ∧ ds = [t.enc, .str p, o.enc] ∧ Q (.d (t.setAt p o).enc)
theorem len_replaced : ∀ ds Qp Ep, s_replaced ds Qp Ep → ds.length = 3 := fun ds Q E ⟨t, o, u, p, _, _, e, _⟩ => by rw [e]; rfl
abbrev N_replaced : List Str := ["term", "place", "other", "above", "found", "letter", "at", "part", "inside"]
def l1_replaced : PTS := (pSeq (pAsg (pSIndex (pCallV s_letters_of (pCons (pVar 4) pNil)) (pVar 5)) (pgName 6))
    (pSeq (pDrop (pAppend 3 (pTup (pCons (pVar 4) (pCons (pVar 6) pNil)))))
    (pAsg (pOp fIx (pGive (pCallV s_parts_of (pCons (pVar 4) pNil))) (pVar 6)) (pgName 4))))
theorem l1_replaced_eq {De : PEnds} {env : DL.Env} : l1_replaced De env = (pSeq (pAsg (pSIndex (pCallV s_letters_of (pCons (pVar 4) pNil)) (pVar 5)) (pgName 6))
    (pSeq (pDrop (pAppend 3 (pTup (pCons (pVar 4) (pCons (pVar 6) pNil)))))
    (pAsg (pOp fIx (pGive (pCallV s_parts_of (pCons (pVar 4) pNil))) (pVar 6)) (pgName 4)))) De env := rfl
def l2_replaced : PTS := (pSeq (pAsg (pGive (pCallV s_parts_of (pCons (pVar 7) pNil))) (pgName 8))
    (pAsg (pGive (pOp fAdd (pOp fAdd (pOp fAdd (pCallV s_head_of (pCons (pVar 7) pNil)) (pSl fSl (pVar 8) pNoPart (pPart (pVar 6)))) (pTup (pCons (pVar 4) pNil))) (pSl fSl (pVar 8) (pPart (pOp fAdd (pVar 6) (pC (.int (1))))) pNoPart))) (pgName 4)))
theorem l2_replaced_eq {De : PEnds} {env : DL.Env} : l2_replaced De env = (pSeq (pAsg (pGive (pCallV s_parts_of (pCons (pVar 7) pNil))) (pgName 8))
    (pAsg (pGive (pOp fAdd (pOp fAdd (pOp fAdd (pCallV s_head_of (pCons (pVar 7) pNil)) (pSl fSl (pVar 8) pNoPart (pPart (pVar 6)))) (pTup (pCons (pVar 4) pNil))) (pSl fSl (pVar 8) (pPart (pOp fAdd (pVar 6) (pC (.int (1))))) pNoPart))) (pgName 4))) De env := rfl
def b_replaced : PTS := (pSeq (pPar 3 4 (pLCons (pLst pLNil) (pLCons (pVar 0) pLNil)))
    (pSeq (pFor (pIAny (pVar 1)) (pgName 5) l1_replaced)
    (pSeq (pAsg (pVar 2) (pgName 4))
    (pSeq (pFor (pIAny (pGive (pUn fRev (pBor 3)))) (pgTup 2 (pgCons (pgName 7) (pgCons (pgName 6) pgNil))) l2_replaced)
    (pRet (pVar 4))))))

theorem repl_down {v w x a7 a8 : Option O} {De : PEnds} : ∀ (p : List Nat) (t u : Tm) (done : List (Tm × Nat)) (b c : Option O), t.at? p = some u → done.length + p.length ≤ 4000 →
    (∀ b c, De.nx [v, w, x, some (.own (((done ++ trail t p).map prN).map O.d)), some (.d u.enc), b, c, a7, a8]) → forR (pgName 5) l1_replaced De (p.map fun c => .str [c]) [v, w, x, some (.own ((done.map prN).map O.d)), some (.d t.enc), b, c, a7, a8]
  | [], t, u, done, b, c, h, hl, hn => by
    cases h
    simpa [-List.map_map, forR, trail] using hn b c
  | k :: p, t, u, done, b, c, h, hl, hn => by
    unfold Tm.at? at h
    rw [List.map_cons, forR_cons]
    cases e : t.step k with
    | none => rw [e] at h; cases h
    | some y =>
      rw [e] at h
      simp only [List.length_cons] at hl
      have ih := fun b c => repl_down (De := De) p y u (done ++ [(t, ixOf t k)]) b c h (by simp [-List.map_map]; omega) (fun b c => by
        have := hn b c
        simp only [trail, e] at this
        simpa [-List.map_map] using this)
      have hd : done.length < 16777216 := by omega
      cases t with
      | var z => cases e
      | lam z b' =>
        simp only [Tm.step] at e
        split at e
        · rename_i hk
          subst hk
          cases e
          simp [-List.map_map, l1_replaced_eq, lets, Tm.kids, hd]
          exact ⟨0, ⟨[], by decide +kernel⟩, by simpa [-List.map_map, prN, ixOf] using ih _ _⟩
        · cases e
      | app f a' =>
        simp only [Tm.step] at e
        split at e
        · rename_i hk
          subst hk
          cases e
          simp [-List.map_map, l1_replaced_eq, lets, Tm.kids, hd]
          exact ⟨0, ⟨[], by decide +kernel⟩, by simpa [-List.map_map, prN, ixOf] using ih _ _⟩
        · split at e
          · rename_i hk
            subst hk
            cases e
            simp [-List.map_map, l1_replaced_eq, lets, Tm.kids, hd]
            exact ⟨1, ⟨[], by decide +kernel⟩, by simpa [-List.map_map, prN, ixOf] using ih _ _⟩
          · cases e
/-- where the parts stand: 0 in a lam, 0 or 1 in an app -/
def fitsIx : Tm × Nat → Prop
  | (.var _, _) => False
  | (.lam _ _, i) => i = 0
  | (.app _ _, i) => i = 0 ∨ i = 1
theorem trail_fits : ∀ (p : List Nat) (t u : Tm), t.at? p = some u → ∀ q ∈ trail t p, fitsIx q
  | [], t, u, h, q, hq => by cases hq
  | c :: p, t, u, h, q, hq => by
    unfold Tm.at? at h
    cases e : t.step c with
    | none => rw [e] at h; cases h
    | some w =>
      rw [e] at h
      simp only [trail, e] at hq
      rcases List.mem_cons.mp hq with z | z
      · subst z
        cases t with
        | var x => cases e
        | lam x b => rfl
        | app f a =>
          simp only [ixOf, fitsIx]
          split <;> simp [-List.map_map]
      · exact trail_fits p w u h q z
theorem repl_up {v w x y a5 : Option O} {De : PEnds} : ∀ (qs : List (Tm × Nat)) (o : Tm) (b c d : Option O), (∀ q ∈ qs, fitsIx q) →
    (∀ b c d, De.nx [v, w, x, y, some (.d (qs.foldl (fun acc q => setKid q.1 q.2 acc) o).enc), a5, b, c, d]) → forR (pgTup 2 (pgCons (pgName 7) (pgCons (pgName 6) pgNil))) l2_replaced De (qs.map prN) [v, w, x, y, some (.d o.enc), a5, b, c, d]
  | [], o, b, c, d, hq, hn => by simpa [-List.map_map, forR] using hn b c d
  | q :: qs, o, b, c, d, hq, hn => by
    rw [List.map_cons, forR_cons]
    have ih := fun b c d => repl_up (De := De) qs (setKid q.1 q.2 o) b c d (fun r hr => hq r (List.mem_cons_of_mem _ hr)) hn
    have hf := hq q (List.mem_cons_self ..)
    obtain ⟨t, i⟩ := q
    cases t with
    | var z => exact hf.elim
    | lam z b' =>
      cases hf
      simp [-List.map_map, prN, l2_replaced_eq, heads, Tm.kids, cutL, HT.sIx]
      simpa [-List.map_map, setKid, Tm.enc] using ih _ _ _
    | app f a' =>
      rcases hf with hf | hf
      · subst hf
        simp [-List.map_map, prN, l2_replaced_eq, heads, Tm.kids, cutL, HT.sIx]
        simpa [-List.map_map, setKid, Tm.enc] using ih _ _ _
      · subst hf
        simp [-List.map_map, prN, l2_replaced_eq, heads, Tm.kids, cutL, HT.sIx]
        simpa [-List.map_map, setKid, Tm.enc] using ih _ _ _
theorem pure_replaced : ∀ ds Qp Ep, s_replaced ds Qp Ep → b_replaced (endsV Qp Ep) (envV 9 ds) := fun ds Q E ⟨t, o, u, p, hp, hl, e, h⟩ => by
  subst e
  simp [-List.map_map, b_replaced]
  refine repl_down p t u [] none none hp (by simpa [-List.map_map] using hl) fun b c => ?_
  simp [-List.map_map]
  rw [← List.map_reverse]
  refine repl_up _ o _ _ _ (fun q hq => trail_fits p t u hp q (List.mem_reverse.mp hq)) fun b c d => ?_
  rw [List.foldl_reverse]
  simp [-List.map_map, trail_set p t o u hp]
  exact h
end Law
end

section
set_option Elab.async false
set_option linter.all false
set_option maxRecDepth 100000
set_option maxHeartbeats 2000000
namespace Law
open PySem PySem.Spec L2 PyProof.Rows DL

/-! ### check_place, part, with_part, places -/
def xPlace (p : List Nat) : Exc := ⟨"InvalidPlace", "given", .str p⟩
def wO (o : Option Tm) (Q : Tm → Prop) (E : Prop) : Prop := match o with
  | some u => Q u
  | none => E
def s_check_place : PSpV := fun ds Q E => ∃ (t : Tm) (p : List Nat), ds = [t.enc, .str p] ∧ wO (t.at? p) (fun u => Q (.d u.enc)) (E (xPlace p))
theorem len_check_place : ∀ ds Qp Ep, s_check_place ds Qp Ep → ds.length = 2 := fun ds Q E ⟨t, p, e, _⟩ => by rw [e]; rfl
@[simp] theorem c_check_place {t : Tm} {p : List Nat} {Q E} : s_check_place [t.enc, .str p] Q E ↔ wO (t.at? p) (fun u => Q (.d u.enc)) (E (xPlace p)) := ⟨fun ⟨u, q, e, h⟩ => by simp [-List.map_map] at e; rw [e.1, e.2]; exact h, fun h => ⟨t, p, rfl, h⟩⟩
abbrev N_check_place : List Str := ["term", "place", "found"]
def b_check_place : PTS := (pSeq (pAsg (pGive (pIfE (pTest (pIsi "str" (pVar 1))) (pCallV s_part_at (pCons (pVar 0) (pCons (pVar 1) pNil))) (pC .non))) (pgName 2))
    (pSeq (pIf (pTest (pOp fIs (pVar 2) (pC .non))) (pRaise "InvalidPlace" "given" (pVar 1)) pNext)
    (pRet (pVar 2))))

theorem pure_check_place : ∀ ds Qp Ep, s_check_place ds Qp Ep → b_check_place (endsV Qp Ep) (envV 3 ds) := fun ds Q E ⟨t, p, e, h⟩ => by
  subst e
  simp [-List.map_map, b_check_place, O.ty, D.ty, isIn]
  cases e : t.at? p with
  | none =>
    rw [e] at h
    simp [-List.map_map, dO]
    exact h
  | some u =>
    rw [e] at h
    simp [-List.map_map, dO]
    exact h
def s_part : PSpV := fun ds Q E => ∃ (t : Tm) (p : List Nat), t.ok ∧ t.size ≤ 2000 ∧ ds = [t.enc, .str p] ∧ wO (t.at? p) (fun u => Q (.d u.enc)) (E (xPlace p))
theorem len_part : ∀ ds Qp Ep, s_part ds Qp Ep → ds.length = 2 := fun ds Q E ⟨t, p, _, _, e, _⟩ => by rw [e]; rfl
@[simp] theorem c_part {t : Tm} {p : List Nat} {Q E} : s_part [t.enc, .str p] Q E ↔ t.ok ∧ t.size ≤ 2000 ∧ wO (t.at? p) (fun u => Q (.d u.enc)) (E (xPlace p)) := ⟨fun ⟨u, q, h1, h2, e, h⟩ => by simp [-List.map_map] at e; rw [e.1, e.2]; exact ⟨h1, h2, h⟩, fun h => ⟨t, p, h.1, h.2.1, rfl, h.2.2⟩⟩
abbrev N_part : List Str := ["term", "place"]
def b_part : PTS := (pSeq (pDrop (pCallV s_check_term (pCons (pVar 0) pNil)))
    (pRet (pCallV s_check_place (pCons (pVar 0) (pCons (pVar 1) pNil)))))

theorem pure_part : ∀ ds Qp Ep, s_part ds Qp Ep → b_part (endsV Qp Ep) (envV 2 ds) := fun ds Q E ⟨t, p, ok, hs, e, h⟩ => by
  subst e
  simp [-List.map_map, b_part, ok, hs]
  exact h
theorem at_len : ∀ (p : List Nat) (t u : Tm), t.at? p = some u → p.length + u.depth ≤ t.depth
  | [], t, u, h => by cases h; simp [-List.map_map]
  | c :: p, t, u, h => by
    unfold Tm.at? at h
    cases e : t.step c with
    | none => rw [e] at h; cases h
    | some w =>
      rw [e] at h
      have ih := at_len p w u h
      have : w.depth + 1 ≤ t.depth := by
        cases t with
        | var x => cases e
        | lam x b =>
          simp only [Tm.step] at e
          split at e
          · cases e; simp [-List.map_map, Tm.depth]
          · cases e
        | app f a =>
          simp only [Tm.step] at e
          split at e
          · cases e; simp [-List.map_map, Tm.depth]; omega
          · split at e
            · cases e; simp [-List.map_map, Tm.depth]; omega
            · cases e
      simp only [List.length_cons]
      omega
@[simp] theorem c_replaced {t o : Tm} {p : List Nat} {Q E} : s_replaced [t.enc, .str p, o.enc] Q E ↔ (∃ u, t.at? p = some u) ∧ p.length ≤ 4000 ∧ Q (.d (t.setAt p o).enc) :=
  ⟨fun ⟨a, b, u, q, h1, h2, e, h⟩ => by simp [-List.map_map] at e; rw [e.1, e.2.1, e.2.2]; exact ⟨⟨u, h1⟩, h2, h⟩, fun ⟨⟨u, h1⟩, h2, h⟩ => ⟨t, o, u, p, h1, h2, rfl, h⟩⟩
def s_with_part : PSpV := fun ds Q E => ∃ (t o : Tm) (p : List Nat), t.ok ∧ t.size ≤ 2000 ∧ o.ok ∧ o.size ≤ 2000 ∧ ds = [t.enc, .str p, o.enc] ∧ wO (t.at? p) (fun u => Q (.d (t.setAt p o).enc)) (E (xPlace p))
theorem len_with_part : ∀ ds Qp Ep, s_with_part ds Qp Ep → ds.length = 3 := fun ds Q E ⟨t, o, p, _, _, _, _, e, _⟩ => by rw [e]; rfl
@[simp] theorem c_with_part {t o : Tm} {p : List Nat} {Q E} : s_with_part [t.enc, .str p, o.enc] Q E ↔ t.ok ∧ t.size ≤ 2000 ∧ o.ok ∧ o.size ≤ 2000 ∧ wO (t.at? p) (fun u => Q (.d (t.setAt p o).enc)) (E (xPlace p)) :=
  ⟨fun ⟨u, o, q, h1, h2, h3, h4, e, h⟩ => by simp [-List.map_map] at e; rw [e.1, e.2.1, e.2.2]; exact ⟨h1, h2, h3, h4, h⟩, fun h => ⟨t, o, p, h.1, h.2.1, h.2.2.1, h.2.2.2.1, rfl, h.2.2.2.2⟩⟩
abbrev N_with_part : List Str := ["term", "place", "other"]
def b_with_part : PTS := (pSeq (pDrop (pCallV s_check_term (pCons (pVar 0) pNil)))
    (pSeq (pDrop (pCallV s_check_place (pCons (pVar 0) (pCons (pVar 1) pNil))))
    (pSeq (pDrop (pCallV s_check_term (pCons (pVar 2) pNil)))
    (pRet (pCallV s_replaced (pCons (pVar 0) (pCons (pVar 1) (pCons (pVar 2) pNil))))))))

theorem pure_with_part : ∀ ds Qp Ep, s_with_part ds Qp Ep → b_with_part (endsV Qp Ep) (envV 3 ds) := fun ds Q E ⟨t, o, p, ok, hs, ok2, hs2, e, h⟩ => by
  subst e
  simp [-List.map_map, b_with_part, ok, hs, ok2, hs2]
  cases e : t.at? p with
  | none =>
    rw [e] at h
    exact h
  | some u =>
    rw [e] at h
    have h1 := at_len p t u e
    have h2 := size_depth t
    simp [-List.map_map, wO]
    refine ⟨by omega, h⟩
def s_places : PSpV := fun ds Q _ => ∃ t : Tm, t.ok ∧ t.size ≤ 2000 ∧ ds = [t.enc] ∧ Q (.own (((walkT [] t).map fun q => .str q.1).map O.d))
theorem len_places : ∀ ds Qp Ep, s_places ds Qp Ep → ds.length = 1 := fun ds Q E ⟨t, _, _, e, _⟩ => by rw [e]; rfl
@[simp] theorem c_places {t : Tm} {Q E} : s_places [t.enc] Q E ↔ t.ok ∧ t.size ≤ 2000 ∧ Q (.own (((walkT [] t).map fun q => .str q.1).map O.d)) := ⟨fun ⟨u, ok, s, e, h⟩ => by simp [-List.map_map] at e; rw [e]; exact ⟨ok, s, h⟩, fun h => ⟨t, h.1, h.2.1, rfl, h.2.2⟩⟩
abbrev N_places : List Str := ["term", "place", "_"]
def b_places : PTS := (pSeq (pDrop (pCallV s_check_term (pCons (pVar 0) pNil)))
    (pRet (pLc (pIAny (pGive (pCallV s_walk_parts (pCons (pVar 0) pNil)))) (pgTup 2 (pgCons (pgName 1) (pgCons (pgName 2) pgNil))) pYes (pVar 1) [1, 2])))

theorem pure_places : ∀ ds Qp Ep, s_places ds Qp Ep → b_places (endsV Qp Ep) (envV 3 ds) := fun ds Q E ⟨t, ok, hs, e, h⟩ => by
  subst e
  simp [-List.map_map, b_places, ok, hs, noOwn]
  refine ⟨by omega, ?_⟩
  refine lcR_map (F := fun d => match d with | .tup [p, _] => p | _ => .non) _ _ (fun d hd R hR => ?_) (by simp [-List.map_map, walkT_len]; omega) ?_
  · obtain ⟨q, hq, rfl⟩ := List.mem_map.mp hd
    simp [-List.map_map, pr, wipeE]
    exact hR _ (by simp [-List.map_map, restE])
  · have e1 : ((walkT [] t).map pr).map (fun d => match d with | .tup [p, _] => p | _ => D.non) = (walkT [] t).map fun q => .str q.1 := by rw [List.map_map]; rfl
    rw [List.nil_append, e1]
    exact h
end Law
end

section
set_option Elab.async false
set_option linter.all false
set_option maxRecDepth 100000
set_option maxHeartbeats 2000000
namespace Law
open PySem PySem.Spec L2 PyProof.Rows DL

/-! ### the law's drawing -/
def s__law_cell : PSpV := fun ds Q _ => ∃ (ns : List Int) (k : Nat), ds = [.kst (ns.map D.int), .int (k : Int)] ∧ ns.length ≤ 63 ∧ k ≤ 63 ∧ ∀ z, Q (.d (.int z))
theorem len__law_cell : ∀ ds Qp Ep, s__law_cell ds Qp Ep → ds.length = 2 := fun ds Q E ⟨t, p, e, _⟩ => by rw [e]; rfl
@[simp] theorem fSum_kst {ds : List Int} {Q} : fSum (.d (.kst (ds.map D.int))) Q = Q (.d (.int ds.sum)) := by simp [-List.map_map, fSum]
@[simp] theorem fSl_kst {ds : List D} {lo hi Q} : fSl (.d (.kst ds)) lo hi Q = Q (.own ((cutL ds lo hi).map O.d)) := rfl
theorem log2_le {n k : Nat} (h : n < 2 ^ (k + 1)) : n.log2 ≤ k := by
  by_cases hn : n = 0
  · subst hn; simp [-List.map_map]
  · have := (Nat.log2_lt hn).mpr h
    omega
theorem mulW_small {i j : Int} (hi : i.natAbs < 2 ^ 200) (hj : j.natAbs < 2 ^ 200) : CMulW i j := by
  have h1 := log2_le (n := i.natAbs) (k := 199) hi
  have h2 := log2_le (n := j.natAbs) (k := 199) hj
  unfold CMulW
  omega
abbrev N__law_cell : List Str := ["script", "k"]
def b__law_cell : PTS := (pRet (pIfE (pTest (pOp fLt (pVar 1) (pUn fLen (pVar 0)))) (pOp fIx (pVar 0) (pVar 1)) (pOp fAdd (pOp fMul (pC (.int (6037))) (pVar 1)) (pOp fMod (pUn fInt (pUn fSum (pSl fSl (pVar 0) pNoPart (pPart (pC (.int (1))))))) (pC (.int (1000033)))))))

theorem cut_map {ns : List Int} {lo hi : Option Int} : cutL (ns.map D.int) lo hi = (cutL ns lo hi).map D.int := by simp [-List.map_map, cutL]
theorem pure__law_cell : ∀ ds Qp Ep, s__law_cell ds Qp Ep → b__law_cell (endsV Qp Ep) (envV 2 ds) := fun ds Q E ⟨ns, k, e, hn, hk, h⟩ => by
  subst e
  simp [-List.map_map, b__law_cell]
  by_cases c : k < ns.length
  · have e1 : atI (ns.map D.int) (k : Int) = some (.int ns[k]) := atI_nat (by simp [-List.map_map, c])
    simp [-List.map_map, c, e1]
    exact h _
  · simp only [c, if_false, cut_map, fSum_own, fInt, fMod, fI]
    exact ⟨mulW_small (by decide) (by simp [-List.map_map]; omega), h _⟩
/-- the box: what is left of the great number, whether it is great, its rest, the turns so far (at most n) -/
def Bx (n : Nat) (xs : List O) : Prop := ∃ (v : Int) (b : Bool) (m c : Int), xs = [.d (.int v), .d (.bl b), .d (.int m), .d (.int c)] ∧ 0 ≤ v ∧ 0 ≤ m ∧ m < 2147483629 ∧ 0 ≤ c ∧ c ≤ n
theorem Bx.mono {n k : Nat} {xs : List O} (h : Bx n xs) (e : n ≤ k) : Bx k xs := by
  obtain ⟨v, b, m, c, h1, h2, h3, h4, h5, h6⟩ := h
  exact ⟨v, b, m, c, h1, h2, h3, h4, h5, by omega⟩
def s__law_box : PSpV := fun ds Q _ => ∃ z : Int, ds = [.int z] ∧ ∀ xs, Bx 0 xs → Q (.own xs)
theorem len__law_box : ∀ ds Qp Ep, s__law_box ds Qp Ep → ds.length = 1 := fun ds Q E ⟨t, e, _⟩ => by rw [e]; rfl
abbrev N__law_box : List Str := ["great"]
def b__law_box : PTS := (pRet (pLst (pLCons (pUn fAbs (pVar 0)) (pLCons (pOp fGe (pUn fAbs (pVar 0)) (pOp fPow (pC (.int (10))) (pC (.int (18))))) (pLCons (pOp fMod (pUn fInt (pUn fAbs (pVar 0))) (pC (.int (2147483629)))) (pLCons (pC (.int (0))) pLNil))))))

theorem pure__law_box : ∀ ds Qp Ep, s__law_box ds Qp Ep → b__law_box (endsV Qp Ep) (envV 1 ds) := fun ds Q E ⟨z, e, h⟩ => by
  subst e
  simp [-List.map_map, b__law_box, CPow]
  refine h _ ⟨_, _, _, _, rfl, ?_, ?_, ?_, by omega, by simp [-List.map_map]⟩
  · split <;> omega
  · omega
  · omega
def s__law_take : PSpM := fun xs ds Q => ∃ (n : Nat) (many : Int), Bx n xs ∧ n ≤ 1000000 ∧ ds = [.int many] ∧ 0 < many ∧ many < 2 ^ 60 ∧ ∀ r xs', 0 ≤ r → r < many → Bx (n + 1) xs' → Q (.d (.int r)) xs'
theorem len__law_take : ∀ xs ds Qp, s__law_take xs ds Qp → ds.length + 1 = 2 := fun xs ds Q ⟨n, m, _, _, e, _⟩ => by rw [e]; rfl
abbrev N__law_take : List Str := ["box", "many", "digit", "mixed"]
def b__law_take : PTS := (pSeq (pIf (pAnd (pTest (pOp fIx (pBor 0) (pC (.int (1))))) (pTest (pOp fGt (pOp fIx (pBor 0) (pC (.int (0)))) (pC (.int (0)))))) (pSeq (pAsg (pOp fMod (pUn fInt (pOp fIx (pBor 0) (pC (.int (0))))) (pVar 1)) (pgName 2))
    (pSeq (pSetItem 0 (pC (.int (0))) (pOp fFdivW (pUn fInt (pOp fIx (pBor 0) (pC (.int (0))))) (pVar 1)))
    (pRet (pVar 2)))) pNext)
    (pSeq (pSetItem 0 (pC (.int (3))) (pOp fAdd (pOp fIx (pBor 0) (pC (.int (3)))) (pC (.int (1)))))
    (pSeq (pAsg (pOp fMod (pUn fInt (pOp fPow (pOp fAdd (pOp fAdd (pOp fIx (pBor 0) (pC (.int (2)))) (pOp fMul (pC (.int (15486101))) (pOp fIx (pBor 0) (pC (.int (3)))))) (pC (.int (179424907)))) (pC (.int (5))))) (pC (.int (2147483647)))) (pgName 3))
    (pRet (pOp fMod (pUn fInt (pOp fFdivW (pOp fMod (pUn fInt (pOp fPow (pOp fAdd (pOp fMul (pVar 3) (pC (.int (48271)))) (pOp fMul (pC (.int (104729))) (pOp fIx (pBor 0) (pC (.int (3)))))) (pC (.int (3))))) (pC (.int (2147483587)))) (pC (.int (64))))) (pVar 1))))))

@[simp] theorem atIo_0 {a b c d : O} : flatL [a, b, c, d] = flatL [a, b, c, d] := rfl
theorem divW_small {i j : Int} (h0 : 0 < j) (hj : j < 2 ^ 60) : CDivW i j := by
  refine ⟨h0, ?_⟩
  have := log2_le (n := j.natAbs) (k := 60) (by omega)
  omega
theorem pure__law_take : ∀ xs ds Qp, s__law_take xs ds Qp → b__law_take (endsM Qp) (envM 4 xs ds) := fun xs ds Q ⟨n, many, ⟨v, b, m, c, e1, hv, hm0, hm, hc0, hc⟩, hn, e, h0, h60, h⟩ => by
  subst e e1
  have done : ∀ x y : Int, 0 ≤ y % many ∧ y % many < many := fun x y => ⟨Int.emod_nonneg _ (by omega), Int.emod_lt_of_pos _ h0⟩
  have tail : ∀ k : PEnds → DL.Env → Prop, True := fun _ => trivial
  by_cases hb : b = true ∧ 0 < v
  · obtain ⟨rfl, hv0⟩ := hb
    simp [-List.map_map, b__law_take, hv0, h0, ixN]
    refine ⟨divW_small h0 h60, h _ _ (done 0 v).1 (done 0 v).2 ⟨_, _, _, _, rfl, Int.ediv_nonneg hv (by omega), hm0, hm, hc0, by omega⟩⟩
  · have e2 : (if b = true then decide (0 < v) else false) = false := by
      by_cases hb' : b = true
      · rw [if_pos hb']
        exact decide_eq_false fun z => hb ⟨hb', z⟩
      · rw [if_neg hb']
    have hc1 : 15486101 * (c + 1) < 15486101 * 1000002 := by omega
    have cp1 : ∀ y : Int, CPow (m + 15486101 * (c + 1) + 179424907) 5 := fun _ => ⟨by omega, by omega, by omega⟩
    have mm : CMulW 15486101 (c + 1) := mulW_small (by decide) (by omega)
    have m2 : CMulW 104729 (c + 1) := mulW_small (by decide) (by omega)
    generalize hM : (m + 15486101 * (c + 1) + 179424907) ^ 5 % 2147483647 = M
    have hM0 : 0 ≤ M := by rw [← hM]; exact Int.emod_nonneg _ (by decide)
    have hM1 : M < 2147483647 := by rw [← hM]; exact Int.emod_lt_of_pos _ (by decide)
    have m3 : CMulW M 48271 := mulW_small (by omega) (by decide)
    have cp2 : CPow (M * 48271 + 104729 * (c + 1)) 3 := ⟨by omega, by omega, by omega⟩
    have dv : ∀ y : Int, CDivW y 64 := fun y => divW_small (by decide) (by decide)
    have fin : ∀ y : Int, Q (.d (.int (y % many))) [.d (.int v), .d (.bl b), .d (.int m), .d (.int (c + 1))] := fun y => h _ _ (done 0 y).1 (done 0 y).2 ⟨_, _, _, _, rfl, hv, hm0, hm, by omega, by omega⟩
    cases b with
    | false =>
      simp [-List.map_map, b__law_take, ixN, h0, mm, m2, cp1 0, hM, m3, cp2, dv]
      exact fin _
    | true =>
      have hv' : ¬ 0 < v := fun z => hb ⟨rfl, z⟩
      simp [-List.map_map, b__law_take, ixN, h0, mm, m2, cp1 0, hM, m3, cp2, dv, hv']
      exact fin _
theorem take_use {n : Nat} {many : Int} {xs : List O} {Q : O → List O → Prop} (hB : Bx n xs) (hn : n ≤ 1000000) (h0 : 0 < many) (h1 : many < 2 ^ 60) (h : ∀ r xs', 0 ≤ r → r < many → Bx (n + 1) xs' → Q (.d (.int r)) xs') : s__law_take xs [.int many] Q := ⟨n, many, hB, hn, rfl, h0, h1, h⟩
def s__law_pick : PSpM := fun xs ds Q => ∃ (n : Nat) (its : List D), Bx n xs ∧ n ≤ 1000000 ∧ (ds = [.lst its] ∨ ds = [.tup its]) ∧ its ≠ [] ∧ its.length < 2 ^ 50 ∧ ∀ d xs', d ∈ its → Bx (n + 1) xs' → Q (.d d) xs'
theorem len__law_pick : ∀ xs ds Qp, s__law_pick xs ds Qp → ds.length + 1 = 2 := fun xs ds Q ⟨n, m, _, _, e, _⟩ => by rcases e with e | e <;> rw [e] <;> rfl
abbrev N__law_pick : List Str := ["box", "items"]
def b__law_pick : PTS := (pRet (pOp fIx (pVar 1) (pCallM s__law_take 0 (pCons (pUn fLen (pVar 1)) pNil))))

theorem atI_pick {its : List D} {r : Int} (h0 : 0 ≤ r) (h1 : r < its.length) : ∃ d ∈ its, atI its r = some d := by
  have hl : r.toNat < its.length := by omega
  refine ⟨its[r.toNat], List.getElem_mem hl, ?_⟩
  have := atI_nat (List.getElem?_eq_getElem hl)
  rwa [Int.toNat_of_nonneg h0] at this
theorem pure__law_pick : ∀ xs ds Qp, s__law_pick xs ds Qp → b__law_pick (endsM Qp) (envM 2 xs ds) := fun xs ds Q ⟨n, its, hB, hn, e, hne, hl, h⟩ => by
  have hp : 0 < its.length := List.length_pos_iff.mpr hne
  rcases e with e | e <;> subst e <;> simp [-List.map_map, b__law_pick] <;>
  · refine take_use hB hn (by omega) (by omega) fun r xs' r0 r1 hB' => ?_
    obtain ⟨d, hd, ed⟩ := atI_pick r0 r1
    simp [-List.map_map, ed]
    exact h d xs' hd hB'
theorem pick_use {n : Nat} {its : List D} {xs : List O} {Q : O → List O → Prop} (hB : Bx n xs) (hn : n ≤ 1000000) (h0 : its ≠ []) (h1 : its.length < 2 ^ 50) (h : ∀ d xs', d ∈ its → Bx (n + 1) xs' → Q (.d d) xs') : s__law_pick xs [.lst its] Q := ⟨n, its, hB, hn, .inl rfl, h0, h1, h⟩
/-- some of them, in any order -/
def s__law_mixed : PSpM := fun xs ds Q => ∃ (n : Nat) (its : List D), Bx n xs ∧ n + its.length ≤ 1000000 ∧ ds = [.lst its] ∧ ∀ (l : List D) xs', (∀ d ∈ l, d ∈ its) → Bx (n + its.length) xs' → Q (.own (l.map O.d)) xs'
theorem len__law_mixed : ∀ xs ds Qp, s__law_mixed xs ds Qp → ds.length + 1 = 2 := fun xs ds Q ⟨n, m, _, _, e, _⟩ => by rw [e]; rfl
abbrev N__law_mixed : List Str := ["box", "items", "left", "found", "turn"]
def l1__law_mixed : PTS := (pDrop (pAppend 3 (pPopAt 2 (pCallM s__law_take 0 (pCons (pUn fLen (pBor 2)) pNil)))))
theorem l1__law_mixed_eq {De : PEnds} {env : DL.Env} : l1__law_mixed De env = (pDrop (pAppend 3 (pPopAt 2 (pCallM s__law_take 0 (pCons (pUn fLen (pBor 2)) pNil))))) De env := rfl
def b__law_mixed : PTS := (pSeq (pPar 2 3 (pLCons (pUn fList (pVar 1)) (pLCons (pLst pLNil) pLNil)))
    (pSeq (pFor (pRng1 (pUn fLen (pBor 2))) (pgName 4) l1__law_mixed)
    (pRet (pMov 3))))

theorem mixed_loop {its : List D} {v : Option O} {De : PEnds} {k0 : Nat} (hn : ∀ xs (l m : List D) w, (∀ d ∈ l, d ∈ its) → Bx k0 xs → De.nx [some (.own xs), v, some (.own (m.map O.d)), some (.own (l.map O.d)), w]) : ∀ (ks : List D) (left found : List D) (n : Nat) (xs : List O) (w : Option O),
    left.length = ks.length → n + ks.length = k0 → k0 ≤ 1000000 → found.length + ks.length ≤ 1000000 → (∀ d ∈ left, d ∈ its) → (∀ d ∈ found, d ∈ its) → Bx n xs → forR (pgName 4) l1__law_mixed De ks [some (.own xs), v, some (.own (left.map O.d)), some (.own (found.map O.d)), w]
  | [], left, found, n, xs, w, h1, h2, h3, h4, h5, h6, hB => hn _ _ _ _ h6 (by rw [← h2]; exact hB)
  | k :: ks, left, found, n, xs, w, h1, h2, h3, h4, h5, h6, hB => by
    simp only [List.length_cons] at h1 h2 h4
    rw [forR_cons]
    simp [-List.map_map, l1__law_mixed_eq]
    refine take_use hB (by omega) (by omega) (by omega) fun r xs' r0 r1 hB' => ?_
    have hl : r.toNat < left.length := by omega
    have e1 : ixN left.length r = some r.toNat := by unfold ixN; rw [if_pos r0, if_pos r1]
    simp [-List.map_map, e1, List.getElem?_eq_getElem hl]
    refine ⟨by omega, ?_⟩
    have ih := mixed_loop hn ks (left.eraseIdx r.toNat) (found ++ [left[r.toNat]]) (n + 1) xs' (some (.d k)) (by rw [List.length_eraseIdx]; simp [-List.map_map, hl]; omega) (by omega) h3 (by simp [-List.map_map]; omega) (fun d hd => h5 d (List.mem_of_mem_eraseIdx hd)) (fun d hd => by
      rcases List.mem_append.mp hd with z | z
      · exact h6 d z
      · rw [List.mem_singleton.mp z]
        exact h5 _ (List.getElem_mem hl)) hB'
    simpa [-List.map_map] using ih
theorem pure__law_mixed : ∀ xs ds Qp, s__law_mixed xs ds Qp → b__law_mixed (endsM Qp) (envM 5 xs ds) := fun xs ds Q ⟨n, its, hB, hn, e, h⟩ => by
  subst e
  simp [-List.map_map, b__law_mixed]
  refine ⟨by omega, ?_⟩
  have := mixed_loop (its := its) (v := some (.d (.lst its))) (k0 := n + its.length) (De := { endsM Q with nx := fun env' => pRet (pMov 3) (endsM Q) env' }) (fun xs l m w hl hb => by simpa [-List.map_map] using h l xs hl hb) ((List.range its.length).map fun (k : Nat) => D.int (k : Int)) its [] n xs none (by simp [-List.map_map]) (by simp [-List.map_map]) hn (by simp [-List.map_map]; omega) (fun d hd => hd) (fun d hd => by cases hd) hB
  simpa [-List.map_map] using this
end Law
end

section
set_option Elab.async false
set_option linter.all false
set_option maxRecDepth 100000
set_option maxHeartbeats 2000000
namespace Law
open PySem PySem.Spec L2 PyProof.Rows DL

/-! ### values told alike -/
mutual
def smb : D → Bool
  | .non => true
  | .bl _ => true
  | .int _ => true
  | .str s => decide (s.length ≤ 1000000)
  | .lst l => decide (l.length ≤ 1000000) && smbL l
  | .tup l => decide (l.length ≤ 1000000) && smbL l
  | _ => false
def smbL : List D → Bool
  | [] => true
  | d :: l => smb d && smbL l
end
theorem smbL_get : ∀ {l : List D}, smbL l = true → ∀ d ∈ l, smb d = true
  | a :: l, h, d, hd => by
    simp only [smbL, Bool.and_eq_true] at h
    rcases List.mem_cons.mp hd with z | z
    · rw [z]; exact h.1
    · exact smbL_get h.2 d z
theorem depthL_get : ∀ {l : List D} {d : D}, d ∈ l → d.depth ≤ depthL l
  | a :: l, d, hd => by
    simp only [depthL]
    rcases List.mem_cons.mp hd with z | z
    · rw [z]; omega
    · have := depthL_get z
      omega
def s__law_same (n : Nat) : PSpV := fun ds Q _ => ∃ d, smb d = true ∧ d.depth < n ∧ ds = [d, d] ∧ Q (.d (.bl true))
theorem len__law_same : ∀ n ds Qp Ep, s__law_same n ds Qp Ep → ds.length = 2 := fun n ds Q E ⟨d, _, _, e, _⟩ => by rw [e]; rfl
theorem no__law_same : ∀ ds Qp Ep, ¬ s__law_same 0 ds Qp Ep := fun ds Q E ⟨d, _, h, _⟩ => by omega
@[simp] theorem fEq_nn {Q} : fEq (.own []) (.own []) Q ↔ Q (.d (.bl true)) := by
  have := fEq_nil (ds := []) (Q := Q)
  simpa [-List.map_map] using this
abbrev N__law_same : List Str := ["told", "due", "k"]
def b__law_same (n : Nat) : PTS := (pSeq (pIf (pOr (pTest (pOp fIs (pVar 1) (pC .non))) (pTest (pIsi "bool" (pVar 1)))) (pRet (pIfE (pTest (pOp fIs (pVar 1) (pC .non))) (pOp fIs (pVar 0) (pC .non)) (pAndV (pIsi "bool" (pVar 0)) (pOp fEq (pOp fIs (pVar 0) (pC (.bl true))) (pOp fIs (pVar 1) (pC (.bl true))))))) pNext)
    (pSeq (pIf (pTest (pIsi "int" (pVar 1))) (pRet (pAndV (pIsi "int" (pVar 0)) (pAndV (pNotV (pIsi "bool" (pVar 0))) (pOp fEq (pOp fSub (pUn fInt (pVar 0)) (pVar 1)) (pC (.int (0))))))) pNext)
    (pSeq (pIf (pTest (pIsi "str" (pVar 1))) (pRet (pAndV (pIsi "str" (pVar 0)) (pAndV (pOp fEq (pUn fLen (pVar 0)) (pUn fLen (pVar 1))) (pOp fEq (pLc (pRng1 (pUn fLen (pVar 1))) (pgName 2) (pTest (pOp fNe (pSl fSl (pVar 0) (pPart (pVar 2)) (pPart (pOp fAdd (pVar 2) (pC (.int (1)))))) (pOp fIx (pVar 1) (pVar 2)))) (pVar 2) [2]) (pLst pLNil))))) pNext)
    (pSeq (pIf (pOr (pTest (pOp fNe (pIsi "list" (pVar 0)) (pIsi "list" (pVar 1)))) (pTest (pOp fNe (pIsi "tuple" (pVar 0)) (pIsi "tuple" (pVar 1))))) (pRet (pC (.bl false))) pNext)
    (pRet (pAndV (pOp fEq (pUn fLen (pVar 0)) (pUn fLen (pVar 1))) (pOp fEq (pLc (pRng1 (pUn fLen (pVar 1))) (pgName 2) (pNotT (pTest (pCallV0 (s__law_same n) (pCons (pOp fIx (pVar 0) (pVar 2)) (pCons (pOp fIx (pVar 1) (pVar 2)) pNil))))) (pVar 2) [2]) (pLst pLNil))))))))

theorem cut_one {α : Type} {l : List α} {k : Nat} (h : k < l.length) : cutL l (some (k : Int)) (some ((k : Int) + 1)) = [l[k]] := by
  have h1 : ¬ ((k : Int) + 1 < 0) := by omega
  have h2 : ¬ ((k : Int) < 0) := by omega
  have h3 : ((k : Int) + 1).toNat = k + 1 := by omega
  have h4 : min (k + 1) l.length = k + 1 := by omega
  have h5 : min k l.length = k := by omega
  simp only [cutL, HT.sIx, if_neg h1, if_neg h2, h3, h4, Int.toNat_natCast, h5]
  rw [List.drop_eq_getElem_cons h]
  have : k + 1 - k = 1 := by omega
  rw [this]
  rfl
theorem fm_none {α β : Type} : ∀ l : List α, l.filterMap (fun _ => (none : Option β)) = []
  | [] => rfl
  | _ :: l => fm_none l
theorem pure__law_same : ∀ n ds Qp Ep, s__law_same (n + 1) ds Qp Ep → b__law_same n (endsV Qp Ep) (envV 3 ds) := fun n ds Q E ⟨d, hs, hd, e, h⟩ => by
  subst e
  have none_ : ∀ {tt : PTT} {te : PTE} {env : DL.Env} {P : List O → DL.Env → Prop} {vs : List Nat} (len : Nat) (E : PX), len ≤ 1000000 → (∀ k, k < len → ∀ R0 : DL.Env → Prop, (∀ e, restE env vs e = env → R0 e) → ∀ R : O → DL.Env → Prop, pgName 2 (.d (.int (k : Int))) (wipeE env vs) fun env2 => tt env2 (fun k env3 => if k = true then te env3 R E else R0 env3) E) → P [] env →
      lcR (pgName 2) tt te vs E P ((List.range len).map fun (k : Nat) => D.int (k : Int)) [] env := fun {tt te env P vs} len E hl hk hP => by
    refine lcR_fm (F := fun _ => none) _ _ (fun d hd R R0 h0 => ?_) (by simp [-List.map_map]; omega) (by rw [fm_none]; exact hP)
    obtain ⟨k, hk', rfl⟩ := List.mem_map.mp hd
    exact hk k (List.mem_range.mp hk') R0 h0 R
  cases d with
  | non => simp [-List.map_map, b__law_same, O.ty, D.ty, isIn]; exact h
  | bl b => cases b <;> simp [-List.map_map, b__law_same, O.ty, D.ty, isIn] <;> exact h
  | int i =>
    simp [-List.map_map, b__law_same, O.ty, D.ty, isIn]
    exact h
  | str s =>
    simp only [smb, decide_eq_true_eq] at hs
    simp [-List.map_map, b__law_same, O.ty, D.ty, isIn, noOwn]
    refine ⟨by omega, ?_⟩
    refine none_ s.length _ hs (fun k hk R0 h0 R => ?_) (by simpa [-List.map_map] using h)
    have e1 : atI s (k : Int) = some s[k] := atI_nat (List.getElem?_eq_getElem hk)
    simp [-List.map_map, wipeE, cut_one hk, e1]
    exact h0 _ (by simp [-List.map_map, restE])
  | lst l =>
    simp only [smb, Bool.and_eq_true, decide_eq_true_eq] at hs
    simp only [D.depth] at hd
    simp [-List.map_map, b__law_same, O.ty, D.ty, isIn, noOwn]
    refine ⟨by omega, ?_⟩
    refine none_ l.length _ hs.1 (fun k hk R0 h0 R => ?_) (by simpa [-List.map_map] using h)
    have e1 : atI l (k : Int) = some l[k] := atI_nat (List.getElem?_eq_getElem hk)
    have hm : l[k] ∈ l := List.getElem_mem hk
    have := depthL_get hm
    simp [-List.map_map, wipeE, e1]
    refine ⟨l[k], smbL_get hs.2 _ hm, by omega, rfl, ?_⟩
    simp [-List.map_map]
    exact h0 _ (by simp [-List.map_map, restE])
  | tup l =>
    simp only [smb, Bool.and_eq_true, decide_eq_true_eq] at hs
    simp only [D.depth] at hd
    simp [-List.map_map, b__law_same, O.ty, D.ty, isIn, noOwn]
    refine ⟨by omega, ?_⟩
    refine none_ l.length _ hs.1 (fun k hk R0 h0 R => ?_) (by simpa [-List.map_map] using h)
    have e1 : atI l (k : Int) = some l[k] := atI_nat (List.getElem?_eq_getElem hk)
    have hm : l[k] ∈ l := List.getElem_mem hk
    have := depthL_get hm
    simp [-List.map_map, wipeE, e1]
    refine ⟨l[k], smbL_get hs.2 _ hm, by omega, rfl, ?_⟩
    simp [-List.map_map]
    exact h0 _ (by simp [-List.map_map, restE])
  | kst l => simp [-List.map_map, smb] at hs
  | dic l => simp [-List.map_map, smb] at hs
  | fn a => simp [-List.map_map, smb] at hs
  | exc a d c f x => simp [-List.map_map, smb] at hs
theorem same_use {n : Nat} {d : D} {Q E} (h1 : smb d = true) (h2 : d.depth < n) (h : Q (.d (.bl true))) : s__law_same n [d, d] Q E := ⟨d, h1, h2, rfl, h⟩
end Law
end

section
set_option Elab.async false
set_option linter.all false
set_option maxRecDepth 100000
set_option maxHeartbeats 2000000
namespace Law
open PySem PySem.Spec L2 PyProof.Rows DL

/-! ### drawn terms -/
def sL (xs : List (List Nat)) : D := .lst (xs.map D.str)
def s__law_drawn (n : Nat) : PSpM := fun xs ds Q => ∃ (k size : Nat) (names around bound : List (List Nat)), Bx k xs ∧ k + 2 * size ≤ 1000000 ∧ 1 ≤ size ∧ size < n ∧ (∀ x ∈ names, okN x) ∧ (∀ x ∈ around, okN x) ∧ (∀ x ∈ bound, okN x) ∧ names ≠ [] ∧ bound ≠ [] ∧
  names.length ≤ 10 ∧ around.length + size ≤ 1000 ∧ bound.length ≤ 10 ∧ ds = [.int (size : Int), sL names, sL around, sL bound] ∧ ∀ (t : Tm) xs', t.ok → t.size ≤ size → Bx (k + 2 * size) xs' → Q (.d t.enc) xs'
theorem len__law_drawn : ∀ n xs ds Qp, s__law_drawn n xs ds Qp → ds.length + 1 = 5 := fun n xs ds Q ⟨_, _, _, _, _, _, _, _, _, _, _, _, _, _, _, _, _, e, _⟩ => by rw [e]; rfl
theorem no__law_drawn : ∀ xs ds Qp, ¬ s__law_drawn 0 xs ds Qp := fun xs ds Q ⟨_, _, _, _, _, _, _, h1, h2, _⟩ => by omega
abbrev N__law_drawn : List Str := ["box", "size", "names", "around", "bound", "way", "name", "left"]
def b__law_drawn (n : Nat) : PTS := (pSeq (pIf (pTest (pOp fLe (pVar 1) (pC (.int (1))))) (pRet (pTup (pCons (pC (.str [118, 97, 114])) (pCons (pGive (pCallM s__law_pick 0 (pCons (pGive (pOp fAdd (pOp fAdd (pVar 2) (pVar 3)) (pVar 3))) pNil))) pNil)))) pNext)
    (pSeq (pAsg (pCallM s__law_take 0 (pCons (pC (.int (5))) pNil)) (pgName 5))
    (pSeq (pIf (pOr (pTest (pOp fLt (pVar 5) (pC (.int (2))))) (pTest (pOp fEq (pVar 1) (pC (.int (2)))))) (pSeq (pAsg (pGive (pCallM s__law_pick 0 (pCons (pVar 4) pNil))) (pgName 6))
    (pRet (pTup (pCons (pC (.str [108, 97, 109])) (pCons (pVar 6) (pCons (pGive (pCallM (s__law_drawn n) 0 (pCons (pOp fSub (pVar 1) (pC (.int (1)))) (pCons (pVar 2) (pCons (pGive (pOp fAdd (pVar 3) (pLst (pLCons (pVar 6) pLNil)))) (pCons (pVar 4) pNil)))))) pNil)))))) pNext)
    (pSeq (pAsg (pOp fAdd (pC (.int (1))) (pCallM s__law_take 0 (pCons (pOp fSub (pVar 1) (pC (.int (2)))) pNil))) (pgName 7))
    (pRet (pTup (pCons (pC (.str [97, 112, 112])) (pCons (pGive (pCallM (s__law_drawn n) 0 (pCons (pVar 7) (pCons (pVar 2) (pCons (pVar 3) (pCons (pVar 4) pNil)))))) (pCons (pGive (pCallM (s__law_drawn n) 0 (pCons (pOp fSub (pOp fSub (pVar 1) (pC (.int (1)))) (pVar 7)) (pCons (pVar 2) (pCons (pVar 3) (pCons (pVar 4) pNil)))))) pNil)))))))))

theorem pure__law_drawn : ∀ n xs ds Qp, s__law_drawn (n + 1) xs ds Qp → b__law_drawn n (endsM Qp) (envM 8 xs ds) := fun n xs ds Q ⟨k, size, names, around, bound, hB, hk, hs, hn, o1, o2, o3, e1, e2, l1, l2, l3, e, h⟩ => by
  subst e
  have pick : ∀ {Q : O → List O → Prop} {k : Nat} {l : List (List Nat)} {xs : List O}, Bx k xs → k ≤ 1000000 → l ≠ [] → l.length ≤ 100000 → (∀ x ∈ l, okN x) → (∀ x xs', okN x → Bx (k + 1) xs' → Q (.d (.str x)) xs') → s__law_pick xs [.lst (l.map D.str)] Q := fun {Q k l xs} hB hk hl hz ho h =>
    pick_use hB hk (by simpa [-List.map_map] using hl) (by simp [-List.map_map]; omega) fun d xs' hd hB' => by
      obtain ⟨x, hx, rfl⟩ := List.mem_map.mp hd
      exact h x xs' (ho x hx) hB'
  by_cases c1 : size ≤ 1
  · have c1' : (size : Int) ≤ 1 := by omega
    simp [-List.map_map, b__law_drawn, sL, c1']
    refine ⟨by omega, by omega, ?_⟩
    have e3 : names.map D.str ++ (around.map D.str ++ around.map D.str) = (names ++ (around ++ around)).map D.str := by simp [-List.map_map]
    rw [e3]
    exact pick hB (by omega) (by simp [-List.map_map, e1]) (by simp [-List.map_map]; omega) (fun x hx => by
      simp only [List.mem_append] at hx
      rcases hx with hx | hx | hx
      · exact o1 x hx
      · exact o2 x hx
      · exact o2 x hx) (fun x xs' ox hB' => by simpa [-List.map_map, Tm.enc, sVar] using h (.var x) xs' ox (by simp [-List.map_map, Tm.size]; omega) (hB'.mono (by omega)))
  · have c1' : ¬ (size : Int) ≤ 1 := by omega
    simp [-List.map_map, b__law_drawn, sL, c1']
    refine take_use hB (by omega) (by omega) (by omega) fun way xs1 w0 w1 hB1 => ?_
    have lam : ∀ sz : Int, sz = (size : Int) - 1 → s__law_pick xs1 [.lst (bound.map D.str)] fun o xs' => around.length ≤ 16777215 ∧ s__law_drawn n xs' [.int sz, .lst (names.map D.str), .lst (around.map D.str ++ [o.frz]), .lst (bound.map D.str)] fun o_1 xs' => Q (.d (.tup [.str [108, 97, 109], o.frz, o_1.frz])) xs' := fun sz hz => by
      refine pick hB1 (by omega) e2 (by omega) o3 fun x xs2 ox hB2 => ⟨by omega, k + 1 + 1, size - 1, names, around ++ [x], bound, hB2, by omega, by omega, by omega, o1, fun y hy => ?_, o3, e1, e2, l1, by simp [-List.map_map]; omega, l3, ?_, fun t xs3 ot st hB3 => ?_⟩
      · rcases List.mem_append.mp hy with z | z
        · exact o2 y z
        · rw [List.mem_singleton.mp z]; exact ox
      · simp [-List.map_map, sL]
        omega
      · simpa [-List.map_map, Tm.enc, sLam] using h (.lam x t) xs3 ⟨ox, ot⟩ (by simp [-List.map_map, Tm.size]; omega) (hB3.mono (by omega))
    by_cases c2 : way < 2 ∨ (size : Int) = 2
    · by_cases c3 : way < 2
      · simp [-List.map_map, c3]
        exact lam _ rfl
      · have c4 := c2.resolve_left c3
        simp [-List.map_map, c3, c4]
        exact lam _ (by omega)
    · have c3 : ¬ way < 2 := fun z => c2 (.inl z)
      have c4 : ¬ (size : Int) = 2 := fun z => c2 (.inr z)
      simp [-List.map_map, c3, c4]
      refine take_use hB1 (by omega) (by omega) (by omega) fun lf xs2 f0 f1 hB2 => ?_
      simp [-List.map_map]
      have en : (1 : Int) + lf = ((1 + lf.toNat : Nat) : Int) := by omega
      refine ⟨k + 1 + 1, 1 + lf.toNat, names, around, bound, hB2, by omega, by omega, by omega, o1, o2, o3, e1, e2, l1, by omega, l3, by rw [en]; rfl, fun f xs3 of sf hB3 => ?_⟩
      refine ⟨k + 1 + 1 + 2 * (1 + lf.toNat), size - 1 - (1 + lf.toNat), names, around, bound, hB3, by omega, by omega, by omega, o1, o2, o3, e1, e2, l1, by omega, l3, ?_, fun a xs4 oa sa hB4 => ?_⟩
      · simp [-List.map_map, sL]
        omega
      · simpa [-List.map_map, Tm.enc, sApp] using h (.app f a) xs4 ⟨of, oa⟩ (by simp [-List.map_map, Tm.size]; omega) (hB4.mono (by omega))
theorem drawn_use {n k size : Nat} {names bound : List (List Nat)} {xs : List O} {Q : O → List O → Prop} (hB : Bx k xs) (hk : k + 2 * size ≤ 1000000) (h1 : 1 ≤ size) (h2 : size < n) (h3 : size ≤ 900) (o1 : ∀ x ∈ names, okN x) (o3 : ∀ x ∈ bound, okN x) (e1 : names ≠ []) (e2 : bound ≠ []) (l1 : names.length ≤ 10) (l3 : bound.length ≤ 10)
    (h : ∀ (t : Tm) xs', t.ok → t.size ≤ size → Bx (k + 2 * size) xs' → Q (.d t.enc) xs') : s__law_drawn n xs [.int (size : Int), sL names, .lst [], sL bound] Q :=
  ⟨k, size, names, [], bound, hB, hk, h1, h2, o1, fun x hx => by (cases hx), o3, e1, e2, l1, by simp [-List.map_map]; omega, l3, rfl, h⟩
end Law
end

section
set_option Elab.async false
set_option linter.all false
set_option maxRecDepth 100000
set_option maxHeartbeats 2000000
namespace Law
open PySem PySem.Spec L2 PyProof.Rows DL

/-! ### terms with lams of one name -/
def s__law_nested : PSpM := fun xs ds Q => ∃ (k size : Nat), Bx k xs ∧ k + 2 * size + 10 ≤ 1000000 ∧ 1 ≤ size ∧ size ≤ 40 ∧ ds = [.int (size : Int)] ∧ ∀ (t : Tm) xs', t.ok → t.size ≤ size + 9 → Bx (k + 2 * size + 10) xs' → Q (.d t.enc) xs'
theorem len__law_nested : ∀ xs ds Qp, s__law_nested xs ds Qp → ds.length + 1 = 2 := fun xs ds Q ⟨_, _, _, _, _, _, e, _⟩ => by rw [e]; rfl
abbrev N__law_nested : List Str := ["box", "size", "bound", "term", "turn"]
def l1__law_nested : PTS := (pAsg (pIfE (pTest (pOp fGt (pCallM s__law_take 0 (pCons (pC (.int (3))) pNil)) (pC (.int (0))))) (pTup (pCons (pC (.str [108, 97, 109])) (pCons (pOp fIx (pVar 2) (pC (.int (0)))) (pCons (pVar 3) pNil)))) (pTup (pCons (pC (.str [97, 112, 112])) (pCons (pVar 3) (pCons (pTup (pCons (pC (.str [108, 97, 109])) (pCons (pOp fIx (pVar 2) (pC (.int (0)))) (pCons (pTup (pCons (pC (.str [118, 97, 114])) (pCons (pOp fIx (pVar 2) (pC (.int (0)))) pNil))) pNil)))) pNil))))) (pgName 3))
theorem l1__law_nested_eq {De : PEnds} {env : DL.Env} : l1__law_nested De env = (pAsg (pIfE (pTest (pOp fGt (pCallM s__law_take 0 (pCons (pC (.int (3))) pNil)) (pC (.int (0))))) (pTup (pCons (pC (.str [108, 97, 109])) (pCons (pOp fIx (pVar 2) (pC (.int (0)))) (pCons (pVar 3) pNil)))) (pTup (pCons (pC (.str [97, 112, 112])) (pCons (pVar 3) (pCons (pTup (pCons (pC (.str [108, 97, 109])) (pCons (pOp fIx (pVar 2) (pC (.int (0)))) (pCons (pTup (pCons (pC (.str [118, 97, 114])) (pCons (pOp fIx (pVar 2) (pC (.int (0)))) pNil))) pNil)))) pNil))))) (pgName 3)) De env := rfl
def b__law_nested : PTS := (pSeq (pAsg (pGive (pCallM s__law_pick 0 (pCons (pGive (pLst (pLCons (pLst (pLCons (pC (.str [120])) pLNil)) (pLCons (pLst (pLCons (pC (.str [120])) (pLCons (pC (.str [121])) pLNil))) (pLCons (pLst (pLCons (pC (.str [120])) (pLCons (pC (.str [121])) (pLCons (pC (.str [120])) (pLCons (pC (.str [122, 122])) pLNil))))) (pLCons (pLst (pLCons (pC (.str [97])) (pLCons (pC (.str [98])) (pLCons (pC (.str [99])) pLNil)))) (pLCons (pLst (pLCons (pC (.str [120])) pLNil)) pLNil))))))) pNil))) (pgName 2))
    (pSeq (pAsg (pGive (pCallM (s__law_drawn 42) 0 (pCons (pVar 1) (pCons (pGive (pCallM s__law_pick 0 (pCons (pGive (pLst (pLCons (pLst (pLCons (pC (.str [120])) (pLCons (pC (.str [121])) pLNil))) (pLCons (pLst (pLCons (pC (.str [121])) (pLCons (pC (.str [119])) pLNil))) (pLCons (pLst (pLCons (pC (.str [97])) (pLCons (pC (.str [98])) (pLCons (pC (.str [120])) pLNil)))) pLNil))))) pNil))) (pCons (pGive (pLst pLNil)) (pCons (pVar 2) pNil)))))) (pgName 3))
    (pSeq (pFor (pRng1 (pCallM s__law_pick 0 (pCons (pGive (pLst (pLCons (pC (.int (0))) (pLCons (pC (.int (0))) (pLCons (pC (.int (1))) (pLCons (pC (.int (2))) (pLCons (pC (.int (3))) pLNil))))))) pNil))) (pgName 4) l1__law_nested)
    (pRet (pVar 3)))))

theorem okn_x : okN [120] := by unfold okN letters; decide
theorem okn_y : okN [121] := by unfold okN letters; decide
theorem okn_w : okN [119] := by unfold okN letters; decide
theorem okn_a : okN [97] := by unfold okN letters; decide
theorem okn_b : okN [98] := by unfold okN letters; decide
theorem okn_c : okN [99] := by unfold okN letters; decide
theorem okn_zz : okN [122, 122] := by unfold okN letters; decide
theorem nested_loop {s : Option O} {De : PEnds} {k0 z0 : Nat} {b0 : List Nat} {bs : List (List Nat)} (ob : okN b0) (hn : ∀ (t : Tm) xs w, t.ok → t.size ≤ z0 → Bx k0 xs → De.nx [some (.own xs), s, some (.d (sL (b0 :: bs))), some (.d t.enc), w]) : ∀ (ks : List D) (t : Tm) (n : Nat) (xs : List O) (w : Option O),
    t.ok → t.size + 3 * ks.length ≤ z0 → n + ks.length ≤ k0 → k0 ≤ 1000000 → Bx n xs → forR (pgName 4) l1__law_nested De ks [some (.own xs), s, some (.d (sL (b0 :: bs))), some (.d t.enc), w]
  | [], t, n, xs, w, ot, h1, h2, h3, hB => hn t xs w ot (by simpa [-List.map_map] using h1) (hB.mono (by simpa [-List.map_map] using h2))
  | k :: ks, t, n, xs, w, ot, h1, h2, h3, hB => by
    simp only [List.length_cons] at h1 h2
    rw [forR_cons]
    simp [-List.map_map, l1__law_nested_eq]
    refine take_use hB (by omega) (by omega) (by omega) fun r xs1 r0 r1 hB1 => ?_
    by_cases c : 0 < r
    · have ih := nested_loop ob hn ks (.lam b0 t) (n + 1) xs1 (some (.d k)) ⟨ob, ot⟩ (by simp [-List.map_map, Tm.size]; omega) (by omega) h3 hB1
      simp [-List.map_map, c, sL]
      simpa [-List.map_map, Tm.enc, sL, sLam] using ih
    · have ih := nested_loop ob hn ks (.app t (.lam b0 (.var b0))) (n + 1) xs1 (some (.d k)) ⟨ot, ob, ob⟩ (by simp [-List.map_map, Tm.size]; omega) (by omega) h3 hB1
      simp [-List.map_map, c, sL]
      simpa [-List.map_map, Tm.enc, sL, sLam, sApp, sVar] using ih
theorem pure__law_nested : ∀ xs ds Qp, s__law_nested xs ds Qp → b__law_nested (endsM Qp) (envM 5 xs ds) := fun xs ds Q ⟨k, size, hB, hk, h1, h2, e, h⟩ => by
  subst e
  simp [-List.map_map, b__law_nested]
  refine pick_use hB (by omega) (by simp [-List.map_map]) (by simp [-List.map_map]) fun d xs1 hd hB1 => ?_
  have hb : ∃ (b0 : List Nat) (bs : List (List Nat)), d = sL (b0 :: bs) ∧ (∀ x ∈ b0 :: bs, okN x) ∧ (b0 :: bs).length ≤ 10 := by
    simp only [List.mem_cons, List.not_mem_nil, or_false] at hd
    rcases hd with rfl | rfl | rfl | rfl | rfl
    · exact ⟨[120], [], rfl, by simp [-List.map_map, okn_x], by simp [-List.map_map]⟩
    · exact ⟨[120], [[121]], rfl, by simp [-List.map_map, okn_x, okn_y], by simp [-List.map_map]⟩
    · exact ⟨[120], [[121], [120], [122, 122]], rfl, by simp [-List.map_map, okn_x, okn_y, okn_zz], by simp [-List.map_map]⟩
    · exact ⟨[97], [[98], [99]], rfl, by simp [-List.map_map, okn_a, okn_b, okn_c], by simp [-List.map_map]⟩
    · exact ⟨[120], [], rfl, by simp [-List.map_map, okn_x], by simp [-List.map_map]⟩
  obtain ⟨b0, bs, rfl, ob, lb⟩ := hb
  simp [-List.map_map]
  refine pick_use hB1 (by omega) (by simp [-List.map_map]) (by simp [-List.map_map]) fun d xs2 hd hB2 => ?_
  have hc : ∃ ns : List (List Nat), d = sL ns ∧ (∀ x ∈ ns, okN x) ∧ ns ≠ [] ∧ ns.length ≤ 10 := by
    simp only [List.mem_cons, List.not_mem_nil, or_false] at hd
    rcases hd with rfl | rfl | rfl
    · exact ⟨[[120], [121]], rfl, by simp [-List.map_map, okn_x, okn_y], by simp [-List.map_map], by simp [-List.map_map]⟩
    · exact ⟨[[121], [119]], rfl, by simp [-List.map_map, okn_w, okn_y], by simp [-List.map_map], by simp [-List.map_map]⟩
    · exact ⟨[[97], [98], [120]], rfl, by simp [-List.map_map, okn_x, okn_a, okn_b], by simp [-List.map_map], by simp [-List.map_map]⟩
  obtain ⟨ns, rfl, on, nn, ln⟩ := hc
  simp [-List.map_map]
  refine drawn_use hB2 (by omega) h1 (by omega) (by omega) on ob nn (by simp [-List.map_map]) ln lb fun t xs3 ot st hB3 => ?_
  simp [-List.map_map]
  refine pick_use hB3 (by omega) (by simp [-List.map_map]) (by simp [-List.map_map]) fun d xs4 hd hB4 => ?_
  have hj : ∃ j : Nat, d = .int (j : Int) ∧ j ≤ 3 := by
    simp only [List.mem_cons, List.not_mem_nil, or_false] at hd
    rcases hd with rfl | rfl | rfl | rfl | rfl
    · exact ⟨0, rfl, by omega⟩
    · exact ⟨0, rfl, by omega⟩
    · exact ⟨1, rfl, by omega⟩
    · exact ⟨2, rfl, by omega⟩
    · exact ⟨3, rfl, by omega⟩
  obtain ⟨j, rfl, hj⟩ := hj
  simp [-List.map_map]
  refine ⟨by omega, ?_⟩
  refine nested_loop (k0 := k + 2 * size + 10) (z0 := size + 9) (ob b0 (by simp [-List.map_map])) (fun t xs w ot st hb => by simpa [-List.map_map] using h t xs ot st hb) _ t _ xs4 none ot (by simp [-List.map_map]; omega) (by simp [-List.map_map]; omega) hk hB4
theorem nested_use {k size : Nat} {xs : List O} {Q : O → List O → Prop} {z : Int} (hz : z = (size : Int)) (hB : Bx k xs) (hk : k + 2 * size + 10 ≤ 1000000) (h1 : 1 ≤ size) (h2 : size ≤ 40) (h : ∀ (t : Tm) xs', t.ok → t.size ≤ size + 9 → Bx (k + 2 * size + 10) xs' → Q (.d t.enc) xs') : s__law_nested xs [.int z] Q :=
  ⟨k, size, hB, hk, h1, h2, by rw [hz], h⟩
/-! ### places by own walk -/
theorem walkT_pre (c : Nat) : ∀ (t : Tm) (p : List Nat), walkT (c :: p) t = (walkT p t).map fun q => (c :: q.1, q.2)
  | .var x, p => rfl
  | .lam x b, p => by simp [-List.map_map, walkT, walkT_pre c b]
  | .app f a, p => by simp [-List.map_map, walkT, walkT_pre c f, walkT_pre c a]
theorem walkT_mem : ∀ (t : Tm) (p : List Nat), ∀ q ∈ walkT p t, q.1.length + q.2.depth ≤ p.length + t.depth
  | .var x, p, q, h => by
    rw [List.mem_singleton.mp h]
    exact Nat.le_refl _
  | .lam x b, p, q, h => by
    simp only [walkT, List.mem_cons] at h
    rcases h with rfl | h
    · exact Nat.le_refl _
    · have := walkT_mem b _ q h
      simp [-List.map_map, Tm.depth] at *
      omega
  | .app f a, p, q, h => by
    simp only [walkT, List.mem_cons, List.mem_append] at h
    rcases h with rfl | h | h
    · exact Nat.le_refl _
    · have := walkT_mem f _ q h
      simp [-List.map_map, Tm.depth] at *
      omega
    · have := walkT_mem a _ q h
      simp [-List.map_map, Tm.depth] at *
      omega
def s__law_places (n : Nat) : PSpV := fun ds Q _ => ∃ t : Tm, t.depth ≤ n ∧ t.size ≤ 4000 ∧ ds = [t.enc] ∧ Q (.own (((walkT [] t).map pr).map O.d))
theorem len__law_places : ∀ n ds Qp Ep, s__law_places n ds Qp Ep → ds.length = 1 := fun n ds Q E ⟨d, _, _, e, _⟩ => by rw [e]; rfl
theorem depth_pos (t : Tm) : 1 ≤ t.depth := by cases t <;> simp [-List.map_map, Tm.depth]
theorem no__law_places : ∀ ds Qp Ep, ¬ s__law_places 0 ds Qp Ep := fun ds Q E ⟨t, h, _⟩ => by have := depth_pos t; omega
@[simp] theorem c_law_places {n : Nat} {t : Tm} {Q E} : s__law_places n [t.enc] Q E ↔ t.depth ≤ n ∧ t.size ≤ 4000 ∧ Q (.own (((walkT [] t).map pr).map O.d)) := ⟨fun ⟨u, ok, s, e, h⟩ => by simp [-List.map_map] at e; rw [e]; exact ⟨ok, s, h⟩, fun h => ⟨t, h.1, h.2.1, rfl, h.2.2⟩⟩
abbrev N__law_places : List Str := ["term", "found", "place", "one"]
def b__law_places (n : Nat) : PTS := (pSeq (pAsg (pLst (pLCons (pTup (pCons (pC (.str [])) (pCons (pVar 0) pNil))) pLNil)) (pgName 1))
    (pSeq (pIf (pTest (pOp fEq (pOp fIx (pVar 0) (pC (.int (0)))) (pC (.str [108, 97, 109])))) (pDrop (pExtend 1 (pLc (pIAny (pGive (pCallV (s__law_places n) (pCons (pOp fIx (pVar 0) (pC (.int (2)))) pNil)))) (pgTup 2 (pgCons (pgName 2) (pgCons (pgName 3) pgNil))) pYes (pTup (pCons (pOp fAdd (pC (.str [98])) (pVar 2)) (pCons (pVar 3) pNil))) [2, 3]))) pNext)
    (pSeq (pIf (pTest (pOp fEq (pOp fIx (pVar 0) (pC (.int (0)))) (pC (.str [97, 112, 112])))) (pSeq (pDrop (pExtend 1 (pLc (pIAny (pGive (pCallV (s__law_places n) (pCons (pOp fIx (pVar 0) (pC (.int (1)))) pNil)))) (pgTup 2 (pgCons (pgName 2) (pgCons (pgName 3) pgNil))) pYes (pTup (pCons (pOp fAdd (pC (.str [102])) (pVar 2)) (pCons (pVar 3) pNil))) [2, 3])))
    (pDrop (pExtend 1 (pLc (pIAny (pGive (pCallV (s__law_places n) (pCons (pOp fIx (pVar 0) (pC (.int (2)))) pNil)))) (pgTup 2 (pgCons (pgName 2) (pgCons (pgName 3) pgNil))) pYes (pTup (pCons (pOp fAdd (pC (.str [97])) (pVar 2)) (pCons (pVar 3) pNil))) [2, 3])))) pNext)
    (pRet (pMov 1)))))

theorem pre_lc {c : Nat} {t : Tm} {env : DL.Env} {E : PX} {P : List O → DL.Env → Prop} {v f x y : Option O} (he : env = [v, f, none, none]) (hs : t.size ≤ 4000) (h : P (((walkT [c] t).map pr).map O.d) env) :
    lcR (pgTup 2 (pgCons (pgName 2) (pgCons (pgName 3) pgNil))) pYes (pTup (pCons (pOp fAdd (pC (.str [c])) (pVar 2)) (pCons (pVar 3) pNil))) [2, 3] E P ((walkT [] t).map pr) [] env := by
  subst he
  have hd := size_depth t
  refine lcR_map (F := fun d => match d with | .tup [.str p, u] => .tup [.str (c :: p), u] | _ => .non) _ _ (fun d hd' R hR => ?_) (by simp [-List.map_map, walkT_len]; omega) ?_
  · obtain ⟨q, hq, rfl⟩ := List.mem_map.mp hd'
    have := walkT_mem t [] q hq
    simp [-List.map_map] at this
    simp [-List.map_map, pr, wipeE]
    exact ⟨by omega, hR _ (by simp [-List.map_map, restE])⟩
  · have e1 : ((walkT [] t).map pr).map (fun d => match d with | .tup [.str p, u] => D.tup [.str (c :: p), u] | _ => .non) = (walkT [c] t).map pr := by
      rw [walkT_pre c t [], List.map_map, List.map_map]
      rfl
    rw [List.nil_append, e1]
    exact h
theorem pure__law_places : ∀ n ds Qp Ep, s__law_places (n + 1) ds Qp Ep → b__law_places n (endsV Qp Ep) (envV 4 ds) := fun n ds Q E ⟨t, hd, hs, e, h⟩ => by
  subst e
  have hl := walkT_len t []
  cases t with
  | var x => simpa [-List.map_map, b__law_places, Tm.enc, sVar, walkT, pr] using h
  | lam x b =>
    simp only [Tm.depth, Tm.size] at hd hs
    have hb := walkT_len b [98]
    simp [-List.map_map, b__law_places, Tm.enc, sLam, noOwn]
    refine ⟨by omega, by omega, pre_lc (c := 98) (x := none) (y := none) rfl (by omega) ?_⟩
    simp [-List.map_map, hb]
    refine ⟨by omega, ?_⟩
    simpa [-List.map_map, walkT, pr, Tm.enc, sLam] using h
  | app f a =>
    simp only [Tm.depth, Tm.size] at hd hs
    have hf := walkT_len f [102]
    have ha := walkT_len a [97]
    simp [-List.map_map, b__law_places, Tm.enc, sApp, noOwn]
    refine ⟨by omega, by omega, pre_lc (c := 102) (x := none) (y := none) rfl (by omega) ?_⟩
    simp [-List.map_map, hf, noOwn]
    refine ⟨by omega, by omega, by omega, pre_lc (c := 97) (x := none) (y := none) rfl (by omega) ?_⟩
    simp [-List.map_map, hf, ha]
    refine ⟨by omega, ?_⟩
    simpa [-List.map_map, walkT, pr, Tm.enc, sApp] using h
/-! ### another part put in, by own walk -/
def s__law_with (n : Nat) : PSpV := fun ds Q _ => ∃ (t o u : Tm) (p : List Nat), t.at? p = some u ∧ p.length < n ∧ ds = [t.enc, .str p, o.enc] ∧ Q (.d (t.setAt p o).enc)
theorem len__law_with : ∀ n ds Qp Ep, s__law_with n ds Qp Ep → ds.length = 3 := fun n ds Q E ⟨_, _, _, _, _, _, e, _⟩ => by rw [e]; rfl
theorem no__law_with : ∀ ds Qp Ep, ¬ s__law_with 0 ds Qp Ep := fun ds Q E ⟨_, _, _, _, _, h, _⟩ => by omega
@[simp] theorem c_law_with {n : Nat} {t o : Tm} {p : List Nat} {Q E} : s__law_with n [t.enc, .str p, o.enc] Q E ↔ (∃ u, t.at? p = some u) ∧ p.length < n ∧ Q (.d (t.setAt p o).enc) :=
  ⟨fun ⟨a, b, u, q, h1, h2, e, h⟩ => by simp [-List.map_map] at e; rw [e.1, e.2.1, e.2.2]; exact ⟨⟨u, h1⟩, h2, h⟩, fun ⟨⟨u, h1⟩, h2, h⟩ => ⟨t, o, u, p, h1, h2, rfl, h⟩⟩
abbrev N__law_with : List Str := ["term", "place", "other"]
def b__law_with (n : Nat) : PTS := (pSeq (pIf (pTest (pOp fEq (pVar 1) (pC (.str [])))) (pRet (pVar 2)) pNext)
    (pSeq (pIf (pTest (pOp fEq (pOp fIx (pVar 1) (pC (.int (0)))) (pC (.str [98])))) (pRet (pTup (pCons (pC (.str [108, 97, 109])) (pCons (pOp fIx (pVar 0) (pC (.int (1)))) (pCons (pGive (pCallV (s__law_with n) (pCons (pOp fIx (pVar 0) (pC (.int (2)))) (pCons (pGive (pSl fSl (pVar 1) (pPart (pC (.int (1)))) pNoPart)) (pCons (pVar 2) pNil))))) pNil))))) pNext)
    (pSeq (pIf (pTest (pOp fEq (pOp fIx (pVar 1) (pC (.int (0)))) (pC (.str [102])))) (pRet (pTup (pCons (pC (.str [97, 112, 112])) (pCons (pGive (pCallV (s__law_with n) (pCons (pOp fIx (pVar 0) (pC (.int (1)))) (pCons (pGive (pSl fSl (pVar 1) (pPart (pC (.int (1)))) pNoPart)) (pCons (pVar 2) pNil))))) (pCons (pOp fIx (pVar 0) (pC (.int (2)))) pNil))))) pNext)
    (pRet (pTup (pCons (pC (.str [97, 112, 112])) (pCons (pOp fIx (pVar 0) (pC (.int (1)))) (pCons (pGive (pCallV (s__law_with n) (pCons (pOp fIx (pVar 0) (pC (.int (2)))) (pCons (pGive (pSl fSl (pVar 1) (pPart (pC (.int (1)))) pNoPart)) (pCons (pVar 2) pNil))))) pNil))))))))

theorem pure__law_with : ∀ n ds Qp Ep, s__law_with (n + 1) ds Qp Ep → b__law_with n (endsV Qp Ep) (envV 3 ds) := fun n ds Q E ⟨t, o, u, p, hp, hl, e, h⟩ => by
  subst e
  cases p with
  | nil =>
    cases t <;> simpa [-List.map_map, b__law_with, Tm.setAt] using h
  | cons c p =>
    simp only [List.length_cons] at hl
    unfold Tm.at? at hp
    cases e : t.step c with
    | none => rw [e] at hp; cases hp
    | some w =>
      rw [e] at hp
      cases t with
      | var x => cases e
      | lam x b =>
        simp only [Tm.step] at e
        split at e
        · rename_i hc
          subst hc
          cases e
          simp [-List.map_map, b__law_with, Tm.enc]
          exact ⟨⟨u, hp⟩, by omega, by simpa [-List.map_map, Tm.setAt, Tm.enc, sLam] using h⟩
        · cases e
      | app f a =>
        simp only [Tm.step] at e
        split at e
        · rename_i hc
          subst hc
          cases e
          simp [-List.map_map, b__law_with, Tm.enc]
          exact ⟨⟨u, hp⟩, by omega, by simpa [-List.map_map, Tm.setAt, Tm.enc, sApp] using h⟩
        · split at e
          · rename_i hc
            subst hc
            cases e
            simp [-List.map_map, b__law_with, Tm.enc]
            exact ⟨⟨u, hp⟩, by omega, by simpa [-List.map_map, Tm.setAt, Tm.enc, sApp] using h⟩
          · cases e
end Law
end

section
set_option Elab.async false
set_option linter.all false
set_option maxRecDepth 100000
set_option maxHeartbeats 2000000
namespace Law
open PySem PySem.Spec L2 PyProof.Rows DL

/-! ### what is told -/
abbrev sTold : List Nat := [116, 111, 108, 100]
abbrev sPlace : List Nat := [112, 108, 97, 99, 101]
def placesD (t : Tm) : List D := (walkT [] t).map fun q => .str q.1
def tD (x : D) : O := .own [.d (.str sTold), .d x]
def pD (p : List Nat) : O := .own [.d (.str sPlace), .d (.str p)]
def Tm.good (t : Tm) : Prop := t.ok ∧ t.size ≤ 2000
def s__law_told : PSpV := fun ds Q _ =>
  (∃ (t : Tm) (b : Bool), t.good ∧ ds = [.int 0, .lst [t.enc], .bl b] ∧ Q (.own [.d (.str sTold), .own ((placesD t).map O.d)])) ∨
  (∃ (t : Tm) (p : List Nat) (b : Bool), t.good ∧ ds = [.int 1, .lst [t.enc, .str p], .bl b] ∧ wO (t.at? p) (fun u => Q (tD u.enc)) (Q (pD p))) ∨
  (∃ (t o : Tm) (p : List Nat) (b : Bool), t.good ∧ o.good ∧ ds = [.int 2, .lst [t.enc, .str p, o.enc], .bl b] ∧ wO (t.at? p) (fun u => Q (tD (t.setAt p o).enc)) (Q (pD p)))
theorem len__law_told : ∀ ds Qp Ep, s__law_told ds Qp Ep → ds.length = 3 := fun ds Q E h => by
  rcases h with ⟨t, b, _, e, _⟩ | ⟨t, p, b, _, e, _⟩ | ⟨t, o, p, b, _, _, e, _⟩ <;> rw [e] <;> rfl
abbrev N__law_told : List Str := ["which", "args", "named", "e"]
def b__law_told : PTS := (pTryAs ["InvalidPlace"] "InvalidPlace" 3 (pSeq (pIf (pTest (pOp fEq (pVar 0) (pC (.int (0))))) (pRet (pLst (pLCons (pC (.str [116, 111, 108, 100])) (pLCons (pIfE (pTest (pVar 2)) (pCallVK s_places [0] (pCons (pOp fIx (pVar 1) (pC (.int (0)))) pNil)) (pCallV s_places (pCons (pOp fIx (pVar 1) (pC (.int (0)))) pNil))) pLNil)))) pNext)
    (pSeq (pIf (pTest (pOp fEq (pVar 0) (pC (.int (1))))) (pRet (pLst (pLCons (pC (.str [116, 111, 108, 100])) (pLCons (pIfE (pTest (pVar 2)) (pCallVK s_part [1, 0] (pCons (pOp fIx (pVar 1) (pC (.int (1)))) (pCons (pOp fIx (pVar 1) (pC (.int (0)))) pNil))) (pCallV s_part (pCons (pOp fIx (pVar 1) (pC (.int (0)))) (pCons (pOp fIx (pVar 1) (pC (.int (1)))) pNil)))) pLNil)))) pNext)
    (pRet (pLst (pLCons (pC (.str [116, 111, 108, 100])) (pLCons (pIfE (pTest (pVar 2)) (pCallVK s_with_part [2, 1, 0] (pCons (pOp fIx (pVar 1) (pC (.int (2)))) (pCons (pOp fIx (pVar 1) (pC (.int (1)))) (pCons (pOp fIx (pVar 1) (pC (.int (0)))) pNil)))) (pCallV s_with_part (pCons (pOp fIx (pVar 1) (pC (.int (0)))) (pCons (pOp fIx (pVar 1) (pC (.int (1)))) (pCons (pOp fIx (pVar 1) (pC (.int (2)))) pNil))))) pLNil)))))) (fun a d => (pRet (pLst (pLCons (pC (.str [112, 108, 97, 99, 101])) (pLCons (pXf a d "InvalidPlace" "given" 3) pLNil))))))

theorem pure__law_told : ∀ ds Qp Ep, s__law_told ds Qp Ep → b__law_told (endsV Qp Ep) (envV 4 ds) := fun ds Q E h => by
  rcases h with ⟨t, b, g, e, h⟩ | ⟨t, p, b, g, e, h⟩ | ⟨t, o, p, b, g, g2, e, h⟩ <;> subst e
  · cases b <;> simp [-List.map_map, b__law_told, g.1, g.2, List.filterMap] <;> exact h
  · cases e : t.at? p with
    | none =>
      rw [e] at h
      cases b <;> simp [-List.map_map, b__law_told, g.1, g.2, List.filterMap, e, wO, xPlace] <;> exact h
    | some u =>
      rw [e] at h
      cases b <;> simp [-List.map_map, b__law_told, g.1, g.2, List.filterMap, e, wO] <;> exact h
  · cases e : t.at? p with
    | none =>
      rw [e] at h
      cases b <;> simp [-List.map_map, b__law_told, g.1, g.2, g2.1, g2.2, List.filterMap, e, wO, xPlace] <;> exact h
    | some u =>
      rw [e] at h
      cases b <;> simp [-List.map_map, b__law_told, g.1, g.2, g2.1, g2.2, List.filterMap, e, wO] <;> exact h
theorem told0 {t : Tm} {b : Bool} {Q E} (g : t.good) (h : Q (.own [.d (.str sTold), .own ((placesD t).map O.d)])) : s__law_told [.int 0, .lst [t.enc], .bl b] Q E := .inl ⟨t, b, g, rfl, h⟩
theorem told1 {t : Tm} {p : List Nat} {b : Bool} {Q E} (g : t.good) (h : wO (t.at? p) (fun u => Q (tD u.enc)) (Q (pD p))) : s__law_told [.int 1, .lst [t.enc, .str p], .bl b] Q E := .inr (.inl ⟨t, p, b, g, rfl, h⟩)
theorem told2 {t o : Tm} {p : List Nat} {b : Bool} {Q E} (g : t.good) (g2 : o.good) (h : wO (t.at? p) (fun u => Q (tD (t.setAt p o).enc)) (Q (pD p))) : s__law_told [.int 2, .lst [t.enc, .str p, o.enc], .bl b] Q E := .inr (.inr ⟨t, o, p, b, g, g2, rfl, h⟩)
theorem smb_okn {x : List Nat} (h : okN x) : smb (.str x) = true := by
  have := h.2.1
  simp [-List.map_map, smb]
  omega
theorem smb_enc : ∀ t : Tm, t.ok → smb t.enc = true
  | .var x, h => by
    have h' : okN x := h
    have := smb_okn h'
    simp [-List.map_map, Tm.enc, smb, smbL] at *
    omega
  | .lam x b, h => by
    have := smb_okn h.1
    simp [-List.map_map, Tm.enc, smb, smbL, smb_enc b h.2] at *
    omega
  | .app f a, h => by simp [-List.map_map, Tm.enc, smb, smbL, smb_enc f h.1, smb_enc a h.2]
theorem depth_enc : ∀ t : Tm, t.enc.depth = t.depth
  | .var x => rfl
  | .lam x b => by simp [-List.map_map, Tm.enc, Tm.depth, depth_enc b]
  | .app f a => by simp [-List.map_map, Tm.enc, Tm.depth, depth_enc f, depth_enc a]
theorem smb_places {t : Tm} (hs : t.size ≤ 2000) : smb (.lst (placesD t)) = true ∧ (D.lst (placesD t)).depth ≤ 1 := by
  have gen : ∀ l : List (List Nat × Tm), (∀ q ∈ l, q.1.length ≤ 1000000) → smbL (l.map fun q => D.str q.1) = true ∧ depthL (l.map fun q => D.str q.1) = 0 := fun l => by
    induction l with
    | nil => intro _; exact ⟨rfl, rfl⟩
    | cons q l ih =>
      intro h
      have h1 := h q (List.mem_cons_self ..)
      have ih := ih fun r hr => h r (List.mem_cons_of_mem _ hr)
      simp [-List.map_map, smbL, smb, h1, ih.1, ih.2]
  have hd := size_depth t
  have g := gen (walkT [] t) fun q hq => by
    have := walkT_mem t [] q hq
    simp [-List.map_map] at this
    omega
  have hl := walkT_len t []
  refine ⟨?_, ?_⟩
  · simp only [placesD, smb, g.1, List.length_map, hl]
    simp [-List.map_map]
    omega
  · simp only [placesD, D.depth, g.2]
    omega
def s__law_places_right : PSpV := fun ds Q _ => ∃ (t : Tm) (b : Bool), t.good ∧ t.depth ≤ 110 ∧ ds = [t.enc, .bl b] ∧ Q (.d (.bl true))
theorem len__law_places_right : ∀ ds Qp Ep, s__law_places_right ds Qp Ep → ds.length = 2 := fun ds Q E ⟨d, _, _, _, e, _⟩ => by rw [e]; rfl
@[simp] theorem c_places_right {t : Tm} {b : Bool} {Q E} : s__law_places_right [t.enc, .bl b] Q E ↔ t.good ∧ t.depth ≤ 110 ∧ Q (.d (.bl true)) := ⟨fun ⟨u, c, ok, s, e, h⟩ => by simp [-List.map_map] at e; rw [e.1]; exact ⟨ok, s, h⟩, fun h => ⟨t, b, h.1, h.2.1, rfl, h.2.2⟩⟩
abbrev N__law_places_right : List Str := ["term", "named", "due", "place", "one", "turn", "told"]
def l1__law_places_right : PTS := (pSeq (pAsg (pCallV s__law_told (pCons (pC (.int (0))) (pCons (pGive (pLst (pLCons (pVar 0) pLNil))) (pCons (pVar 1) pNil)))) (pgName 6))
    (pSeq (pIf (pNotT (pTest (pCallB (s__law_same 110) (pLCons (pBor 6) (pLCons (pLst (pLCons (pC (.str [116, 111, 108, 100])) (pLCons (pVar 2) pLNil))) pLNil))))) (pRet (pC (.bl false))) pNext)
    (pSeq (pDrop (pAppend2 6 1 (pC (.str [109, 111, 114, 101]))))
    (pSeq (pDrop (pReverse2 6 1))
    (pAsg (pNotV (pVar 1)) (pgName 1))))))
theorem l1__law_places_right_eq {De : PEnds} {env : DL.Env} : l1__law_places_right De env = (pSeq (pAsg (pCallV s__law_told (pCons (pC (.int (0))) (pCons (pGive (pLst (pLCons (pVar 0) pLNil))) (pCons (pVar 1) pNil)))) (pgName 6))
    (pSeq (pIf (pNotT (pTest (pCallB (s__law_same 110) (pLCons (pBor 6) (pLCons (pLst (pLCons (pC (.str [116, 111, 108, 100])) (pLCons (pVar 2) pLNil))) pLNil))))) (pRet (pC (.bl false))) pNext)
    (pSeq (pDrop (pAppend2 6 1 (pC (.str [109, 111, 114, 101]))))
    (pSeq (pDrop (pReverse2 6 1))
    (pAsg (pNotV (pVar 1)) (pgName 1)))))) De env := rfl
def b__law_places_right : PTS := (pSeq (pAsg (pGive (pLc (pIAny (pGive (pCallV (s__law_places 110) (pCons (pVar 0) pNil)))) (pgTup 2 (pgCons (pgName 3) (pgCons (pgName 4) pgNil))) pYes (pVar 3) [3, 4])) (pgName 2))
    (pSeq (pFor (pRng1 (pC (.int (2)))) (pgName 5) l1__law_places_right)
    (pRet (pC (.bl true)))))

theorem pr_turn {t : Tm} {v3 v4 v5 v6 : Option O} {De : PEnds} (b : Bool) (g : t.good) (h : ∀ v6, De.nx [some (.d t.enc), some (.d (.bl !b)), some (.d (.lst (placesD t))), v3, v4, v5, v6]) : l1__law_places_right De [some (.d t.enc), some (.d (.bl b)), some (.d (.lst (placesD t))), v3, v4, v5, v6] := by
  simp [-List.map_map, l1__law_places_right_eq]
  refine told0 g ?_
  simp [-List.map_map]
  have sp := smb_places g.2
  have hl : (placesD t).length ≤ 2000 := by
    have := walkT_len t []
    have := g.2
    simp [-List.map_map, placesD]
    omega
  refine same_use (d := .lst [.str sTold, .lst (placesD t)]) ?_ ?_ ?_
  · have := sp.1
    simp [-List.map_map, smb, smbL] at *
    exact this
  · have := sp.2
    simp [-List.map_map] at *
    omega
  · simp [-List.map_map]
    refine ⟨by omega, ?_⟩
    exact h _
theorem pure__law_places_right : ∀ ds Qp Ep, s__law_places_right ds Qp Ep → b__law_places_right (endsV Qp Ep) (envV 7 ds) := fun ds Q E ⟨t, b, g, hd, e, h⟩ => by
  subst e
  have hs := g.2
  simp [-List.map_map, b__law_places_right, noOwn]
  refine ⟨hd, by omega, ?_⟩
  refine lcR_map (F := fun d => match d with | .tup [p, _] => p | _ => .non) _ _ (fun d hd R hR => ?_) (by simp [-List.map_map, walkT_len]; omega) ?_
  · obtain ⟨q, hq, rfl⟩ := List.mem_map.mp hd
    simp [-List.map_map, pr, wipeE]
    exact hR _ (by simp [-List.map_map, restE])
  · have e1 : ((walkT [] t).map pr).map (fun d => match d with | .tup [p, _] => p | _ => D.non) = placesD t := by rw [List.map_map]; rfl
    rw [List.nil_append, e1]
    rw [frzL_map]
    have e2 : (List.range 2).map (fun (k : Nat) => D.int (k : Int)) = [.int 0, .int 1] := rfl
    have key : ∀ De : PEnds, (∀ v, De.nx v) → forR (pgName 5) l1__law_places_right De [.int 0, .int 1] [some (.d t.enc), some (.d (.bl b)), some (.d (.lst (placesD t))), none, none, none, none] := fun De hn => by
      simp only [forR_cons, forR_nil, pgName, List.set_cons_succ, List.set_cons_zero]
      exact pr_turn b g fun v => pr_turn (!b) g fun v => hn _
    refine key _ fun v => ?_
    exact h
end Law
end

section
set_option Elab.async false
set_option linter.all false
set_option maxRecDepth 100000
set_option maxHeartbeats 2000000
namespace Law
open PySem PySem.Spec L2 PyProof.Rows DL

/-! ### parts in parts -/
theorem step_set {t w : Tm} {c : Nat} (e : t.step c = some w) (p : List Nat) (o : Tm) : (t.setAt (c :: p) o).step c = some (w.setAt p o) ∧ ∀ c', c' ≠ c → (t.setAt (c :: p) o).step c' = t.step c' := by
  cases t with
  | var x => cases e
  | lam x b =>
    simp only [Tm.step] at e
    split at e
    · rename_i hc
      subst hc
      cases e
      exact ⟨by simp [-List.map_map, Tm.setAt, Tm.step], fun c' hc' => by simp [-List.map_map, Tm.setAt, Tm.step, hc']⟩
    · cases e
  | app f a =>
    simp only [Tm.step] at e
    split at e
    · rename_i hc
      subst hc
      cases e
      exact ⟨by simp [-List.map_map, Tm.setAt, Tm.step], fun c' hc' => by simp [-List.map_map, Tm.setAt, Tm.step, hc']⟩
    · split at e
      · rename_i hc
        subst hc
        cases e
        refine ⟨by simp [-List.map_map, Tm.setAt, Tm.step], fun c' hc' => ?_⟩
        by_cases h : c' = 102 <;> simp [-List.map_map, Tm.setAt, Tm.step, hc', h]
      · cases e
theorem at_cons {t : Tm} {c : Nat} {p : List Nat} {u : Tm} (h : t.at? (c :: p) = some u) : ∃ w, t.step c = some w ∧ w.at? p = some u := by
  unfold Tm.at? at h
  cases e : t.step c with
  | none => rw [e] at h; cases h
  | some w => rw [e] at h; exact ⟨w, rfl, h⟩
theorem at_of {t w : Tm} {c : Nat} {p : List Nat} (e : t.step c = some w) : t.at? (c :: p) = w.at? p := by
  show (match t.step c with | some u => u.at? p | none => none) = _
  rw [e]
/-- another thing at the place c: the rest stays -/
theorem set_cons {t w : Tm} {c : Nat} (e : t.step c = some w) (p q : List Nat) (o : Tm) : (t.setAt [c] (w.setAt p o)) = t.setAt (c :: p) o := by
  cases t with
  | var x => cases e
  | lam x b =>
    simp only [Tm.step] at e
    split at e
    · cases e
      simp [-List.map_map, Tm.setAt]
    · cases e
  | app f a =>
    simp only [Tm.step] at e
    split at e
    · rename_i hc
      cases e
      simp [-List.map_map, Tm.setAt, hc]
    · rename_i hc
      split at e
      · cases e
        simp [-List.map_map, Tm.setAt, hc]
      · cases e
theorem at_set : ∀ (p : List Nat) (t u o : Tm), t.at? p = some u → (t.setAt p o).at? p = some o
  | [], t, u, o, h => by cases t <;> rfl
  | c :: p, t, u, o, h => by
    obtain ⟨w, e, h⟩ := at_cons h
    rw [at_of (step_set e p o).1]
    exact at_set p w u o h
theorem set_same : ∀ (p : List Nat) (t u : Tm), t.at? p = some u → t.setAt p u = t
  | [], t, u, h => by cases h; cases t <;> rfl
  | c :: p, t, u, h => by
    obtain ⟨w, e, h⟩ := at_cons h
    have ih := set_same p w u h
    cases t with
    | var x => cases e
    | lam x b =>
      simp only [Tm.step] at e
      split at e
      · cases e
        simp [-List.map_map, Tm.setAt, ih]
      · cases e
    | app f a =>
      simp only [Tm.step] at e
      split at e
      · rename_i hc
        cases e
        simp [-List.map_map, Tm.setAt, hc, ih]
      · rename_i hc
        split at e
        · cases e
          simp [-List.map_map, Tm.setAt, hc, ih]
        · cases e
theorem set_set : ∀ (p : List Nat) (t : Tm) (a b : Tm), (t.setAt p a).setAt p b = t.setAt p b
  | [], t, a, b => by cases t <;> cases a <;> rfl
  | c :: p, .var x, a, b => rfl
  | c :: p, .lam x t, a, b => by simp [-List.map_map, Tm.setAt, set_set p]
  | c :: p, .app f t, a, b => by
    by_cases h : c = 102 <;> simp [-List.map_map, Tm.setAt, h, set_set p]
theorem at_app : ∀ (p q : List Nat) (t u : Tm), t.at? p = some u → t.at? (p ++ q) = u.at? q
  | [], q, t, u, h => by cases h; rfl
  | c :: p, q, t, u, h => by
    obtain ⟨w, e, h⟩ := at_cons h
    rw [List.cons_append, at_of e]
    exact at_app p q w u h
theorem set_app : ∀ (p q : List Nat) (t u o : Tm), t.at? p = some u → t.setAt (p ++ q) o = t.setAt p (u.setAt q o)
  | [], q, t, u, o, h => by cases h; cases t <;> rfl
  | c :: p, q, t, u, o, h => by
    obtain ⟨w, e, h⟩ := at_cons h
    rw [List.cons_append, ← set_cons e (p ++ q) [] o, ← set_cons e p [] (u.setAt q o), set_app p q w u o h]
theorem step_size {t w : Tm} {c : Nat} (e : t.step c = some w) : w.size + 1 ≤ t.size ∧ (t.ok → w.ok) := by
  cases t with
  | var x => cases e
  | lam x b =>
    simp only [Tm.step] at e
    split at e
    · cases e; exact ⟨by simp [-List.map_map, Tm.size], fun h => h.2⟩
    · cases e
  | app f a =>
    simp only [Tm.step] at e
    split at e
    · cases e; exact ⟨by simp only [Tm.size]; omega, fun h => h.1⟩
    · split at e
      · cases e; exact ⟨by simp only [Tm.size]; omega, fun h => h.2⟩
      · cases e
theorem at_size : ∀ (p : List Nat) (t u : Tm), t.at? p = some u → u.size + p.length ≤ t.size ∧ (t.ok → u.ok)
  | [], t, u, h => by cases h; exact ⟨Nat.le_refl _, id⟩
  | c :: p, t, u, h => by
    obtain ⟨w, e, h⟩ := at_cons h
    have h1 := step_size e
    have h2 := at_size p w u h
    exact ⟨by simp only [List.length_cons]; omega, fun z => h2.2 (h1.2 z)⟩
theorem set_size : ∀ (p : List Nat) (t o : Tm), (t.setAt p o).size ≤ t.size + o.size ∧ (t.setAt p o).depth ≤ t.depth + o.depth ∧ (t.ok → o.ok → (t.setAt p o).ok)
  | [], t, o => by cases t <;> exact ⟨Nat.le_add_left _ _, Nat.le_add_left _ _, fun _ h => h⟩
  | c :: p, .var x, o => ⟨Nat.le_add_right _ _, Nat.le_add_right _ _, fun h _ => h⟩
  | c :: p, .lam x t, o => by
    have ih := set_size p t o
    exact ⟨by simp [-List.map_map, Tm.setAt, Tm.size]; omega, by simp [-List.map_map, Tm.setAt, Tm.depth]; omega, fun h k => ⟨h.1, ih.2.2 h.2 k⟩⟩
  | c :: p, .app f a, o => by
    have i1 := set_size p f o
    have i2 := set_size p a o
    by_cases hc : c = 102
    · simp only [Tm.setAt, if_pos hc]
      exact ⟨by simp [-List.map_map, Tm.size]; omega, by simp [-List.map_map, Tm.depth]; omega, fun h k => ⟨i1.2.2 h.1 k, h.2⟩⟩
    · simp only [Tm.setAt, if_neg hc]
      exact ⟨by simp [-List.map_map, Tm.size]; omega, by simp [-List.map_map, Tm.depth]; omega, fun h k => ⟨h.1, i2.2.2 h.2 k⟩⟩
/-- two places apart -/
theorem apart : ∀ (p q : List Nat) (t a b u v : Tm), t.at? p = some u → t.at? q = some v → ¬ p <+: q → ¬ q <+: p → (t.setAt p a).at? q = some v ∧ (t.setAt p a).setAt q b = (t.setAt q b).setAt p a
  | [], q, t, a, b, u, v, hp, hq, n1, n2 => absurd (List.nil_prefix) n1
  | c :: p, [], t, a, b, u, v, hp, hq, n1, n2 => absurd (List.nil_prefix) n2
  | c :: p, d :: q, t, a, b, u, v, hp, hq, n1, n2 => by
    obtain ⟨w, e, hp'⟩ := at_cons hp
    obtain ⟨z, f, hq'⟩ := at_cons hq
    have s1 := step_set e p a
    have s2 := step_set f q b
    by_cases h : d = c
    · subst h
      rw [e] at f
      cases f
      have ih := apart p q w a b u v hp' hq' (fun z => n1 (by simpa [-List.map_map] using z)) (fun z => n2 (by simpa [-List.map_map] using z))
      refine ⟨by rw [at_of s1.1]; exact ih.1, ?_⟩
      rw [← set_cons s1.1 q [] b, ← set_cons s2.1 p [] a, ih.2, ← set_cons e p [] a, ← set_cons e q [] b, set_set, set_set]
    · refine ⟨by rw [at_of (by rw [s1.2 d h]; exact f)]; exact hq', ?_⟩
      cases t with
      | var x => cases e
      | lam x t =>
        simp only [Tm.step] at e f
        split at e
        · split at f
          · rename_i h1 h2
            exact absurd (h2.trans h1.symm) h
          · cases f
        · cases e
      | app g t =>
        simp only [Tm.step] at e f
        by_cases h1 : c = 102
        · by_cases h2 : d = 102
          · exact absurd (h2.trans h1.symm) h
          · simp [-List.map_map, Tm.setAt, h1, h2]
        · by_cases h2 : d = 102
          · simp [-List.map_map, Tm.setAt, h1, h2]
          · rw [if_neg h1] at e
            rw [if_neg h2] at f
            split at e
            · split at f
              · rename_i h3 h4
                exact absurd (h4.trans h3.symm) h
              · cases f
            · cases e
theorem rows_at : ∀ (t : Tm), (∀ q ∈ walkT [] t, t.at? q.1 = some q.2) ∧ ∀ p u, t.at? p = some u → (p, u) ∈ walkT [] t
  | .var x => ⟨fun q h => by rw [List.mem_singleton.mp h]; rfl, fun p u h => by
    cases p with
    | nil => cases h; exact List.mem_cons_self ..
    | cons c p => obtain ⟨w, e, _⟩ := at_cons h; cases e⟩
  | .lam x b => by
    have ih := rows_at b
    have e0 : walkT [] (.lam x b) = ([], .lam x b) :: (walkT [] b).map fun q => (98 :: q.1, q.2) := by
      show _ :: walkT [98] b = _
      rw [walkT_pre 98 b []]
    rw [e0]
    refine ⟨fun q h => ?_, fun p u h => ?_⟩
    · rcases List.mem_cons.mp h with rfl | h
      · rfl
      · obtain ⟨r, hr, rfl⟩ := List.mem_map.mp h
        rw [at_of (w := b) (by simp [-List.map_map, Tm.step])]
        exact ih.1 r hr
    · cases p with
      | nil => cases h; exact List.mem_cons_self ..
      | cons c p =>
        obtain ⟨w, e, h⟩ := at_cons h
        simp only [Tm.step] at e
        split at e
        · rename_i hc
          subst hc
          cases e
          exact List.mem_cons_of_mem _ (List.mem_map.mpr ⟨(p, u), ih.2 p u h, rfl⟩)
        · cases e
  | .app f a => by
    have i1 := rows_at f
    have i2 := rows_at a
    have e0 : walkT [] (.app f a) = ([], .app f a) :: (((walkT [] f).map fun q => (102 :: q.1, q.2)) ++ (walkT [] a).map fun q => (97 :: q.1, q.2)) := by
      show _ :: (walkT [102] f ++ walkT [97] a) = _
      rw [walkT_pre 102 f [], walkT_pre 97 a []]
    rw [e0]
    refine ⟨fun q h => ?_, fun p u h => ?_⟩
    · rcases List.mem_cons.mp h with rfl | h
      · rfl
      · rcases List.mem_append.mp h with h | h
        · obtain ⟨r, hr, rfl⟩ := List.mem_map.mp h
          rw [at_of (w := f) (by simp [-List.map_map, Tm.step])]
          exact i1.1 r hr
        · obtain ⟨r, hr, rfl⟩ := List.mem_map.mp h
          rw [at_of (w := a) (by simp [-List.map_map, Tm.step])]
          exact i2.1 r hr
    · cases p with
      | nil => cases h; exact List.mem_cons_self ..
      | cons c p =>
        obtain ⟨w, e, h⟩ := at_cons h
        simp only [Tm.step] at e
        split at e
        · rename_i hc
          subst hc
          cases e
          exact List.mem_cons_of_mem _ (List.mem_append_left _ (List.mem_map.mpr ⟨(p, u), i1.2 p u h, rfl⟩))
        · split at e
          · rename_i hc
            subst hc
            cases e
            exact List.mem_cons_of_mem _ (List.mem_append_right _ (List.mem_map.mpr ⟨(p, u), i2.2 p u h, rfl⟩))
          · cases e
/-! ### the names of the lams around -/
def s__law_bound_at : PSpV := fun ds Q _ => ∃ (t u : Tm) (p : List Nat), t.ok ∧ t.at? p = some u ∧ p.length ≤ 1000 ∧ ds = [t.enc, .str p] ∧ ∀ xs : List (List Nat), (∀ x ∈ xs, okN x) → xs.length ≤ p.length → Q (.d (sL xs))
theorem len__law_bound_at : ∀ ds Qp Ep, s__law_bound_at ds Qp Ep → ds.length = 2 := fun ds Q E ⟨_, _, _, _, _, _, e, _⟩ => by rw [e]; rfl
abbrev N__law_bound_at : List Str := ["term", "place", "found", "now", "step"]
def l1__law_bound_at : PTS := (pSeq (pAsg (pGive (pOp fAdd (pVar 2) (pIfE (pTest (pOp fEq (pVar 4) (pC (.str [98])))) (pLst (pLCons (pOp fIx (pVar 3) (pC (.int (1)))) pLNil)) (pLst pLNil)))) (pgName 2))
    (pAsg (pIfE (pTest (pOp fIn (pVar 4) (pC (.str [98, 97])))) (pOp fIx (pVar 3) (pC (.int (2)))) (pOp fIx (pVar 3) (pC (.int (1))))) (pgName 3)))
theorem l1__law_bound_at_eq {De : PEnds} {env : DL.Env} : l1__law_bound_at De env = (pSeq (pAsg (pGive (pOp fAdd (pVar 2) (pIfE (pTest (pOp fEq (pVar 4) (pC (.str [98])))) (pLst (pLCons (pOp fIx (pVar 3) (pC (.int (1)))) pLNil)) (pLst pLNil)))) (pgName 2))
    (pAsg (pIfE (pTest (pOp fIn (pVar 4) (pC (.str [98, 97])))) (pOp fIx (pVar 3) (pC (.int (2)))) (pOp fIx (pVar 3) (pC (.int (1))))) (pgName 3))) De env := rfl
def b__law_bound_at : PTS := (pSeq (pPar 2 3 (pLCons (pGive (pLst pLNil)) (pLCons (pVar 0) pLNil)))
    (pSeq (pFor (pIAny (pVar 1)) (pgName 4) l1__law_bound_at)
    (pRet (pVar 2))))

theorem bound_loop {v w : Option O} {De : PEnds} {m : Nat} (hn : ∀ xs a b, (∀ x ∈ xs, okN x) → xs.length ≤ m → De.nx [v, w, some (.d (sL xs)), a, b]) (hm : m ≤ 1000) : ∀ (p : List Nat) (t u : Tm) (xs : List (List Nat)) (c : Option O), t.ok → t.at? p = some u → (∀ x ∈ xs, okN x) → xs.length + p.length ≤ m →
    forR (pgName 4) l1__law_bound_at De (p.map fun c => .str [c]) [v, w, some (.d (sL xs)), some (.d t.enc), c]
  | [], t, u, xs, c, ot, h, ox, hl => hn xs _ _ ox (by simpa [-List.map_map] using hl)
  | k :: p, t, u, xs, c, ot, h, ox, hl => by
    obtain ⟨y, e, h2⟩ := at_cons h
    simp only [List.length_cons] at hl
    rw [List.map_cons, forR_cons]
    have oy := (step_size e).2 ot
    cases t with
    | var x => cases e
    | lam x b =>
      simp only [Tm.step] at e
      split at e
      · rename_i hc
        subst hc
        cases e
        have ih := fun c => bound_loop hn hm p _ u (xs ++ [x]) c oy h2 (fun z hz => by
          rcases List.mem_append.mp hz with hz | hz
          · exact ox z hz
          · rw [List.mem_singleton.mp hz]; exact ot.1) (by simp [-List.map_map]; omega)
        simp [-List.map_map, l1__law_bound_at_eq, sL, Tm.enc]
        exact ⟨by omega, by simpa [-List.map_map, sL] using ih _⟩
      · cases e
    | app f a =>
      have ih := fun c => bound_loop hn hm p y u xs c oy h2 ox (by omega)
      simp only [Tm.step] at e
      split at e
      · rename_i hc
        subst hc
        cases e
        simp [-List.map_map, l1__law_bound_at_eq, sL, Tm.enc]
        exact ⟨by omega, by simpa [-List.map_map, sL] using ih _⟩
      · split at e
        · rename_i hc
          subst hc
          cases e
          simp [-List.map_map, l1__law_bound_at_eq, sL, Tm.enc]
          exact ⟨by omega, by simpa [-List.map_map, sL] using ih _⟩
        · cases e
theorem pure__law_bound_at : ∀ ds Qp Ep, s__law_bound_at ds Qp Ep → b__law_bound_at (endsV Qp Ep) (envV 5 ds) := fun ds Q E ⟨t, u, p, ot, hp, hl, e, h⟩ => by
  subst e
  simp [-List.map_map, b__law_bound_at]
  refine bound_loop (m := p.length) (fun xs a b ox hx => ?_) hl p t u [] none ot hp (fun x hx => by cases hx) (by simp [-List.map_map])
  simpa [-List.map_map, sL] using h xs ox hx
end Law
end

section
set_option Elab.async false
set_option linter.all false
set_option maxRecDepth 100000
set_option maxHeartbeats 2000000
namespace Law
open PySem PySem.Spec L2 PyProof.Rows DL

/-! ### parts put in -/

theorem smb_tD {x : D} (h : smb x = true) : smb (.lst [.str sTold, x]) = true := by simp [-List.map_map, smb, smbL, h]
theorem pickS {k : Nat} {l : List (List Nat)} {xs : List O} {Q : O → List O → Prop} (hB : Bx k xs) (hk : k ≤ 1000000) (hl : l ≠ []) (hz : l.length ≤ 100000) (ho : ∀ x ∈ l, okN x) (h : ∀ x xs', okN x → Bx (k + 1) xs' → Q (.d (.str x)) xs') : s__law_pick xs [.lst (l.map D.str)] Q :=
  pick_use hB hk (by simpa [-List.map_map] using hl) (by simp [-List.map_map]; omega) fun d xs' hd hB' => by
    obtain ⟨x, hx, rfl⟩ := List.mem_map.mp hd
    exact h x xs' (ho x hx) hB'
def s__law_put_right : PSpM := fun xs ds Q => ∃ (k : Nat) (t u : Tm) (p : List Nat) (b : Bool), Bx k xs ∧ k + 30 ≤ 1000000 ∧ t.ok ∧ t.size ≤ 50 ∧ t.at? p = some u ∧ ds = [t.enc, .str p, u.enc, .bl b] ∧ ∀ xs', Bx (k + 30) xs' → Q (.d (.bl true)) xs'
theorem len__law_put_right : ∀ xs ds Qp, s__law_put_right xs ds Qp → ds.length + 1 = 5 := fun xs ds Q ⟨_, _, _, _, _, _, _, _, _, _, e, _⟩ => by rw [e]; rfl
abbrev N__law_put_right : List Str := ["box", "term", "place", "here", "named", "around", "other", "after", "told", "again", "inner", "one", "more", "piece", "due"]
def b__law_put_right : PTS := (pSeq (pAsg (pGive (pCallV s__law_bound_at (pCons (pVar 1) (pCons (pVar 2) pNil)))) (pgName 5))
    (pSeq (pAsg (pGive (pCallM s__law_pick 0 (pCons (pGive (pLst (pLCons (pTup (pCons (pC (.str [118, 97, 114])) (pCons (pGive (pCallM s__law_pick 0 (pCons (pGive (pOp fAdd (pVar 5) (pLst (pLCons (pC (.str [120])) pLNil)))) pNil))) pNil))) (pLCons (pVar 3) (pLCons (pTup (pCons (pC (.str [108, 97, 109])) (pCons (pC (.str [120])) (pCons (pVar 3) pNil)))) (pLCons (pTup (pCons (pC (.str [97, 112, 112])) (pCons (pVar 3) (pCons (pTup (pCons (pC (.str [118, 97, 114])) (pCons (pGive (pCallM s__law_pick 0 (pCons (pGive (pOp fAdd (pVar 5) (pLst (pLCons (pC (.str [121])) pLNil)))) pNil))) pNil))) pNil)))) (pLCons (pCallM s__law_nested 0 (pCons (pC (.int (5))) pNil)) pLNil))))))) pNil))) (pgName 6))
    (pSeq (pAsg (pGive (pCallV (s__law_with 110) (pCons (pVar 1) (pCons (pVar 2) (pCons (pVar 6) pNil))))) (pgName 7))
    (pSeq (pAsg (pGive (pLst (pLCons (pCallV s__law_told (pCons (pC (.int (1))) (pCons (pGive (pLst (pLCons (pVar 1) (pLCons (pVar 2) pLNil)))) (pCons (pVar 4) pNil)))) (pLCons (pCallV s__law_told (pCons (pC (.int (2))) (pCons (pGive (pLst (pLCons (pVar 1) (pLCons (pVar 2) (pLCons (pVar 6) pLNil))))) (pCons (pNotV (pVar 4)) pNil)))) (pLCons (pCallV s__law_told (pCons (pC (.int (2))) (pCons (pGive (pLst (pLCons (pVar 1) (pLCons (pVar 2) (pLCons (pVar 3) pLNil))))) (pCons (pVar 4) pNil)))) pLNil))))) (pgName 8))
    (pSeq (pIf (pNotT (pTest (pCallV (s__law_same 110) (pCons (pVar 8) (pCons (pGive (pLst (pLCons (pLst (pLCons (pC (.str [116, 111, 108, 100])) (pLCons (pVar 3) pLNil))) (pLCons (pLst (pLCons (pC (.str [116, 111, 108, 100])) (pLCons (pVar 7) pLNil))) (pLCons (pLst (pLCons (pC (.str [116, 111, 108, 100])) (pLCons (pVar 1) pLNil))) pLNil))))) pNil))))) (pRet (pC (.bl false))) pNext)
    (pSeq (pAsg (pGive (pLst (pLCons (pCallV s__law_told (pCons (pC (.int (1))) (pCons (pGive (pLst (pLCons (pVar 7) (pLCons (pVar 2) pLNil)))) (pCons (pVar 4) pNil)))) (pLCons (pCallV s__law_told (pCons (pC (.int (2))) (pCons (pGive (pLst (pLCons (pVar 7) (pLCons (pVar 2) (pLCons (pVar 3) pLNil))))) (pCons (pNotV (pVar 4)) pNil)))) pLNil)))) (pgName 9))
    (pSeq (pIf (pOr (pNotT (pTest (pCallV (s__law_same 110) (pCons (pVar 9) (pCons (pGive (pLst (pLCons (pLst (pLCons (pC (.str [116, 111, 108, 100])) (pLCons (pVar 6) pLNil))) (pLCons (pLst (pLCons (pC (.str [116, 111, 108, 100])) (pLCons (pVar 1) pLNil))) pLNil)))) pNil))))) (pNotT (pTest (pCallV s__law_places_right (pCons (pVar 7) (pCons (pVar 4) pNil)))))) (pRet (pC (.bl false))) pNext)
    (pSeq (pAsg (pGive (pLc (pIAny (pGive (pCallV (s__law_places 110) (pCons (pVar 3) pNil)))) (pgName 11) pYes (pOp fIx (pVar 11) (pC (.int (0)))) [11])) (pgName 10))
    (pSeq (pAsg (pGive (pCallM s__law_pick 0 (pCons (pVar 10) pNil))) (pgName 12))
    (pSeq (pAsg (pGive (pCallV s__law_told (pCons (pC (.int (2))) (pCons (pGive (pLst (pLCons (pVar 3) (pLCons (pVar 12) (pLCons (pVar 6) pLNil))))) (pCons (pVar 4) pNil))))) (pgName 13))
    (pSeq (pAsg (pGive (pCallV (s__law_with 110) (pCons (pVar 1) (pCons (pGive (pOp fAdd (pVar 2) (pVar 12))) (pCons (pVar 6) pNil))))) (pgName 14))
    (pRet (pAndV (pOp fEq (pOp fIx (pVar 13) (pC (.int (0)))) (pC (.str [116, 111, 108, 100]))) (pCallV (s__law_same 110) (pCons (pGive (pLst (pLCons (pCallV s__law_told (pCons (pC (.int (2))) (pCons (pGive (pLst (pLCons (pVar 1) (pLCons (pVar 2) (pLCons (pOp fIx (pVar 13) (pC (.int (1)))) pLNil))))) (pCons (pNotV (pVar 4)) pNil)))) (pLCons (pCallV s__law_told (pCons (pC (.int (2))) (pCons (pGive (pLst (pLCons (pVar 1) (pLCons (pOp fAdd (pVar 2) (pVar 12)) (pLCons (pVar 6) pLNil))))) (pCons (pVar 4) pNil)))) pLNil)))) (pCons (pGive (pOp fMul (pLst (pLCons (pGive (pLst (pLCons (pC (.str [116, 111, 108, 100])) (pLCons (pVar 14) pLNil)))) pLNil)) (pC (.int (2))))) pNil))))))))))))))))

theorem pure__law_put_right : ∀ xs ds Qp, s__law_put_right xs ds Qp → b__law_put_right (endsM Qp) (envM 15 xs ds) := fun xs ds Q ⟨k, t, u, p, b, hB, hk, ot, st, hp, e, h⟩ => by
  subst e
  have su := at_size p t u hp
  have ou := su.2 ot
  have td := size_depth t
  have ud := size_depth u
  have pl : p.length ≤ 50 := by omega
  simp only [envV, envM, List.map_cons, List.map_nil, List.cons_append, List.nil_append, List.length_cons, List.length_nil, List.reduceReplicate, Nat.reduceAdd, Nat.reduceSub]
  unfold b__law_put_right
  simp only [e_Var, e_Bor, e_Mov, e_Frz, e_C, e_Give, e_Op, e_Un, e_Nil, e_Cons, e_Tup, e_LNil, e_LCons, e_Lst, e_CallV, e_CallV0, e_CallVK, e_CallM, e_CallB, e_Next, e_Seq, e_Break, e_Cont, e_Drop, e_Ret, e_RetN, e_If, e_gName, e_Asg, e_gNil, e_gCons, e_gTup, e_Test, e_And, e_Or, e_NotT, e_AndV, e_OrV, e_NotV, e_IfE, e_NoPart, e_Part, e_Sl, e_IAny, e_For, e_While, e_Rng1, e_IZip, e_Lc, e_Yes, e_Append, e_Pop, e_PopAt, e_Extend, e_Reverse, e_SetItem, e_Aug, e_Par, e_SIndex, e_Isi, e_DispC, e_DGet2, e_Cn, e_Chain, e_Raise, e_TryAs, e_Xf, e_Append2, e_Reverse2, e_Pop2, h_Sub, h_FdivW, h_Mod, h_Pow, h_Lt, h_Le, h_Gt, h_Ge, h_Iadd, h_Isub, h_Neg, h_Abs, h_Int, h_Len, h_Sum, h_All, h_Any, h_List, h_Tuple, h_Add, h_Mul, h_Ix, h_Sl, h_Rev, h_Is, h_Not, h_Eq, h_Ne, h_In, h_Nin, e_endsV, e_endsM, h_Max2, h_Min2]
  (with_reducible conv => whnf); repeat (first | ((with_reducible refine And.intro ?_ ?_); (· (first | ((with_reducible conv => whnf); exact trivial) | omega | assumption | exact Eq.refl _ | exact Nat.zero_le _ | (simp only [List.length_map, List.length_append, List.length_cons, List.length_nil, List.length_singleton]; omega))); (with_reducible conv => whnf)) | (with_reducible refine g_flat ?_; (with_reducible conv => whnf)) | (with_reducible refine Eq.mpr u_forN ?_; (with_reducible conv => whnf)) | ((with_reducible apply g_S); (· (first | exact Eq.refl _ | (simp only [flatL_map, flatL_append_map, flatL_cons, flatL_nil, flatL_mapr, Option.map_some]; exact rfl))); (with_reducible conv => whnf)) | ((with_reducible refine g_t ?_ ?_); (· first | decide | exact Eq.refl _); (with_reducible conv => whnf)) | ((with_reducible refine g_f ?_ ?_); (· first | decide | exact Eq.refl _); (with_reducible conv => whnf)) | ((with_reducible apply g_F); (· (simp only [O.frz, frzL, frzL_map, frzL_append, frzL_mapr, List.nil_append]; exact rfl)); (with_reducible conv => whnf)))
  refine ⟨t, u, p, ot, hp, by omega, rfl, fun ns on nl => ?_⟩
  simp only [sL]
  have en : ∀ c : List Nat, ns.map D.str ++ [D.str c] = (ns ++ [c]).map D.str := fun c => by simp [-List.map_map]
  (with_reducible conv => whnf); repeat (first | ((with_reducible refine And.intro ?_ ?_); (· (first | ((with_reducible conv => whnf); exact trivial) | omega | assumption | exact Eq.refl _ | exact Nat.zero_le _ | (simp only [List.length_map, List.length_append, List.length_cons, List.length_nil, List.length_singleton]; omega))); (with_reducible conv => whnf)) | (with_reducible refine g_flat ?_; (with_reducible conv => whnf)) | (with_reducible refine Eq.mpr u_forN ?_; (with_reducible conv => whnf)) | ((with_reducible apply g_S); (· (first | exact Eq.refl _ | (simp only [flatL_map, flatL_append_map, flatL_cons, flatL_nil, flatL_mapr, Option.map_some]; exact rfl))); (with_reducible conv => whnf)) | ((with_reducible refine g_t ?_ ?_); (· first | decide | exact Eq.refl _); (with_reducible conv => whnf)) | ((with_reducible refine g_f ?_ ?_); (· first | decide | exact Eq.refl _); (with_reducible conv => whnf)) | ((with_reducible apply g_F); (· (simp only [O.frz, frzL, frzL_map, frzL_append, frzL_mapr, List.nil_append]; exact rfl)); (with_reducible conv => whnf)))
  rw [en]
  refine pickS hB (by omega) (by simp [-List.map_map]) (by simp [-List.map_map]; omega) (fun x hx => by
    rcases List.mem_append.mp hx with z | z
    · exact on x z
    · rw [List.mem_singleton.mp z]; exact okn_x) fun x1 xs1 ox1 hB1 => ?_
  (with_reducible conv => whnf); repeat (first | ((with_reducible refine And.intro ?_ ?_); (· (first | ((with_reducible conv => whnf); exact trivial) | omega | assumption | exact Eq.refl _ | exact Nat.zero_le _ | (simp only [List.length_map, List.length_append, List.length_cons, List.length_nil, List.length_singleton]; omega))); (with_reducible conv => whnf)) | (with_reducible refine g_flat ?_; (with_reducible conv => whnf)) | (with_reducible refine Eq.mpr u_forN ?_; (with_reducible conv => whnf)) | ((with_reducible apply g_S); (· (first | exact Eq.refl _ | (simp only [flatL_map, flatL_append_map, flatL_cons, flatL_nil, flatL_mapr, Option.map_some]; exact rfl))); (with_reducible conv => whnf)) | ((with_reducible refine g_t ?_ ?_); (· first | decide | exact Eq.refl _); (with_reducible conv => whnf)) | ((with_reducible refine g_f ?_ ?_); (· first | decide | exact Eq.refl _); (with_reducible conv => whnf)) | ((with_reducible apply g_F); (· (simp only [O.frz, frzL, frzL_map, frzL_append, frzL_mapr, List.nil_append]; exact rfl)); (with_reducible conv => whnf)))
  rw [en]
  refine pickS hB1 (by omega) (by simp [-List.map_map]) (by simp [-List.map_map]; omega) (fun x hx => by
    rcases List.mem_append.mp hx with z | z
    · exact on x z
    · rw [List.mem_singleton.mp z]; exact okn_y) fun x2 xs2 ox2 hB2 => ?_
  (with_reducible conv => whnf); repeat (first | ((with_reducible refine And.intro ?_ ?_); (· (first | ((with_reducible conv => whnf); exact trivial) | omega | assumption | exact Eq.refl _ | exact Nat.zero_le _ | (simp only [List.length_map, List.length_append, List.length_cons, List.length_nil, List.length_singleton]; omega))); (with_reducible conv => whnf)) | (with_reducible refine g_flat ?_; (with_reducible conv => whnf)) | (with_reducible refine Eq.mpr u_forN ?_; (with_reducible conv => whnf)) | ((with_reducible apply g_S); (· (first | exact Eq.refl _ | (simp only [flatL_map, flatL_append_map, flatL_cons, flatL_nil, flatL_mapr, Option.map_some]; exact rfl))); (with_reducible conv => whnf)) | ((with_reducible refine g_t ?_ ?_); (· first | decide | exact Eq.refl _); (with_reducible conv => whnf)) | ((with_reducible refine g_f ?_ ?_); (· first | decide | exact Eq.refl _); (with_reducible conv => whnf)) | ((with_reducible apply g_F); (· (simp only [O.frz, frzL, frzL_map, frzL_append, frzL_mapr, List.nil_append]; exact rfl)); (with_reducible conv => whnf)))
  refine nested_use (size := 5) rfl hB2 (by omega) (by omega) (by omega) fun w xs3 ow sw hB3 => ?_
  (with_reducible conv => whnf); repeat (first | ((with_reducible refine And.intro ?_ ?_); (· (first | ((with_reducible conv => whnf); exact trivial) | omega | assumption | exact Eq.refl _ | exact Nat.zero_le _ | (simp only [List.length_map, List.length_append, List.length_cons, List.length_nil, List.length_singleton]; omega))); (with_reducible conv => whnf)) | (with_reducible refine g_flat ?_; (with_reducible conv => whnf)) | (with_reducible refine Eq.mpr u_forN ?_; (with_reducible conv => whnf)) | ((with_reducible apply g_S); (· (first | exact Eq.refl _ | (simp only [flatL_map, flatL_append_map, flatL_cons, flatL_nil, flatL_mapr, Option.map_some]; exact rfl))); (with_reducible conv => whnf)) | ((with_reducible refine g_t ?_ ?_); (· first | decide | exact Eq.refl _); (with_reducible conv => whnf)) | ((with_reducible refine g_f ?_ ?_); (· first | decide | exact Eq.refl _); (with_reducible conv => whnf)) | ((with_reducible apply g_F); (· (simp only [O.frz, frzL, frzL_map, frzL_append, frzL_mapr, List.nil_append]; exact rfl)); (with_reducible conv => whnf)))
  refine pick_use hB3 (by omega) (by simp [-List.map_map]) (by simp [-List.map_map]) fun d xs4 hd hB4 => ?_
  have ho : ∃ o : Tm, d = o.enc ∧ o.ok ∧ o.size ≤ 54 := by
    simp only [List.mem_cons, List.not_mem_nil, or_false] at hd
    rcases hd with rfl | rfl | rfl | rfl | rfl
    · exact ⟨.var x1, rfl, ox1, by simp [-List.map_map, Tm.size]⟩
    · exact ⟨u, rfl, ou, by omega⟩
    · exact ⟨.lam [120] u, rfl, ⟨okn_x, ou⟩, by simp [-List.map_map, Tm.size]; omega⟩
    · exact ⟨.app u (.var x2), rfl, ⟨ou, ox2⟩, by simp [-List.map_map, Tm.size]; omega⟩
    · exact ⟨w, rfl, ow, by omega⟩
  obtain ⟨o, rfl, oo, so⟩ := ho
  have ss := set_size p t o
  have od := size_depth o
  have gt : t.good := ⟨ot, by omega⟩
  have gu : u.good := ⟨ou, by omega⟩
  have go : o.good := ⟨oo, by omega⟩
  have ga : (t.setAt p o).good := ⟨ss.2.2 ot oo, by omega⟩
  have ha := at_set p t u o hp
  have e1 := set_same p t u hp
  have e2 : (t.setAt p o).setAt p u = t := by rw [set_set, e1]
  (with_reducible conv => whnf); repeat (first | ((with_reducible refine And.intro ?_ ?_); (· (first | ((with_reducible conv => whnf); exact trivial) | omega | assumption | exact Eq.refl _ | exact Nat.zero_le _ | (simp only [List.length_map, List.length_append, List.length_cons, List.length_nil, List.length_singleton]; omega))); (with_reducible conv => whnf)) | (with_reducible refine g_flat ?_; (with_reducible conv => whnf)) | (with_reducible refine Eq.mpr u_forN ?_; (with_reducible conv => whnf)) | ((with_reducible apply g_S); (· (first | exact Eq.refl _ | (simp only [flatL_map, flatL_append_map, flatL_cons, flatL_nil, flatL_mapr, Option.map_some]; exact rfl))); (with_reducible conv => whnf)) | ((with_reducible refine g_t ?_ ?_); (· first | decide | exact Eq.refl _); (with_reducible conv => whnf)) | ((with_reducible refine g_f ?_ ?_); (· first | decide | exact Eq.refl _); (with_reducible conv => whnf)) | ((with_reducible apply g_F); (· (simp only [O.frz, frzL, frzL_map, frzL_append, frzL_mapr, List.nil_append]; exact rfl)); (with_reducible conv => whnf)))
  refine c_law_with.mpr ⟨⟨u, hp⟩, by omega, ?_⟩
  (with_reducible conv => whnf); repeat (first | ((with_reducible refine And.intro ?_ ?_); (· (first | ((with_reducible conv => whnf); exact trivial) | omega | assumption | exact Eq.refl _ | exact Nat.zero_le _ | (simp only [List.length_map, List.length_append, List.length_cons, List.length_nil, List.length_singleton]; omega))); (with_reducible conv => whnf)) | (with_reducible refine g_flat ?_; (with_reducible conv => whnf)) | (with_reducible refine Eq.mpr u_forN ?_; (with_reducible conv => whnf)) | ((with_reducible apply g_S); (· (first | exact Eq.refl _ | (simp only [flatL_map, flatL_append_map, flatL_cons, flatL_nil, flatL_mapr, Option.map_some]; exact rfl))); (with_reducible conv => whnf)) | ((with_reducible refine g_t ?_ ?_); (· first | decide | exact Eq.refl _); (with_reducible conv => whnf)) | ((with_reducible refine g_f ?_ ?_); (· first | decide | exact Eq.refl _); (with_reducible conv => whnf)) | ((with_reducible apply g_F); (· (simp only [O.frz, frzL, frzL_map, frzL_append, frzL_mapr, List.nil_append]; exact rfl)); (with_reducible conv => whnf)))
  refine told1 gt ?_
  rw [hp]
  simp only [wO, tD]
  (with_reducible conv => whnf); repeat (first | ((with_reducible refine And.intro ?_ ?_); (· (first | ((with_reducible conv => whnf); exact trivial) | omega | assumption | exact Eq.refl _ | exact Nat.zero_le _ | (simp only [List.length_map, List.length_append, List.length_cons, List.length_nil, List.length_singleton]; omega))); (with_reducible conv => whnf)) | (with_reducible refine g_flat ?_; (with_reducible conv => whnf)) | (with_reducible refine Eq.mpr u_forN ?_; (with_reducible conv => whnf)) | ((with_reducible apply g_S); (· (first | exact Eq.refl _ | (simp only [flatL_map, flatL_append_map, flatL_cons, flatL_nil, flatL_mapr, Option.map_some]; exact rfl))); (with_reducible conv => whnf)) | ((with_reducible refine g_t ?_ ?_); (· first | decide | exact Eq.refl _); (with_reducible conv => whnf)) | ((with_reducible refine g_f ?_ ?_); (· first | decide | exact Eq.refl _); (with_reducible conv => whnf)) | ((with_reducible apply g_F); (· (simp only [O.frz, frzL, frzL_map, frzL_append, frzL_mapr, List.nil_append]; exact rfl)); (with_reducible conv => whnf)))
  refine told2 gt go ?_
  rw [hp]
  simp only [wO, tD]
  (with_reducible conv => whnf); repeat (first | ((with_reducible refine And.intro ?_ ?_); (· (first | ((with_reducible conv => whnf); exact trivial) | omega | assumption | exact Eq.refl _ | exact Nat.zero_le _ | (simp only [List.length_map, List.length_append, List.length_cons, List.length_nil, List.length_singleton]; omega))); (with_reducible conv => whnf)) | (with_reducible refine g_flat ?_; (with_reducible conv => whnf)) | (with_reducible refine Eq.mpr u_forN ?_; (with_reducible conv => whnf)) | ((with_reducible apply g_S); (· (first | exact Eq.refl _ | (simp only [flatL_map, flatL_append_map, flatL_cons, flatL_nil, flatL_mapr, Option.map_some]; exact rfl))); (with_reducible conv => whnf)) | ((with_reducible refine g_t ?_ ?_); (· first | decide | exact Eq.refl _); (with_reducible conv => whnf)) | ((with_reducible refine g_f ?_ ?_); (· first | decide | exact Eq.refl _); (with_reducible conv => whnf)) | ((with_reducible apply g_F); (· (simp only [O.frz, frzL, frzL_map, frzL_append, frzL_mapr, List.nil_append]; exact rfl)); (with_reducible conv => whnf)))
  refine told2 gt gu ?_
  rw [hp]
  simp only [wO, e1, tD]
  (with_reducible conv => whnf); repeat (first | ((with_reducible refine And.intro ?_ ?_); (· (first | ((with_reducible conv => whnf); exact trivial) | omega | assumption | exact Eq.refl _ | exact Nat.zero_le _ | (simp only [List.length_map, List.length_append, List.length_cons, List.length_nil, List.length_singleton]; omega))); (with_reducible conv => whnf)) | (with_reducible refine g_flat ?_; (with_reducible conv => whnf)) | (with_reducible refine Eq.mpr u_forN ?_; (with_reducible conv => whnf)) | ((with_reducible apply g_S); (· (first | exact Eq.refl _ | (simp only [flatL_map, flatL_append_map, flatL_cons, flatL_nil, flatL_mapr, Option.map_some]; exact rfl))); (with_reducible conv => whnf)) | ((with_reducible refine g_t ?_ ?_); (· first | decide | exact Eq.refl _); (with_reducible conv => whnf)) | ((with_reducible refine g_f ?_ ?_); (· first | decide | exact Eq.refl _); (with_reducible conv => whnf)) | ((with_reducible apply g_F); (· (simp only [O.frz, frzL, frzL_map, frzL_append, frzL_mapr, List.nil_append]; exact rfl)); (with_reducible conv => whnf)))
  refine same_use (d := .lst [.lst [.str sTold, u.enc], .lst [.str sTold, (t.setAt p o).enc], .lst [.str sTold, t.enc]]) ?_ ?_ ?_
  · simp [-List.map_map, smb, smbL, smb_enc _ ou, smb_enc _ ot, smb_enc _ ga.1]
  · simp [-List.map_map, depth_enc]
    omega
  (with_reducible conv => whnf); repeat (first | ((with_reducible refine And.intro ?_ ?_); (· (first | ((with_reducible conv => whnf); exact trivial) | omega | assumption | exact Eq.refl _ | exact Nat.zero_le _ | (simp only [List.length_map, List.length_append, List.length_cons, List.length_nil, List.length_singleton]; omega))); (with_reducible conv => whnf)) | (with_reducible refine g_flat ?_; (with_reducible conv => whnf)) | (with_reducible refine Eq.mpr u_forN ?_; (with_reducible conv => whnf)) | ((with_reducible apply g_S); (· (first | exact Eq.refl _ | (simp only [flatL_map, flatL_append_map, flatL_cons, flatL_nil, flatL_mapr, Option.map_some]; exact rfl))); (with_reducible conv => whnf)) | ((with_reducible refine g_t ?_ ?_); (· first | decide | exact Eq.refl _); (with_reducible conv => whnf)) | ((with_reducible refine g_f ?_ ?_); (· first | decide | exact Eq.refl _); (with_reducible conv => whnf)) | ((with_reducible apply g_F); (· (simp only [O.frz, frzL, frzL_map, frzL_append, frzL_mapr, List.nil_append]; exact rfl)); (with_reducible conv => whnf)))
  refine told1 ga ?_
  rw [ha]
  simp only [wO, tD]
  (with_reducible conv => whnf); repeat (first | ((with_reducible refine And.intro ?_ ?_); (· (first | ((with_reducible conv => whnf); exact trivial) | omega | assumption | exact Eq.refl _ | exact Nat.zero_le _ | (simp only [List.length_map, List.length_append, List.length_cons, List.length_nil, List.length_singleton]; omega))); (with_reducible conv => whnf)) | (with_reducible refine g_flat ?_; (with_reducible conv => whnf)) | (with_reducible refine Eq.mpr u_forN ?_; (with_reducible conv => whnf)) | ((with_reducible apply g_S); (· (first | exact Eq.refl _ | (simp only [flatL_map, flatL_append_map, flatL_cons, flatL_nil, flatL_mapr, Option.map_some]; exact rfl))); (with_reducible conv => whnf)) | ((with_reducible refine g_t ?_ ?_); (· first | decide | exact Eq.refl _); (with_reducible conv => whnf)) | ((with_reducible refine g_f ?_ ?_); (· first | decide | exact Eq.refl _); (with_reducible conv => whnf)) | ((with_reducible apply g_F); (· (simp only [O.frz, frzL, frzL_map, frzL_append, frzL_mapr, List.nil_append]; exact rfl)); (with_reducible conv => whnf)))
  refine told2 ga gu ?_
  rw [ha]
  simp only [wO, e2, tD]
  (with_reducible conv => whnf); repeat (first | ((with_reducible refine And.intro ?_ ?_); (· (first | ((with_reducible conv => whnf); exact trivial) | omega | assumption | exact Eq.refl _ | exact Nat.zero_le _ | (simp only [List.length_map, List.length_append, List.length_cons, List.length_nil, List.length_singleton]; omega))); (with_reducible conv => whnf)) | (with_reducible refine g_flat ?_; (with_reducible conv => whnf)) | (with_reducible refine Eq.mpr u_forN ?_; (with_reducible conv => whnf)) | ((with_reducible apply g_S); (· (first | exact Eq.refl _ | (simp only [flatL_map, flatL_append_map, flatL_cons, flatL_nil, flatL_mapr, Option.map_some]; exact rfl))); (with_reducible conv => whnf)) | ((with_reducible refine g_t ?_ ?_); (· first | decide | exact Eq.refl _); (with_reducible conv => whnf)) | ((with_reducible refine g_f ?_ ?_); (· first | decide | exact Eq.refl _); (with_reducible conv => whnf)) | ((with_reducible apply g_F); (· (simp only [O.frz, frzL, frzL_map, frzL_append, frzL_mapr, List.nil_append]; exact rfl)); (with_reducible conv => whnf)))
  refine same_use (d := .lst [.lst [.str sTold, o.enc], .lst [.str sTold, t.enc]]) ?_ ?_ ?_
  · simp [-List.map_map, smb, smbL, smb_enc _ oo, smb_enc _ ot]
  · simp [-List.map_map, depth_enc]
    omega
  (with_reducible conv => whnf); repeat (first | ((with_reducible refine And.intro ?_ ?_); (· (first | ((with_reducible conv => whnf); exact trivial) | omega | assumption | exact Eq.refl _ | exact Nat.zero_le _ | (simp only [List.length_map, List.length_append, List.length_cons, List.length_nil, List.length_singleton]; omega))); (with_reducible conv => whnf)) | (with_reducible refine g_flat ?_; (with_reducible conv => whnf)) | (with_reducible refine Eq.mpr u_forN ?_; (with_reducible conv => whnf)) | ((with_reducible apply g_S); (· (first | exact Eq.refl _ | (simp only [flatL_map, flatL_append_map, flatL_cons, flatL_nil, flatL_mapr, Option.map_some]; exact rfl))); (with_reducible conv => whnf)) | ((with_reducible refine g_t ?_ ?_); (· first | decide | exact Eq.refl _); (with_reducible conv => whnf)) | ((with_reducible refine g_f ?_ ?_); (· first | decide | exact Eq.refl _); (with_reducible conv => whnf)) | ((with_reducible apply g_F); (· (simp only [O.frz, frzL, frzL_map, frzL_append, frzL_mapr, List.nil_append]; exact rfl)); (with_reducible conv => whnf)))
  refine c_places_right.mpr ⟨ga, by omega, ?_⟩
  (with_reducible conv => whnf); repeat (first | ((with_reducible refine And.intro ?_ ?_); (· (first | ((with_reducible conv => whnf); exact trivial) | omega | assumption | exact Eq.refl _ | exact Nat.zero_le _ | (simp only [List.length_map, List.length_append, List.length_cons, List.length_nil, List.length_singleton]; omega))); (with_reducible conv => whnf)) | (with_reducible refine g_flat ?_; (with_reducible conv => whnf)) | (with_reducible refine Eq.mpr u_forN ?_; (with_reducible conv => whnf)) | ((with_reducible apply g_S); (· (first | exact Eq.refl _ | (simp only [flatL_map, flatL_append_map, flatL_cons, flatL_nil, flatL_mapr, Option.map_some]; exact rfl))); (with_reducible conv => whnf)) | ((with_reducible refine g_t ?_ ?_); (· first | decide | exact Eq.refl _); (with_reducible conv => whnf)) | ((with_reducible refine g_f ?_ ?_); (· first | decide | exact Eq.refl _); (with_reducible conv => whnf)) | ((with_reducible apply g_F); (· (simp only [O.frz, frzL, frzL_map, frzL_append, frzL_mapr, List.nil_append]; exact rfl)); (with_reducible conv => whnf)))
  refine c_law_places.mpr ⟨by omega, by omega, ?_⟩
  (with_reducible conv => whnf); repeat (first | ((with_reducible refine And.intro ?_ ?_); (· (first | ((with_reducible conv => whnf); exact trivial) | omega | assumption | exact Eq.refl _ | exact Nat.zero_le _ | (simp only [List.length_map, List.length_append, List.length_cons, List.length_nil, List.length_singleton]; omega))); (with_reducible conv => whnf)) | (with_reducible refine g_flat ?_; (with_reducible conv => whnf)) | (with_reducible refine Eq.mpr u_forN ?_; (with_reducible conv => whnf)) | ((with_reducible apply g_S); (· (first | exact Eq.refl _ | (simp only [flatL_map, flatL_append_map, flatL_cons, flatL_nil, flatL_mapr, Option.map_some]; exact rfl))); (with_reducible conv => whnf)) | ((with_reducible refine g_t ?_ ?_); (· first | decide | exact Eq.refl _); (with_reducible conv => whnf)) | ((with_reducible refine g_f ?_ ?_); (· first | decide | exact Eq.refl _); (with_reducible conv => whnf)) | ((with_reducible apply g_F); (· (simp only [O.frz, frzL, frzL_map, frzL_append, frzL_mapr, List.nil_append]; exact rfl)); (with_reducible conv => whnf)))
  refine lcR_map (F := fun d => match d with | .tup [p, _] => p | _ => .non) _ _ (fun d hd R hR => ?_) (by simp [-List.map_map, walkT_len]; omega) ?_
  · obtain ⟨q, hq, rfl⟩ := List.mem_map.mp hd
    simp only [pr]
    (with_reducible conv => whnf); repeat (first | ((with_reducible refine And.intro ?_ ?_); (· (first | ((with_reducible conv => whnf); exact trivial) | omega | assumption | exact Eq.refl _ | exact Nat.zero_le _ | (simp only [List.length_map, List.length_append, List.length_cons, List.length_nil, List.length_singleton]; omega))); (with_reducible conv => whnf)) | (with_reducible refine g_flat ?_; (with_reducible conv => whnf)) | (with_reducible refine Eq.mpr u_forN ?_; (with_reducible conv => whnf)) | ((with_reducible apply g_S); (· (first | exact Eq.refl _ | (simp only [flatL_map, flatL_append_map, flatL_cons, flatL_nil, flatL_mapr, Option.map_some]; exact rfl))); (with_reducible conv => whnf)) | ((with_reducible refine g_t ?_ ?_); (· first | decide | exact Eq.refl _); (with_reducible conv => whnf)) | ((with_reducible refine g_f ?_ ?_); (· first | decide | exact Eq.refl _); (with_reducible conv => whnf)) | ((with_reducible apply g_F); (· (simp only [O.frz, frzL, frzL_map, frzL_append, frzL_mapr, List.nil_append]; exact rfl)); (with_reducible conv => whnf)))
    exact hR _ rfl
  have e3 : ((walkT [] u).map pr).map (fun d => match d with | .tup [p, _] => p | _ => D.non) = placesD u := by rw [List.map_map]; rfl
  rw [List.nil_append, e3]
  (with_reducible conv => whnf); repeat (first | ((with_reducible refine And.intro ?_ ?_); (· (first | ((with_reducible conv => whnf); exact trivial) | omega | assumption | exact Eq.refl _ | exact Nat.zero_le _ | (simp only [List.length_map, List.length_append, List.length_cons, List.length_nil, List.length_singleton]; omega))); (with_reducible conv => whnf)) | (with_reducible refine g_flat ?_; (with_reducible conv => whnf)) | (with_reducible refine Eq.mpr u_forN ?_; (with_reducible conv => whnf)) | ((with_reducible apply g_S); (· (first | exact Eq.refl _ | (simp only [flatL_map, flatL_append_map, flatL_cons, flatL_nil, flatL_mapr, Option.map_some]; exact rfl))); (with_reducible conv => whnf)) | ((with_reducible refine g_t ?_ ?_); (· first | decide | exact Eq.refl _); (with_reducible conv => whnf)) | ((with_reducible refine g_f ?_ ?_); (· first | decide | exact Eq.refl _); (with_reducible conv => whnf)) | ((with_reducible apply g_F); (· (simp only [O.frz, frzL, frzL_map, frzL_append, frzL_mapr, List.nil_append]; exact rfl)); (with_reducible conv => whnf)))
  have lu := walkT_len u []
  have lpu : (placesD u).length = u.size := by simp [-List.map_map, placesD, lu]
  (with_reducible conv => whnf); repeat (first | ((with_reducible refine And.intro ?_ ?_); (· (first | ((with_reducible conv => whnf); exact trivial) | omega | assumption | exact Eq.refl _ | exact Nat.zero_le _ | (simp only [List.length_map, List.length_append, List.length_cons, List.length_nil, List.length_singleton]; omega))); (with_reducible conv => whnf)) | (with_reducible refine g_flat ?_; (with_reducible conv => whnf)) | (with_reducible refine Eq.mpr u_forN ?_; (with_reducible conv => whnf)) | ((with_reducible apply g_S); (· (first | exact Eq.refl _ | (simp only [flatL_map, flatL_append_map, flatL_cons, flatL_nil, flatL_mapr, Option.map_some]; exact rfl))); (with_reducible conv => whnf)) | ((with_reducible refine g_t ?_ ?_); (· first | decide | exact Eq.refl _); (with_reducible conv => whnf)) | ((with_reducible refine g_f ?_ ?_); (· first | decide | exact Eq.refl _); (with_reducible conv => whnf)) | ((with_reducible apply g_F); (· (simp only [O.frz, frzL, frzL_map, frzL_append, frzL_mapr, List.nil_append]; exact rfl)); (with_reducible conv => whnf)))
  refine pick_use hB4 (by omega) (fun z => ?_) (by omega) fun d xs5 hd5 hB5 => ?_
  · rw [z] at lpu
    have := size_pos u
    simp [-List.map_map] at lpu
    omega
  obtain ⟨r, hr, rfl⟩ := List.mem_map.mp hd5
  obtain ⟨q, v⟩ := r
  have hq := (rows_at u).1 (q, v) hr
  simp only at hq
  have sq := at_size q u v hq
  have s2 := set_size q u o
  have g2 : (u.setAt q o).good := ⟨s2.2.2 ou oo, by omega⟩
  have hpq := at_app p q t u hp
  rw [hq] at hpq
  have e4 := set_app p q t u o hp
  have s3 := set_size (p ++ q) t o
  have g3 : (t.setAt (p ++ q) o).good := ⟨s3.2.2 ot oo, by omega⟩
  (with_reducible conv => whnf); repeat (first | ((with_reducible refine And.intro ?_ ?_); (· (first | ((with_reducible conv => whnf); exact trivial) | omega | assumption | exact Eq.refl _ | exact Nat.zero_le _ | (simp only [List.length_map, List.length_append, List.length_cons, List.length_nil, List.length_singleton]; omega))); (with_reducible conv => whnf)) | (with_reducible refine g_flat ?_; (with_reducible conv => whnf)) | (with_reducible refine Eq.mpr u_forN ?_; (with_reducible conv => whnf)) | ((with_reducible apply g_S); (· (first | exact Eq.refl _ | (simp only [flatL_map, flatL_append_map, flatL_cons, flatL_nil, flatL_mapr, Option.map_some]; exact rfl))); (with_reducible conv => whnf)) | ((with_reducible refine g_t ?_ ?_); (· first | decide | exact Eq.refl _); (with_reducible conv => whnf)) | ((with_reducible refine g_f ?_ ?_); (· first | decide | exact Eq.refl _); (with_reducible conv => whnf)) | ((with_reducible apply g_F); (· (simp only [O.frz, frzL, frzL_map, frzL_append, frzL_mapr, List.nil_append]; exact rfl)); (with_reducible conv => whnf)))
  refine told2 gu go ?_
  rw [hq]
  simp only [wO, tD]
  (with_reducible conv => whnf); repeat (first | ((with_reducible refine And.intro ?_ ?_); (· (first | ((with_reducible conv => whnf); exact trivial) | omega | assumption | exact Eq.refl _ | exact Nat.zero_le _ | (simp only [List.length_map, List.length_append, List.length_cons, List.length_nil, List.length_singleton]; omega))); (with_reducible conv => whnf)) | (with_reducible refine g_flat ?_; (with_reducible conv => whnf)) | (with_reducible refine Eq.mpr u_forN ?_; (with_reducible conv => whnf)) | ((with_reducible apply g_S); (· (first | exact Eq.refl _ | (simp only [flatL_map, flatL_append_map, flatL_cons, flatL_nil, flatL_mapr, Option.map_some]; exact rfl))); (with_reducible conv => whnf)) | ((with_reducible refine g_t ?_ ?_); (· first | decide | exact Eq.refl _); (with_reducible conv => whnf)) | ((with_reducible refine g_f ?_ ?_); (· first | decide | exact Eq.refl _); (with_reducible conv => whnf)) | ((with_reducible apply g_F); (· (simp only [O.frz, frzL, frzL_map, frzL_append, frzL_mapr, List.nil_append]; exact rfl)); (with_reducible conv => whnf)))
  refine c_law_with.mpr ⟨⟨v, hpq⟩, by simp [-List.map_map]; omega, ?_⟩
  (with_reducible conv => whnf); repeat (first | ((with_reducible refine And.intro ?_ ?_); (· (first | ((with_reducible conv => whnf); exact trivial) | omega | assumption | exact Eq.refl _ | exact Nat.zero_le _ | (simp only [List.length_map, List.length_append, List.length_cons, List.length_nil, List.length_singleton]; omega))); (with_reducible conv => whnf)) | (with_reducible refine g_flat ?_; (with_reducible conv => whnf)) | (with_reducible refine Eq.mpr u_forN ?_; (with_reducible conv => whnf)) | ((with_reducible apply g_S); (· (first | exact Eq.refl _ | (simp only [flatL_map, flatL_append_map, flatL_cons, flatL_nil, flatL_mapr, Option.map_some]; exact rfl))); (with_reducible conv => whnf)) | ((with_reducible refine g_t ?_ ?_); (· first | decide | exact Eq.refl _); (with_reducible conv => whnf)) | ((with_reducible refine g_f ?_ ?_); (· first | decide | exact Eq.refl _); (with_reducible conv => whnf)) | ((with_reducible apply g_F); (· (simp only [O.frz, frzL, frzL_map, frzL_append, frzL_mapr, List.nil_append]; exact rfl)); (with_reducible conv => whnf)))
  refine told2 gt g2 ?_
  rw [hp]
  simp only [wO, ← e4, tD]
  (with_reducible conv => whnf); repeat (first | ((with_reducible refine And.intro ?_ ?_); (· (first | ((with_reducible conv => whnf); exact trivial) | omega | assumption | exact Eq.refl _ | exact Nat.zero_le _ | (simp only [List.length_map, List.length_append, List.length_cons, List.length_nil, List.length_singleton]; omega))); (with_reducible conv => whnf)) | (with_reducible refine g_flat ?_; (with_reducible conv => whnf)) | (with_reducible refine Eq.mpr u_forN ?_; (with_reducible conv => whnf)) | ((with_reducible apply g_S); (· (first | exact Eq.refl _ | (simp only [flatL_map, flatL_append_map, flatL_cons, flatL_nil, flatL_mapr, Option.map_some]; exact rfl))); (with_reducible conv => whnf)) | ((with_reducible refine g_t ?_ ?_); (· first | decide | exact Eq.refl _); (with_reducible conv => whnf)) | ((with_reducible refine g_f ?_ ?_); (· first | decide | exact Eq.refl _); (with_reducible conv => whnf)) | ((with_reducible apply g_F); (· (simp only [O.frz, frzL, frzL_map, frzL_append, frzL_mapr, List.nil_append]; exact rfl)); (with_reducible conv => whnf)))
  refine told2 gt go ?_
  rw [hpq]
  simp only [wO, tD]
  (with_reducible conv => whnf); repeat (first | ((with_reducible refine And.intro ?_ ?_); (· (first | ((with_reducible conv => whnf); exact trivial) | omega | assumption | exact Eq.refl _ | exact Nat.zero_le _ | (simp only [List.length_map, List.length_append, List.length_cons, List.length_nil, List.length_singleton]; omega))); (with_reducible conv => whnf)) | (with_reducible refine g_flat ?_; (with_reducible conv => whnf)) | (with_reducible refine Eq.mpr u_forN ?_; (with_reducible conv => whnf)) | ((with_reducible apply g_S); (· (first | exact Eq.refl _ | (simp only [flatL_map, flatL_append_map, flatL_cons, flatL_nil, flatL_mapr, Option.map_some]; exact rfl))); (with_reducible conv => whnf)) | ((with_reducible refine g_t ?_ ?_); (· first | decide | exact Eq.refl _); (with_reducible conv => whnf)) | ((with_reducible refine g_f ?_ ?_); (· first | decide | exact Eq.refl _); (with_reducible conv => whnf)) | ((with_reducible apply g_F); (· (simp only [O.frz, frzL, frzL_map, frzL_append, frzL_mapr, List.nil_append]; exact rfl)); (with_reducible conv => whnf)))
  refine same_use (d := .lst [.lst [.str sTold, (t.setAt (p ++ q) o).enc], .lst [.str sTold, (t.setAt (p ++ q) o).enc]]) ?_ ?_ ?_
  · simp [-List.map_map, smb, smbL, smb_enc _ g3.1]
  · simp [-List.map_map, depth_enc]
    omega
  (with_reducible conv => whnf); repeat (first | ((with_reducible refine And.intro ?_ ?_); (· (first | ((with_reducible conv => whnf); exact trivial) | omega | assumption | exact Eq.refl _ | exact Nat.zero_le _ | (simp only [List.length_map, List.length_append, List.length_cons, List.length_nil, List.length_singleton]; omega))); (with_reducible conv => whnf)) | (with_reducible refine g_flat ?_; (with_reducible conv => whnf)) | (with_reducible refine Eq.mpr u_forN ?_; (with_reducible conv => whnf)) | ((with_reducible apply g_S); (· (first | exact Eq.refl _ | (simp only [flatL_map, flatL_append_map, flatL_cons, flatL_nil, flatL_mapr, Option.map_some]; exact rfl))); (with_reducible conv => whnf)) | ((with_reducible refine g_t ?_ ?_); (· first | decide | exact Eq.refl _); (with_reducible conv => whnf)) | ((with_reducible refine g_f ?_ ?_); (· first | decide | exact Eq.refl _); (with_reducible conv => whnf)) | ((with_reducible apply g_F); (· (simp only [O.frz, frzL, frzL_map, frzL_append, frzL_mapr, List.nil_append]; exact rfl)); (with_reducible conv => whnf)))
  exact h _ (hB5.mono (by omega))
end Law
end

section
set_option Elab.async false
set_option linter.all false
set_option maxRecDepth 100000
set_option maxHeartbeats 2000000
namespace Law
open PySem PySem.Spec L2 PyProof.Rows DL

/-! ### two places apart -/
theorem cut_take {α : Type} (l : List α) (k : Nat) : cutL l none (some (k : Int)) = l.take k := by
  simp only [cutL, HT.sIx_none, HT.sIx_nat, List.drop_zero, Nat.sub_zero]
  rw [List.take_eq_take_iff]
  omega
theorem cut_drop {α : Type} (l : List α) (k : Nat) : cutL l (some (k : Int)) none = l.drop k := by
  simp only [cutL, HT.sIx_none, HT.sIx_nat]
  by_cases h : k ≤ l.length
  · rw [Nat.min_eq_left h, List.take_of_length_le (by rw [List.length_drop]; omega)]
  · rw [Nat.min_eq_right (by omega), List.drop_length, List.take_nil, List.drop_of_length_le (by omega)]
theorem take_pre {l m : List Nat} (h : l.take m.length = m) : m <+: l := by rw [← h]; exact List.take_prefix _ _
theorem pre_take {l m : List Nat} (h : m <+: l) : l.take m.length = m := by
  obtain ⟨r, rfl⟩ := h
  rw [List.take_left]
def s__law_two_right : PSpM := fun xs ds Q => ∃ (k : Nat) (t : Tm) (b : Bool), Bx k xs ∧ k + 40 ≤ 1000000 ∧ t.ok ∧ t.size ≤ 50 ∧ ds = [t.enc, .lst ((walkT [] t).map pr), .bl b] ∧ ∀ xs', Bx (k + 40) xs' → Q (.d (.bl true)) xs'
theorem len__law_two_right : ∀ xs ds Qp, s__law_two_right xs ds Qp → ds.length + 1 = 4 := fun xs ds Q ⟨_, _, _, _, _, _, _, e, _⟩ => by rw [e]; rfl
abbrev N__law_two_right : List Str := ["box", "term", "rows", "named", "one", "other", "first", "second", "due", "ways"]
def b__law_two_right : PTS := (pSeq (pPar 4 5 (pLCons (pOp fIx (pGive (pCallM s__law_pick 0 (pCons (pVar 2) pNil))) (pC (.int (0)))) (pLCons (pOp fIx (pGive (pCallM s__law_pick 0 (pCons (pVar 2) pNil))) (pC (.int (0)))) pLNil)))
    (pSeq (pIf (pOr (pTest (pOp fEq (pSl fSl (pVar 4) pNoPart (pPart (pUn fLen (pVar 5)))) (pVar 5))) (pTest (pOp fEq (pSl fSl (pVar 5) pNoPart (pPart (pUn fLen (pVar 4)))) (pVar 4)))) (pRet (pC (.bl true))) pNext)
    (pSeq (pPar 6 7 (pLCons (pGive (pCallM s__law_nested 0 (pCons (pC (.int (4))) pNil))) (pLCons (pTup (pCons (pC (.str [118, 97, 114])) (pCons (pGive (pCallM s__law_pick 0 (pCons (pGive (pLst (pLCons (pC (.str [120])) (pLCons (pC (.str [121])) (pLCons (pC (.str [122, 122])) pLNil))))) pNil))) pNil))) pLNil)))
    (pSeq (pAsg (pGive (pCallV (s__law_with 110) (pCons (pGive (pCallV (s__law_with 110) (pCons (pVar 1) (pCons (pVar 4) (pCons (pVar 6) pNil))))) (pCons (pVar 5) (pCons (pVar 7) pNil))))) (pgName 8))
    (pSeq (pAsg (pGive (pLst (pLCons (pCallV s__law_told (pCons (pC (.int (2))) (pCons (pGive (pLst (pLCons (pOp fIx (pGive (pCallV s__law_told (pCons (pC (.int (2))) (pCons (pGive (pLst (pLCons (pVar 1) (pLCons (pVar 4) (pLCons (pVar 6) pLNil))))) (pCons (pVar 3) pNil))))) (pC (.int (1)))) (pLCons (pVar 5) (pLCons (pVar 7) pLNil))))) (pCons (pNotV (pVar 3)) pNil)))) (pLCons (pCallV s__law_told (pCons (pC (.int (2))) (pCons (pGive (pLst (pLCons (pOp fIx (pGive (pCallV s__law_told (pCons (pC (.int (2))) (pCons (pGive (pLst (pLCons (pVar 1) (pLCons (pVar 5) (pLCons (pVar 7) pLNil))))) (pCons (pVar 3) pNil))))) (pC (.int (1)))) (pLCons (pVar 4) (pLCons (pVar 6) pLNil))))) (pCons (pVar 3) pNil)))) pLNil)))) (pgName 9))
    (pRet (pCallV (s__law_same 110) (pCons (pVar 9) (pCons (pGive (pOp fMul (pLst (pLCons (pGive (pLst (pLCons (pC (.str [116, 111, 108, 100])) (pLCons (pVar 8) pLNil)))) pLNil)) (pC (.int (2))))) pNil)))))))))

theorem pure__law_two_right : ∀ xs ds Qp, s__law_two_right xs ds Qp → b__law_two_right (endsM Qp) (envM 10 xs ds) := fun xs ds Q ⟨k, t, b, hB, hk, ot, st, e, h⟩ => by
  subst e
  have lt := walkT_len t []
  have sp := size_pos t
  have td := size_depth t
  have ne : (walkT [] t).map pr ≠ [] := fun z => by
    have := congrArg List.length z
    simp only [List.length_map, List.length_nil] at this
    omega
  simp only [envV, envM, List.map_cons, List.map_nil, List.cons_append, List.nil_append, List.length_cons, List.length_nil, List.reduceReplicate, Nat.reduceAdd, Nat.reduceSub]
  unfold b__law_two_right
  simp only [e_Var, e_Bor, e_Mov, e_Frz, e_C, e_Give, e_Op, e_Un, e_Nil, e_Cons, e_Tup, e_LNil, e_LCons, e_Lst, e_CallV, e_CallV0, e_CallVK, e_CallM, e_CallB, e_Next, e_Seq, e_Break, e_Cont, e_Drop, e_Ret, e_RetN, e_If, e_gName, e_Asg, e_gNil, e_gCons, e_gTup, e_Test, e_And, e_Or, e_NotT, e_AndV, e_OrV, e_NotV, e_IfE, e_NoPart, e_Part, e_Sl, e_IAny, e_For, e_While, e_Rng1, e_IZip, e_Lc, e_Yes, e_Append, e_Pop, e_PopAt, e_Extend, e_Reverse, e_SetItem, e_Aug, e_Par, e_SIndex, e_Isi, e_DispC, e_DGet2, e_Cn, e_Chain, e_Raise, e_TryAs, e_Xf, e_Append2, e_Reverse2, e_Pop2, h_Sub, h_FdivW, h_Mod, h_Pow, h_Lt, h_Le, h_Gt, h_Ge, h_Iadd, h_Isub, h_Neg, h_Abs, h_Int, h_Len, h_Sum, h_All, h_Any, h_List, h_Tuple, h_Add, h_Mul, h_Ix, h_Sl, h_Rev, h_Is, h_Not, h_Eq, h_Ne, h_In, h_Nin, e_endsV, e_endsM, h_Max2, h_Min2]
  (with_reducible conv => whnf); repeat (first | ((with_reducible refine And.intro ?_ ?_); (· (first | ((with_reducible conv => whnf); exact trivial) | omega | assumption | exact Eq.refl _ | exact Nat.zero_le _ | (simp only [List.length_map, List.length_append, List.length_cons, List.length_nil, List.length_singleton]; omega))); (with_reducible conv => whnf)) | (with_reducible refine g_flat ?_; (with_reducible conv => whnf)) | (with_reducible refine Eq.mpr u_forN ?_; (with_reducible conv => whnf)) | ((with_reducible apply g_S); (· (first | exact Eq.refl _ | (simp only [flatL_map, flatL_append_map, flatL_cons, flatL_nil, flatL_mapr, Option.map_some]; exact rfl))); (with_reducible conv => whnf)) | ((with_reducible refine g_t ?_ ?_); (· first | decide | exact Eq.refl _); (with_reducible conv => whnf)) | ((with_reducible refine g_f ?_ ?_); (· first | decide | exact Eq.refl _); (with_reducible conv => whnf)) | ((with_reducible apply g_F); (· (simp only [O.frz, frzL, frzL_map, frzL_append, frzL_mapr, List.nil_append]; exact rfl)); (with_reducible conv => whnf)))
  refine pick_use hB (by omega) ne (by simp; omega) fun d xs1 hd hB1 => ?_
  obtain ⟨⟨p, u⟩, hr, rfl⟩ := List.mem_map.mp hd
  have hp := (rows_at t).1 _ hr
  simp only [pr]
  (with_reducible conv => whnf); repeat (first | ((with_reducible refine And.intro ?_ ?_); (· (first | ((with_reducible conv => whnf); exact trivial) | omega | assumption | exact Eq.refl _ | exact Nat.zero_le _ | (simp only [List.length_map, List.length_append, List.length_cons, List.length_nil, List.length_singleton]; omega))); (with_reducible conv => whnf)) | (with_reducible refine g_flat ?_; (with_reducible conv => whnf)) | (with_reducible refine Eq.mpr u_forN ?_; (with_reducible conv => whnf)) | ((with_reducible apply g_S); (· (first | exact Eq.refl _ | (simp only [flatL_map, flatL_append_map, flatL_cons, flatL_nil, flatL_mapr, Option.map_some]; exact rfl))); (with_reducible conv => whnf)) | ((with_reducible refine g_t ?_ ?_); (· first | decide | exact Eq.refl _); (with_reducible conv => whnf)) | ((with_reducible refine g_f ?_ ?_); (· first | decide | exact Eq.refl _); (with_reducible conv => whnf)) | ((with_reducible apply g_F); (· (simp only [O.frz, frzL, frzL_map, frzL_append, frzL_mapr, List.nil_append]; exact rfl)); (with_reducible conv => whnf)))
  refine pick_use hB1 (by omega) ne (by simp; omega) fun d xs2 hd2 hB2 => ?_
  obtain ⟨⟨q, v⟩, hr2, rfl⟩ := List.mem_map.mp hd2
  have hq := (rows_at t).1 _ hr2
  simp only at hp hq
  simp only [pr]
  (with_reducible conv => whnf); repeat (first | ((with_reducible refine And.intro ?_ ?_); (· (first | ((with_reducible conv => whnf); exact trivial) | omega | assumption | exact Eq.refl _ | exact Nat.zero_le _ | (simp only [List.length_map, List.length_append, List.length_cons, List.length_nil, List.length_singleton]; omega))); (with_reducible conv => whnf)) | (with_reducible refine g_flat ?_; (with_reducible conv => whnf)) | (with_reducible refine Eq.mpr u_forN ?_; (with_reducible conv => whnf)) | ((with_reducible apply g_S); (· (first | exact Eq.refl _ | (simp only [flatL_map, flatL_append_map, flatL_cons, flatL_nil, flatL_mapr, Option.map_some]; exact rfl))); (with_reducible conv => whnf)) | ((with_reducible refine g_t ?_ ?_); (· first | decide | exact Eq.refl _); (with_reducible conv => whnf)) | ((with_reducible refine g_f ?_ ?_); (· first | decide | exact Eq.refl _); (with_reducible conv => whnf)) | ((with_reducible apply g_F); (· (simp only [O.frz, frzL, frzL_map, frzL_append, frzL_mapr, List.nil_append]; exact rfl)); (with_reducible conv => whnf)))
  have su := at_size p t u hp
  have sv := at_size q t v hq
  rw [cut_take]
  refine g_cut (fun c => ?_) fun c => ?_
  · (with_reducible conv => whnf); repeat (first | ((with_reducible refine And.intro ?_ ?_); (· (first | ((with_reducible conv => whnf); exact trivial) | omega | assumption | exact Eq.refl _ | exact Nat.zero_le _ | (simp only [List.length_map, List.length_append, List.length_cons, List.length_nil, List.length_singleton]; omega))); (with_reducible conv => whnf)) | (with_reducible refine g_flat ?_; (with_reducible conv => whnf)) | (with_reducible refine Eq.mpr u_forN ?_; (with_reducible conv => whnf)) | ((with_reducible apply g_S); (· (first | exact Eq.refl _ | (simp only [flatL_map, flatL_append_map, flatL_cons, flatL_nil, flatL_mapr, Option.map_some]; exact rfl))); (with_reducible conv => whnf)) | ((with_reducible refine g_t ?_ ?_); (· first | decide | exact Eq.refl _); (with_reducible conv => whnf)) | ((with_reducible refine g_f ?_ ?_); (· first | decide | exact Eq.refl _); (with_reducible conv => whnf)) | ((with_reducible apply g_F); (· (simp only [O.frz, frzL, frzL_map, frzL_append, frzL_mapr, List.nil_append]; exact rfl)); (with_reducible conv => whnf)))
    exact h _ (hB2.mono (by omega))
  have np : ¬ q <+: p := fun z => by simp [pre_take z] at c
  (with_reducible conv => whnf); repeat (first | ((with_reducible refine And.intro ?_ ?_); (· (first | ((with_reducible conv => whnf); exact trivial) | omega | assumption | exact Eq.refl _ | exact Nat.zero_le _ | (simp only [List.length_map, List.length_append, List.length_cons, List.length_nil, List.length_singleton]; omega))); (with_reducible conv => whnf)) | (with_reducible refine g_flat ?_; (with_reducible conv => whnf)) | (with_reducible refine Eq.mpr u_forN ?_; (with_reducible conv => whnf)) | ((with_reducible apply g_S); (· (first | exact Eq.refl _ | (simp only [flatL_map, flatL_append_map, flatL_cons, flatL_nil, flatL_mapr, Option.map_some]; exact rfl))); (with_reducible conv => whnf)) | ((with_reducible refine g_t ?_ ?_); (· first | decide | exact Eq.refl _); (with_reducible conv => whnf)) | ((with_reducible refine g_f ?_ ?_); (· first | decide | exact Eq.refl _); (with_reducible conv => whnf)) | ((with_reducible apply g_F); (· (simp only [O.frz, frzL, frzL_map, frzL_append, frzL_mapr, List.nil_append]; exact rfl)); (with_reducible conv => whnf)))
  rw [cut_take]
  refine g_cut (fun c => ?_) fun c => ?_
  · (with_reducible conv => whnf); repeat (first | ((with_reducible refine And.intro ?_ ?_); (· (first | ((with_reducible conv => whnf); exact trivial) | omega | assumption | exact Eq.refl _ | exact Nat.zero_le _ | (simp only [List.length_map, List.length_append, List.length_cons, List.length_nil, List.length_singleton]; omega))); (with_reducible conv => whnf)) | (with_reducible refine g_flat ?_; (with_reducible conv => whnf)) | (with_reducible refine Eq.mpr u_forN ?_; (with_reducible conv => whnf)) | ((with_reducible apply g_S); (· (first | exact Eq.refl _ | (simp only [flatL_map, flatL_append_map, flatL_cons, flatL_nil, flatL_mapr, Option.map_some]; exact rfl))); (with_reducible conv => whnf)) | ((with_reducible refine g_t ?_ ?_); (· first | decide | exact Eq.refl _); (with_reducible conv => whnf)) | ((with_reducible refine g_f ?_ ?_); (· first | decide | exact Eq.refl _); (with_reducible conv => whnf)) | ((with_reducible apply g_F); (· (simp only [O.frz, frzL, frzL_map, frzL_append, frzL_mapr, List.nil_append]; exact rfl)); (with_reducible conv => whnf)))
    exact h _ (hB2.mono (by omega))
  have nq : ¬ p <+: q := fun z => by simp [pre_take z] at c
  (with_reducible conv => whnf); repeat (first | ((with_reducible refine And.intro ?_ ?_); (· (first | ((with_reducible conv => whnf); exact trivial) | omega | assumption | exact Eq.refl _ | exact Nat.zero_le _ | (simp only [List.length_map, List.length_append, List.length_cons, List.length_nil, List.length_singleton]; omega))); (with_reducible conv => whnf)) | (with_reducible refine g_flat ?_; (with_reducible conv => whnf)) | (with_reducible refine Eq.mpr u_forN ?_; (with_reducible conv => whnf)) | ((with_reducible apply g_S); (· (first | exact Eq.refl _ | (simp only [flatL_map, flatL_append_map, flatL_cons, flatL_nil, flatL_mapr, Option.map_some]; exact rfl))); (with_reducible conv => whnf)) | ((with_reducible refine g_t ?_ ?_); (· first | decide | exact Eq.refl _); (with_reducible conv => whnf)) | ((with_reducible refine g_f ?_ ?_); (· first | decide | exact Eq.refl _); (with_reducible conv => whnf)) | ((with_reducible apply g_F); (· (simp only [O.frz, frzL, frzL_map, frzL_append, frzL_mapr, List.nil_append]; exact rfl)); (with_reducible conv => whnf)))
  refine nested_use (size := 4) rfl hB2 (by omega) (by omega) (by omega) fun f xs3 of sf hB3 => ?_
  (with_reducible conv => whnf); repeat (first | ((with_reducible refine And.intro ?_ ?_); (· (first | ((with_reducible conv => whnf); exact trivial) | omega | assumption | exact Eq.refl _ | exact Nat.zero_le _ | (simp only [List.length_map, List.length_append, List.length_cons, List.length_nil, List.length_singleton]; omega))); (with_reducible conv => whnf)) | (with_reducible refine g_flat ?_; (with_reducible conv => whnf)) | (with_reducible refine Eq.mpr u_forN ?_; (with_reducible conv => whnf)) | ((with_reducible apply g_S); (· (first | exact Eq.refl _ | (simp only [flatL_map, flatL_append_map, flatL_cons, flatL_nil, flatL_mapr, Option.map_some]; exact rfl))); (with_reducible conv => whnf)) | ((with_reducible refine g_t ?_ ?_); (· first | decide | exact Eq.refl _); (with_reducible conv => whnf)) | ((with_reducible refine g_f ?_ ?_); (· first | decide | exact Eq.refl _); (with_reducible conv => whnf)) | ((with_reducible apply g_F); (· (simp only [O.frz, frzL, frzL_map, frzL_append, frzL_mapr, List.nil_append]; exact rfl)); (with_reducible conv => whnf)))
  refine pickS (l := [[120], [121], [122, 122]]) hB3 (by omega) (by simp) (by simp) (fun x hx => by
    simp only [List.mem_cons, List.not_mem_nil, or_false] at hx
    rcases hx with rfl | rfl | rfl
    · exact okn_x
    · exact okn_y
    · exact okn_zz) fun x xs4 ox hB4 => ?_
  (with_reducible conv => whnf); repeat (first | ((with_reducible refine And.intro ?_ ?_); (· (first | ((with_reducible conv => whnf); exact trivial) | omega | assumption | exact Eq.refl _ | exact Nat.zero_le _ | (simp only [List.length_map, List.length_append, List.length_cons, List.length_nil, List.length_singleton]; omega))); (with_reducible conv => whnf)) | (with_reducible refine g_flat ?_; (with_reducible conv => whnf)) | (with_reducible refine Eq.mpr u_forN ?_; (with_reducible conv => whnf)) | ((with_reducible apply g_S); (· (first | exact Eq.refl _ | (simp only [flatL_map, flatL_append_map, flatL_cons, flatL_nil, flatL_mapr, Option.map_some]; exact rfl))); (with_reducible conv => whnf)) | ((with_reducible refine g_t ?_ ?_); (· first | decide | exact Eq.refl _); (with_reducible conv => whnf)) | ((with_reducible refine g_f ?_ ?_); (· first | decide | exact Eq.refl _); (with_reducible conv => whnf)) | ((with_reducible apply g_F); (· (simp only [O.frz, frzL, frzL_map, frzL_append, frzL_mapr, List.nil_append]; exact rfl)); (with_reducible conv => whnf)))
  have so : (Tm.var x).ok := ox
  obtain ⟨a1, a2⟩ := apart p q t f (.var x) u v hp hq nq np
  obtain ⟨b1, b2⟩ := apart q p t (.var x) f v u hq hp np nq
  have s1 := set_size p t f
  have s2 := set_size q t (.var x)
  have s3 := set_size q (t.setAt p f) (.var x)
  have fd := size_depth f
  have e1 : (Tm.var x).size = 1 := rfl
  have e2 : (Tm.var x).depth = 1 := rfl
  have gt : t.good := ⟨ot, by omega⟩
  have gf : f.good := ⟨of, by omega⟩
  have gx : (Tm.var x).good := ⟨so, by omega⟩
  have g1 : (t.setAt p f).good := ⟨s1.2.2 ot of, by omega⟩
  have g2 : (t.setAt q (.var x)).good := ⟨s2.2.2 ot so, by omega⟩
  have g3 : ((t.setAt p f).setAt q (.var x)).good := ⟨s3.2.2 g1.1 so, by omega⟩
  refine c_law_with.mpr ⟨⟨u, hp⟩, by omega, ?_⟩
  (with_reducible conv => whnf); repeat (first | ((with_reducible refine And.intro ?_ ?_); (· (first | ((with_reducible conv => whnf); exact trivial) | omega | assumption | exact Eq.refl _ | exact Nat.zero_le _ | (simp only [List.length_map, List.length_append, List.length_cons, List.length_nil, List.length_singleton]; omega))); (with_reducible conv => whnf)) | (with_reducible refine g_flat ?_; (with_reducible conv => whnf)) | (with_reducible refine Eq.mpr u_forN ?_; (with_reducible conv => whnf)) | ((with_reducible apply g_S); (· (first | exact Eq.refl _ | (simp only [flatL_map, flatL_append_map, flatL_cons, flatL_nil, flatL_mapr, Option.map_some]; exact rfl))); (with_reducible conv => whnf)) | ((with_reducible refine g_t ?_ ?_); (· first | decide | exact Eq.refl _); (with_reducible conv => whnf)) | ((with_reducible refine g_f ?_ ?_); (· first | decide | exact Eq.refl _); (with_reducible conv => whnf)) | ((with_reducible apply g_F); (· (simp only [O.frz, frzL, frzL_map, frzL_append, frzL_mapr, List.nil_append]; exact rfl)); (with_reducible conv => whnf)))
  refine (c_law_with (o := .var x)).mpr ⟨⟨v, a1⟩, by omega, ?_⟩
  (with_reducible conv => whnf); repeat (first | ((with_reducible refine And.intro ?_ ?_); (· (first | ((with_reducible conv => whnf); exact trivial) | omega | assumption | exact Eq.refl _ | exact Nat.zero_le _ | (simp only [List.length_map, List.length_append, List.length_cons, List.length_nil, List.length_singleton]; omega))); (with_reducible conv => whnf)) | (with_reducible refine g_flat ?_; (with_reducible conv => whnf)) | (with_reducible refine Eq.mpr u_forN ?_; (with_reducible conv => whnf)) | ((with_reducible apply g_S); (· (first | exact Eq.refl _ | (simp only [flatL_map, flatL_append_map, flatL_cons, flatL_nil, flatL_mapr, Option.map_some]; exact rfl))); (with_reducible conv => whnf)) | ((with_reducible refine g_t ?_ ?_); (· first | decide | exact Eq.refl _); (with_reducible conv => whnf)) | ((with_reducible refine g_f ?_ ?_); (· first | decide | exact Eq.refl _); (with_reducible conv => whnf)) | ((with_reducible apply g_F); (· (simp only [O.frz, frzL, frzL_map, frzL_append, frzL_mapr, List.nil_append]; exact rfl)); (with_reducible conv => whnf)))
  refine told2 gt gf ?_
  rw [hp]
  simp only [wO, tD]
  (with_reducible conv => whnf); repeat (first | ((with_reducible refine And.intro ?_ ?_); (· (first | ((with_reducible conv => whnf); exact trivial) | omega | assumption | exact Eq.refl _ | exact Nat.zero_le _ | (simp only [List.length_map, List.length_append, List.length_cons, List.length_nil, List.length_singleton]; omega))); (with_reducible conv => whnf)) | (with_reducible refine g_flat ?_; (with_reducible conv => whnf)) | (with_reducible refine Eq.mpr u_forN ?_; (with_reducible conv => whnf)) | ((with_reducible apply g_S); (· (first | exact Eq.refl _ | (simp only [flatL_map, flatL_append_map, flatL_cons, flatL_nil, flatL_mapr, Option.map_some]; exact rfl))); (with_reducible conv => whnf)) | ((with_reducible refine g_t ?_ ?_); (· first | decide | exact Eq.refl _); (with_reducible conv => whnf)) | ((with_reducible refine g_f ?_ ?_); (· first | decide | exact Eq.refl _); (with_reducible conv => whnf)) | ((with_reducible apply g_F); (· (simp only [O.frz, frzL, frzL_map, frzL_append, frzL_mapr, List.nil_append]; exact rfl)); (with_reducible conv => whnf)))
  refine told2 (o := .var x) g1 gx ?_
  rw [a1]
  simp only [wO, tD]
  (with_reducible conv => whnf); repeat (first | ((with_reducible refine And.intro ?_ ?_); (· (first | ((with_reducible conv => whnf); exact trivial) | omega | assumption | exact Eq.refl _ | exact Nat.zero_le _ | (simp only [List.length_map, List.length_append, List.length_cons, List.length_nil, List.length_singleton]; omega))); (with_reducible conv => whnf)) | (with_reducible refine g_flat ?_; (with_reducible conv => whnf)) | (with_reducible refine Eq.mpr u_forN ?_; (with_reducible conv => whnf)) | ((with_reducible apply g_S); (· (first | exact Eq.refl _ | (simp only [flatL_map, flatL_append_map, flatL_cons, flatL_nil, flatL_mapr, Option.map_some]; exact rfl))); (with_reducible conv => whnf)) | ((with_reducible refine g_t ?_ ?_); (· first | decide | exact Eq.refl _); (with_reducible conv => whnf)) | ((with_reducible refine g_f ?_ ?_); (· first | decide | exact Eq.refl _); (with_reducible conv => whnf)) | ((with_reducible apply g_F); (· (simp only [O.frz, frzL, frzL_map, frzL_append, frzL_mapr, List.nil_append]; exact rfl)); (with_reducible conv => whnf)))
  refine told2 (o := .var x) gt gx ?_
  rw [hq]
  simp only [wO, tD]
  (with_reducible conv => whnf); repeat (first | ((with_reducible refine And.intro ?_ ?_); (· (first | ((with_reducible conv => whnf); exact trivial) | omega | assumption | exact Eq.refl _ | exact Nat.zero_le _ | (simp only [List.length_map, List.length_append, List.length_cons, List.length_nil, List.length_singleton]; omega))); (with_reducible conv => whnf)) | (with_reducible refine g_flat ?_; (with_reducible conv => whnf)) | (with_reducible refine Eq.mpr u_forN ?_; (with_reducible conv => whnf)) | ((with_reducible apply g_S); (· (first | exact Eq.refl _ | (simp only [flatL_map, flatL_append_map, flatL_cons, flatL_nil, flatL_mapr, Option.map_some]; exact rfl))); (with_reducible conv => whnf)) | ((with_reducible refine g_t ?_ ?_); (· first | decide | exact Eq.refl _); (with_reducible conv => whnf)) | ((with_reducible refine g_f ?_ ?_); (· first | decide | exact Eq.refl _); (with_reducible conv => whnf)) | ((with_reducible apply g_F); (· (simp only [O.frz, frzL, frzL_map, frzL_append, frzL_mapr, List.nil_append]; exact rfl)); (with_reducible conv => whnf)))
  refine told2 g2 gf ?_
  rw [b1]
  simp only [wO, tD, ← a2]
  (with_reducible conv => whnf); repeat (first | ((with_reducible refine And.intro ?_ ?_); (· (first | ((with_reducible conv => whnf); exact trivial) | omega | assumption | exact Eq.refl _ | exact Nat.zero_le _ | (simp only [List.length_map, List.length_append, List.length_cons, List.length_nil, List.length_singleton]; omega))); (with_reducible conv => whnf)) | (with_reducible refine g_flat ?_; (with_reducible conv => whnf)) | (with_reducible refine Eq.mpr u_forN ?_; (with_reducible conv => whnf)) | ((with_reducible apply g_S); (· (first | exact Eq.refl _ | (simp only [flatL_map, flatL_append_map, flatL_cons, flatL_nil, flatL_mapr, Option.map_some]; exact rfl))); (with_reducible conv => whnf)) | ((with_reducible refine g_t ?_ ?_); (· first | decide | exact Eq.refl _); (with_reducible conv => whnf)) | ((with_reducible refine g_f ?_ ?_); (· first | decide | exact Eq.refl _); (with_reducible conv => whnf)) | ((with_reducible apply g_F); (· (simp only [O.frz, frzL, frzL_map, frzL_append, frzL_mapr, List.nil_append]; exact rfl)); (with_reducible conv => whnf)))
  refine same_use (d := .lst [.lst [.str sTold, ((t.setAt p f).setAt q (.var x)).enc], .lst [.str sTold, ((t.setAt p f).setAt q (.var x)).enc]]) ?_ ?_ ?_
  · simp [smb, smbL, smb_enc _ g3.1]
  · simp [depth_enc]
    omega
  (with_reducible conv => whnf); repeat (first | ((with_reducible refine And.intro ?_ ?_); (· (first | ((with_reducible conv => whnf); exact trivial) | omega | assumption | exact Eq.refl _ | exact Nat.zero_le _ | (simp only [List.length_map, List.length_append, List.length_cons, List.length_nil, List.length_singleton]; omega))); (with_reducible conv => whnf)) | (with_reducible refine g_flat ?_; (with_reducible conv => whnf)) | (with_reducible refine Eq.mpr u_forN ?_; (with_reducible conv => whnf)) | ((with_reducible apply g_S); (· (first | exact Eq.refl _ | (simp only [flatL_map, flatL_append_map, flatL_cons, flatL_nil, flatL_mapr, Option.map_some]; exact rfl))); (with_reducible conv => whnf)) | ((with_reducible refine g_t ?_ ?_); (· first | decide | exact Eq.refl _); (with_reducible conv => whnf)) | ((with_reducible refine g_f ?_ ?_); (· first | decide | exact Eq.refl _); (with_reducible conv => whnf)) | ((with_reducible apply g_F); (· (simp only [O.frz, frzL, frzL_map, frzL_append, frzL_mapr, List.nil_append]; exact rfl)); (with_reducible conv => whnf)))
  exact h _ (hB4.mono (by omega))
end Law
end

section
set_option Elab.async false
set_option linter.all false
set_option maxRecDepth 100000
set_option maxHeartbeats 2000000
namespace Law
open PySem PySem.Spec L2 PyProof.Rows DL

/-! ### no places -/
def s__law_none_right : PSpM := fun xs ds Q => ∃ (k : Nat) (t : Tm) (b : Bool), Bx k xs ∧ k + 40 ≤ 1000000 ∧ t.ok ∧ t.size ≤ 50 ∧ ds = [t.enc, .lst ((walkT [] t).map pr), .bl b] ∧ ∀ xs', Bx (k + 40) xs' → Q (.d (.bl true)) xs'
theorem len__law_none_right : ∀ xs ds Qp, s__law_none_right xs ds Qp → ds.length + 1 = 4 := fun xs ds Q ⟨_, _, _, _, _, _, _, e, _⟩ => by rw [e]; rfl
abbrev N__law_none_right : List Str := ["box", "term", "rows", "named", "have", "place", "one", "turn", "odd", "which", "args", "told"]
def l1__law_none_right : PTS := (pSeq (pAsg (pGive (pCallV s__law_told (pCons (pVar 9) (pCons (pVar 10) (pCons (pVar 3) pNil))))) (pgName 11))
    (pSeq (pIf (pOr (pAnd (pTest (pOp fIn (pVar 8) (pVar 4))) (pTest (pOp fNe (pOp fIx (pVar 11) (pC (.int (0)))) (pC (.str [116, 111, 108, 100]))))) (pAnd (pTest (pOp fNin (pVar 8) (pVar 4))) (pNotT (pTest (pCallV (s__law_same 110) (pCons (pVar 11) (pCons (pGive (pLst (pLCons (pC (.str [112, 108, 97, 99, 101])) (pLCons (pVar 8) pLNil)))) pNil))))))) (pRet (pC (.bl false))) pNext)
    (pAsg (pNotV (pVar 3)) (pgName 3))))
theorem l1__law_none_right_eq {De : PEnds} {env : DL.Env} : l1__law_none_right De env = (pSeq (pAsg (pGive (pCallV s__law_told (pCons (pVar 9) (pCons (pVar 10) (pCons (pVar 3) pNil))))) (pgName 11))
    (pSeq (pIf (pOr (pAnd (pTest (pOp fIn (pVar 8) (pVar 4))) (pTest (pOp fNe (pOp fIx (pVar 11) (pC (.int (0)))) (pC (.str [116, 111, 108, 100]))))) (pAnd (pTest (pOp fNin (pVar 8) (pVar 4))) (pNotT (pTest (pCallV (s__law_same 110) (pCons (pVar 11) (pCons (pGive (pLst (pLCons (pC (.str [112, 108, 97, 99, 101])) (pLCons (pVar 8) pLNil)))) pNil))))))) (pRet (pC (.bl false))) pNext)
    (pAsg (pNotV (pVar 3)) (pgName 3)))) De env := rfl
def l2__law_none_right : PTS := (pSeq (pAsg (pGive (pOp fAdd (pCallM s__law_pick 0 (pCons (pVar 4) pNil)) (pCallM s__law_pick 0 (pCons (pGive (pLst (pLCons (pC (.str [98])) (pLCons (pC (.str [102])) (pLCons (pC (.str [97])) (pLCons (pC (.str [98, 98])) (pLCons (pC (.str [102, 97])) (pLCons (pC (.str [99])) (pLCons (pC (.str [66])) (pLCons (pC (.str [32])) pLNil)))))))))) pNil)))) (pgName 8))
    (pSeq (pAsg (pGive (pIfE (pTest (pOp fGt (pCallM s__law_take 0 (pCons (pC (.int (3))) pNil)) (pC (.int (0))))) (pVar 8) (pOp fAdd (pSl fSl (pVar 8) (pPart (pC (.int (1)))) pNoPart) (pSl fSl (pVar 8) pNoPart (pPart (pC (.int (1)))))))) (pgName 8))
    (pFor (pIAny (pTup (pCons (pTup (pCons (pC (.int (1))) (pCons (pGive (pLst (pLCons (pVar 1) (pLCons (pVar 8) pLNil)))) pNil))) (pCons (pTup (pCons (pC (.int (2))) (pCons (pGive (pLst (pLCons (pVar 1) (pLCons (pVar 8) (pLCons (pTup (pCons (pC (.str [118, 97, 114])) (pCons (pC (.str [120])) pNil))) pLNil))))) pNil))) pNil)))) (pgTup 2 (pgCons (pgName 9) (pgCons (pgName 10) pgNil))) l1__law_none_right)))
theorem l2__law_none_right_eq {De : PEnds} {env : DL.Env} : l2__law_none_right De env = (pSeq (pAsg (pGive (pOp fAdd (pCallM s__law_pick 0 (pCons (pVar 4) pNil)) (pCallM s__law_pick 0 (pCons (pGive (pLst (pLCons (pC (.str [98])) (pLCons (pC (.str [102])) (pLCons (pC (.str [97])) (pLCons (pC (.str [98, 98])) (pLCons (pC (.str [102, 97])) (pLCons (pC (.str [99])) (pLCons (pC (.str [66])) (pLCons (pC (.str [32])) pLNil)))))))))) pNil)))) (pgName 8))
    (pSeq (pAsg (pGive (pIfE (pTest (pOp fGt (pCallM s__law_take 0 (pCons (pC (.int (3))) pNil)) (pC (.int (0))))) (pVar 8) (pOp fAdd (pSl fSl (pVar 8) (pPart (pC (.int (1)))) pNoPart) (pSl fSl (pVar 8) pNoPart (pPart (pC (.int (1)))))))) (pgName 8))
    (pFor (pIAny (pTup (pCons (pTup (pCons (pC (.int (1))) (pCons (pGive (pLst (pLCons (pVar 1) (pLCons (pVar 8) pLNil)))) pNil))) (pCons (pTup (pCons (pC (.int (2))) (pCons (pGive (pLst (pLCons (pVar 1) (pLCons (pVar 8) (pLCons (pTup (pCons (pC (.str [118, 97, 114])) (pCons (pC (.str [120])) pNil))) pLNil))))) pNil))) pNil)))) (pgTup 2 (pgCons (pgName 9) (pgCons (pgName 10) pgNil))) l1__law_none_right))) De env := rfl
def b__law_none_right : PTS := (pSeq (pAsg (pGive (pLc (pIAny (pVar 2)) (pgTup 2 (pgCons (pgName 5) (pgCons (pgName 6) pgNil))) pYes (pVar 5) [5, 6])) (pgName 4))
    (pSeq (pFor (pRng1 (pC (.int (4)))) (pgName 7) l2__law_none_right)
    (pRet (pC (.bl true)))))

theorem plain_places (t : Tm) : plainL (placesD t) = true ∧ depthL (placesD t) = 0 := by
  unfold placesD
  generalize walkT [] t = l
  induction l with
  | nil => exact ⟨rfl, rfl⟩
  | cons q l ih => simp [D.plain, ih.1, ih.2]
theorem in_places (t : Tm) (p : List Nat) : inD (.str p) (placesD t) = (t.at? p).isSome := by
  rw [Bool.eq_iff_iff]
  simp only [inD, placesD, List.any_eq_true, List.mem_map]
  constructor
  · rintro ⟨z, ⟨q, hq, rfl⟩, hz⟩
    have e : q.1 = p := of_decide_eq_true hz
    rw [← e, (rows_at t).1 q hq]
    rfl
  · intro h
    cases e : t.at? p with
    | none => rw [e] at h; cases h
    | some u => exact ⟨_, ⟨_, (rows_at t).2 p u e, rfl⟩, decide_eq_true rfl⟩
theorem pure__law_none_right : ∀ xs ds Qp, s__law_none_right xs ds Qp → b__law_none_right (endsM Qp) (envM 12 xs ds) := fun xs ds Q ⟨k, t, b, hB, hk, ot, st, e, h⟩ => by
  subst e
  have lt := walkT_len t []
  have sp := size_pos t
  have td := size_depth t
  have gt : t.good := ⟨ot, by omega⟩
  have lp : (placesD t).length = t.size := by simp [placesD, lt]
  have ne : placesD t ≠ [] := fun z => by rw [z] at lp; simp only [List.length_nil] at lp; omega
  obtain ⟨p1, p2⟩ := plain_places t
  have p3 : depthL (placesD t) ≤ 60 := by omega
  have hpick : ∀ (n : Nat) (xs : List O) (P : O → List O → Prop), Bx n xs → n ≤ 1000000 → (∀ p x', p.length ≤ 50 → Bx (n + 1) x' → P (.d (.str p)) x') → s__law_pick xs [.lst (placesD t)] P := fun n xs P hB hn hP =>
    pick_use hB hn ne (by omega) fun d x' hd hB' => by
      obtain ⟨q, hq, rfl⟩ := List.mem_map.mp hd
      refine hP _ _ ?_ hB'
      have := at_size q.1 t q.2 ((rows_at t).1 q hq)
      omega
  simp only [envV, envM, List.map_cons, List.map_nil, List.cons_append, List.nil_append, List.length_cons, List.length_nil, List.reduceReplicate, Nat.reduceAdd, Nat.reduceSub]
  unfold b__law_none_right
  simp only [e_Var, e_Bor, e_Mov, e_Frz, e_C, e_Give, e_Op, e_Un, e_Nil, e_Cons, e_Tup, e_LNil, e_LCons, e_Lst, e_CallV, e_CallV0, e_CallVK, e_CallM, e_CallB, e_Next, e_Seq, e_Break, e_Cont, e_Drop, e_Ret, e_RetN, e_If, e_gName, e_Asg, e_gNil, e_gCons, e_gTup, e_Test, e_And, e_Or, e_NotT, e_AndV, e_OrV, e_NotV, e_IfE, e_NoPart, e_Part, e_Sl, e_IAny, e_For, e_While, e_Rng1, e_IZip, e_Lc, e_Yes, e_Append, e_Pop, e_PopAt, e_Extend, e_Reverse, e_SetItem, e_Aug, e_Par, e_SIndex, e_Isi, e_DispC, e_DGet2, e_Cn, e_Chain, e_Raise, e_TryAs, e_Xf, e_Append2, e_Reverse2, e_Pop2, h_Sub, h_FdivW, h_Mod, h_Pow, h_Lt, h_Le, h_Gt, h_Ge, h_Iadd, h_Isub, h_Neg, h_Abs, h_Int, h_Len, h_Sum, h_All, h_Any, h_List, h_Tuple, h_Add, h_Mul, h_Ix, h_Sl, h_Rev, h_Is, h_Not, h_Eq, h_Ne, h_In, h_Nin, e_endsV, e_endsM, h_Max2, h_Min2]
  (with_reducible conv => whnf); repeat (first | ((with_reducible refine And.intro ?_ ?_); (· (first | ((with_reducible conv => whnf); exact trivial) | omega | assumption | exact Eq.refl _ | exact Nat.zero_le _ | (simp only [List.length_map, List.length_append, List.length_cons, List.length_nil, List.length_singleton, List.length_reverse, List.length_drop, List.length_take, List.length_range, List.length_replicate, cut_tl, cut_hd, cut_take, cut_drop]; omega))); (with_reducible conv => whnf)) | (with_reducible refine g_flat ?_; (with_reducible conv => whnf)) | (with_reducible refine Eq.mpr u_forN ?_; (with_reducible conv => whnf)) | ((with_reducible refine Eq.mpr l1__law_none_right_eq ?_); simp only [e_Var, e_Bor, e_Mov, e_Frz, e_C, e_Give, e_Op, e_Un, e_Nil, e_Cons, e_Tup, e_LNil, e_LCons, e_Lst, e_CallV, e_CallV0, e_CallVK, e_CallM, e_CallB, e_Next, e_Seq, e_Break, e_Cont, e_Drop, e_Ret, e_RetN, e_If, e_gName, e_Asg, e_gNil, e_gCons, e_gTup, e_Test, e_And, e_Or, e_NotT, e_AndV, e_OrV, e_NotV, e_IfE, e_NoPart, e_Part, e_Sl, e_IAny, e_For, e_While, e_Rng1, e_IZip, e_Lc, e_Yes, e_Append, e_Pop, e_PopAt, e_Extend, e_Reverse, e_SetItem, e_Aug, e_Par, e_SIndex, e_Isi, e_DispC, e_DGet2, e_Cn, e_Chain, e_Raise, e_TryAs, e_Xf, e_Append2, e_Reverse2, e_Pop2, h_Sub, h_FdivW, h_Mod, h_Pow, h_Lt, h_Le, h_Gt, h_Ge, h_Iadd, h_Isub, h_Neg, h_Abs, h_Int, h_Len, h_Sum, h_All, h_Any, h_List, h_Tuple, h_Add, h_Mul, h_Ix, h_Sl, h_Rev, h_Is, h_Not, h_Eq, h_Ne, h_In, h_Nin, e_endsV, e_endsM, h_Max2, h_Min2]; (with_reducible conv => whnf)) | ((with_reducible refine Eq.mpr l2__law_none_right_eq ?_); simp only [e_Var, e_Bor, e_Mov, e_Frz, e_C, e_Give, e_Op, e_Un, e_Nil, e_Cons, e_Tup, e_LNil, e_LCons, e_Lst, e_CallV, e_CallV0, e_CallVK, e_CallM, e_CallB, e_Next, e_Seq, e_Break, e_Cont, e_Drop, e_Ret, e_RetN, e_If, e_gName, e_Asg, e_gNil, e_gCons, e_gTup, e_Test, e_And, e_Or, e_NotT, e_AndV, e_OrV, e_NotV, e_IfE, e_NoPart, e_Part, e_Sl, e_IAny, e_For, e_While, e_Rng1, e_IZip, e_Lc, e_Yes, e_Append, e_Pop, e_PopAt, e_Extend, e_Reverse, e_SetItem, e_Aug, e_Par, e_SIndex, e_Isi, e_DispC, e_DGet2, e_Cn, e_Chain, e_Raise, e_TryAs, e_Xf, e_Append2, e_Reverse2, e_Pop2, h_Sub, h_FdivW, h_Mod, h_Pow, h_Lt, h_Le, h_Gt, h_Ge, h_Iadd, h_Isub, h_Neg, h_Abs, h_Int, h_Len, h_Sum, h_All, h_Any, h_List, h_Tuple, h_Add, h_Mul, h_Ix, h_Sl, h_Rev, h_Is, h_Not, h_Eq, h_Ne, h_In, h_Nin, e_endsV, e_endsM, h_Max2, h_Min2]; (with_reducible conv => whnf)) | ((with_reducible apply g_S); (· (first | exact Eq.refl _ | (simp only [flatL_map, flatL_append_map, flatL_cons, flatL_nil, flatL_mapr, Option.map_some]; exact rfl))); (with_reducible conv => whnf)) | ((with_reducible refine g_t ?_ ?_); (· first | decide | exact Eq.refl _); (with_reducible conv => whnf)) | ((with_reducible refine g_f ?_ ?_); (· first | decide | exact Eq.refl _); (with_reducible conv => whnf)) | ((with_reducible apply g_F); (· (simp only [O.frz, frzL, frzL_map, frzL_append, frzL_mapr, List.nil_append]; exact rfl)); (with_reducible conv => whnf)))
  refine DL.lcR_map (F := fun d => match d with | .tup [p, _] => p | _ => .non) _ _ (fun d hd R hR => ?_) (by simp [walkT_len]; omega) ?_
  · obtain ⟨q, hq, rfl⟩ := List.mem_map.mp hd
    simp only [pr]
    (with_reducible conv => whnf); repeat (first | ((with_reducible refine And.intro ?_ ?_); (· (first | ((with_reducible conv => whnf); exact trivial) | omega | assumption | exact Eq.refl _ | exact Nat.zero_le _ | (simp only [List.length_map, List.length_append, List.length_cons, List.length_nil, List.length_singleton, List.length_reverse, List.length_drop, List.length_take, List.length_range, List.length_replicate, cut_tl, cut_hd, cut_take, cut_drop]; omega))); (with_reducible conv => whnf)) | (with_reducible refine g_flat ?_; (with_reducible conv => whnf)) | (with_reducible refine Eq.mpr u_forN ?_; (with_reducible conv => whnf)) | ((with_reducible refine Eq.mpr l1__law_none_right_eq ?_); simp only [e_Var, e_Bor, e_Mov, e_Frz, e_C, e_Give, e_Op, e_Un, e_Nil, e_Cons, e_Tup, e_LNil, e_LCons, e_Lst, e_CallV, e_CallV0, e_CallVK, e_CallM, e_CallB, e_Next, e_Seq, e_Break, e_Cont, e_Drop, e_Ret, e_RetN, e_If, e_gName, e_Asg, e_gNil, e_gCons, e_gTup, e_Test, e_And, e_Or, e_NotT, e_AndV, e_OrV, e_NotV, e_IfE, e_NoPart, e_Part, e_Sl, e_IAny, e_For, e_While, e_Rng1, e_IZip, e_Lc, e_Yes, e_Append, e_Pop, e_PopAt, e_Extend, e_Reverse, e_SetItem, e_Aug, e_Par, e_SIndex, e_Isi, e_DispC, e_DGet2, e_Cn, e_Chain, e_Raise, e_TryAs, e_Xf, e_Append2, e_Reverse2, e_Pop2, h_Sub, h_FdivW, h_Mod, h_Pow, h_Lt, h_Le, h_Gt, h_Ge, h_Iadd, h_Isub, h_Neg, h_Abs, h_Int, h_Len, h_Sum, h_All, h_Any, h_List, h_Tuple, h_Add, h_Mul, h_Ix, h_Sl, h_Rev, h_Is, h_Not, h_Eq, h_Ne, h_In, h_Nin, e_endsV, e_endsM, h_Max2, h_Min2]; (with_reducible conv => whnf)) | ((with_reducible refine Eq.mpr l2__law_none_right_eq ?_); simp only [e_Var, e_Bor, e_Mov, e_Frz, e_C, e_Give, e_Op, e_Un, e_Nil, e_Cons, e_Tup, e_LNil, e_LCons, e_Lst, e_CallV, e_CallV0, e_CallVK, e_CallM, e_CallB, e_Next, e_Seq, e_Break, e_Cont, e_Drop, e_Ret, e_RetN, e_If, e_gName, e_Asg, e_gNil, e_gCons, e_gTup, e_Test, e_And, e_Or, e_NotT, e_AndV, e_OrV, e_NotV, e_IfE, e_NoPart, e_Part, e_Sl, e_IAny, e_For, e_While, e_Rng1, e_IZip, e_Lc, e_Yes, e_Append, e_Pop, e_PopAt, e_Extend, e_Reverse, e_SetItem, e_Aug, e_Par, e_SIndex, e_Isi, e_DispC, e_DGet2, e_Cn, e_Chain, e_Raise, e_TryAs, e_Xf, e_Append2, e_Reverse2, e_Pop2, h_Sub, h_FdivW, h_Mod, h_Pow, h_Lt, h_Le, h_Gt, h_Ge, h_Iadd, h_Isub, h_Neg, h_Abs, h_Int, h_Len, h_Sum, h_All, h_Any, h_List, h_Tuple, h_Add, h_Mul, h_Ix, h_Sl, h_Rev, h_Is, h_Not, h_Eq, h_Ne, h_In, h_Nin, e_endsV, e_endsM, h_Max2, h_Min2]; (with_reducible conv => whnf)) | ((with_reducible apply g_S); (· (first | exact Eq.refl _ | (simp only [flatL_map, flatL_append_map, flatL_cons, flatL_nil, flatL_mapr, Option.map_some]; exact rfl))); (with_reducible conv => whnf)) | ((with_reducible refine g_t ?_ ?_); (· first | decide | exact Eq.refl _); (with_reducible conv => whnf)) | ((with_reducible refine g_f ?_ ?_); (· first | decide | exact Eq.refl _); (with_reducible conv => whnf)) | ((with_reducible apply g_F); (· (simp only [O.frz, frzL, frzL_map, frzL_append, frzL_mapr, List.nil_append]; exact rfl)); (with_reducible conv => whnf)))
    refine hR _ ?_
    rfl
  have e3 : ((walkT [] t).map pr).map (fun d => match d with | .tup [p, _] => p | _ => D.non) = placesD t := by rw [List.map_map]; rfl
  rw [List.nil_append, e3]
  (with_reducible conv => whnf); repeat (first | ((with_reducible refine And.intro ?_ ?_); (· (first | ((with_reducible conv => whnf); exact trivial) | omega | assumption | exact Eq.refl _ | exact Nat.zero_le _ | (simp only [List.length_map, List.length_append, List.length_cons, List.length_nil, List.length_singleton, List.length_reverse, List.length_drop, List.length_take, List.length_range, List.length_replicate, cut_tl, cut_hd, cut_take, cut_drop]; omega))); (with_reducible conv => whnf)) | (with_reducible refine g_flat ?_; (with_reducible conv => whnf)) | (with_reducible refine Eq.mpr u_forN ?_; (with_reducible conv => whnf)) | ((with_reducible refine Eq.mpr l1__law_none_right_eq ?_); simp only [e_Var, e_Bor, e_Mov, e_Frz, e_C, e_Give, e_Op, e_Un, e_Nil, e_Cons, e_Tup, e_LNil, e_LCons, e_Lst, e_CallV, e_CallV0, e_CallVK, e_CallM, e_CallB, e_Next, e_Seq, e_Break, e_Cont, e_Drop, e_Ret, e_RetN, e_If, e_gName, e_Asg, e_gNil, e_gCons, e_gTup, e_Test, e_And, e_Or, e_NotT, e_AndV, e_OrV, e_NotV, e_IfE, e_NoPart, e_Part, e_Sl, e_IAny, e_For, e_While, e_Rng1, e_IZip, e_Lc, e_Yes, e_Append, e_Pop, e_PopAt, e_Extend, e_Reverse, e_SetItem, e_Aug, e_Par, e_SIndex, e_Isi, e_DispC, e_DGet2, e_Cn, e_Chain, e_Raise, e_TryAs, e_Xf, e_Append2, e_Reverse2, e_Pop2, h_Sub, h_FdivW, h_Mod, h_Pow, h_Lt, h_Le, h_Gt, h_Ge, h_Iadd, h_Isub, h_Neg, h_Abs, h_Int, h_Len, h_Sum, h_All, h_Any, h_List, h_Tuple, h_Add, h_Mul, h_Ix, h_Sl, h_Rev, h_Is, h_Not, h_Eq, h_Ne, h_In, h_Nin, e_endsV, e_endsM, h_Max2, h_Min2]; (with_reducible conv => whnf)) | ((with_reducible refine Eq.mpr l2__law_none_right_eq ?_); simp only [e_Var, e_Bor, e_Mov, e_Frz, e_C, e_Give, e_Op, e_Un, e_Nil, e_Cons, e_Tup, e_LNil, e_LCons, e_Lst, e_CallV, e_CallV0, e_CallVK, e_CallM, e_CallB, e_Next, e_Seq, e_Break, e_Cont, e_Drop, e_Ret, e_RetN, e_If, e_gName, e_Asg, e_gNil, e_gCons, e_gTup, e_Test, e_And, e_Or, e_NotT, e_AndV, e_OrV, e_NotV, e_IfE, e_NoPart, e_Part, e_Sl, e_IAny, e_For, e_While, e_Rng1, e_IZip, e_Lc, e_Yes, e_Append, e_Pop, e_PopAt, e_Extend, e_Reverse, e_SetItem, e_Aug, e_Par, e_SIndex, e_Isi, e_DispC, e_DGet2, e_Cn, e_Chain, e_Raise, e_TryAs, e_Xf, e_Append2, e_Reverse2, e_Pop2, h_Sub, h_FdivW, h_Mod, h_Pow, h_Lt, h_Le, h_Gt, h_Ge, h_Iadd, h_Isub, h_Neg, h_Abs, h_Int, h_Len, h_Sum, h_All, h_Any, h_List, h_Tuple, h_Add, h_Mul, h_Ix, h_Sl, h_Rev, h_Is, h_Not, h_Eq, h_Ne, h_In, h_Nin, e_endsV, e_endsM, h_Max2, h_Min2]; (with_reducible conv => whnf)) | ((with_reducible apply g_S); (· (first | exact Eq.refl _ | (simp only [flatL_map, flatL_append_map, flatL_cons, flatL_nil, flatL_mapr, Option.map_some]; exact rfl))); (with_reducible conv => whnf)) | ((with_reducible refine g_t ?_ ?_); (· first | decide | exact Eq.refl _); (with_reducible conv => whnf)) | ((with_reducible refine g_f ?_ ?_); (· first | decide | exact Eq.refl _); (with_reducible conv => whnf)) | ((with_reducible apply g_F); (· (simp only [O.frz, frzL, frzL_map, frzL_append, frzL_mapr, List.nil_append]; exact rfl)); (with_reducible conv => whnf)))
  refine forR_go (fun ds env => ∃ n x b v5 v6 v7 v8 v9 v10 v11, Bx n x ∧ n + 3 * ds.length ≤ k + 12 ∧ env = [some (.own x), some (.d t.enc), some (.d (.lst ((walkT [] t).map pr))), some (.d (.bl b)), some (.d (.lst (placesD t))), v5, v6, v7, v8, v9, v10, v11]) ?_ ?_ ?_
  · exact ⟨k, xs, b, _, _, _, _, _, _, _, hB, by simp, rfl⟩
  · rintro _ ⟨n, x, b, v5, v6, v7, v8, v9, v10, v11, hB, hn, rfl⟩
    (with_reducible conv => whnf); repeat (first | ((with_reducible refine And.intro ?_ ?_); (· (first | ((with_reducible conv => whnf); exact trivial) | omega | assumption | exact Eq.refl _ | exact Nat.zero_le _ | (simp only [List.length_map, List.length_append, List.length_cons, List.length_nil, List.length_singleton, List.length_reverse, List.length_drop, List.length_take, List.length_range, List.length_replicate, cut_tl, cut_hd, cut_take, cut_drop]; omega))); (with_reducible conv => whnf)) | (with_reducible refine g_flat ?_; (with_reducible conv => whnf)) | (with_reducible refine Eq.mpr u_forN ?_; (with_reducible conv => whnf)) | ((with_reducible refine Eq.mpr l1__law_none_right_eq ?_); simp only [e_Var, e_Bor, e_Mov, e_Frz, e_C, e_Give, e_Op, e_Un, e_Nil, e_Cons, e_Tup, e_LNil, e_LCons, e_Lst, e_CallV, e_CallV0, e_CallVK, e_CallM, e_CallB, e_Next, e_Seq, e_Break, e_Cont, e_Drop, e_Ret, e_RetN, e_If, e_gName, e_Asg, e_gNil, e_gCons, e_gTup, e_Test, e_And, e_Or, e_NotT, e_AndV, e_OrV, e_NotV, e_IfE, e_NoPart, e_Part, e_Sl, e_IAny, e_For, e_While, e_Rng1, e_IZip, e_Lc, e_Yes, e_Append, e_Pop, e_PopAt, e_Extend, e_Reverse, e_SetItem, e_Aug, e_Par, e_SIndex, e_Isi, e_DispC, e_DGet2, e_Cn, e_Chain, e_Raise, e_TryAs, e_Xf, e_Append2, e_Reverse2, e_Pop2, h_Sub, h_FdivW, h_Mod, h_Pow, h_Lt, h_Le, h_Gt, h_Ge, h_Iadd, h_Isub, h_Neg, h_Abs, h_Int, h_Len, h_Sum, h_All, h_Any, h_List, h_Tuple, h_Add, h_Mul, h_Ix, h_Sl, h_Rev, h_Is, h_Not, h_Eq, h_Ne, h_In, h_Nin, e_endsV, e_endsM, h_Max2, h_Min2]; (with_reducible conv => whnf)) | ((with_reducible refine Eq.mpr l2__law_none_right_eq ?_); simp only [e_Var, e_Bor, e_Mov, e_Frz, e_C, e_Give, e_Op, e_Un, e_Nil, e_Cons, e_Tup, e_LNil, e_LCons, e_Lst, e_CallV, e_CallV0, e_CallVK, e_CallM, e_CallB, e_Next, e_Seq, e_Break, e_Cont, e_Drop, e_Ret, e_RetN, e_If, e_gName, e_Asg, e_gNil, e_gCons, e_gTup, e_Test, e_And, e_Or, e_NotT, e_AndV, e_OrV, e_NotV, e_IfE, e_NoPart, e_Part, e_Sl, e_IAny, e_For, e_While, e_Rng1, e_IZip, e_Lc, e_Yes, e_Append, e_Pop, e_PopAt, e_Extend, e_Reverse, e_SetItem, e_Aug, e_Par, e_SIndex, e_Isi, e_DispC, e_DGet2, e_Cn, e_Chain, e_Raise, e_TryAs, e_Xf, e_Append2, e_Reverse2, e_Pop2, h_Sub, h_FdivW, h_Mod, h_Pow, h_Lt, h_Le, h_Gt, h_Ge, h_Iadd, h_Isub, h_Neg, h_Abs, h_Int, h_Len, h_Sum, h_All, h_Any, h_List, h_Tuple, h_Add, h_Mul, h_Ix, h_Sl, h_Rev, h_Is, h_Not, h_Eq, h_Ne, h_In, h_Nin, e_endsV, e_endsM, h_Max2, h_Min2]; (with_reducible conv => whnf)) | ((with_reducible apply g_S); (· (first | exact Eq.refl _ | (simp only [flatL_map, flatL_append_map, flatL_cons, flatL_nil, flatL_mapr, Option.map_some]; exact rfl))); (with_reducible conv => whnf)) | ((with_reducible refine g_t ?_ ?_); (· first | decide | exact Eq.refl _); (with_reducible conv => whnf)) | ((with_reducible refine g_f ?_ ?_); (· first | decide | exact Eq.refl _); (with_reducible conv => whnf)) | ((with_reducible apply g_F); (· (simp only [O.frz, frzL, frzL_map, frzL_append, frzL_mapr, List.nil_append]; exact rfl)); (with_reducible conv => whnf)))
    exact h _ (hB.mono (by simp at hn; omega))
  rintro d ds _ ⟨n, x, b, v5, v6, v7, v8, v9, v10, v11, hB, hn, rfl⟩ ih
  simp only [List.length_cons] at hn
  (with_reducible conv => whnf); repeat (first | ((with_reducible refine And.intro ?_ ?_); (· (first | ((with_reducible conv => whnf); exact trivial) | omega | assumption | exact Eq.refl _ | exact Nat.zero_le _ | (simp only [List.length_map, List.length_append, List.length_cons, List.length_nil, List.length_singleton, List.length_reverse, List.length_drop, List.length_take, List.length_range, List.length_replicate, cut_tl, cut_hd, cut_take, cut_drop]; omega))); (with_reducible conv => whnf)) | (with_reducible refine g_flat ?_; (with_reducible conv => whnf)) | (with_reducible refine Eq.mpr u_forN ?_; (with_reducible conv => whnf)) | ((with_reducible refine Eq.mpr l1__law_none_right_eq ?_); simp only [e_Var, e_Bor, e_Mov, e_Frz, e_C, e_Give, e_Op, e_Un, e_Nil, e_Cons, e_Tup, e_LNil, e_LCons, e_Lst, e_CallV, e_CallV0, e_CallVK, e_CallM, e_CallB, e_Next, e_Seq, e_Break, e_Cont, e_Drop, e_Ret, e_RetN, e_If, e_gName, e_Asg, e_gNil, e_gCons, e_gTup, e_Test, e_And, e_Or, e_NotT, e_AndV, e_OrV, e_NotV, e_IfE, e_NoPart, e_Part, e_Sl, e_IAny, e_For, e_While, e_Rng1, e_IZip, e_Lc, e_Yes, e_Append, e_Pop, e_PopAt, e_Extend, e_Reverse, e_SetItem, e_Aug, e_Par, e_SIndex, e_Isi, e_DispC, e_DGet2, e_Cn, e_Chain, e_Raise, e_TryAs, e_Xf, e_Append2, e_Reverse2, e_Pop2, h_Sub, h_FdivW, h_Mod, h_Pow, h_Lt, h_Le, h_Gt, h_Ge, h_Iadd, h_Isub, h_Neg, h_Abs, h_Int, h_Len, h_Sum, h_All, h_Any, h_List, h_Tuple, h_Add, h_Mul, h_Ix, h_Sl, h_Rev, h_Is, h_Not, h_Eq, h_Ne, h_In, h_Nin, e_endsV, e_endsM, h_Max2, h_Min2]; (with_reducible conv => whnf)) | ((with_reducible refine Eq.mpr l2__law_none_right_eq ?_); simp only [e_Var, e_Bor, e_Mov, e_Frz, e_C, e_Give, e_Op, e_Un, e_Nil, e_Cons, e_Tup, e_LNil, e_LCons, e_Lst, e_CallV, e_CallV0, e_CallVK, e_CallM, e_CallB, e_Next, e_Seq, e_Break, e_Cont, e_Drop, e_Ret, e_RetN, e_If, e_gName, e_Asg, e_gNil, e_gCons, e_gTup, e_Test, e_And, e_Or, e_NotT, e_AndV, e_OrV, e_NotV, e_IfE, e_NoPart, e_Part, e_Sl, e_IAny, e_For, e_While, e_Rng1, e_IZip, e_Lc, e_Yes, e_Append, e_Pop, e_PopAt, e_Extend, e_Reverse, e_SetItem, e_Aug, e_Par, e_SIndex, e_Isi, e_DispC, e_DGet2, e_Cn, e_Chain, e_Raise, e_TryAs, e_Xf, e_Append2, e_Reverse2, e_Pop2, h_Sub, h_FdivW, h_Mod, h_Pow, h_Lt, h_Le, h_Gt, h_Ge, h_Iadd, h_Isub, h_Neg, h_Abs, h_Int, h_Len, h_Sum, h_All, h_Any, h_List, h_Tuple, h_Add, h_Mul, h_Ix, h_Sl, h_Rev, h_Is, h_Not, h_Eq, h_Ne, h_In, h_Nin, e_endsV, e_endsM, h_Max2, h_Min2]; (with_reducible conv => whnf)) | ((with_reducible apply g_S); (· (first | exact Eq.refl _ | (simp only [flatL_map, flatL_append_map, flatL_cons, flatL_nil, flatL_mapr, Option.map_some]; exact rfl))); (with_reducible conv => whnf)) | ((with_reducible refine g_t ?_ ?_); (· first | decide | exact Eq.refl _); (with_reducible conv => whnf)) | ((with_reducible refine g_f ?_ ?_); (· first | decide | exact Eq.refl _); (with_reducible conv => whnf)) | ((with_reducible apply g_F); (· (simp only [O.frz, frzL, frzL_map, frzL_append, frzL_mapr, List.nil_append]; exact rfl)); (with_reducible conv => whnf)))
  refine hpick n x _ hB (by omega) fun p x1 lp hB1 => ?_
  (with_reducible conv => whnf); repeat (first | ((with_reducible refine And.intro ?_ ?_); (· (first | ((with_reducible conv => whnf); exact trivial) | omega | assumption | exact Eq.refl _ | exact Nat.zero_le _ | (simp only [List.length_map, List.length_append, List.length_cons, List.length_nil, List.length_singleton, List.length_reverse, List.length_drop, List.length_take, List.length_range, List.length_replicate, cut_tl, cut_hd, cut_take, cut_drop]; omega))); (with_reducible conv => whnf)) | (with_reducible refine g_flat ?_; (with_reducible conv => whnf)) | (with_reducible refine Eq.mpr u_forN ?_; (with_reducible conv => whnf)) | ((with_reducible refine Eq.mpr l1__law_none_right_eq ?_); simp only [e_Var, e_Bor, e_Mov, e_Frz, e_C, e_Give, e_Op, e_Un, e_Nil, e_Cons, e_Tup, e_LNil, e_LCons, e_Lst, e_CallV, e_CallV0, e_CallVK, e_CallM, e_CallB, e_Next, e_Seq, e_Break, e_Cont, e_Drop, e_Ret, e_RetN, e_If, e_gName, e_Asg, e_gNil, e_gCons, e_gTup, e_Test, e_And, e_Or, e_NotT, e_AndV, e_OrV, e_NotV, e_IfE, e_NoPart, e_Part, e_Sl, e_IAny, e_For, e_While, e_Rng1, e_IZip, e_Lc, e_Yes, e_Append, e_Pop, e_PopAt, e_Extend, e_Reverse, e_SetItem, e_Aug, e_Par, e_SIndex, e_Isi, e_DispC, e_DGet2, e_Cn, e_Chain, e_Raise, e_TryAs, e_Xf, e_Append2, e_Reverse2, e_Pop2, h_Sub, h_FdivW, h_Mod, h_Pow, h_Lt, h_Le, h_Gt, h_Ge, h_Iadd, h_Isub, h_Neg, h_Abs, h_Int, h_Len, h_Sum, h_All, h_Any, h_List, h_Tuple, h_Add, h_Mul, h_Ix, h_Sl, h_Rev, h_Is, h_Not, h_Eq, h_Ne, h_In, h_Nin, e_endsV, e_endsM, h_Max2, h_Min2]; (with_reducible conv => whnf)) | ((with_reducible refine Eq.mpr l2__law_none_right_eq ?_); simp only [e_Var, e_Bor, e_Mov, e_Frz, e_C, e_Give, e_Op, e_Un, e_Nil, e_Cons, e_Tup, e_LNil, e_LCons, e_Lst, e_CallV, e_CallV0, e_CallVK, e_CallM, e_CallB, e_Next, e_Seq, e_Break, e_Cont, e_Drop, e_Ret, e_RetN, e_If, e_gName, e_Asg, e_gNil, e_gCons, e_gTup, e_Test, e_And, e_Or, e_NotT, e_AndV, e_OrV, e_NotV, e_IfE, e_NoPart, e_Part, e_Sl, e_IAny, e_For, e_While, e_Rng1, e_IZip, e_Lc, e_Yes, e_Append, e_Pop, e_PopAt, e_Extend, e_Reverse, e_SetItem, e_Aug, e_Par, e_SIndex, e_Isi, e_DispC, e_DGet2, e_Cn, e_Chain, e_Raise, e_TryAs, e_Xf, e_Append2, e_Reverse2, e_Pop2, h_Sub, h_FdivW, h_Mod, h_Pow, h_Lt, h_Le, h_Gt, h_Ge, h_Iadd, h_Isub, h_Neg, h_Abs, h_Int, h_Len, h_Sum, h_All, h_Any, h_List, h_Tuple, h_Add, h_Mul, h_Ix, h_Sl, h_Rev, h_Is, h_Not, h_Eq, h_Ne, h_In, h_Nin, e_endsV, e_endsM, h_Max2, h_Min2]; (with_reducible conv => whnf)) | ((with_reducible apply g_S); (· (first | exact Eq.refl _ | (simp only [flatL_map, flatL_append_map, flatL_cons, flatL_nil, flatL_mapr, Option.map_some]; exact rfl))); (with_reducible conv => whnf)) | ((with_reducible refine g_t ?_ ?_); (· first | decide | exact Eq.refl _); (with_reducible conv => whnf)) | ((with_reducible refine g_f ?_ ?_); (· first | decide | exact Eq.refl _); (with_reducible conv => whnf)) | ((with_reducible apply g_F); (· (simp only [O.frz, frzL, frzL_map, frzL_append, frzL_mapr, List.nil_append]; exact rfl)); (with_reducible conv => whnf)))
  refine pick_use hB1 (by omega) (by simp) (by simp) fun d x2 hd hB2 => ?_
  obtain ⟨s, rfl, hs⟩ : ∃ s : List Nat, d = .str s ∧ s.length ≤ 2 := by
    simp only [List.mem_cons, List.not_mem_nil, or_false] at hd
    rcases hd with rfl | rfl | rfl | rfl | rfl | rfl | rfl | rfl <;> exact ⟨_, rfl, by decide⟩
  (with_reducible conv => whnf); repeat (first | ((with_reducible refine And.intro ?_ ?_); (· (first | ((with_reducible conv => whnf); exact trivial) | omega | assumption | exact Eq.refl _ | exact Nat.zero_le _ | (simp only [List.length_map, List.length_append, List.length_cons, List.length_nil, List.length_singleton, List.length_reverse, List.length_drop, List.length_take, List.length_range, List.length_replicate, cut_tl, cut_hd, cut_take, cut_drop]; omega))); (with_reducible conv => whnf)) | (with_reducible refine g_flat ?_; (with_reducible conv => whnf)) | (with_reducible refine Eq.mpr u_forN ?_; (with_reducible conv => whnf)) | ((with_reducible refine Eq.mpr l1__law_none_right_eq ?_); simp only [e_Var, e_Bor, e_Mov, e_Frz, e_C, e_Give, e_Op, e_Un, e_Nil, e_Cons, e_Tup, e_LNil, e_LCons, e_Lst, e_CallV, e_CallV0, e_CallVK, e_CallM, e_CallB, e_Next, e_Seq, e_Break, e_Cont, e_Drop, e_Ret, e_RetN, e_If, e_gName, e_Asg, e_gNil, e_gCons, e_gTup, e_Test, e_And, e_Or, e_NotT, e_AndV, e_OrV, e_NotV, e_IfE, e_NoPart, e_Part, e_Sl, e_IAny, e_For, e_While, e_Rng1, e_IZip, e_Lc, e_Yes, e_Append, e_Pop, e_PopAt, e_Extend, e_Reverse, e_SetItem, e_Aug, e_Par, e_SIndex, e_Isi, e_DispC, e_DGet2, e_Cn, e_Chain, e_Raise, e_TryAs, e_Xf, e_Append2, e_Reverse2, e_Pop2, h_Sub, h_FdivW, h_Mod, h_Pow, h_Lt, h_Le, h_Gt, h_Ge, h_Iadd, h_Isub, h_Neg, h_Abs, h_Int, h_Len, h_Sum, h_All, h_Any, h_List, h_Tuple, h_Add, h_Mul, h_Ix, h_Sl, h_Rev, h_Is, h_Not, h_Eq, h_Ne, h_In, h_Nin, e_endsV, e_endsM, h_Max2, h_Min2]; (with_reducible conv => whnf)) | ((with_reducible refine Eq.mpr l2__law_none_right_eq ?_); simp only [e_Var, e_Bor, e_Mov, e_Frz, e_C, e_Give, e_Op, e_Un, e_Nil, e_Cons, e_Tup, e_LNil, e_LCons, e_Lst, e_CallV, e_CallV0, e_CallVK, e_CallM, e_CallB, e_Next, e_Seq, e_Break, e_Cont, e_Drop, e_Ret, e_RetN, e_If, e_gName, e_Asg, e_gNil, e_gCons, e_gTup, e_Test, e_And, e_Or, e_NotT, e_AndV, e_OrV, e_NotV, e_IfE, e_NoPart, e_Part, e_Sl, e_IAny, e_For, e_While, e_Rng1, e_IZip, e_Lc, e_Yes, e_Append, e_Pop, e_PopAt, e_Extend, e_Reverse, e_SetItem, e_Aug, e_Par, e_SIndex, e_Isi, e_DispC, e_DGet2, e_Cn, e_Chain, e_Raise, e_TryAs, e_Xf, e_Append2, e_Reverse2, e_Pop2, h_Sub, h_FdivW, h_Mod, h_Pow, h_Lt, h_Le, h_Gt, h_Ge, h_Iadd, h_Isub, h_Neg, h_Abs, h_Int, h_Len, h_Sum, h_All, h_Any, h_List, h_Tuple, h_Add, h_Mul, h_Ix, h_Sl, h_Rev, h_Is, h_Not, h_Eq, h_Ne, h_In, h_Nin, e_endsV, e_endsM, h_Max2, h_Min2]; (with_reducible conv => whnf)) | ((with_reducible apply g_S); (· (first | exact Eq.refl _ | (simp only [flatL_map, flatL_append_map, flatL_cons, flatL_nil, flatL_mapr, Option.map_some]; exact rfl))); (with_reducible conv => whnf)) | ((with_reducible refine g_t ?_ ?_); (· first | decide | exact Eq.refl _); (with_reducible conv => whnf)) | ((with_reducible refine g_f ?_ ?_); (· first | decide | exact Eq.refl _); (with_reducible conv => whnf)) | ((with_reducible apply g_F); (· (simp only [O.frz, frzL, frzL_map, frzL_append, frzL_mapr, List.nil_append]; exact rfl)); (with_reducible conv => whnf)))
  refine take_use hB2 (by omega) (by omega) (by omega) fun r x3 r0 r3 hB3 => ?_
  (with_reducible conv => whnf); repeat (first | ((with_reducible refine And.intro ?_ ?_); (· (first | ((with_reducible conv => whnf); exact trivial) | omega | assumption | exact Eq.refl _ | exact Nat.zero_le _ | (simp only [List.length_map, List.length_append, List.length_cons, List.length_nil, List.length_singleton, List.length_reverse, List.length_drop, List.length_take, List.length_range, List.length_replicate, cut_tl, cut_hd, cut_take, cut_drop]; omega))); (with_reducible conv => whnf)) | (with_reducible refine g_flat ?_; (with_reducible conv => whnf)) | (with_reducible refine Eq.mpr u_forN ?_; (with_reducible conv => whnf)) | ((with_reducible refine Eq.mpr l1__law_none_right_eq ?_); simp only [e_Var, e_Bor, e_Mov, e_Frz, e_C, e_Give, e_Op, e_Un, e_Nil, e_Cons, e_Tup, e_LNil, e_LCons, e_Lst, e_CallV, e_CallV0, e_CallVK, e_CallM, e_CallB, e_Next, e_Seq, e_Break, e_Cont, e_Drop, e_Ret, e_RetN, e_If, e_gName, e_Asg, e_gNil, e_gCons, e_gTup, e_Test, e_And, e_Or, e_NotT, e_AndV, e_OrV, e_NotV, e_IfE, e_NoPart, e_Part, e_Sl, e_IAny, e_For, e_While, e_Rng1, e_IZip, e_Lc, e_Yes, e_Append, e_Pop, e_PopAt, e_Extend, e_Reverse, e_SetItem, e_Aug, e_Par, e_SIndex, e_Isi, e_DispC, e_DGet2, e_Cn, e_Chain, e_Raise, e_TryAs, e_Xf, e_Append2, e_Reverse2, e_Pop2, h_Sub, h_FdivW, h_Mod, h_Pow, h_Lt, h_Le, h_Gt, h_Ge, h_Iadd, h_Isub, h_Neg, h_Abs, h_Int, h_Len, h_Sum, h_All, h_Any, h_List, h_Tuple, h_Add, h_Mul, h_Ix, h_Sl, h_Rev, h_Is, h_Not, h_Eq, h_Ne, h_In, h_Nin, e_endsV, e_endsM, h_Max2, h_Min2]; (with_reducible conv => whnf)) | ((with_reducible refine Eq.mpr l2__law_none_right_eq ?_); simp only [e_Var, e_Bor, e_Mov, e_Frz, e_C, e_Give, e_Op, e_Un, e_Nil, e_Cons, e_Tup, e_LNil, e_LCons, e_Lst, e_CallV, e_CallV0, e_CallVK, e_CallM, e_CallB, e_Next, e_Seq, e_Break, e_Cont, e_Drop, e_Ret, e_RetN, e_If, e_gName, e_Asg, e_gNil, e_gCons, e_gTup, e_Test, e_And, e_Or, e_NotT, e_AndV, e_OrV, e_NotV, e_IfE, e_NoPart, e_Part, e_Sl, e_IAny, e_For, e_While, e_Rng1, e_IZip, e_Lc, e_Yes, e_Append, e_Pop, e_PopAt, e_Extend, e_Reverse, e_SetItem, e_Aug, e_Par, e_SIndex, e_Isi, e_DispC, e_DGet2, e_Cn, e_Chain, e_Raise, e_TryAs, e_Xf, e_Append2, e_Reverse2, e_Pop2, h_Sub, h_FdivW, h_Mod, h_Pow, h_Lt, h_Le, h_Gt, h_Ge, h_Iadd, h_Isub, h_Neg, h_Abs, h_Int, h_Len, h_Sum, h_All, h_Any, h_List, h_Tuple, h_Add, h_Mul, h_Ix, h_Sl, h_Rev, h_Is, h_Not, h_Eq, h_Ne, h_In, h_Nin, e_endsV, e_endsM, h_Max2, h_Min2]; (with_reducible conv => whnf)) | ((with_reducible apply g_S); (· (first | exact Eq.refl _ | (simp only [flatL_map, flatL_append_map, flatL_cons, flatL_nil, flatL_mapr, Option.map_some]; exact rfl))); (with_reducible conv => whnf)) | ((with_reducible refine g_t ?_ ?_); (· first | decide | exact Eq.refl _); (with_reducible conv => whnf)) | ((with_reducible refine g_f ?_ ?_); (· first | decide | exact Eq.refl _); (with_reducible conv => whnf)) | ((with_reducible apply g_F); (· (simp only [O.frz, frzL, frzL_map, frzL_append, frzL_mapr, List.nil_append]; exact rfl)); (with_reducible conv => whnf)))
  refine cut_same (fun o => ∃ odd : List Nat, odd.length ≤ 60 ∧ o = .d (.str odd)) (fun c R hR => ?_) (fun c R hR => ?_) ?_
  · (with_reducible conv => whnf); repeat (first | ((with_reducible refine And.intro ?_ ?_); (· (first | ((with_reducible conv => whnf); exact trivial) | omega | assumption | exact Eq.refl _ | exact Nat.zero_le _ | (simp only [List.length_map, List.length_append, List.length_cons, List.length_nil, List.length_singleton, List.length_reverse, List.length_drop, List.length_take, List.length_range, List.length_replicate, cut_tl, cut_hd, cut_take, cut_drop]; omega))); (with_reducible conv => whnf)) | (with_reducible refine g_flat ?_; (with_reducible conv => whnf)) | (with_reducible refine Eq.mpr u_forN ?_; (with_reducible conv => whnf)) | ((with_reducible refine Eq.mpr l1__law_none_right_eq ?_); simp only [e_Var, e_Bor, e_Mov, e_Frz, e_C, e_Give, e_Op, e_Un, e_Nil, e_Cons, e_Tup, e_LNil, e_LCons, e_Lst, e_CallV, e_CallV0, e_CallVK, e_CallM, e_CallB, e_Next, e_Seq, e_Break, e_Cont, e_Drop, e_Ret, e_RetN, e_If, e_gName, e_Asg, e_gNil, e_gCons, e_gTup, e_Test, e_And, e_Or, e_NotT, e_AndV, e_OrV, e_NotV, e_IfE, e_NoPart, e_Part, e_Sl, e_IAny, e_For, e_While, e_Rng1, e_IZip, e_Lc, e_Yes, e_Append, e_Pop, e_PopAt, e_Extend, e_Reverse, e_SetItem, e_Aug, e_Par, e_SIndex, e_Isi, e_DispC, e_DGet2, e_Cn, e_Chain, e_Raise, e_TryAs, e_Xf, e_Append2, e_Reverse2, e_Pop2, h_Sub, h_FdivW, h_Mod, h_Pow, h_Lt, h_Le, h_Gt, h_Ge, h_Iadd, h_Isub, h_Neg, h_Abs, h_Int, h_Len, h_Sum, h_All, h_Any, h_List, h_Tuple, h_Add, h_Mul, h_Ix, h_Sl, h_Rev, h_Is, h_Not, h_Eq, h_Ne, h_In, h_Nin, e_endsV, e_endsM, h_Max2, h_Min2]; (with_reducible conv => whnf)) | ((with_reducible refine Eq.mpr l2__law_none_right_eq ?_); simp only [e_Var, e_Bor, e_Mov, e_Frz, e_C, e_Give, e_Op, e_Un, e_Nil, e_Cons, e_Tup, e_LNil, e_LCons, e_Lst, e_CallV, e_CallV0, e_CallVK, e_CallM, e_CallB, e_Next, e_Seq, e_Break, e_Cont, e_Drop, e_Ret, e_RetN, e_If, e_gName, e_Asg, e_gNil, e_gCons, e_gTup, e_Test, e_And, e_Or, e_NotT, e_AndV, e_OrV, e_NotV, e_IfE, e_NoPart, e_Part, e_Sl, e_IAny, e_For, e_While, e_Rng1, e_IZip, e_Lc, e_Yes, e_Append, e_Pop, e_PopAt, e_Extend, e_Reverse, e_SetItem, e_Aug, e_Par, e_SIndex, e_Isi, e_DispC, e_DGet2, e_Cn, e_Chain, e_Raise, e_TryAs, e_Xf, e_Append2, e_Reverse2, e_Pop2, h_Sub, h_FdivW, h_Mod, h_Pow, h_Lt, h_Le, h_Gt, h_Ge, h_Iadd, h_Isub, h_Neg, h_Abs, h_Int, h_Len, h_Sum, h_All, h_Any, h_List, h_Tuple, h_Add, h_Mul, h_Ix, h_Sl, h_Rev, h_Is, h_Not, h_Eq, h_Ne, h_In, h_Nin, e_endsV, e_endsM, h_Max2, h_Min2]; (with_reducible conv => whnf)) | ((with_reducible apply g_S); (· (first | exact Eq.refl _ | (simp only [flatL_map, flatL_append_map, flatL_cons, flatL_nil, flatL_mapr, Option.map_some]; exact rfl))); (with_reducible conv => whnf)) | ((with_reducible refine g_t ?_ ?_); (· first | decide | exact Eq.refl _); (with_reducible conv => whnf)) | ((with_reducible refine g_f ?_ ?_); (· first | decide | exact Eq.refl _); (with_reducible conv => whnf)) | ((with_reducible apply g_F); (· (simp only [O.frz, frzL, frzL_map, frzL_append, frzL_mapr, List.nil_append]; exact rfl)); (with_reducible conv => whnf)))
    exact hR _ ⟨_, by simp; omega, rfl⟩
  · (with_reducible conv => whnf); repeat (first | ((with_reducible refine And.intro ?_ ?_); (· (first | ((with_reducible conv => whnf); exact trivial) | omega | assumption | exact Eq.refl _ | exact Nat.zero_le _ | (simp only [List.length_map, List.length_append, List.length_cons, List.length_nil, List.length_singleton, List.length_reverse, List.length_drop, List.length_take, List.length_range, List.length_replicate, cut_tl, cut_hd, cut_take, cut_drop]; omega))); (with_reducible conv => whnf)) | (with_reducible refine g_flat ?_; (with_reducible conv => whnf)) | (with_reducible refine Eq.mpr u_forN ?_; (with_reducible conv => whnf)) | ((with_reducible refine Eq.mpr l1__law_none_right_eq ?_); simp only [e_Var, e_Bor, e_Mov, e_Frz, e_C, e_Give, e_Op, e_Un, e_Nil, e_Cons, e_Tup, e_LNil, e_LCons, e_Lst, e_CallV, e_CallV0, e_CallVK, e_CallM, e_CallB, e_Next, e_Seq, e_Break, e_Cont, e_Drop, e_Ret, e_RetN, e_If, e_gName, e_Asg, e_gNil, e_gCons, e_gTup, e_Test, e_And, e_Or, e_NotT, e_AndV, e_OrV, e_NotV, e_IfE, e_NoPart, e_Part, e_Sl, e_IAny, e_For, e_While, e_Rng1, e_IZip, e_Lc, e_Yes, e_Append, e_Pop, e_PopAt, e_Extend, e_Reverse, e_SetItem, e_Aug, e_Par, e_SIndex, e_Isi, e_DispC, e_DGet2, e_Cn, e_Chain, e_Raise, e_TryAs, e_Xf, e_Append2, e_Reverse2, e_Pop2, h_Sub, h_FdivW, h_Mod, h_Pow, h_Lt, h_Le, h_Gt, h_Ge, h_Iadd, h_Isub, h_Neg, h_Abs, h_Int, h_Len, h_Sum, h_All, h_Any, h_List, h_Tuple, h_Add, h_Mul, h_Ix, h_Sl, h_Rev, h_Is, h_Not, h_Eq, h_Ne, h_In, h_Nin, e_endsV, e_endsM, h_Max2, h_Min2]; (with_reducible conv => whnf)) | ((with_reducible refine Eq.mpr l2__law_none_right_eq ?_); simp only [e_Var, e_Bor, e_Mov, e_Frz, e_C, e_Give, e_Op, e_Un, e_Nil, e_Cons, e_Tup, e_LNil, e_LCons, e_Lst, e_CallV, e_CallV0, e_CallVK, e_CallM, e_CallB, e_Next, e_Seq, e_Break, e_Cont, e_Drop, e_Ret, e_RetN, e_If, e_gName, e_Asg, e_gNil, e_gCons, e_gTup, e_Test, e_And, e_Or, e_NotT, e_AndV, e_OrV, e_NotV, e_IfE, e_NoPart, e_Part, e_Sl, e_IAny, e_For, e_While, e_Rng1, e_IZip, e_Lc, e_Yes, e_Append, e_Pop, e_PopAt, e_Extend, e_Reverse, e_SetItem, e_Aug, e_Par, e_SIndex, e_Isi, e_DispC, e_DGet2, e_Cn, e_Chain, e_Raise, e_TryAs, e_Xf, e_Append2, e_Reverse2, e_Pop2, h_Sub, h_FdivW, h_Mod, h_Pow, h_Lt, h_Le, h_Gt, h_Ge, h_Iadd, h_Isub, h_Neg, h_Abs, h_Int, h_Len, h_Sum, h_All, h_Any, h_List, h_Tuple, h_Add, h_Mul, h_Ix, h_Sl, h_Rev, h_Is, h_Not, h_Eq, h_Ne, h_In, h_Nin, e_endsV, e_endsM, h_Max2, h_Min2]; (with_reducible conv => whnf)) | ((with_reducible apply g_S); (· (first | exact Eq.refl _ | (simp only [flatL_map, flatL_append_map, flatL_cons, flatL_nil, flatL_mapr, Option.map_some]; exact rfl))); (with_reducible conv => whnf)) | ((with_reducible refine g_t ?_ ?_); (· first | decide | exact Eq.refl _); (with_reducible conv => whnf)) | ((with_reducible refine g_f ?_ ?_); (· first | decide | exact Eq.refl _); (with_reducible conv => whnf)) | ((with_reducible apply g_F); (· (simp only [O.frz, frzL, frzL_map, frzL_append, frzL_mapr, List.nil_append]; exact rfl)); (with_reducible conv => whnf)))
    exact hR _ ⟨_, by simp only [List.length_append, cut_tl, cut_hd, List.length_drop, List.length_take]; omega, rfl⟩
  rintro _ ⟨odd, lo, rfl⟩
  (with_reducible conv => whnf); repeat (first | ((with_reducible refine And.intro ?_ ?_); (· (first | ((with_reducible conv => whnf); exact trivial) | omega | assumption | exact Eq.refl _ | exact Nat.zero_le _ | (simp only [List.length_map, List.length_append, List.length_cons, List.length_nil, List.length_singleton, List.length_reverse, List.length_drop, List.length_take, List.length_range, List.length_replicate, cut_tl, cut_hd, cut_take, cut_drop]; omega))); (with_reducible conv => whnf)) | (with_reducible refine g_flat ?_; (with_reducible conv => whnf)) | (with_reducible refine Eq.mpr u_forN ?_; (with_reducible conv => whnf)) | ((with_reducible refine Eq.mpr l1__law_none_right_eq ?_); simp only [e_Var, e_Bor, e_Mov, e_Frz, e_C, e_Give, e_Op, e_Un, e_Nil, e_Cons, e_Tup, e_LNil, e_LCons, e_Lst, e_CallV, e_CallV0, e_CallVK, e_CallM, e_CallB, e_Next, e_Seq, e_Break, e_Cont, e_Drop, e_Ret, e_RetN, e_If, e_gName, e_Asg, e_gNil, e_gCons, e_gTup, e_Test, e_And, e_Or, e_NotT, e_AndV, e_OrV, e_NotV, e_IfE, e_NoPart, e_Part, e_Sl, e_IAny, e_For, e_While, e_Rng1, e_IZip, e_Lc, e_Yes, e_Append, e_Pop, e_PopAt, e_Extend, e_Reverse, e_SetItem, e_Aug, e_Par, e_SIndex, e_Isi, e_DispC, e_DGet2, e_Cn, e_Chain, e_Raise, e_TryAs, e_Xf, e_Append2, e_Reverse2, e_Pop2, h_Sub, h_FdivW, h_Mod, h_Pow, h_Lt, h_Le, h_Gt, h_Ge, h_Iadd, h_Isub, h_Neg, h_Abs, h_Int, h_Len, h_Sum, h_All, h_Any, h_List, h_Tuple, h_Add, h_Mul, h_Ix, h_Sl, h_Rev, h_Is, h_Not, h_Eq, h_Ne, h_In, h_Nin, e_endsV, e_endsM, h_Max2, h_Min2]; (with_reducible conv => whnf)) | ((with_reducible refine Eq.mpr l2__law_none_right_eq ?_); simp only [e_Var, e_Bor, e_Mov, e_Frz, e_C, e_Give, e_Op, e_Un, e_Nil, e_Cons, e_Tup, e_LNil, e_LCons, e_Lst, e_CallV, e_CallV0, e_CallVK, e_CallM, e_CallB, e_Next, e_Seq, e_Break, e_Cont, e_Drop, e_Ret, e_RetN, e_If, e_gName, e_Asg, e_gNil, e_gCons, e_gTup, e_Test, e_And, e_Or, e_NotT, e_AndV, e_OrV, e_NotV, e_IfE, e_NoPart, e_Part, e_Sl, e_IAny, e_For, e_While, e_Rng1, e_IZip, e_Lc, e_Yes, e_Append, e_Pop, e_PopAt, e_Extend, e_Reverse, e_SetItem, e_Aug, e_Par, e_SIndex, e_Isi, e_DispC, e_DGet2, e_Cn, e_Chain, e_Raise, e_TryAs, e_Xf, e_Append2, e_Reverse2, e_Pop2, h_Sub, h_FdivW, h_Mod, h_Pow, h_Lt, h_Le, h_Gt, h_Ge, h_Iadd, h_Isub, h_Neg, h_Abs, h_Int, h_Len, h_Sum, h_All, h_Any, h_List, h_Tuple, h_Add, h_Mul, h_Ix, h_Sl, h_Rev, h_Is, h_Not, h_Eq, h_Ne, h_In, h_Nin, e_endsV, e_endsM, h_Max2, h_Min2]; (with_reducible conv => whnf)) | ((with_reducible apply g_S); (· (first | exact Eq.refl _ | (simp only [flatL_map, flatL_append_map, flatL_cons, flatL_nil, flatL_mapr, Option.map_some]; exact rfl))); (with_reducible conv => whnf)) | ((with_reducible refine g_t ?_ ?_); (· first | decide | exact Eq.refl _); (with_reducible conv => whnf)) | ((with_reducible refine g_f ?_ ?_); (· first | decide | exact Eq.refl _); (with_reducible conv => whnf)) | ((with_reducible apply g_F); (· (simp only [O.frz, frzL, frzL_map, frzL_append, frzL_mapr, List.nil_append]; exact rfl)); (with_reducible conv => whnf)))
  with_reducible refine Eq.mpr u_forC ?_
  (with_reducible conv => whnf); repeat (first | ((with_reducible refine And.intro ?_ ?_); (· (first | ((with_reducible conv => whnf); exact trivial) | omega | assumption | exact Eq.refl _ | exact Nat.zero_le _ | (simp only [List.length_map, List.length_append, List.length_cons, List.length_nil, List.length_singleton, List.length_reverse, List.length_drop, List.length_take, List.length_range, List.length_replicate, cut_tl, cut_hd, cut_take, cut_drop]; omega))); (with_reducible conv => whnf)) | (with_reducible refine g_flat ?_; (with_reducible conv => whnf)) | (with_reducible refine Eq.mpr u_forN ?_; (with_reducible conv => whnf)) | ((with_reducible refine Eq.mpr l1__law_none_right_eq ?_); simp only [e_Var, e_Bor, e_Mov, e_Frz, e_C, e_Give, e_Op, e_Un, e_Nil, e_Cons, e_Tup, e_LNil, e_LCons, e_Lst, e_CallV, e_CallV0, e_CallVK, e_CallM, e_CallB, e_Next, e_Seq, e_Break, e_Cont, e_Drop, e_Ret, e_RetN, e_If, e_gName, e_Asg, e_gNil, e_gCons, e_gTup, e_Test, e_And, e_Or, e_NotT, e_AndV, e_OrV, e_NotV, e_IfE, e_NoPart, e_Part, e_Sl, e_IAny, e_For, e_While, e_Rng1, e_IZip, e_Lc, e_Yes, e_Append, e_Pop, e_PopAt, e_Extend, e_Reverse, e_SetItem, e_Aug, e_Par, e_SIndex, e_Isi, e_DispC, e_DGet2, e_Cn, e_Chain, e_Raise, e_TryAs, e_Xf, e_Append2, e_Reverse2, e_Pop2, h_Sub, h_FdivW, h_Mod, h_Pow, h_Lt, h_Le, h_Gt, h_Ge, h_Iadd, h_Isub, h_Neg, h_Abs, h_Int, h_Len, h_Sum, h_All, h_Any, h_List, h_Tuple, h_Add, h_Mul, h_Ix, h_Sl, h_Rev, h_Is, h_Not, h_Eq, h_Ne, h_In, h_Nin, e_endsV, e_endsM, h_Max2, h_Min2]; (with_reducible conv => whnf)) | ((with_reducible refine Eq.mpr l2__law_none_right_eq ?_); simp only [e_Var, e_Bor, e_Mov, e_Frz, e_C, e_Give, e_Op, e_Un, e_Nil, e_Cons, e_Tup, e_LNil, e_LCons, e_Lst, e_CallV, e_CallV0, e_CallVK, e_CallM, e_CallB, e_Next, e_Seq, e_Break, e_Cont, e_Drop, e_Ret, e_RetN, e_If, e_gName, e_Asg, e_gNil, e_gCons, e_gTup, e_Test, e_And, e_Or, e_NotT, e_AndV, e_OrV, e_NotV, e_IfE, e_NoPart, e_Part, e_Sl, e_IAny, e_For, e_While, e_Rng1, e_IZip, e_Lc, e_Yes, e_Append, e_Pop, e_PopAt, e_Extend, e_Reverse, e_SetItem, e_Aug, e_Par, e_SIndex, e_Isi, e_DispC, e_DGet2, e_Cn, e_Chain, e_Raise, e_TryAs, e_Xf, e_Append2, e_Reverse2, e_Pop2, h_Sub, h_FdivW, h_Mod, h_Pow, h_Lt, h_Le, h_Gt, h_Ge, h_Iadd, h_Isub, h_Neg, h_Abs, h_Int, h_Len, h_Sum, h_All, h_Any, h_List, h_Tuple, h_Add, h_Mul, h_Ix, h_Sl, h_Rev, h_Is, h_Not, h_Eq, h_Ne, h_In, h_Nin, e_endsV, e_endsM, h_Max2, h_Min2]; (with_reducible conv => whnf)) | ((with_reducible apply g_S); (· (first | exact Eq.refl _ | (simp only [flatL_map, flatL_append_map, flatL_cons, flatL_nil, flatL_mapr, Option.map_some]; exact rfl))); (with_reducible conv => whnf)) | ((with_reducible refine g_t ?_ ?_); (· first | decide | exact Eq.refl _); (with_reducible conv => whnf)) | ((with_reducible refine g_f ?_ ?_); (· first | decide | exact Eq.refl _); (with_reducible conv => whnf)) | ((with_reducible apply g_F); (· (simp only [O.frz, frzL, frzL_map, frzL_append, frzL_mapr, List.nil_append]; exact rfl)); (with_reducible conv => whnf)))
  have gx : (Tm.var [120]).good := ⟨okn_x, by decide⟩
  have sm : smb (.lst [.str sPlace, .str odd]) = true := by simp [smb, smbL]; omega
  cases e : t.at? odd with
  | none =>
    have he : inD (.str odd) (placesD t) = false := by rw [in_places, e]; rfl
    refine told1 gt ?_
    rw [e]
    simp only [wO, pD]
    (with_reducible conv => whnf); repeat (first | ((with_reducible refine And.intro ?_ ?_); (· (first | ((with_reducible conv => whnf); exact trivial) | omega | assumption | exact Eq.refl _ | exact Nat.zero_le _ | (simp only [List.length_map, List.length_append, List.length_cons, List.length_nil, List.length_singleton, List.length_reverse, List.length_drop, List.length_take, List.length_range, List.length_replicate, cut_tl, cut_hd, cut_take, cut_drop]; omega))); (with_reducible conv => whnf)) | (with_reducible refine g_flat ?_; (with_reducible conv => whnf)) | (with_reducible refine Eq.mpr u_forN ?_; (with_reducible conv => whnf)) | ((with_reducible refine Eq.mpr l1__law_none_right_eq ?_); simp only [e_Var, e_Bor, e_Mov, e_Frz, e_C, e_Give, e_Op, e_Un, e_Nil, e_Cons, e_Tup, e_LNil, e_LCons, e_Lst, e_CallV, e_CallV0, e_CallVK, e_CallM, e_CallB, e_Next, e_Seq, e_Break, e_Cont, e_Drop, e_Ret, e_RetN, e_If, e_gName, e_Asg, e_gNil, e_gCons, e_gTup, e_Test, e_And, e_Or, e_NotT, e_AndV, e_OrV, e_NotV, e_IfE, e_NoPart, e_Part, e_Sl, e_IAny, e_For, e_While, e_Rng1, e_IZip, e_Lc, e_Yes, e_Append, e_Pop, e_PopAt, e_Extend, e_Reverse, e_SetItem, e_Aug, e_Par, e_SIndex, e_Isi, e_DispC, e_DGet2, e_Cn, e_Chain, e_Raise, e_TryAs, e_Xf, e_Append2, e_Reverse2, e_Pop2, h_Sub, h_FdivW, h_Mod, h_Pow, h_Lt, h_Le, h_Gt, h_Ge, h_Iadd, h_Isub, h_Neg, h_Abs, h_Int, h_Len, h_Sum, h_All, h_Any, h_List, h_Tuple, h_Add, h_Mul, h_Ix, h_Sl, h_Rev, h_Is, h_Not, h_Eq, h_Ne, h_In, h_Nin, e_endsV, e_endsM, h_Max2, h_Min2]; (with_reducible conv => whnf)) | ((with_reducible refine Eq.mpr l2__law_none_right_eq ?_); simp only [e_Var, e_Bor, e_Mov, e_Frz, e_C, e_Give, e_Op, e_Un, e_Nil, e_Cons, e_Tup, e_LNil, e_LCons, e_Lst, e_CallV, e_CallV0, e_CallVK, e_CallM, e_CallB, e_Next, e_Seq, e_Break, e_Cont, e_Drop, e_Ret, e_RetN, e_If, e_gName, e_Asg, e_gNil, e_gCons, e_gTup, e_Test, e_And, e_Or, e_NotT, e_AndV, e_OrV, e_NotV, e_IfE, e_NoPart, e_Part, e_Sl, e_IAny, e_For, e_While, e_Rng1, e_IZip, e_Lc, e_Yes, e_Append, e_Pop, e_PopAt, e_Extend, e_Reverse, e_SetItem, e_Aug, e_Par, e_SIndex, e_Isi, e_DispC, e_DGet2, e_Cn, e_Chain, e_Raise, e_TryAs, e_Xf, e_Append2, e_Reverse2, e_Pop2, h_Sub, h_FdivW, h_Mod, h_Pow, h_Lt, h_Le, h_Gt, h_Ge, h_Iadd, h_Isub, h_Neg, h_Abs, h_Int, h_Len, h_Sum, h_All, h_Any, h_List, h_Tuple, h_Add, h_Mul, h_Ix, h_Sl, h_Rev, h_Is, h_Not, h_Eq, h_Ne, h_In, h_Nin, e_endsV, e_endsM, h_Max2, h_Min2]; (with_reducible conv => whnf)) | ((with_reducible apply g_S); (· (first | exact Eq.refl _ | (simp only [flatL_map, flatL_append_map, flatL_cons, flatL_nil, flatL_mapr, Option.map_some]; exact rfl))); (with_reducible conv => whnf)) | ((with_reducible refine g_t ?_ ?_); (· first | decide | exact Eq.refl _); (with_reducible conv => whnf)) | ((with_reducible refine g_f ?_ ?_); (· first | decide | exact Eq.refl _); (with_reducible conv => whnf)) | ((with_reducible apply g_F); (· (simp only [O.frz, frzL, frzL_map, frzL_append, frzL_mapr, List.nil_append]; exact rfl)); (with_reducible conv => whnf)))
    rw [he]
    (with_reducible conv => whnf); repeat (first | ((with_reducible refine And.intro ?_ ?_); (· (first | ((with_reducible conv => whnf); exact trivial) | omega | assumption | exact Eq.refl _ | exact Nat.zero_le _ | (simp only [List.length_map, List.length_append, List.length_cons, List.length_nil, List.length_singleton, List.length_reverse, List.length_drop, List.length_take, List.length_range, List.length_replicate, cut_tl, cut_hd, cut_take, cut_drop]; omega))); (with_reducible conv => whnf)) | (with_reducible refine g_flat ?_; (with_reducible conv => whnf)) | (with_reducible refine Eq.mpr u_forN ?_; (with_reducible conv => whnf)) | ((with_reducible refine Eq.mpr l1__law_none_right_eq ?_); simp only [e_Var, e_Bor, e_Mov, e_Frz, e_C, e_Give, e_Op, e_Un, e_Nil, e_Cons, e_Tup, e_LNil, e_LCons, e_Lst, e_CallV, e_CallV0, e_CallVK, e_CallM, e_CallB, e_Next, e_Seq, e_Break, e_Cont, e_Drop, e_Ret, e_RetN, e_If, e_gName, e_Asg, e_gNil, e_gCons, e_gTup, e_Test, e_And, e_Or, e_NotT, e_AndV, e_OrV, e_NotV, e_IfE, e_NoPart, e_Part, e_Sl, e_IAny, e_For, e_While, e_Rng1, e_IZip, e_Lc, e_Yes, e_Append, e_Pop, e_PopAt, e_Extend, e_Reverse, e_SetItem, e_Aug, e_Par, e_SIndex, e_Isi, e_DispC, e_DGet2, e_Cn, e_Chain, e_Raise, e_TryAs, e_Xf, e_Append2, e_Reverse2, e_Pop2, h_Sub, h_FdivW, h_Mod, h_Pow, h_Lt, h_Le, h_Gt, h_Ge, h_Iadd, h_Isub, h_Neg, h_Abs, h_Int, h_Len, h_Sum, h_All, h_Any, h_List, h_Tuple, h_Add, h_Mul, h_Ix, h_Sl, h_Rev, h_Is, h_Not, h_Eq, h_Ne, h_In, h_Nin, e_endsV, e_endsM, h_Max2, h_Min2]; (with_reducible conv => whnf)) | ((with_reducible refine Eq.mpr l2__law_none_right_eq ?_); simp only [e_Var, e_Bor, e_Mov, e_Frz, e_C, e_Give, e_Op, e_Un, e_Nil, e_Cons, e_Tup, e_LNil, e_LCons, e_Lst, e_CallV, e_CallV0, e_CallVK, e_CallM, e_CallB, e_Next, e_Seq, e_Break, e_Cont, e_Drop, e_Ret, e_RetN, e_If, e_gName, e_Asg, e_gNil, e_gCons, e_gTup, e_Test, e_And, e_Or, e_NotT, e_AndV, e_OrV, e_NotV, e_IfE, e_NoPart, e_Part, e_Sl, e_IAny, e_For, e_While, e_Rng1, e_IZip, e_Lc, e_Yes, e_Append, e_Pop, e_PopAt, e_Extend, e_Reverse, e_SetItem, e_Aug, e_Par, e_SIndex, e_Isi, e_DispC, e_DGet2, e_Cn, e_Chain, e_Raise, e_TryAs, e_Xf, e_Append2, e_Reverse2, e_Pop2, h_Sub, h_FdivW, h_Mod, h_Pow, h_Lt, h_Le, h_Gt, h_Ge, h_Iadd, h_Isub, h_Neg, h_Abs, h_Int, h_Len, h_Sum, h_All, h_Any, h_List, h_Tuple, h_Add, h_Mul, h_Ix, h_Sl, h_Rev, h_Is, h_Not, h_Eq, h_Ne, h_In, h_Nin, e_endsV, e_endsM, h_Max2, h_Min2]; (with_reducible conv => whnf)) | ((with_reducible apply g_S); (· (first | exact Eq.refl _ | (simp only [flatL_map, flatL_append_map, flatL_cons, flatL_nil, flatL_mapr, Option.map_some]; exact rfl))); (with_reducible conv => whnf)) | ((with_reducible refine g_t ?_ ?_); (· first | decide | exact Eq.refl _); (with_reducible conv => whnf)) | ((with_reducible refine g_f ?_ ?_); (· first | decide | exact Eq.refl _); (with_reducible conv => whnf)) | ((with_reducible apply g_F); (· (simp only [O.frz, frzL, frzL_map, frzL_append, frzL_mapr, List.nil_append]; exact rfl)); (with_reducible conv => whnf)))
    rw [he]
    (with_reducible conv => whnf); repeat (first | ((with_reducible refine And.intro ?_ ?_); (· (first | ((with_reducible conv => whnf); exact trivial) | omega | assumption | exact Eq.refl _ | exact Nat.zero_le _ | (simp only [List.length_map, List.length_append, List.length_cons, List.length_nil, List.length_singleton, List.length_reverse, List.length_drop, List.length_take, List.length_range, List.length_replicate, cut_tl, cut_hd, cut_take, cut_drop]; omega))); (with_reducible conv => whnf)) | (with_reducible refine g_flat ?_; (with_reducible conv => whnf)) | (with_reducible refine Eq.mpr u_forN ?_; (with_reducible conv => whnf)) | ((with_reducible refine Eq.mpr l1__law_none_right_eq ?_); simp only [e_Var, e_Bor, e_Mov, e_Frz, e_C, e_Give, e_Op, e_Un, e_Nil, e_Cons, e_Tup, e_LNil, e_LCons, e_Lst, e_CallV, e_CallV0, e_CallVK, e_CallM, e_CallB, e_Next, e_Seq, e_Break, e_Cont, e_Drop, e_Ret, e_RetN, e_If, e_gName, e_Asg, e_gNil, e_gCons, e_gTup, e_Test, e_And, e_Or, e_NotT, e_AndV, e_OrV, e_NotV, e_IfE, e_NoPart, e_Part, e_Sl, e_IAny, e_For, e_While, e_Rng1, e_IZip, e_Lc, e_Yes, e_Append, e_Pop, e_PopAt, e_Extend, e_Reverse, e_SetItem, e_Aug, e_Par, e_SIndex, e_Isi, e_DispC, e_DGet2, e_Cn, e_Chain, e_Raise, e_TryAs, e_Xf, e_Append2, e_Reverse2, e_Pop2, h_Sub, h_FdivW, h_Mod, h_Pow, h_Lt, h_Le, h_Gt, h_Ge, h_Iadd, h_Isub, h_Neg, h_Abs, h_Int, h_Len, h_Sum, h_All, h_Any, h_List, h_Tuple, h_Add, h_Mul, h_Ix, h_Sl, h_Rev, h_Is, h_Not, h_Eq, h_Ne, h_In, h_Nin, e_endsV, e_endsM, h_Max2, h_Min2]; (with_reducible conv => whnf)) | ((with_reducible refine Eq.mpr l2__law_none_right_eq ?_); simp only [e_Var, e_Bor, e_Mov, e_Frz, e_C, e_Give, e_Op, e_Un, e_Nil, e_Cons, e_Tup, e_LNil, e_LCons, e_Lst, e_CallV, e_CallV0, e_CallVK, e_CallM, e_CallB, e_Next, e_Seq, e_Break, e_Cont, e_Drop, e_Ret, e_RetN, e_If, e_gName, e_Asg, e_gNil, e_gCons, e_gTup, e_Test, e_And, e_Or, e_NotT, e_AndV, e_OrV, e_NotV, e_IfE, e_NoPart, e_Part, e_Sl, e_IAny, e_For, e_While, e_Rng1, e_IZip, e_Lc, e_Yes, e_Append, e_Pop, e_PopAt, e_Extend, e_Reverse, e_SetItem, e_Aug, e_Par, e_SIndex, e_Isi, e_DispC, e_DGet2, e_Cn, e_Chain, e_Raise, e_TryAs, e_Xf, e_Append2, e_Reverse2, e_Pop2, h_Sub, h_FdivW, h_Mod, h_Pow, h_Lt, h_Le, h_Gt, h_Ge, h_Iadd, h_Isub, h_Neg, h_Abs, h_Int, h_Len, h_Sum, h_All, h_Any, h_List, h_Tuple, h_Add, h_Mul, h_Ix, h_Sl, h_Rev, h_Is, h_Not, h_Eq, h_Ne, h_In, h_Nin, e_endsV, e_endsM, h_Max2, h_Min2]; (with_reducible conv => whnf)) | ((with_reducible apply g_S); (· (first | exact Eq.refl _ | (simp only [flatL_map, flatL_append_map, flatL_cons, flatL_nil, flatL_mapr, Option.map_some]; exact rfl))); (with_reducible conv => whnf)) | ((with_reducible refine g_t ?_ ?_); (· first | decide | exact Eq.refl _); (with_reducible conv => whnf)) | ((with_reducible refine g_f ?_ ?_); (· first | decide | exact Eq.refl _); (with_reducible conv => whnf)) | ((with_reducible apply g_F); (· (simp only [O.frz, frzL, frzL_map, frzL_append, frzL_mapr, List.nil_append]; exact rfl)); (with_reducible conv => whnf)))
    refine same_use (d := .lst [.str sPlace, .str odd]) sm (by simp) ?_
    (with_reducible conv => whnf); repeat (first | ((with_reducible refine And.intro ?_ ?_); (· (first | ((with_reducible conv => whnf); exact trivial) | omega | assumption | exact Eq.refl _ | exact Nat.zero_le _ | (simp only [List.length_map, List.length_append, List.length_cons, List.length_nil, List.length_singleton, List.length_reverse, List.length_drop, List.length_take, List.length_range, List.length_replicate, cut_tl, cut_hd, cut_take, cut_drop]; omega))); (with_reducible conv => whnf)) | (with_reducible refine g_flat ?_; (with_reducible conv => whnf)) | (with_reducible refine Eq.mpr u_forN ?_; (with_reducible conv => whnf)) | ((with_reducible refine Eq.mpr l1__law_none_right_eq ?_); simp only [e_Var, e_Bor, e_Mov, e_Frz, e_C, e_Give, e_Op, e_Un, e_Nil, e_Cons, e_Tup, e_LNil, e_LCons, e_Lst, e_CallV, e_CallV0, e_CallVK, e_CallM, e_CallB, e_Next, e_Seq, e_Break, e_Cont, e_Drop, e_Ret, e_RetN, e_If, e_gName, e_Asg, e_gNil, e_gCons, e_gTup, e_Test, e_And, e_Or, e_NotT, e_AndV, e_OrV, e_NotV, e_IfE, e_NoPart, e_Part, e_Sl, e_IAny, e_For, e_While, e_Rng1, e_IZip, e_Lc, e_Yes, e_Append, e_Pop, e_PopAt, e_Extend, e_Reverse, e_SetItem, e_Aug, e_Par, e_SIndex, e_Isi, e_DispC, e_DGet2, e_Cn, e_Chain, e_Raise, e_TryAs, e_Xf, e_Append2, e_Reverse2, e_Pop2, h_Sub, h_FdivW, h_Mod, h_Pow, h_Lt, h_Le, h_Gt, h_Ge, h_Iadd, h_Isub, h_Neg, h_Abs, h_Int, h_Len, h_Sum, h_All, h_Any, h_List, h_Tuple, h_Add, h_Mul, h_Ix, h_Sl, h_Rev, h_Is, h_Not, h_Eq, h_Ne, h_In, h_Nin, e_endsV, e_endsM, h_Max2, h_Min2]; (with_reducible conv => whnf)) | ((with_reducible refine Eq.mpr l2__law_none_right_eq ?_); simp only [e_Var, e_Bor, e_Mov, e_Frz, e_C, e_Give, e_Op, e_Un, e_Nil, e_Cons, e_Tup, e_LNil, e_LCons, e_Lst, e_CallV, e_CallV0, e_CallVK, e_CallM, e_CallB, e_Next, e_Seq, e_Break, e_Cont, e_Drop, e_Ret, e_RetN, e_If, e_gName, e_Asg, e_gNil, e_gCons, e_gTup, e_Test, e_And, e_Or, e_NotT, e_AndV, e_OrV, e_NotV, e_IfE, e_NoPart, e_Part, e_Sl, e_IAny, e_For, e_While, e_Rng1, e_IZip, e_Lc, e_Yes, e_Append, e_Pop, e_PopAt, e_Extend, e_Reverse, e_SetItem, e_Aug, e_Par, e_SIndex, e_Isi, e_DispC, e_DGet2, e_Cn, e_Chain, e_Raise, e_TryAs, e_Xf, e_Append2, e_Reverse2, e_Pop2, h_Sub, h_FdivW, h_Mod, h_Pow, h_Lt, h_Le, h_Gt, h_Ge, h_Iadd, h_Isub, h_Neg, h_Abs, h_Int, h_Len, h_Sum, h_All, h_Any, h_List, h_Tuple, h_Add, h_Mul, h_Ix, h_Sl, h_Rev, h_Is, h_Not, h_Eq, h_Ne, h_In, h_Nin, e_endsV, e_endsM, h_Max2, h_Min2]; (with_reducible conv => whnf)) | ((with_reducible apply g_S); (· (first | exact Eq.refl _ | (simp only [flatL_map, flatL_append_map, flatL_cons, flatL_nil, flatL_mapr, Option.map_some]; exact rfl))); (with_reducible conv => whnf)) | ((with_reducible refine g_t ?_ ?_); (· first | decide | exact Eq.refl _); (with_reducible conv => whnf)) | ((with_reducible refine g_f ?_ ?_); (· first | decide | exact Eq.refl _); (with_reducible conv => whnf)) | ((with_reducible apply g_F); (· (simp only [O.frz, frzL, frzL_map, frzL_append, frzL_mapr, List.nil_append]; exact rfl)); (with_reducible conv => whnf)))
    with_reducible refine Eq.mpr u_forC ?_
    (with_reducible conv => whnf); repeat (first | ((with_reducible refine And.intro ?_ ?_); (· (first | ((with_reducible conv => whnf); exact trivial) | omega | assumption | exact Eq.refl _ | exact Nat.zero_le _ | (simp only [List.length_map, List.length_append, List.length_cons, List.length_nil, List.length_singleton, List.length_reverse, List.length_drop, List.length_take, List.length_range, List.length_replicate, cut_tl, cut_hd, cut_take, cut_drop]; omega))); (with_reducible conv => whnf)) | (with_reducible refine g_flat ?_; (with_reducible conv => whnf)) | (with_reducible refine Eq.mpr u_forN ?_; (with_reducible conv => whnf)) | ((with_reducible refine Eq.mpr l1__law_none_right_eq ?_); simp only [e_Var, e_Bor, e_Mov, e_Frz, e_C, e_Give, e_Op, e_Un, e_Nil, e_Cons, e_Tup, e_LNil, e_LCons, e_Lst, e_CallV, e_CallV0, e_CallVK, e_CallM, e_CallB, e_Next, e_Seq, e_Break, e_Cont, e_Drop, e_Ret, e_RetN, e_If, e_gName, e_Asg, e_gNil, e_gCons, e_gTup, e_Test, e_And, e_Or, e_NotT, e_AndV, e_OrV, e_NotV, e_IfE, e_NoPart, e_Part, e_Sl, e_IAny, e_For, e_While, e_Rng1, e_IZip, e_Lc, e_Yes, e_Append, e_Pop, e_PopAt, e_Extend, e_Reverse, e_SetItem, e_Aug, e_Par, e_SIndex, e_Isi, e_DispC, e_DGet2, e_Cn, e_Chain, e_Raise, e_TryAs, e_Xf, e_Append2, e_Reverse2, e_Pop2, h_Sub, h_FdivW, h_Mod, h_Pow, h_Lt, h_Le, h_Gt, h_Ge, h_Iadd, h_Isub, h_Neg, h_Abs, h_Int, h_Len, h_Sum, h_All, h_Any, h_List, h_Tuple, h_Add, h_Mul, h_Ix, h_Sl, h_Rev, h_Is, h_Not, h_Eq, h_Ne, h_In, h_Nin, e_endsV, e_endsM, h_Max2, h_Min2]; (with_reducible conv => whnf)) | ((with_reducible refine Eq.mpr l2__law_none_right_eq ?_); simp only [e_Var, e_Bor, e_Mov, e_Frz, e_C, e_Give, e_Op, e_Un, e_Nil, e_Cons, e_Tup, e_LNil, e_LCons, e_Lst, e_CallV, e_CallV0, e_CallVK, e_CallM, e_CallB, e_Next, e_Seq, e_Break, e_Cont, e_Drop, e_Ret, e_RetN, e_If, e_gName, e_Asg, e_gNil, e_gCons, e_gTup, e_Test, e_And, e_Or, e_NotT, e_AndV, e_OrV, e_NotV, e_IfE, e_NoPart, e_Part, e_Sl, e_IAny, e_For, e_While, e_Rng1, e_IZip, e_Lc, e_Yes, e_Append, e_Pop, e_PopAt, e_Extend, e_Reverse, e_SetItem, e_Aug, e_Par, e_SIndex, e_Isi, e_DispC, e_DGet2, e_Cn, e_Chain, e_Raise, e_TryAs, e_Xf, e_Append2, e_Reverse2, e_Pop2, h_Sub, h_FdivW, h_Mod, h_Pow, h_Lt, h_Le, h_Gt, h_Ge, h_Iadd, h_Isub, h_Neg, h_Abs, h_Int, h_Len, h_Sum, h_All, h_Any, h_List, h_Tuple, h_Add, h_Mul, h_Ix, h_Sl, h_Rev, h_Is, h_Not, h_Eq, h_Ne, h_In, h_Nin, e_endsV, e_endsM, h_Max2, h_Min2]; (with_reducible conv => whnf)) | ((with_reducible apply g_S); (· (first | exact Eq.refl _ | (simp only [flatL_map, flatL_append_map, flatL_cons, flatL_nil, flatL_mapr, Option.map_some]; exact rfl))); (with_reducible conv => whnf)) | ((with_reducible refine g_t ?_ ?_); (· first | decide | exact Eq.refl _); (with_reducible conv => whnf)) | ((with_reducible refine g_f ?_ ?_); (· first | decide | exact Eq.refl _); (with_reducible conv => whnf)) | ((with_reducible apply g_F); (· (simp only [O.frz, frzL, frzL_map, frzL_append, frzL_mapr, List.nil_append]; exact rfl)); (with_reducible conv => whnf)))
    refine told2 (o := .var [120]) gt gx ?_
    rw [e]
    simp only [wO, pD]
    (with_reducible conv => whnf); repeat (first | ((with_reducible refine And.intro ?_ ?_); (· (first | ((with_reducible conv => whnf); exact trivial) | omega | assumption | exact Eq.refl _ | exact Nat.zero_le _ | (simp only [List.length_map, List.length_append, List.length_cons, List.length_nil, List.length_singleton, List.length_reverse, List.length_drop, List.length_take, List.length_range, List.length_replicate, cut_tl, cut_hd, cut_take, cut_drop]; omega))); (with_reducible conv => whnf)) | (with_reducible refine g_flat ?_; (with_reducible conv => whnf)) | (with_reducible refine Eq.mpr u_forN ?_; (with_reducible conv => whnf)) | ((with_reducible refine Eq.mpr l1__law_none_right_eq ?_); simp only [e_Var, e_Bor, e_Mov, e_Frz, e_C, e_Give, e_Op, e_Un, e_Nil, e_Cons, e_Tup, e_LNil, e_LCons, e_Lst, e_CallV, e_CallV0, e_CallVK, e_CallM, e_CallB, e_Next, e_Seq, e_Break, e_Cont, e_Drop, e_Ret, e_RetN, e_If, e_gName, e_Asg, e_gNil, e_gCons, e_gTup, e_Test, e_And, e_Or, e_NotT, e_AndV, e_OrV, e_NotV, e_IfE, e_NoPart, e_Part, e_Sl, e_IAny, e_For, e_While, e_Rng1, e_IZip, e_Lc, e_Yes, e_Append, e_Pop, e_PopAt, e_Extend, e_Reverse, e_SetItem, e_Aug, e_Par, e_SIndex, e_Isi, e_DispC, e_DGet2, e_Cn, e_Chain, e_Raise, e_TryAs, e_Xf, e_Append2, e_Reverse2, e_Pop2, h_Sub, h_FdivW, h_Mod, h_Pow, h_Lt, h_Le, h_Gt, h_Ge, h_Iadd, h_Isub, h_Neg, h_Abs, h_Int, h_Len, h_Sum, h_All, h_Any, h_List, h_Tuple, h_Add, h_Mul, h_Ix, h_Sl, h_Rev, h_Is, h_Not, h_Eq, h_Ne, h_In, h_Nin, e_endsV, e_endsM, h_Max2, h_Min2]; (with_reducible conv => whnf)) | ((with_reducible refine Eq.mpr l2__law_none_right_eq ?_); simp only [e_Var, e_Bor, e_Mov, e_Frz, e_C, e_Give, e_Op, e_Un, e_Nil, e_Cons, e_Tup, e_LNil, e_LCons, e_Lst, e_CallV, e_CallV0, e_CallVK, e_CallM, e_CallB, e_Next, e_Seq, e_Break, e_Cont, e_Drop, e_Ret, e_RetN, e_If, e_gName, e_Asg, e_gNil, e_gCons, e_gTup, e_Test, e_And, e_Or, e_NotT, e_AndV, e_OrV, e_NotV, e_IfE, e_NoPart, e_Part, e_Sl, e_IAny, e_For, e_While, e_Rng1, e_IZip, e_Lc, e_Yes, e_Append, e_Pop, e_PopAt, e_Extend, e_Reverse, e_SetItem, e_Aug, e_Par, e_SIndex, e_Isi, e_DispC, e_DGet2, e_Cn, e_Chain, e_Raise, e_TryAs, e_Xf, e_Append2, e_Reverse2, e_Pop2, h_Sub, h_FdivW, h_Mod, h_Pow, h_Lt, h_Le, h_Gt, h_Ge, h_Iadd, h_Isub, h_Neg, h_Abs, h_Int, h_Len, h_Sum, h_All, h_Any, h_List, h_Tuple, h_Add, h_Mul, h_Ix, h_Sl, h_Rev, h_Is, h_Not, h_Eq, h_Ne, h_In, h_Nin, e_endsV, e_endsM, h_Max2, h_Min2]; (with_reducible conv => whnf)) | ((with_reducible apply g_S); (· (first | exact Eq.refl _ | (simp only [flatL_map, flatL_append_map, flatL_cons, flatL_nil, flatL_mapr, Option.map_some]; exact rfl))); (with_reducible conv => whnf)) | ((with_reducible refine g_t ?_ ?_); (· first | decide | exact Eq.refl _); (with_reducible conv => whnf)) | ((with_reducible refine g_f ?_ ?_); (· first | decide | exact Eq.refl _); (with_reducible conv => whnf)) | ((with_reducible apply g_F); (· (simp only [O.frz, frzL, frzL_map, frzL_append, frzL_mapr, List.nil_append]; exact rfl)); (with_reducible conv => whnf)))
    rw [he]
    (with_reducible conv => whnf); repeat (first | ((with_reducible refine And.intro ?_ ?_); (· (first | ((with_reducible conv => whnf); exact trivial) | omega | assumption | exact Eq.refl _ | exact Nat.zero_le _ | (simp only [List.length_map, List.length_append, List.length_cons, List.length_nil, List.length_singleton, List.length_reverse, List.length_drop, List.length_take, List.length_range, List.length_replicate, cut_tl, cut_hd, cut_take, cut_drop]; omega))); (with_reducible conv => whnf)) | (with_reducible refine g_flat ?_; (with_reducible conv => whnf)) | (with_reducible refine Eq.mpr u_forN ?_; (with_reducible conv => whnf)) | ((with_reducible refine Eq.mpr l1__law_none_right_eq ?_); simp only [e_Var, e_Bor, e_Mov, e_Frz, e_C, e_Give, e_Op, e_Un, e_Nil, e_Cons, e_Tup, e_LNil, e_LCons, e_Lst, e_CallV, e_CallV0, e_CallVK, e_CallM, e_CallB, e_Next, e_Seq, e_Break, e_Cont, e_Drop, e_Ret, e_RetN, e_If, e_gName, e_Asg, e_gNil, e_gCons, e_gTup, e_Test, e_And, e_Or, e_NotT, e_AndV, e_OrV, e_NotV, e_IfE, e_NoPart, e_Part, e_Sl, e_IAny, e_For, e_While, e_Rng1, e_IZip, e_Lc, e_Yes, e_Append, e_Pop, e_PopAt, e_Extend, e_Reverse, e_SetItem, e_Aug, e_Par, e_SIndex, e_Isi, e_DispC, e_DGet2, e_Cn, e_Chain, e_Raise, e_TryAs, e_Xf, e_Append2, e_Reverse2, e_Pop2, h_Sub, h_FdivW, h_Mod, h_Pow, h_Lt, h_Le, h_Gt, h_Ge, h_Iadd, h_Isub, h_Neg, h_Abs, h_Int, h_Len, h_Sum, h_All, h_Any, h_List, h_Tuple, h_Add, h_Mul, h_Ix, h_Sl, h_Rev, h_Is, h_Not, h_Eq, h_Ne, h_In, h_Nin, e_endsV, e_endsM, h_Max2, h_Min2]; (with_reducible conv => whnf)) | ((with_reducible refine Eq.mpr l2__law_none_right_eq ?_); simp only [e_Var, e_Bor, e_Mov, e_Frz, e_C, e_Give, e_Op, e_Un, e_Nil, e_Cons, e_Tup, e_LNil, e_LCons, e_Lst, e_CallV, e_CallV0, e_CallVK, e_CallM, e_CallB, e_Next, e_Seq, e_Break, e_Cont, e_Drop, e_Ret, e_RetN, e_If, e_gName, e_Asg, e_gNil, e_gCons, e_gTup, e_Test, e_And, e_Or, e_NotT, e_AndV, e_OrV, e_NotV, e_IfE, e_NoPart, e_Part, e_Sl, e_IAny, e_For, e_While, e_Rng1, e_IZip, e_Lc, e_Yes, e_Append, e_Pop, e_PopAt, e_Extend, e_Reverse, e_SetItem, e_Aug, e_Par, e_SIndex, e_Isi, e_DispC, e_DGet2, e_Cn, e_Chain, e_Raise, e_TryAs, e_Xf, e_Append2, e_Reverse2, e_Pop2, h_Sub, h_FdivW, h_Mod, h_Pow, h_Lt, h_Le, h_Gt, h_Ge, h_Iadd, h_Isub, h_Neg, h_Abs, h_Int, h_Len, h_Sum, h_All, h_Any, h_List, h_Tuple, h_Add, h_Mul, h_Ix, h_Sl, h_Rev, h_Is, h_Not, h_Eq, h_Ne, h_In, h_Nin, e_endsV, e_endsM, h_Max2, h_Min2]; (with_reducible conv => whnf)) | ((with_reducible apply g_S); (· (first | exact Eq.refl _ | (simp only [flatL_map, flatL_append_map, flatL_cons, flatL_nil, flatL_mapr, Option.map_some]; exact rfl))); (with_reducible conv => whnf)) | ((with_reducible refine g_t ?_ ?_); (· first | decide | exact Eq.refl _); (with_reducible conv => whnf)) | ((with_reducible refine g_f ?_ ?_); (· first | decide | exact Eq.refl _); (with_reducible conv => whnf)) | ((with_reducible apply g_F); (· (simp only [O.frz, frzL, frzL_map, frzL_append, frzL_mapr, List.nil_append]; exact rfl)); (with_reducible conv => whnf)))
    rw [he]
    (with_reducible conv => whnf); repeat (first | ((with_reducible refine And.intro ?_ ?_); (· (first | ((with_reducible conv => whnf); exact trivial) | omega | assumption | exact Eq.refl _ | exact Nat.zero_le _ | (simp only [List.length_map, List.length_append, List.length_cons, List.length_nil, List.length_singleton, List.length_reverse, List.length_drop, List.length_take, List.length_range, List.length_replicate, cut_tl, cut_hd, cut_take, cut_drop]; omega))); (with_reducible conv => whnf)) | (with_reducible refine g_flat ?_; (with_reducible conv => whnf)) | (with_reducible refine Eq.mpr u_forN ?_; (with_reducible conv => whnf)) | ((with_reducible refine Eq.mpr l1__law_none_right_eq ?_); simp only [e_Var, e_Bor, e_Mov, e_Frz, e_C, e_Give, e_Op, e_Un, e_Nil, e_Cons, e_Tup, e_LNil, e_LCons, e_Lst, e_CallV, e_CallV0, e_CallVK, e_CallM, e_CallB, e_Next, e_Seq, e_Break, e_Cont, e_Drop, e_Ret, e_RetN, e_If, e_gName, e_Asg, e_gNil, e_gCons, e_gTup, e_Test, e_And, e_Or, e_NotT, e_AndV, e_OrV, e_NotV, e_IfE, e_NoPart, e_Part, e_Sl, e_IAny, e_For, e_While, e_Rng1, e_IZip, e_Lc, e_Yes, e_Append, e_Pop, e_PopAt, e_Extend, e_Reverse, e_SetItem, e_Aug, e_Par, e_SIndex, e_Isi, e_DispC, e_DGet2, e_Cn, e_Chain, e_Raise, e_TryAs, e_Xf, e_Append2, e_Reverse2, e_Pop2, h_Sub, h_FdivW, h_Mod, h_Pow, h_Lt, h_Le, h_Gt, h_Ge, h_Iadd, h_Isub, h_Neg, h_Abs, h_Int, h_Len, h_Sum, h_All, h_Any, h_List, h_Tuple, h_Add, h_Mul, h_Ix, h_Sl, h_Rev, h_Is, h_Not, h_Eq, h_Ne, h_In, h_Nin, e_endsV, e_endsM, h_Max2, h_Min2]; (with_reducible conv => whnf)) | ((with_reducible refine Eq.mpr l2__law_none_right_eq ?_); simp only [e_Var, e_Bor, e_Mov, e_Frz, e_C, e_Give, e_Op, e_Un, e_Nil, e_Cons, e_Tup, e_LNil, e_LCons, e_Lst, e_CallV, e_CallV0, e_CallVK, e_CallM, e_CallB, e_Next, e_Seq, e_Break, e_Cont, e_Drop, e_Ret, e_RetN, e_If, e_gName, e_Asg, e_gNil, e_gCons, e_gTup, e_Test, e_And, e_Or, e_NotT, e_AndV, e_OrV, e_NotV, e_IfE, e_NoPart, e_Part, e_Sl, e_IAny, e_For, e_While, e_Rng1, e_IZip, e_Lc, e_Yes, e_Append, e_Pop, e_PopAt, e_Extend, e_Reverse, e_SetItem, e_Aug, e_Par, e_SIndex, e_Isi, e_DispC, e_DGet2, e_Cn, e_Chain, e_Raise, e_TryAs, e_Xf, e_Append2, e_Reverse2, e_Pop2, h_Sub, h_FdivW, h_Mod, h_Pow, h_Lt, h_Le, h_Gt, h_Ge, h_Iadd, h_Isub, h_Neg, h_Abs, h_Int, h_Len, h_Sum, h_All, h_Any, h_List, h_Tuple, h_Add, h_Mul, h_Ix, h_Sl, h_Rev, h_Is, h_Not, h_Eq, h_Ne, h_In, h_Nin, e_endsV, e_endsM, h_Max2, h_Min2]; (with_reducible conv => whnf)) | ((with_reducible apply g_S); (· (first | exact Eq.refl _ | (simp only [flatL_map, flatL_append_map, flatL_cons, flatL_nil, flatL_mapr, Option.map_some]; exact rfl))); (with_reducible conv => whnf)) | ((with_reducible refine g_t ?_ ?_); (· first | decide | exact Eq.refl _); (with_reducible conv => whnf)) | ((with_reducible refine g_f ?_ ?_); (· first | decide | exact Eq.refl _); (with_reducible conv => whnf)) | ((with_reducible apply g_F); (· (simp only [O.frz, frzL, frzL_map, frzL_append, frzL_mapr, List.nil_append]; exact rfl)); (with_reducible conv => whnf)))
    refine same_use (d := .lst [.str sPlace, .str odd]) sm (by simp) ?_
    (with_reducible conv => whnf); repeat (first | ((with_reducible refine And.intro ?_ ?_); (· (first | ((with_reducible conv => whnf); exact trivial) | omega | assumption | exact Eq.refl _ | exact Nat.zero_le _ | (simp only [List.length_map, List.length_append, List.length_cons, List.length_nil, List.length_singleton, List.length_reverse, List.length_drop, List.length_take, List.length_range, List.length_replicate, cut_tl, cut_hd, cut_take, cut_drop]; omega))); (with_reducible conv => whnf)) | (with_reducible refine g_flat ?_; (with_reducible conv => whnf)) | (with_reducible refine Eq.mpr u_forN ?_; (with_reducible conv => whnf)) | ((with_reducible refine Eq.mpr l1__law_none_right_eq ?_); simp only [e_Var, e_Bor, e_Mov, e_Frz, e_C, e_Give, e_Op, e_Un, e_Nil, e_Cons, e_Tup, e_LNil, e_LCons, e_Lst, e_CallV, e_CallV0, e_CallVK, e_CallM, e_CallB, e_Next, e_Seq, e_Break, e_Cont, e_Drop, e_Ret, e_RetN, e_If, e_gName, e_Asg, e_gNil, e_gCons, e_gTup, e_Test, e_And, e_Or, e_NotT, e_AndV, e_OrV, e_NotV, e_IfE, e_NoPart, e_Part, e_Sl, e_IAny, e_For, e_While, e_Rng1, e_IZip, e_Lc, e_Yes, e_Append, e_Pop, e_PopAt, e_Extend, e_Reverse, e_SetItem, e_Aug, e_Par, e_SIndex, e_Isi, e_DispC, e_DGet2, e_Cn, e_Chain, e_Raise, e_TryAs, e_Xf, e_Append2, e_Reverse2, e_Pop2, h_Sub, h_FdivW, h_Mod, h_Pow, h_Lt, h_Le, h_Gt, h_Ge, h_Iadd, h_Isub, h_Neg, h_Abs, h_Int, h_Len, h_Sum, h_All, h_Any, h_List, h_Tuple, h_Add, h_Mul, h_Ix, h_Sl, h_Rev, h_Is, h_Not, h_Eq, h_Ne, h_In, h_Nin, e_endsV, e_endsM, h_Max2, h_Min2]; (with_reducible conv => whnf)) | ((with_reducible refine Eq.mpr l2__law_none_right_eq ?_); simp only [e_Var, e_Bor, e_Mov, e_Frz, e_C, e_Give, e_Op, e_Un, e_Nil, e_Cons, e_Tup, e_LNil, e_LCons, e_Lst, e_CallV, e_CallV0, e_CallVK, e_CallM, e_CallB, e_Next, e_Seq, e_Break, e_Cont, e_Drop, e_Ret, e_RetN, e_If, e_gName, e_Asg, e_gNil, e_gCons, e_gTup, e_Test, e_And, e_Or, e_NotT, e_AndV, e_OrV, e_NotV, e_IfE, e_NoPart, e_Part, e_Sl, e_IAny, e_For, e_While, e_Rng1, e_IZip, e_Lc, e_Yes, e_Append, e_Pop, e_PopAt, e_Extend, e_Reverse, e_SetItem, e_Aug, e_Par, e_SIndex, e_Isi, e_DispC, e_DGet2, e_Cn, e_Chain, e_Raise, e_TryAs, e_Xf, e_Append2, e_Reverse2, e_Pop2, h_Sub, h_FdivW, h_Mod, h_Pow, h_Lt, h_Le, h_Gt, h_Ge, h_Iadd, h_Isub, h_Neg, h_Abs, h_Int, h_Len, h_Sum, h_All, h_Any, h_List, h_Tuple, h_Add, h_Mul, h_Ix, h_Sl, h_Rev, h_Is, h_Not, h_Eq, h_Ne, h_In, h_Nin, e_endsV, e_endsM, h_Max2, h_Min2]; (with_reducible conv => whnf)) | ((with_reducible apply g_S); (· (first | exact Eq.refl _ | (simp only [flatL_map, flatL_append_map, flatL_cons, flatL_nil, flatL_mapr, Option.map_some]; exact rfl))); (with_reducible conv => whnf)) | ((with_reducible refine g_t ?_ ?_); (· first | decide | exact Eq.refl _); (with_reducible conv => whnf)) | ((with_reducible refine g_f ?_ ?_); (· first | decide | exact Eq.refl _); (with_reducible conv => whnf)) | ((with_reducible apply g_F); (· (simp only [O.frz, frzL, frzL_map, frzL_append, frzL_mapr, List.nil_append]; exact rfl)); (with_reducible conv => whnf)))
    exact ih _ ⟨n + 3, x3, _, _, _, _, _, _, _, _, hB3, by omega, rfl⟩
  | some u =>
    have he : inD (.str odd) (placesD t) = true := by rw [in_places, e]; rfl
    refine told1 gt ?_
    rw [e]
    simp only [wO, tD]
    (with_reducible conv => whnf); repeat (first | ((with_reducible refine And.intro ?_ ?_); (· (first | ((with_reducible conv => whnf); exact trivial) | omega | assumption | exact Eq.refl _ | exact Nat.zero_le _ | (simp only [List.length_map, List.length_append, List.length_cons, List.length_nil, List.length_singleton, List.length_reverse, List.length_drop, List.length_take, List.length_range, List.length_replicate, cut_tl, cut_hd, cut_take, cut_drop]; omega))); (with_reducible conv => whnf)) | (with_reducible refine g_flat ?_; (with_reducible conv => whnf)) | (with_reducible refine Eq.mpr u_forN ?_; (with_reducible conv => whnf)) | ((with_reducible refine Eq.mpr l1__law_none_right_eq ?_); simp only [e_Var, e_Bor, e_Mov, e_Frz, e_C, e_Give, e_Op, e_Un, e_Nil, e_Cons, e_Tup, e_LNil, e_LCons, e_Lst, e_CallV, e_CallV0, e_CallVK, e_CallM, e_CallB, e_Next, e_Seq, e_Break, e_Cont, e_Drop, e_Ret, e_RetN, e_If, e_gName, e_Asg, e_gNil, e_gCons, e_gTup, e_Test, e_And, e_Or, e_NotT, e_AndV, e_OrV, e_NotV, e_IfE, e_NoPart, e_Part, e_Sl, e_IAny, e_For, e_While, e_Rng1, e_IZip, e_Lc, e_Yes, e_Append, e_Pop, e_PopAt, e_Extend, e_Reverse, e_SetItem, e_Aug, e_Par, e_SIndex, e_Isi, e_DispC, e_DGet2, e_Cn, e_Chain, e_Raise, e_TryAs, e_Xf, e_Append2, e_Reverse2, e_Pop2, h_Sub, h_FdivW, h_Mod, h_Pow, h_Lt, h_Le, h_Gt, h_Ge, h_Iadd, h_Isub, h_Neg, h_Abs, h_Int, h_Len, h_Sum, h_All, h_Any, h_List, h_Tuple, h_Add, h_Mul, h_Ix, h_Sl, h_Rev, h_Is, h_Not, h_Eq, h_Ne, h_In, h_Nin, e_endsV, e_endsM, h_Max2, h_Min2]; (with_reducible conv => whnf)) | ((with_reducible refine Eq.mpr l2__law_none_right_eq ?_); simp only [e_Var, e_Bor, e_Mov, e_Frz, e_C, e_Give, e_Op, e_Un, e_Nil, e_Cons, e_Tup, e_LNil, e_LCons, e_Lst, e_CallV, e_CallV0, e_CallVK, e_CallM, e_CallB, e_Next, e_Seq, e_Break, e_Cont, e_Drop, e_Ret, e_RetN, e_If, e_gName, e_Asg, e_gNil, e_gCons, e_gTup, e_Test, e_And, e_Or, e_NotT, e_AndV, e_OrV, e_NotV, e_IfE, e_NoPart, e_Part, e_Sl, e_IAny, e_For, e_While, e_Rng1, e_IZip, e_Lc, e_Yes, e_Append, e_Pop, e_PopAt, e_Extend, e_Reverse, e_SetItem, e_Aug, e_Par, e_SIndex, e_Isi, e_DispC, e_DGet2, e_Cn, e_Chain, e_Raise, e_TryAs, e_Xf, e_Append2, e_Reverse2, e_Pop2, h_Sub, h_FdivW, h_Mod, h_Pow, h_Lt, h_Le, h_Gt, h_Ge, h_Iadd, h_Isub, h_Neg, h_Abs, h_Int, h_Len, h_Sum, h_All, h_Any, h_List, h_Tuple, h_Add, h_Mul, h_Ix, h_Sl, h_Rev, h_Is, h_Not, h_Eq, h_Ne, h_In, h_Nin, e_endsV, e_endsM, h_Max2, h_Min2]; (with_reducible conv => whnf)) | ((with_reducible apply g_S); (· (first | exact Eq.refl _ | (simp only [flatL_map, flatL_append_map, flatL_cons, flatL_nil, flatL_mapr, Option.map_some]; exact rfl))); (with_reducible conv => whnf)) | ((with_reducible refine g_t ?_ ?_); (· first | decide | exact Eq.refl _); (with_reducible conv => whnf)) | ((with_reducible refine g_f ?_ ?_); (· first | decide | exact Eq.refl _); (with_reducible conv => whnf)) | ((with_reducible apply g_F); (· (simp only [O.frz, frzL, frzL_map, frzL_append, frzL_mapr, List.nil_append]; exact rfl)); (with_reducible conv => whnf)))
    rw [he]
    (with_reducible conv => whnf); repeat (first | ((with_reducible refine And.intro ?_ ?_); (· (first | ((with_reducible conv => whnf); exact trivial) | omega | assumption | exact Eq.refl _ | exact Nat.zero_le _ | (simp only [List.length_map, List.length_append, List.length_cons, List.length_nil, List.length_singleton, List.length_reverse, List.length_drop, List.length_take, List.length_range, List.length_replicate, cut_tl, cut_hd, cut_take, cut_drop]; omega))); (with_reducible conv => whnf)) | (with_reducible refine g_flat ?_; (with_reducible conv => whnf)) | (with_reducible refine Eq.mpr u_forN ?_; (with_reducible conv => whnf)) | ((with_reducible refine Eq.mpr l1__law_none_right_eq ?_); simp only [e_Var, e_Bor, e_Mov, e_Frz, e_C, e_Give, e_Op, e_Un, e_Nil, e_Cons, e_Tup, e_LNil, e_LCons, e_Lst, e_CallV, e_CallV0, e_CallVK, e_CallM, e_CallB, e_Next, e_Seq, e_Break, e_Cont, e_Drop, e_Ret, e_RetN, e_If, e_gName, e_Asg, e_gNil, e_gCons, e_gTup, e_Test, e_And, e_Or, e_NotT, e_AndV, e_OrV, e_NotV, e_IfE, e_NoPart, e_Part, e_Sl, e_IAny, e_For, e_While, e_Rng1, e_IZip, e_Lc, e_Yes, e_Append, e_Pop, e_PopAt, e_Extend, e_Reverse, e_SetItem, e_Aug, e_Par, e_SIndex, e_Isi, e_DispC, e_DGet2, e_Cn, e_Chain, e_Raise, e_TryAs, e_Xf, e_Append2, e_Reverse2, e_Pop2, h_Sub, h_FdivW, h_Mod, h_Pow, h_Lt, h_Le, h_Gt, h_Ge, h_Iadd, h_Isub, h_Neg, h_Abs, h_Int, h_Len, h_Sum, h_All, h_Any, h_List, h_Tuple, h_Add, h_Mul, h_Ix, h_Sl, h_Rev, h_Is, h_Not, h_Eq, h_Ne, h_In, h_Nin, e_endsV, e_endsM, h_Max2, h_Min2]; (with_reducible conv => whnf)) | ((with_reducible refine Eq.mpr l2__law_none_right_eq ?_); simp only [e_Var, e_Bor, e_Mov, e_Frz, e_C, e_Give, e_Op, e_Un, e_Nil, e_Cons, e_Tup, e_LNil, e_LCons, e_Lst, e_CallV, e_CallV0, e_CallVK, e_CallM, e_CallB, e_Next, e_Seq, e_Break, e_Cont, e_Drop, e_Ret, e_RetN, e_If, e_gName, e_Asg, e_gNil, e_gCons, e_gTup, e_Test, e_And, e_Or, e_NotT, e_AndV, e_OrV, e_NotV, e_IfE, e_NoPart, e_Part, e_Sl, e_IAny, e_For, e_While, e_Rng1, e_IZip, e_Lc, e_Yes, e_Append, e_Pop, e_PopAt, e_Extend, e_Reverse, e_SetItem, e_Aug, e_Par, e_SIndex, e_Isi, e_DispC, e_DGet2, e_Cn, e_Chain, e_Raise, e_TryAs, e_Xf, e_Append2, e_Reverse2, e_Pop2, h_Sub, h_FdivW, h_Mod, h_Pow, h_Lt, h_Le, h_Gt, h_Ge, h_Iadd, h_Isub, h_Neg, h_Abs, h_Int, h_Len, h_Sum, h_All, h_Any, h_List, h_Tuple, h_Add, h_Mul, h_Ix, h_Sl, h_Rev, h_Is, h_Not, h_Eq, h_Ne, h_In, h_Nin, e_endsV, e_endsM, h_Max2, h_Min2]; (with_reducible conv => whnf)) | ((with_reducible apply g_S); (· (first | exact Eq.refl _ | (simp only [flatL_map, flatL_append_map, flatL_cons, flatL_nil, flatL_mapr, Option.map_some]; exact rfl))); (with_reducible conv => whnf)) | ((with_reducible refine g_t ?_ ?_); (· first | decide | exact Eq.refl _); (with_reducible conv => whnf)) | ((with_reducible refine g_f ?_ ?_); (· first | decide | exact Eq.refl _); (with_reducible conv => whnf)) | ((with_reducible apply g_F); (· (simp only [O.frz, frzL, frzL_map, frzL_append, frzL_mapr, List.nil_append]; exact rfl)); (with_reducible conv => whnf)))
    rw [he]
    (with_reducible conv => whnf); repeat (first | ((with_reducible refine And.intro ?_ ?_); (· (first | ((with_reducible conv => whnf); exact trivial) | omega | assumption | exact Eq.refl _ | exact Nat.zero_le _ | (simp only [List.length_map, List.length_append, List.length_cons, List.length_nil, List.length_singleton, List.length_reverse, List.length_drop, List.length_take, List.length_range, List.length_replicate, cut_tl, cut_hd, cut_take, cut_drop]; omega))); (with_reducible conv => whnf)) | (with_reducible refine g_flat ?_; (with_reducible conv => whnf)) | (with_reducible refine Eq.mpr u_forN ?_; (with_reducible conv => whnf)) | ((with_reducible refine Eq.mpr l1__law_none_right_eq ?_); simp only [e_Var, e_Bor, e_Mov, e_Frz, e_C, e_Give, e_Op, e_Un, e_Nil, e_Cons, e_Tup, e_LNil, e_LCons, e_Lst, e_CallV, e_CallV0, e_CallVK, e_CallM, e_CallB, e_Next, e_Seq, e_Break, e_Cont, e_Drop, e_Ret, e_RetN, e_If, e_gName, e_Asg, e_gNil, e_gCons, e_gTup, e_Test, e_And, e_Or, e_NotT, e_AndV, e_OrV, e_NotV, e_IfE, e_NoPart, e_Part, e_Sl, e_IAny, e_For, e_While, e_Rng1, e_IZip, e_Lc, e_Yes, e_Append, e_Pop, e_PopAt, e_Extend, e_Reverse, e_SetItem, e_Aug, e_Par, e_SIndex, e_Isi, e_DispC, e_DGet2, e_Cn, e_Chain, e_Raise, e_TryAs, e_Xf, e_Append2, e_Reverse2, e_Pop2, h_Sub, h_FdivW, h_Mod, h_Pow, h_Lt, h_Le, h_Gt, h_Ge, h_Iadd, h_Isub, h_Neg, h_Abs, h_Int, h_Len, h_Sum, h_All, h_Any, h_List, h_Tuple, h_Add, h_Mul, h_Ix, h_Sl, h_Rev, h_Is, h_Not, h_Eq, h_Ne, h_In, h_Nin, e_endsV, e_endsM, h_Max2, h_Min2]; (with_reducible conv => whnf)) | ((with_reducible refine Eq.mpr l2__law_none_right_eq ?_); simp only [e_Var, e_Bor, e_Mov, e_Frz, e_C, e_Give, e_Op, e_Un, e_Nil, e_Cons, e_Tup, e_LNil, e_LCons, e_Lst, e_CallV, e_CallV0, e_CallVK, e_CallM, e_CallB, e_Next, e_Seq, e_Break, e_Cont, e_Drop, e_Ret, e_RetN, e_If, e_gName, e_Asg, e_gNil, e_gCons, e_gTup, e_Test, e_And, e_Or, e_NotT, e_AndV, e_OrV, e_NotV, e_IfE, e_NoPart, e_Part, e_Sl, e_IAny, e_For, e_While, e_Rng1, e_IZip, e_Lc, e_Yes, e_Append, e_Pop, e_PopAt, e_Extend, e_Reverse, e_SetItem, e_Aug, e_Par, e_SIndex, e_Isi, e_DispC, e_DGet2, e_Cn, e_Chain, e_Raise, e_TryAs, e_Xf, e_Append2, e_Reverse2, e_Pop2, h_Sub, h_FdivW, h_Mod, h_Pow, h_Lt, h_Le, h_Gt, h_Ge, h_Iadd, h_Isub, h_Neg, h_Abs, h_Int, h_Len, h_Sum, h_All, h_Any, h_List, h_Tuple, h_Add, h_Mul, h_Ix, h_Sl, h_Rev, h_Is, h_Not, h_Eq, h_Ne, h_In, h_Nin, e_endsV, e_endsM, h_Max2, h_Min2]; (with_reducible conv => whnf)) | ((with_reducible apply g_S); (· (first | exact Eq.refl _ | (simp only [flatL_map, flatL_append_map, flatL_cons, flatL_nil, flatL_mapr, Option.map_some]; exact rfl))); (with_reducible conv => whnf)) | ((with_reducible refine g_t ?_ ?_); (· first | decide | exact Eq.refl _); (with_reducible conv => whnf)) | ((with_reducible refine g_f ?_ ?_); (· first | decide | exact Eq.refl _); (with_reducible conv => whnf)) | ((with_reducible apply g_F); (· (simp only [O.frz, frzL, frzL_map, frzL_append, frzL_mapr, List.nil_append]; exact rfl)); (with_reducible conv => whnf)))
    with_reducible refine Eq.mpr u_forC ?_
    (with_reducible conv => whnf); repeat (first | ((with_reducible refine And.intro ?_ ?_); (· (first | ((with_reducible conv => whnf); exact trivial) | omega | assumption | exact Eq.refl _ | exact Nat.zero_le _ | (simp only [List.length_map, List.length_append, List.length_cons, List.length_nil, List.length_singleton, List.length_reverse, List.length_drop, List.length_take, List.length_range, List.length_replicate, cut_tl, cut_hd, cut_take, cut_drop]; omega))); (with_reducible conv => whnf)) | (with_reducible refine g_flat ?_; (with_reducible conv => whnf)) | (with_reducible refine Eq.mpr u_forN ?_; (with_reducible conv => whnf)) | ((with_reducible refine Eq.mpr l1__law_none_right_eq ?_); simp only [e_Var, e_Bor, e_Mov, e_Frz, e_C, e_Give, e_Op, e_Un, e_Nil, e_Cons, e_Tup, e_LNil, e_LCons, e_Lst, e_CallV, e_CallV0, e_CallVK, e_CallM, e_CallB, e_Next, e_Seq, e_Break, e_Cont, e_Drop, e_Ret, e_RetN, e_If, e_gName, e_Asg, e_gNil, e_gCons, e_gTup, e_Test, e_And, e_Or, e_NotT, e_AndV, e_OrV, e_NotV, e_IfE, e_NoPart, e_Part, e_Sl, e_IAny, e_For, e_While, e_Rng1, e_IZip, e_Lc, e_Yes, e_Append, e_Pop, e_PopAt, e_Extend, e_Reverse, e_SetItem, e_Aug, e_Par, e_SIndex, e_Isi, e_DispC, e_DGet2, e_Cn, e_Chain, e_Raise, e_TryAs, e_Xf, e_Append2, e_Reverse2, e_Pop2, h_Sub, h_FdivW, h_Mod, h_Pow, h_Lt, h_Le, h_Gt, h_Ge, h_Iadd, h_Isub, h_Neg, h_Abs, h_Int, h_Len, h_Sum, h_All, h_Any, h_List, h_Tuple, h_Add, h_Mul, h_Ix, h_Sl, h_Rev, h_Is, h_Not, h_Eq, h_Ne, h_In, h_Nin, e_endsV, e_endsM, h_Max2, h_Min2]; (with_reducible conv => whnf)) | ((with_reducible refine Eq.mpr l2__law_none_right_eq ?_); simp only [e_Var, e_Bor, e_Mov, e_Frz, e_C, e_Give, e_Op, e_Un, e_Nil, e_Cons, e_Tup, e_LNil, e_LCons, e_Lst, e_CallV, e_CallV0, e_CallVK, e_CallM, e_CallB, e_Next, e_Seq, e_Break, e_Cont, e_Drop, e_Ret, e_RetN, e_If, e_gName, e_Asg, e_gNil, e_gCons, e_gTup, e_Test, e_And, e_Or, e_NotT, e_AndV, e_OrV, e_NotV, e_IfE, e_NoPart, e_Part, e_Sl, e_IAny, e_For, e_While, e_Rng1, e_IZip, e_Lc, e_Yes, e_Append, e_Pop, e_PopAt, e_Extend, e_Reverse, e_SetItem, e_Aug, e_Par, e_SIndex, e_Isi, e_DispC, e_DGet2, e_Cn, e_Chain, e_Raise, e_TryAs, e_Xf, e_Append2, e_Reverse2, e_Pop2, h_Sub, h_FdivW, h_Mod, h_Pow, h_Lt, h_Le, h_Gt, h_Ge, h_Iadd, h_Isub, h_Neg, h_Abs, h_Int, h_Len, h_Sum, h_All, h_Any, h_List, h_Tuple, h_Add, h_Mul, h_Ix, h_Sl, h_Rev, h_Is, h_Not, h_Eq, h_Ne, h_In, h_Nin, e_endsV, e_endsM, h_Max2, h_Min2]; (with_reducible conv => whnf)) | ((with_reducible apply g_S); (· (first | exact Eq.refl _ | (simp only [flatL_map, flatL_append_map, flatL_cons, flatL_nil, flatL_mapr, Option.map_some]; exact rfl))); (with_reducible conv => whnf)) | ((with_reducible refine g_t ?_ ?_); (· first | decide | exact Eq.refl _); (with_reducible conv => whnf)) | ((with_reducible refine g_f ?_ ?_); (· first | decide | exact Eq.refl _); (with_reducible conv => whnf)) | ((with_reducible apply g_F); (· (simp only [O.frz, frzL, frzL_map, frzL_append, frzL_mapr, List.nil_append]; exact rfl)); (with_reducible conv => whnf)))
    refine told2 (o := .var [120]) gt gx ?_
    rw [e]
    simp only [wO, tD]
    (with_reducible conv => whnf); repeat (first | ((with_reducible refine And.intro ?_ ?_); (· (first | ((with_reducible conv => whnf); exact trivial) | omega | assumption | exact Eq.refl _ | exact Nat.zero_le _ | (simp only [List.length_map, List.length_append, List.length_cons, List.length_nil, List.length_singleton, List.length_reverse, List.length_drop, List.length_take, List.length_range, List.length_replicate, cut_tl, cut_hd, cut_take, cut_drop]; omega))); (with_reducible conv => whnf)) | (with_reducible refine g_flat ?_; (with_reducible conv => whnf)) | (with_reducible refine Eq.mpr u_forN ?_; (with_reducible conv => whnf)) | ((with_reducible refine Eq.mpr l1__law_none_right_eq ?_); simp only [e_Var, e_Bor, e_Mov, e_Frz, e_C, e_Give, e_Op, e_Un, e_Nil, e_Cons, e_Tup, e_LNil, e_LCons, e_Lst, e_CallV, e_CallV0, e_CallVK, e_CallM, e_CallB, e_Next, e_Seq, e_Break, e_Cont, e_Drop, e_Ret, e_RetN, e_If, e_gName, e_Asg, e_gNil, e_gCons, e_gTup, e_Test, e_And, e_Or, e_NotT, e_AndV, e_OrV, e_NotV, e_IfE, e_NoPart, e_Part, e_Sl, e_IAny, e_For, e_While, e_Rng1, e_IZip, e_Lc, e_Yes, e_Append, e_Pop, e_PopAt, e_Extend, e_Reverse, e_SetItem, e_Aug, e_Par, e_SIndex, e_Isi, e_DispC, e_DGet2, e_Cn, e_Chain, e_Raise, e_TryAs, e_Xf, e_Append2, e_Reverse2, e_Pop2, h_Sub, h_FdivW, h_Mod, h_Pow, h_Lt, h_Le, h_Gt, h_Ge, h_Iadd, h_Isub, h_Neg, h_Abs, h_Int, h_Len, h_Sum, h_All, h_Any, h_List, h_Tuple, h_Add, h_Mul, h_Ix, h_Sl, h_Rev, h_Is, h_Not, h_Eq, h_Ne, h_In, h_Nin, e_endsV, e_endsM, h_Max2, h_Min2]; (with_reducible conv => whnf)) | ((with_reducible refine Eq.mpr l2__law_none_right_eq ?_); simp only [e_Var, e_Bor, e_Mov, e_Frz, e_C, e_Give, e_Op, e_Un, e_Nil, e_Cons, e_Tup, e_LNil, e_LCons, e_Lst, e_CallV, e_CallV0, e_CallVK, e_CallM, e_CallB, e_Next, e_Seq, e_Break, e_Cont, e_Drop, e_Ret, e_RetN, e_If, e_gName, e_Asg, e_gNil, e_gCons, e_gTup, e_Test, e_And, e_Or, e_NotT, e_AndV, e_OrV, e_NotV, e_IfE, e_NoPart, e_Part, e_Sl, e_IAny, e_For, e_While, e_Rng1, e_IZip, e_Lc, e_Yes, e_Append, e_Pop, e_PopAt, e_Extend, e_Reverse, e_SetItem, e_Aug, e_Par, e_SIndex, e_Isi, e_DispC, e_DGet2, e_Cn, e_Chain, e_Raise, e_TryAs, e_Xf, e_Append2, e_Reverse2, e_Pop2, h_Sub, h_FdivW, h_Mod, h_Pow, h_Lt, h_Le, h_Gt, h_Ge, h_Iadd, h_Isub, h_Neg, h_Abs, h_Int, h_Len, h_Sum, h_All, h_Any, h_List, h_Tuple, h_Add, h_Mul, h_Ix, h_Sl, h_Rev, h_Is, h_Not, h_Eq, h_Ne, h_In, h_Nin, e_endsV, e_endsM, h_Max2, h_Min2]; (with_reducible conv => whnf)) | ((with_reducible apply g_S); (· (first | exact Eq.refl _ | (simp only [flatL_map, flatL_append_map, flatL_cons, flatL_nil, flatL_mapr, Option.map_some]; exact rfl))); (with_reducible conv => whnf)) | ((with_reducible refine g_t ?_ ?_); (· first | decide | exact Eq.refl _); (with_reducible conv => whnf)) | ((with_reducible refine g_f ?_ ?_); (· first | decide | exact Eq.refl _); (with_reducible conv => whnf)) | ((with_reducible apply g_F); (· (simp only [O.frz, frzL, frzL_map, frzL_append, frzL_mapr, List.nil_append]; exact rfl)); (with_reducible conv => whnf)))
    rw [he]
    (with_reducible conv => whnf); repeat (first | ((with_reducible refine And.intro ?_ ?_); (· (first | ((with_reducible conv => whnf); exact trivial) | omega | assumption | exact Eq.refl _ | exact Nat.zero_le _ | (simp only [List.length_map, List.length_append, List.length_cons, List.length_nil, List.length_singleton, List.length_reverse, List.length_drop, List.length_take, List.length_range, List.length_replicate, cut_tl, cut_hd, cut_take, cut_drop]; omega))); (with_reducible conv => whnf)) | (with_reducible refine g_flat ?_; (with_reducible conv => whnf)) | (with_reducible refine Eq.mpr u_forN ?_; (with_reducible conv => whnf)) | ((with_reducible refine Eq.mpr l1__law_none_right_eq ?_); simp only [e_Var, e_Bor, e_Mov, e_Frz, e_C, e_Give, e_Op, e_Un, e_Nil, e_Cons, e_Tup, e_LNil, e_LCons, e_Lst, e_CallV, e_CallV0, e_CallVK, e_CallM, e_CallB, e_Next, e_Seq, e_Break, e_Cont, e_Drop, e_Ret, e_RetN, e_If, e_gName, e_Asg, e_gNil, e_gCons, e_gTup, e_Test, e_And, e_Or, e_NotT, e_AndV, e_OrV, e_NotV, e_IfE, e_NoPart, e_Part, e_Sl, e_IAny, e_For, e_While, e_Rng1, e_IZip, e_Lc, e_Yes, e_Append, e_Pop, e_PopAt, e_Extend, e_Reverse, e_SetItem, e_Aug, e_Par, e_SIndex, e_Isi, e_DispC, e_DGet2, e_Cn, e_Chain, e_Raise, e_TryAs, e_Xf, e_Append2, e_Reverse2, e_Pop2, h_Sub, h_FdivW, h_Mod, h_Pow, h_Lt, h_Le, h_Gt, h_Ge, h_Iadd, h_Isub, h_Neg, h_Abs, h_Int, h_Len, h_Sum, h_All, h_Any, h_List, h_Tuple, h_Add, h_Mul, h_Ix, h_Sl, h_Rev, h_Is, h_Not, h_Eq, h_Ne, h_In, h_Nin, e_endsV, e_endsM, h_Max2, h_Min2]; (with_reducible conv => whnf)) | ((with_reducible refine Eq.mpr l2__law_none_right_eq ?_); simp only [e_Var, e_Bor, e_Mov, e_Frz, e_C, e_Give, e_Op, e_Un, e_Nil, e_Cons, e_Tup, e_LNil, e_LCons, e_Lst, e_CallV, e_CallV0, e_CallVK, e_CallM, e_CallB, e_Next, e_Seq, e_Break, e_Cont, e_Drop, e_Ret, e_RetN, e_If, e_gName, e_Asg, e_gNil, e_gCons, e_gTup, e_Test, e_And, e_Or, e_NotT, e_AndV, e_OrV, e_NotV, e_IfE, e_NoPart, e_Part, e_Sl, e_IAny, e_For, e_While, e_Rng1, e_IZip, e_Lc, e_Yes, e_Append, e_Pop, e_PopAt, e_Extend, e_Reverse, e_SetItem, e_Aug, e_Par, e_SIndex, e_Isi, e_DispC, e_DGet2, e_Cn, e_Chain, e_Raise, e_TryAs, e_Xf, e_Append2, e_Reverse2, e_Pop2, h_Sub, h_FdivW, h_Mod, h_Pow, h_Lt, h_Le, h_Gt, h_Ge, h_Iadd, h_Isub, h_Neg, h_Abs, h_Int, h_Len, h_Sum, h_All, h_Any, h_List, h_Tuple, h_Add, h_Mul, h_Ix, h_Sl, h_Rev, h_Is, h_Not, h_Eq, h_Ne, h_In, h_Nin, e_endsV, e_endsM, h_Max2, h_Min2]; (with_reducible conv => whnf)) | ((with_reducible apply g_S); (· (first | exact Eq.refl _ | (simp only [flatL_map, flatL_append_map, flatL_cons, flatL_nil, flatL_mapr, Option.map_some]; exact rfl))); (with_reducible conv => whnf)) | ((with_reducible refine g_t ?_ ?_); (· first | decide | exact Eq.refl _); (with_reducible conv => whnf)) | ((with_reducible refine g_f ?_ ?_); (· first | decide | exact Eq.refl _); (with_reducible conv => whnf)) | ((with_reducible apply g_F); (· (simp only [O.frz, frzL, frzL_map, frzL_append, frzL_mapr, List.nil_append]; exact rfl)); (with_reducible conv => whnf)))
    rw [he]
    (with_reducible conv => whnf); repeat (first | ((with_reducible refine And.intro ?_ ?_); (· (first | ((with_reducible conv => whnf); exact trivial) | omega | assumption | exact Eq.refl _ | exact Nat.zero_le _ | (simp only [List.length_map, List.length_append, List.length_cons, List.length_nil, List.length_singleton, List.length_reverse, List.length_drop, List.length_take, List.length_range, List.length_replicate, cut_tl, cut_hd, cut_take, cut_drop]; omega))); (with_reducible conv => whnf)) | (with_reducible refine g_flat ?_; (with_reducible conv => whnf)) | (with_reducible refine Eq.mpr u_forN ?_; (with_reducible conv => whnf)) | ((with_reducible refine Eq.mpr l1__law_none_right_eq ?_); simp only [e_Var, e_Bor, e_Mov, e_Frz, e_C, e_Give, e_Op, e_Un, e_Nil, e_Cons, e_Tup, e_LNil, e_LCons, e_Lst, e_CallV, e_CallV0, e_CallVK, e_CallM, e_CallB, e_Next, e_Seq, e_Break, e_Cont, e_Drop, e_Ret, e_RetN, e_If, e_gName, e_Asg, e_gNil, e_gCons, e_gTup, e_Test, e_And, e_Or, e_NotT, e_AndV, e_OrV, e_NotV, e_IfE, e_NoPart, e_Part, e_Sl, e_IAny, e_For, e_While, e_Rng1, e_IZip, e_Lc, e_Yes, e_Append, e_Pop, e_PopAt, e_Extend, e_Reverse, e_SetItem, e_Aug, e_Par, e_SIndex, e_Isi, e_DispC, e_DGet2, e_Cn, e_Chain, e_Raise, e_TryAs, e_Xf, e_Append2, e_Reverse2, e_Pop2, h_Sub, h_FdivW, h_Mod, h_Pow, h_Lt, h_Le, h_Gt, h_Ge, h_Iadd, h_Isub, h_Neg, h_Abs, h_Int, h_Len, h_Sum, h_All, h_Any, h_List, h_Tuple, h_Add, h_Mul, h_Ix, h_Sl, h_Rev, h_Is, h_Not, h_Eq, h_Ne, h_In, h_Nin, e_endsV, e_endsM, h_Max2, h_Min2]; (with_reducible conv => whnf)) | ((with_reducible refine Eq.mpr l2__law_none_right_eq ?_); simp only [e_Var, e_Bor, e_Mov, e_Frz, e_C, e_Give, e_Op, e_Un, e_Nil, e_Cons, e_Tup, e_LNil, e_LCons, e_Lst, e_CallV, e_CallV0, e_CallVK, e_CallM, e_CallB, e_Next, e_Seq, e_Break, e_Cont, e_Drop, e_Ret, e_RetN, e_If, e_gName, e_Asg, e_gNil, e_gCons, e_gTup, e_Test, e_And, e_Or, e_NotT, e_AndV, e_OrV, e_NotV, e_IfE, e_NoPart, e_Part, e_Sl, e_IAny, e_For, e_While, e_Rng1, e_IZip, e_Lc, e_Yes, e_Append, e_Pop, e_PopAt, e_Extend, e_Reverse, e_SetItem, e_Aug, e_Par, e_SIndex, e_Isi, e_DispC, e_DGet2, e_Cn, e_Chain, e_Raise, e_TryAs, e_Xf, e_Append2, e_Reverse2, e_Pop2, h_Sub, h_FdivW, h_Mod, h_Pow, h_Lt, h_Le, h_Gt, h_Ge, h_Iadd, h_Isub, h_Neg, h_Abs, h_Int, h_Len, h_Sum, h_All, h_Any, h_List, h_Tuple, h_Add, h_Mul, h_Ix, h_Sl, h_Rev, h_Is, h_Not, h_Eq, h_Ne, h_In, h_Nin, e_endsV, e_endsM, h_Max2, h_Min2]; (with_reducible conv => whnf)) | ((with_reducible apply g_S); (· (first | exact Eq.refl _ | (simp only [flatL_map, flatL_append_map, flatL_cons, flatL_nil, flatL_mapr, Option.map_some]; exact rfl))); (with_reducible conv => whnf)) | ((with_reducible refine g_t ?_ ?_); (· first | decide | exact Eq.refl _); (with_reducible conv => whnf)) | ((with_reducible refine g_f ?_ ?_); (· first | decide | exact Eq.refl _); (with_reducible conv => whnf)) | ((with_reducible apply g_F); (· (simp only [O.frz, frzL, frzL_map, frzL_append, frzL_mapr, List.nil_append]; exact rfl)); (with_reducible conv => whnf)))
    exact ih _ ⟨n + 3, x3, _, _, _, _, _, _, _, _, hB3, by omega, rfl⟩
end Law
end

section
set_option Elab.async false
set_option linter.all false
set_option maxRecDepth 100000
set_option maxHeartbeats 2000000
namespace Law
open PySem PySem.Spec L2 PyProof.Rows DL

/-! ### the law -/
def s_law : PSpV := fun ds Q _ => ∃ ns : List Int, ns.length ≤ 63 ∧ ds = [.kst (ns.map D.int)] ∧ Q (.d (.bl true))
theorem len_law : ∀ ds Qp Ep, s_law ds Qp Ep → ds.length = 1 := fun ds Q E ⟨_, _, e, _⟩ => by rw [e]; rfl
abbrev N_law : List Str := ["script", "k", "box", "named", "turn", "term", "rows", "place", "here"]
def l1_law : PTS := (pSeq (pIf (pNotT (pTest (pCallM s__law_put_right 2 (pCons (pVar 5) (pCons (pVar 7) (pCons (pVar 8) (pCons (pVar 3) pNil))))))) (pRet (pC (.bl false))) pNext)
    (pAsg (pNotV (pVar 3)) (pgName 3)))
theorem l1_law_eq {De : PEnds} {env : DL.Env} : l1_law De env = (pSeq (pIf (pNotT (pTest (pCallM s__law_put_right 2 (pCons (pVar 5) (pCons (pVar 7) (pCons (pVar 8) (pCons (pVar 3) pNil))))))) (pRet (pC (.bl false))) pNext)
    (pAsg (pNotV (pVar 3)) (pgName 3))) De env := rfl
def l2_law : PTS := (pSeq (pAsg (pGive (pCallM s__law_nested 2 (pCons (pGive (pCallM s__law_pick 2 (pCons (pGive (pLst (pLCons (pC (.int (3))) (pLCons (pC (.int (6))) (pLCons (pC (.int (10))) (pLCons (pC (.int (16))) (pLCons (pC (.int (24))) (pLCons (pC (.int (40))) pLNil)))))))) pNil))) pNil))) (pgName 5))
    (pSeq (pAsg (pGive (pCallV (s__law_places 110) (pCons (pVar 5) pNil))) (pgName 6))
    (pSeq (pIf (pOr (pNotT (pTest (pCallV s__law_places_right (pCons (pVar 5) (pCons (pVar 3) pNil))))) (pOr (pNotT (pTest (pCallM s__law_two_right 2 (pCons (pVar 5) (pCons (pVar 6) (pCons (pNotV (pVar 3)) pNil)))))) (pNotT (pTest (pCallM s__law_none_right 2 (pCons (pVar 5) (pCons (pVar 6) (pCons (pVar 3) pNil)))))))) (pRet (pC (.bl false))) pNext)
    (pFor (pIAny (pGive (pSl fSl (pGive (pCallM s__law_mixed 2 (pCons (pVar 6) pNil))) pNoPart (pPart (pC (.int (4))))))) (pgTup 2 (pgCons (pgName 7) (pgCons (pgName 8) pgNil))) l1_law))))
theorem l2_law_eq {De : PEnds} {env : DL.Env} : l2_law De env = (pSeq (pAsg (pGive (pCallM s__law_nested 2 (pCons (pGive (pCallM s__law_pick 2 (pCons (pGive (pLst (pLCons (pC (.int (3))) (pLCons (pC (.int (6))) (pLCons (pC (.int (10))) (pLCons (pC (.int (16))) (pLCons (pC (.int (24))) (pLCons (pC (.int (40))) pLNil)))))))) pNil))) pNil))) (pgName 5))
    (pSeq (pAsg (pGive (pCallV (s__law_places 110) (pCons (pVar 5) pNil))) (pgName 6))
    (pSeq (pIf (pOr (pNotT (pTest (pCallV s__law_places_right (pCons (pVar 5) (pCons (pVar 3) pNil))))) (pOr (pNotT (pTest (pCallM s__law_two_right 2 (pCons (pVar 5) (pCons (pVar 6) (pCons (pNotV (pVar 3)) pNil)))))) (pNotT (pTest (pCallM s__law_none_right 2 (pCons (pVar 5) (pCons (pVar 6) (pCons (pVar 3) pNil)))))))) (pRet (pC (.bl false))) pNext)
    (pFor (pIAny (pGive (pSl fSl (pGive (pCallM s__law_mixed 2 (pCons (pVar 6) pNil))) pNoPart (pPart (pC (.int (4))))))) (pgTup 2 (pgCons (pgName 7) (pgCons (pgName 8) pgNil))) l1_law)))) De env := rfl
def l3_law : PTS := (pSeq (pAsg (pCallV s__law_box (pCons (pGive (pCallV s__law_cell (pCons (pVar 0) (pCons (pVar 1) pNil)))) pNil)) (pgName 2))
    (pSeq (pAsg (pOp fEq (pCallM s__law_take 2 (pCons (pC (.int (2))) pNil)) (pC (.int (0)))) (pgName 3))
    (pFor (pRng1 (pC (.int (4)))) (pgName 4) l2_law)))
theorem l3_law_eq {De : PEnds} {env : DL.Env} : l3_law De env = (pSeq (pAsg (pCallV s__law_box (pCons (pGive (pCallV s__law_cell (pCons (pVar 0) (pCons (pVar 1) pNil)))) pNil)) (pgName 2))
    (pSeq (pAsg (pOp fEq (pCallM s__law_take 2 (pCons (pC (.int (2))) pNil)) (pC (.int (0)))) (pgName 3))
    (pFor (pRng1 (pC (.int (4)))) (pgName 4) l2_law))) De env := rfl
def b_law : PTS := (pSeq (pFor (pRng1 (pCn fMax2 (pCons (pC (.int (2))) (pCons (pCn fMin2 (pCons (pC (.int (3))) (pCons (pUn fLen (pVar 0)) pNil))) pNil)))) (pgName 1) l3_law)
    (pRet (pC (.bl true))))

theorem mixed_use {n : Nat} {its : List D} {xs : List O} {Q : O → List O → Prop} (hB : Bx n xs) (hn : n + its.length ≤ 1000000) (h : ∀ (l : List D) xs', (∀ d ∈ l, d ∈ its) → Bx (n + its.length) xs' → Q (.own (l.map O.d)) xs') : s__law_mixed xs [.lst its] Q := ⟨n, its, hB, hn, rfl, h⟩
theorem pure_law : ∀ ds Qp Ep, s_law ds Qp Ep → b_law (endsV Qp Ep) (envV 9 ds) := fun ds Q E ⟨ns, hn, e, h⟩ => by
  subst e
  simp only [envV, envM, List.map_cons, List.map_nil, List.cons_append, List.nil_append, List.length_cons, List.length_nil, List.reduceReplicate, Nat.reduceAdd, Nat.reduceSub]
  unfold b_law
  simp only [e_Var, e_Bor, e_Mov, e_Frz, e_C, e_Give, e_Op, e_Un, e_Nil, e_Cons, e_Tup, e_LNil, e_LCons, e_Lst, e_CallV, e_CallV0, e_CallVK, e_CallM, e_CallB, e_Next, e_Seq, e_Break, e_Cont, e_Drop, e_Ret, e_RetN, e_If, e_gName, e_Asg, e_gNil, e_gCons, e_gTup, e_Test, e_And, e_Or, e_NotT, e_AndV, e_OrV, e_NotV, e_IfE, e_NoPart, e_Part, e_Sl, e_IAny, e_For, e_While, e_Rng1, e_IZip, e_Lc, e_Yes, e_Append, e_Pop, e_PopAt, e_Extend, e_Reverse, e_SetItem, e_Aug, e_Par, e_SIndex, e_Isi, e_DispC, e_DGet2, e_Cn, e_Chain, e_Raise, e_TryAs, e_Xf, e_Append2, e_Reverse2, e_Pop2, h_Sub, h_FdivW, h_Mod, h_Pow, h_Lt, h_Le, h_Gt, h_Ge, h_Iadd, h_Isub, h_Neg, h_Abs, h_Int, h_Len, h_Sum, h_All, h_Any, h_List, h_Tuple, h_Add, h_Mul, h_Ix, h_Sl, h_Rev, h_Is, h_Not, h_Eq, h_Ne, h_In, h_Nin, e_endsV, e_endsM, h_Max2, h_Min2]
  (with_reducible conv => whnf); repeat (first | ((with_reducible refine And.intro ?_ ?_); (· (first | ((with_reducible conv => whnf); exact trivial) | omega | assumption | exact Eq.refl _ | exact Nat.zero_le _ | (simp only [List.length_map, List.length_append, List.length_cons, List.length_nil, List.length_singleton, List.length_reverse, List.length_drop, List.length_take, List.length_range, List.length_replicate, cut_tl, cut_hd, cut_take, cut_drop]; omega))); (with_reducible conv => whnf)) | (with_reducible refine g_flat ?_; (with_reducible conv => whnf)) | (with_reducible refine Eq.mpr u_forN ?_; (with_reducible conv => whnf)) | ((with_reducible refine Eq.mpr l1_law_eq ?_); simp only [e_Var, e_Bor, e_Mov, e_Frz, e_C, e_Give, e_Op, e_Un, e_Nil, e_Cons, e_Tup, e_LNil, e_LCons, e_Lst, e_CallV, e_CallV0, e_CallVK, e_CallM, e_CallB, e_Next, e_Seq, e_Break, e_Cont, e_Drop, e_Ret, e_RetN, e_If, e_gName, e_Asg, e_gNil, e_gCons, e_gTup, e_Test, e_And, e_Or, e_NotT, e_AndV, e_OrV, e_NotV, e_IfE, e_NoPart, e_Part, e_Sl, e_IAny, e_For, e_While, e_Rng1, e_IZip, e_Lc, e_Yes, e_Append, e_Pop, e_PopAt, e_Extend, e_Reverse, e_SetItem, e_Aug, e_Par, e_SIndex, e_Isi, e_DispC, e_DGet2, e_Cn, e_Chain, e_Raise, e_TryAs, e_Xf, e_Append2, e_Reverse2, e_Pop2, h_Sub, h_FdivW, h_Mod, h_Pow, h_Lt, h_Le, h_Gt, h_Ge, h_Iadd, h_Isub, h_Neg, h_Abs, h_Int, h_Len, h_Sum, h_All, h_Any, h_List, h_Tuple, h_Add, h_Mul, h_Ix, h_Sl, h_Rev, h_Is, h_Not, h_Eq, h_Ne, h_In, h_Nin, e_endsV, e_endsM, h_Max2, h_Min2]; (with_reducible conv => whnf)) | ((with_reducible refine Eq.mpr l2_law_eq ?_); simp only [e_Var, e_Bor, e_Mov, e_Frz, e_C, e_Give, e_Op, e_Un, e_Nil, e_Cons, e_Tup, e_LNil, e_LCons, e_Lst, e_CallV, e_CallV0, e_CallVK, e_CallM, e_CallB, e_Next, e_Seq, e_Break, e_Cont, e_Drop, e_Ret, e_RetN, e_If, e_gName, e_Asg, e_gNil, e_gCons, e_gTup, e_Test, e_And, e_Or, e_NotT, e_AndV, e_OrV, e_NotV, e_IfE, e_NoPart, e_Part, e_Sl, e_IAny, e_For, e_While, e_Rng1, e_IZip, e_Lc, e_Yes, e_Append, e_Pop, e_PopAt, e_Extend, e_Reverse, e_SetItem, e_Aug, e_Par, e_SIndex, e_Isi, e_DispC, e_DGet2, e_Cn, e_Chain, e_Raise, e_TryAs, e_Xf, e_Append2, e_Reverse2, e_Pop2, h_Sub, h_FdivW, h_Mod, h_Pow, h_Lt, h_Le, h_Gt, h_Ge, h_Iadd, h_Isub, h_Neg, h_Abs, h_Int, h_Len, h_Sum, h_All, h_Any, h_List, h_Tuple, h_Add, h_Mul, h_Ix, h_Sl, h_Rev, h_Is, h_Not, h_Eq, h_Ne, h_In, h_Nin, e_endsV, e_endsM, h_Max2, h_Min2]; (with_reducible conv => whnf)) | ((with_reducible refine Eq.mpr l3_law_eq ?_); simp only [e_Var, e_Bor, e_Mov, e_Frz, e_C, e_Give, e_Op, e_Un, e_Nil, e_Cons, e_Tup, e_LNil, e_LCons, e_Lst, e_CallV, e_CallV0, e_CallVK, e_CallM, e_CallB, e_Next, e_Seq, e_Break, e_Cont, e_Drop, e_Ret, e_RetN, e_If, e_gName, e_Asg, e_gNil, e_gCons, e_gTup, e_Test, e_And, e_Or, e_NotT, e_AndV, e_OrV, e_NotV, e_IfE, e_NoPart, e_Part, e_Sl, e_IAny, e_For, e_While, e_Rng1, e_IZip, e_Lc, e_Yes, e_Append, e_Pop, e_PopAt, e_Extend, e_Reverse, e_SetItem, e_Aug, e_Par, e_SIndex, e_Isi, e_DispC, e_DGet2, e_Cn, e_Chain, e_Raise, e_TryAs, e_Xf, e_Append2, e_Reverse2, e_Pop2, h_Sub, h_FdivW, h_Mod, h_Pow, h_Lt, h_Le, h_Gt, h_Ge, h_Iadd, h_Isub, h_Neg, h_Abs, h_Int, h_Len, h_Sum, h_All, h_Any, h_List, h_Tuple, h_Add, h_Mul, h_Ix, h_Sl, h_Rev, h_Is, h_Not, h_Eq, h_Ne, h_In, h_Nin, e_endsV, e_endsM, h_Max2, h_Min2]; (with_reducible conv => whnf)) | ((with_reducible apply g_S); (· (first | exact Eq.refl _ | (simp only [flatL_map, flatL_append_map, flatL_cons, flatL_nil, flatL_mapr, Option.map_some]; exact rfl))); (with_reducible conv => whnf)) | ((with_reducible refine g_t ?_ ?_); (· first | decide | exact Eq.refl _); (with_reducible conv => whnf)) | ((with_reducible refine g_f ?_ ?_); (· first | decide | exact Eq.refl _); (with_reducible conv => whnf)) | ((with_reducible apply g_F); (· (simp only [O.frz, frzL, frzL_map, frzL_append, frzL_mapr, List.nil_append]; exact rfl)); (with_reducible conv => whnf)))
  refine forR_go (fun ds env => (∀ d ∈ ds, ∃ k : Nat, k ≤ 63 ∧ d = .int k) ∧ ∃ v1 v2 v3 v4 v5 v6 v7 v8, env = [some (.d (.kst (ns.map D.int))), v1, v2, v3, v4, v5, v6, v7, v8]) ?_ ?_ ?_
  · refine ⟨fun d hd => ?_, _, _, _, _, _, _, _, _, rfl⟩
    obtain ⟨k, hk, rfl⟩ := List.mem_map.mp hd
    refine ⟨k, ?_, rfl⟩
    have := List.mem_range.mp hk
    simp only [List.length_map] at this
    omega
  · rintro _ ⟨_, v1, v2, v3, v4, v5, v6, v7, v8, rfl⟩
    (with_reducible conv => whnf); repeat (first | ((with_reducible refine And.intro ?_ ?_); (· (first | ((with_reducible conv => whnf); exact trivial) | omega | assumption | exact Eq.refl _ | exact Nat.zero_le _ | (simp only [List.length_map, List.length_append, List.length_cons, List.length_nil, List.length_singleton, List.length_reverse, List.length_drop, List.length_take, List.length_range, List.length_replicate, cut_tl, cut_hd, cut_take, cut_drop]; omega))); (with_reducible conv => whnf)) | (with_reducible refine g_flat ?_; (with_reducible conv => whnf)) | (with_reducible refine Eq.mpr u_forN ?_; (with_reducible conv => whnf)) | ((with_reducible refine Eq.mpr l1_law_eq ?_); simp only [e_Var, e_Bor, e_Mov, e_Frz, e_C, e_Give, e_Op, e_Un, e_Nil, e_Cons, e_Tup, e_LNil, e_LCons, e_Lst, e_CallV, e_CallV0, e_CallVK, e_CallM, e_CallB, e_Next, e_Seq, e_Break, e_Cont, e_Drop, e_Ret, e_RetN, e_If, e_gName, e_Asg, e_gNil, e_gCons, e_gTup, e_Test, e_And, e_Or, e_NotT, e_AndV, e_OrV, e_NotV, e_IfE, e_NoPart, e_Part, e_Sl, e_IAny, e_For, e_While, e_Rng1, e_IZip, e_Lc, e_Yes, e_Append, e_Pop, e_PopAt, e_Extend, e_Reverse, e_SetItem, e_Aug, e_Par, e_SIndex, e_Isi, e_DispC, e_DGet2, e_Cn, e_Chain, e_Raise, e_TryAs, e_Xf, e_Append2, e_Reverse2, e_Pop2, h_Sub, h_FdivW, h_Mod, h_Pow, h_Lt, h_Le, h_Gt, h_Ge, h_Iadd, h_Isub, h_Neg, h_Abs, h_Int, h_Len, h_Sum, h_All, h_Any, h_List, h_Tuple, h_Add, h_Mul, h_Ix, h_Sl, h_Rev, h_Is, h_Not, h_Eq, h_Ne, h_In, h_Nin, e_endsV, e_endsM, h_Max2, h_Min2]; (with_reducible conv => whnf)) | ((with_reducible refine Eq.mpr l2_law_eq ?_); simp only [e_Var, e_Bor, e_Mov, e_Frz, e_C, e_Give, e_Op, e_Un, e_Nil, e_Cons, e_Tup, e_LNil, e_LCons, e_Lst, e_CallV, e_CallV0, e_CallVK, e_CallM, e_CallB, e_Next, e_Seq, e_Break, e_Cont, e_Drop, e_Ret, e_RetN, e_If, e_gName, e_Asg, e_gNil, e_gCons, e_gTup, e_Test, e_And, e_Or, e_NotT, e_AndV, e_OrV, e_NotV, e_IfE, e_NoPart, e_Part, e_Sl, e_IAny, e_For, e_While, e_Rng1, e_IZip, e_Lc, e_Yes, e_Append, e_Pop, e_PopAt, e_Extend, e_Reverse, e_SetItem, e_Aug, e_Par, e_SIndex, e_Isi, e_DispC, e_DGet2, e_Cn, e_Chain, e_Raise, e_TryAs, e_Xf, e_Append2, e_Reverse2, e_Pop2, h_Sub, h_FdivW, h_Mod, h_Pow, h_Lt, h_Le, h_Gt, h_Ge, h_Iadd, h_Isub, h_Neg, h_Abs, h_Int, h_Len, h_Sum, h_All, h_Any, h_List, h_Tuple, h_Add, h_Mul, h_Ix, h_Sl, h_Rev, h_Is, h_Not, h_Eq, h_Ne, h_In, h_Nin, e_endsV, e_endsM, h_Max2, h_Min2]; (with_reducible conv => whnf)) | ((with_reducible refine Eq.mpr l3_law_eq ?_); simp only [e_Var, e_Bor, e_Mov, e_Frz, e_C, e_Give, e_Op, e_Un, e_Nil, e_Cons, e_Tup, e_LNil, e_LCons, e_Lst, e_CallV, e_CallV0, e_CallVK, e_CallM, e_CallB, e_Next, e_Seq, e_Break, e_Cont, e_Drop, e_Ret, e_RetN, e_If, e_gName, e_Asg, e_gNil, e_gCons, e_gTup, e_Test, e_And, e_Or, e_NotT, e_AndV, e_OrV, e_NotV, e_IfE, e_NoPart, e_Part, e_Sl, e_IAny, e_For, e_While, e_Rng1, e_IZip, e_Lc, e_Yes, e_Append, e_Pop, e_PopAt, e_Extend, e_Reverse, e_SetItem, e_Aug, e_Par, e_SIndex, e_Isi, e_DispC, e_DGet2, e_Cn, e_Chain, e_Raise, e_TryAs, e_Xf, e_Append2, e_Reverse2, e_Pop2, h_Sub, h_FdivW, h_Mod, h_Pow, h_Lt, h_Le, h_Gt, h_Ge, h_Iadd, h_Isub, h_Neg, h_Abs, h_Int, h_Len, h_Sum, h_All, h_Any, h_List, h_Tuple, h_Add, h_Mul, h_Ix, h_Sl, h_Rev, h_Is, h_Not, h_Eq, h_Ne, h_In, h_Nin, e_endsV, e_endsM, h_Max2, h_Min2]; (with_reducible conv => whnf)) | ((with_reducible apply g_S); (· (first | exact Eq.refl _ | (simp only [flatL_map, flatL_append_map, flatL_cons, flatL_nil, flatL_mapr, Option.map_some]; exact rfl))); (with_reducible conv => whnf)) | ((with_reducible refine g_t ?_ ?_); (· first | decide | exact Eq.refl _); (with_reducible conv => whnf)) | ((with_reducible refine g_f ?_ ?_); (· first | decide | exact Eq.refl _); (with_reducible conv => whnf)) | ((with_reducible apply g_F); (· (simp only [O.frz, frzL, frzL_map, frzL_append, frzL_mapr, List.nil_append]; exact rfl)); (with_reducible conv => whnf)))
    exact h
  rintro d ds _ ⟨hd, v1, v2, v3, v4, v5, v6, v7, v8, rfl⟩ ih
  obtain ⟨k, hk, rfl⟩ := hd d (List.mem_cons_self ..)
  (with_reducible conv => whnf); repeat (first | ((with_reducible refine And.intro ?_ ?_); (· (first | ((with_reducible conv => whnf); exact trivial) | omega | assumption | exact Eq.refl _ | exact Nat.zero_le _ | (simp only [List.length_map, List.length_append, List.length_cons, List.length_nil, List.length_singleton, List.length_reverse, List.length_drop, List.length_take, List.length_range, List.length_replicate, cut_tl, cut_hd, cut_take, cut_drop]; omega))); (with_reducible conv => whnf)) | (with_reducible refine g_flat ?_; (with_reducible conv => whnf)) | (with_reducible refine Eq.mpr u_forN ?_; (with_reducible conv => whnf)) | ((with_reducible refine Eq.mpr l1_law_eq ?_); simp only [e_Var, e_Bor, e_Mov, e_Frz, e_C, e_Give, e_Op, e_Un, e_Nil, e_Cons, e_Tup, e_LNil, e_LCons, e_Lst, e_CallV, e_CallV0, e_CallVK, e_CallM, e_CallB, e_Next, e_Seq, e_Break, e_Cont, e_Drop, e_Ret, e_RetN, e_If, e_gName, e_Asg, e_gNil, e_gCons, e_gTup, e_Test, e_And, e_Or, e_NotT, e_AndV, e_OrV, e_NotV, e_IfE, e_NoPart, e_Part, e_Sl, e_IAny, e_For, e_While, e_Rng1, e_IZip, e_Lc, e_Yes, e_Append, e_Pop, e_PopAt, e_Extend, e_Reverse, e_SetItem, e_Aug, e_Par, e_SIndex, e_Isi, e_DispC, e_DGet2, e_Cn, e_Chain, e_Raise, e_TryAs, e_Xf, e_Append2, e_Reverse2, e_Pop2, h_Sub, h_FdivW, h_Mod, h_Pow, h_Lt, h_Le, h_Gt, h_Ge, h_Iadd, h_Isub, h_Neg, h_Abs, h_Int, h_Len, h_Sum, h_All, h_Any, h_List, h_Tuple, h_Add, h_Mul, h_Ix, h_Sl, h_Rev, h_Is, h_Not, h_Eq, h_Ne, h_In, h_Nin, e_endsV, e_endsM, h_Max2, h_Min2]; (with_reducible conv => whnf)) | ((with_reducible refine Eq.mpr l2_law_eq ?_); simp only [e_Var, e_Bor, e_Mov, e_Frz, e_C, e_Give, e_Op, e_Un, e_Nil, e_Cons, e_Tup, e_LNil, e_LCons, e_Lst, e_CallV, e_CallV0, e_CallVK, e_CallM, e_CallB, e_Next, e_Seq, e_Break, e_Cont, e_Drop, e_Ret, e_RetN, e_If, e_gName, e_Asg, e_gNil, e_gCons, e_gTup, e_Test, e_And, e_Or, e_NotT, e_AndV, e_OrV, e_NotV, e_IfE, e_NoPart, e_Part, e_Sl, e_IAny, e_For, e_While, e_Rng1, e_IZip, e_Lc, e_Yes, e_Append, e_Pop, e_PopAt, e_Extend, e_Reverse, e_SetItem, e_Aug, e_Par, e_SIndex, e_Isi, e_DispC, e_DGet2, e_Cn, e_Chain, e_Raise, e_TryAs, e_Xf, e_Append2, e_Reverse2, e_Pop2, h_Sub, h_FdivW, h_Mod, h_Pow, h_Lt, h_Le, h_Gt, h_Ge, h_Iadd, h_Isub, h_Neg, h_Abs, h_Int, h_Len, h_Sum, h_All, h_Any, h_List, h_Tuple, h_Add, h_Mul, h_Ix, h_Sl, h_Rev, h_Is, h_Not, h_Eq, h_Ne, h_In, h_Nin, e_endsV, e_endsM, h_Max2, h_Min2]; (with_reducible conv => whnf)) | ((with_reducible refine Eq.mpr l3_law_eq ?_); simp only [e_Var, e_Bor, e_Mov, e_Frz, e_C, e_Give, e_Op, e_Un, e_Nil, e_Cons, e_Tup, e_LNil, e_LCons, e_Lst, e_CallV, e_CallV0, e_CallVK, e_CallM, e_CallB, e_Next, e_Seq, e_Break, e_Cont, e_Drop, e_Ret, e_RetN, e_If, e_gName, e_Asg, e_gNil, e_gCons, e_gTup, e_Test, e_And, e_Or, e_NotT, e_AndV, e_OrV, e_NotV, e_IfE, e_NoPart, e_Part, e_Sl, e_IAny, e_For, e_While, e_Rng1, e_IZip, e_Lc, e_Yes, e_Append, e_Pop, e_PopAt, e_Extend, e_Reverse, e_SetItem, e_Aug, e_Par, e_SIndex, e_Isi, e_DispC, e_DGet2, e_Cn, e_Chain, e_Raise, e_TryAs, e_Xf, e_Append2, e_Reverse2, e_Pop2, h_Sub, h_FdivW, h_Mod, h_Pow, h_Lt, h_Le, h_Gt, h_Ge, h_Iadd, h_Isub, h_Neg, h_Abs, h_Int, h_Len, h_Sum, h_All, h_Any, h_List, h_Tuple, h_Add, h_Mul, h_Ix, h_Sl, h_Rev, h_Is, h_Not, h_Eq, h_Ne, h_In, h_Nin, e_endsV, e_endsM, h_Max2, h_Min2]; (with_reducible conv => whnf)) | ((with_reducible apply g_S); (· (first | exact Eq.refl _ | (simp only [flatL_map, flatL_append_map, flatL_cons, flatL_nil, flatL_mapr, Option.map_some]; exact rfl))); (with_reducible conv => whnf)) | ((with_reducible refine g_t ?_ ?_); (· first | decide | exact Eq.refl _); (with_reducible conv => whnf)) | ((with_reducible refine g_f ?_ ?_); (· first | decide | exact Eq.refl _); (with_reducible conv => whnf)) | ((with_reducible apply g_F); (· (simp only [O.frz, frzL, frzL_map, frzL_append, frzL_mapr, List.nil_append]; exact rfl)); (with_reducible conv => whnf)))
  refine ⟨ns, k, rfl, hn, hk, fun z => ?_⟩
  (with_reducible conv => whnf); repeat (first | ((with_reducible refine And.intro ?_ ?_); (· (first | ((with_reducible conv => whnf); exact trivial) | omega | assumption | exact Eq.refl _ | exact Nat.zero_le _ | (simp only [List.length_map, List.length_append, List.length_cons, List.length_nil, List.length_singleton, List.length_reverse, List.length_drop, List.length_take, List.length_range, List.length_replicate, cut_tl, cut_hd, cut_take, cut_drop]; omega))); (with_reducible conv => whnf)) | (with_reducible refine g_flat ?_; (with_reducible conv => whnf)) | (with_reducible refine Eq.mpr u_forN ?_; (with_reducible conv => whnf)) | ((with_reducible refine Eq.mpr l1_law_eq ?_); simp only [e_Var, e_Bor, e_Mov, e_Frz, e_C, e_Give, e_Op, e_Un, e_Nil, e_Cons, e_Tup, e_LNil, e_LCons, e_Lst, e_CallV, e_CallV0, e_CallVK, e_CallM, e_CallB, e_Next, e_Seq, e_Break, e_Cont, e_Drop, e_Ret, e_RetN, e_If, e_gName, e_Asg, e_gNil, e_gCons, e_gTup, e_Test, e_And, e_Or, e_NotT, e_AndV, e_OrV, e_NotV, e_IfE, e_NoPart, e_Part, e_Sl, e_IAny, e_For, e_While, e_Rng1, e_IZip, e_Lc, e_Yes, e_Append, e_Pop, e_PopAt, e_Extend, e_Reverse, e_SetItem, e_Aug, e_Par, e_SIndex, e_Isi, e_DispC, e_DGet2, e_Cn, e_Chain, e_Raise, e_TryAs, e_Xf, e_Append2, e_Reverse2, e_Pop2, h_Sub, h_FdivW, h_Mod, h_Pow, h_Lt, h_Le, h_Gt, h_Ge, h_Iadd, h_Isub, h_Neg, h_Abs, h_Int, h_Len, h_Sum, h_All, h_Any, h_List, h_Tuple, h_Add, h_Mul, h_Ix, h_Sl, h_Rev, h_Is, h_Not, h_Eq, h_Ne, h_In, h_Nin, e_endsV, e_endsM, h_Max2, h_Min2]; (with_reducible conv => whnf)) | ((with_reducible refine Eq.mpr l2_law_eq ?_); simp only [e_Var, e_Bor, e_Mov, e_Frz, e_C, e_Give, e_Op, e_Un, e_Nil, e_Cons, e_Tup, e_LNil, e_LCons, e_Lst, e_CallV, e_CallV0, e_CallVK, e_CallM, e_CallB, e_Next, e_Seq, e_Break, e_Cont, e_Drop, e_Ret, e_RetN, e_If, e_gName, e_Asg, e_gNil, e_gCons, e_gTup, e_Test, e_And, e_Or, e_NotT, e_AndV, e_OrV, e_NotV, e_IfE, e_NoPart, e_Part, e_Sl, e_IAny, e_For, e_While, e_Rng1, e_IZip, e_Lc, e_Yes, e_Append, e_Pop, e_PopAt, e_Extend, e_Reverse, e_SetItem, e_Aug, e_Par, e_SIndex, e_Isi, e_DispC, e_DGet2, e_Cn, e_Chain, e_Raise, e_TryAs, e_Xf, e_Append2, e_Reverse2, e_Pop2, h_Sub, h_FdivW, h_Mod, h_Pow, h_Lt, h_Le, h_Gt, h_Ge, h_Iadd, h_Isub, h_Neg, h_Abs, h_Int, h_Len, h_Sum, h_All, h_Any, h_List, h_Tuple, h_Add, h_Mul, h_Ix, h_Sl, h_Rev, h_Is, h_Not, h_Eq, h_Ne, h_In, h_Nin, e_endsV, e_endsM, h_Max2, h_Min2]; (with_reducible conv => whnf)) | ((with_reducible refine Eq.mpr l3_law_eq ?_); simp only [e_Var, e_Bor, e_Mov, e_Frz, e_C, e_Give, e_Op, e_Un, e_Nil, e_Cons, e_Tup, e_LNil, e_LCons, e_Lst, e_CallV, e_CallV0, e_CallVK, e_CallM, e_CallB, e_Next, e_Seq, e_Break, e_Cont, e_Drop, e_Ret, e_RetN, e_If, e_gName, e_Asg, e_gNil, e_gCons, e_gTup, e_Test, e_And, e_Or, e_NotT, e_AndV, e_OrV, e_NotV, e_IfE, e_NoPart, e_Part, e_Sl, e_IAny, e_For, e_While, e_Rng1, e_IZip, e_Lc, e_Yes, e_Append, e_Pop, e_PopAt, e_Extend, e_Reverse, e_SetItem, e_Aug, e_Par, e_SIndex, e_Isi, e_DispC, e_DGet2, e_Cn, e_Chain, e_Raise, e_TryAs, e_Xf, e_Append2, e_Reverse2, e_Pop2, h_Sub, h_FdivW, h_Mod, h_Pow, h_Lt, h_Le, h_Gt, h_Ge, h_Iadd, h_Isub, h_Neg, h_Abs, h_Int, h_Len, h_Sum, h_All, h_Any, h_List, h_Tuple, h_Add, h_Mul, h_Ix, h_Sl, h_Rev, h_Is, h_Not, h_Eq, h_Ne, h_In, h_Nin, e_endsV, e_endsM, h_Max2, h_Min2]; (with_reducible conv => whnf)) | ((with_reducible apply g_S); (· (first | exact Eq.refl _ | (simp only [flatL_map, flatL_append_map, flatL_cons, flatL_nil, flatL_mapr, Option.map_some]; exact rfl))); (with_reducible conv => whnf)) | ((with_reducible refine g_t ?_ ?_); (· first | decide | exact Eq.refl _); (with_reducible conv => whnf)) | ((with_reducible refine g_f ?_ ?_); (· first | decide | exact Eq.refl _); (with_reducible conv => whnf)) | ((with_reducible apply g_F); (· (simp only [O.frz, frzL, frzL_map, frzL_append, frzL_mapr, List.nil_append]; exact rfl)); (with_reducible conv => whnf)))
  refine ⟨z, rfl, fun xs hB => ?_⟩
  (with_reducible conv => whnf); repeat (first | ((with_reducible refine And.intro ?_ ?_); (· (first | ((with_reducible conv => whnf); exact trivial) | omega | assumption | exact Eq.refl _ | exact Nat.zero_le _ | (simp only [List.length_map, List.length_append, List.length_cons, List.length_nil, List.length_singleton, List.length_reverse, List.length_drop, List.length_take, List.length_range, List.length_replicate, cut_tl, cut_hd, cut_take, cut_drop]; omega))); (with_reducible conv => whnf)) | (with_reducible refine g_flat ?_; (with_reducible conv => whnf)) | (with_reducible refine Eq.mpr u_forN ?_; (with_reducible conv => whnf)) | ((with_reducible refine Eq.mpr l1_law_eq ?_); simp only [e_Var, e_Bor, e_Mov, e_Frz, e_C, e_Give, e_Op, e_Un, e_Nil, e_Cons, e_Tup, e_LNil, e_LCons, e_Lst, e_CallV, e_CallV0, e_CallVK, e_CallM, e_CallB, e_Next, e_Seq, e_Break, e_Cont, e_Drop, e_Ret, e_RetN, e_If, e_gName, e_Asg, e_gNil, e_gCons, e_gTup, e_Test, e_And, e_Or, e_NotT, e_AndV, e_OrV, e_NotV, e_IfE, e_NoPart, e_Part, e_Sl, e_IAny, e_For, e_While, e_Rng1, e_IZip, e_Lc, e_Yes, e_Append, e_Pop, e_PopAt, e_Extend, e_Reverse, e_SetItem, e_Aug, e_Par, e_SIndex, e_Isi, e_DispC, e_DGet2, e_Cn, e_Chain, e_Raise, e_TryAs, e_Xf, e_Append2, e_Reverse2, e_Pop2, h_Sub, h_FdivW, h_Mod, h_Pow, h_Lt, h_Le, h_Gt, h_Ge, h_Iadd, h_Isub, h_Neg, h_Abs, h_Int, h_Len, h_Sum, h_All, h_Any, h_List, h_Tuple, h_Add, h_Mul, h_Ix, h_Sl, h_Rev, h_Is, h_Not, h_Eq, h_Ne, h_In, h_Nin, e_endsV, e_endsM, h_Max2, h_Min2]; (with_reducible conv => whnf)) | ((with_reducible refine Eq.mpr l2_law_eq ?_); simp only [e_Var, e_Bor, e_Mov, e_Frz, e_C, e_Give, e_Op, e_Un, e_Nil, e_Cons, e_Tup, e_LNil, e_LCons, e_Lst, e_CallV, e_CallV0, e_CallVK, e_CallM, e_CallB, e_Next, e_Seq, e_Break, e_Cont, e_Drop, e_Ret, e_RetN, e_If, e_gName, e_Asg, e_gNil, e_gCons, e_gTup, e_Test, e_And, e_Or, e_NotT, e_AndV, e_OrV, e_NotV, e_IfE, e_NoPart, e_Part, e_Sl, e_IAny, e_For, e_While, e_Rng1, e_IZip, e_Lc, e_Yes, e_Append, e_Pop, e_PopAt, e_Extend, e_Reverse, e_SetItem, e_Aug, e_Par, e_SIndex, e_Isi, e_DispC, e_DGet2, e_Cn, e_Chain, e_Raise, e_TryAs, e_Xf, e_Append2, e_Reverse2, e_Pop2, h_Sub, h_FdivW, h_Mod, h_Pow, h_Lt, h_Le, h_Gt, h_Ge, h_Iadd, h_Isub, h_Neg, h_Abs, h_Int, h_Len, h_Sum, h_All, h_Any, h_List, h_Tuple, h_Add, h_Mul, h_Ix, h_Sl, h_Rev, h_Is, h_Not, h_Eq, h_Ne, h_In, h_Nin, e_endsV, e_endsM, h_Max2, h_Min2]; (with_reducible conv => whnf)) | ((with_reducible refine Eq.mpr l3_law_eq ?_); simp only [e_Var, e_Bor, e_Mov, e_Frz, e_C, e_Give, e_Op, e_Un, e_Nil, e_Cons, e_Tup, e_LNil, e_LCons, e_Lst, e_CallV, e_CallV0, e_CallVK, e_CallM, e_CallB, e_Next, e_Seq, e_Break, e_Cont, e_Drop, e_Ret, e_RetN, e_If, e_gName, e_Asg, e_gNil, e_gCons, e_gTup, e_Test, e_And, e_Or, e_NotT, e_AndV, e_OrV, e_NotV, e_IfE, e_NoPart, e_Part, e_Sl, e_IAny, e_For, e_While, e_Rng1, e_IZip, e_Lc, e_Yes, e_Append, e_Pop, e_PopAt, e_Extend, e_Reverse, e_SetItem, e_Aug, e_Par, e_SIndex, e_Isi, e_DispC, e_DGet2, e_Cn, e_Chain, e_Raise, e_TryAs, e_Xf, e_Append2, e_Reverse2, e_Pop2, h_Sub, h_FdivW, h_Mod, h_Pow, h_Lt, h_Le, h_Gt, h_Ge, h_Iadd, h_Isub, h_Neg, h_Abs, h_Int, h_Len, h_Sum, h_All, h_Any, h_List, h_Tuple, h_Add, h_Mul, h_Ix, h_Sl, h_Rev, h_Is, h_Not, h_Eq, h_Ne, h_In, h_Nin, e_endsV, e_endsM, h_Max2, h_Min2]; (with_reducible conv => whnf)) | ((with_reducible apply g_S); (· (first | exact Eq.refl _ | (simp only [flatL_map, flatL_append_map, flatL_cons, flatL_nil, flatL_mapr, Option.map_some]; exact rfl))); (with_reducible conv => whnf)) | ((with_reducible refine g_t ?_ ?_); (· first | decide | exact Eq.refl _); (with_reducible conv => whnf)) | ((with_reducible refine g_f ?_ ?_); (· first | decide | exact Eq.refl _); (with_reducible conv => whnf)) | ((with_reducible apply g_F); (· (simp only [O.frz, frzL, frzL_map, frzL_append, frzL_mapr, List.nil_append]; exact rfl)); (with_reducible conv => whnf)))
  refine take_use hB (by omega) (by omega) (by omega) fun r xs r0 r1 hB => ?_
  (with_reducible conv => whnf); repeat (first | ((with_reducible refine And.intro ?_ ?_); (· (first | ((with_reducible conv => whnf); exact trivial) | omega | assumption | exact Eq.refl _ | exact Nat.zero_le _ | (simp only [List.length_map, List.length_append, List.length_cons, List.length_nil, List.length_singleton, List.length_reverse, List.length_drop, List.length_take, List.length_range, List.length_replicate, cut_tl, cut_hd, cut_take, cut_drop]; omega))); (with_reducible conv => whnf)) | (with_reducible refine g_flat ?_; (with_reducible conv => whnf)) | (with_reducible refine Eq.mpr u_forN ?_; (with_reducible conv => whnf)) | ((with_reducible refine Eq.mpr l1_law_eq ?_); simp only [e_Var, e_Bor, e_Mov, e_Frz, e_C, e_Give, e_Op, e_Un, e_Nil, e_Cons, e_Tup, e_LNil, e_LCons, e_Lst, e_CallV, e_CallV0, e_CallVK, e_CallM, e_CallB, e_Next, e_Seq, e_Break, e_Cont, e_Drop, e_Ret, e_RetN, e_If, e_gName, e_Asg, e_gNil, e_gCons, e_gTup, e_Test, e_And, e_Or, e_NotT, e_AndV, e_OrV, e_NotV, e_IfE, e_NoPart, e_Part, e_Sl, e_IAny, e_For, e_While, e_Rng1, e_IZip, e_Lc, e_Yes, e_Append, e_Pop, e_PopAt, e_Extend, e_Reverse, e_SetItem, e_Aug, e_Par, e_SIndex, e_Isi, e_DispC, e_DGet2, e_Cn, e_Chain, e_Raise, e_TryAs, e_Xf, e_Append2, e_Reverse2, e_Pop2, h_Sub, h_FdivW, h_Mod, h_Pow, h_Lt, h_Le, h_Gt, h_Ge, h_Iadd, h_Isub, h_Neg, h_Abs, h_Int, h_Len, h_Sum, h_All, h_Any, h_List, h_Tuple, h_Add, h_Mul, h_Ix, h_Sl, h_Rev, h_Is, h_Not, h_Eq, h_Ne, h_In, h_Nin, e_endsV, e_endsM, h_Max2, h_Min2]; (with_reducible conv => whnf)) | ((with_reducible refine Eq.mpr l2_law_eq ?_); simp only [e_Var, e_Bor, e_Mov, e_Frz, e_C, e_Give, e_Op, e_Un, e_Nil, e_Cons, e_Tup, e_LNil, e_LCons, e_Lst, e_CallV, e_CallV0, e_CallVK, e_CallM, e_CallB, e_Next, e_Seq, e_Break, e_Cont, e_Drop, e_Ret, e_RetN, e_If, e_gName, e_Asg, e_gNil, e_gCons, e_gTup, e_Test, e_And, e_Or, e_NotT, e_AndV, e_OrV, e_NotV, e_IfE, e_NoPart, e_Part, e_Sl, e_IAny, e_For, e_While, e_Rng1, e_IZip, e_Lc, e_Yes, e_Append, e_Pop, e_PopAt, e_Extend, e_Reverse, e_SetItem, e_Aug, e_Par, e_SIndex, e_Isi, e_DispC, e_DGet2, e_Cn, e_Chain, e_Raise, e_TryAs, e_Xf, e_Append2, e_Reverse2, e_Pop2, h_Sub, h_FdivW, h_Mod, h_Pow, h_Lt, h_Le, h_Gt, h_Ge, h_Iadd, h_Isub, h_Neg, h_Abs, h_Int, h_Len, h_Sum, h_All, h_Any, h_List, h_Tuple, h_Add, h_Mul, h_Ix, h_Sl, h_Rev, h_Is, h_Not, h_Eq, h_Ne, h_In, h_Nin, e_endsV, e_endsM, h_Max2, h_Min2]; (with_reducible conv => whnf)) | ((with_reducible refine Eq.mpr l3_law_eq ?_); simp only [e_Var, e_Bor, e_Mov, e_Frz, e_C, e_Give, e_Op, e_Un, e_Nil, e_Cons, e_Tup, e_LNil, e_LCons, e_Lst, e_CallV, e_CallV0, e_CallVK, e_CallM, e_CallB, e_Next, e_Seq, e_Break, e_Cont, e_Drop, e_Ret, e_RetN, e_If, e_gName, e_Asg, e_gNil, e_gCons, e_gTup, e_Test, e_And, e_Or, e_NotT, e_AndV, e_OrV, e_NotV, e_IfE, e_NoPart, e_Part, e_Sl, e_IAny, e_For, e_While, e_Rng1, e_IZip, e_Lc, e_Yes, e_Append, e_Pop, e_PopAt, e_Extend, e_Reverse, e_SetItem, e_Aug, e_Par, e_SIndex, e_Isi, e_DispC, e_DGet2, e_Cn, e_Chain, e_Raise, e_TryAs, e_Xf, e_Append2, e_Reverse2, e_Pop2, h_Sub, h_FdivW, h_Mod, h_Pow, h_Lt, h_Le, h_Gt, h_Ge, h_Iadd, h_Isub, h_Neg, h_Abs, h_Int, h_Len, h_Sum, h_All, h_Any, h_List, h_Tuple, h_Add, h_Mul, h_Ix, h_Sl, h_Rev, h_Is, h_Not, h_Eq, h_Ne, h_In, h_Nin, e_endsV, e_endsM, h_Max2, h_Min2]; (with_reducible conv => whnf)) | ((with_reducible apply g_S); (· (first | exact Eq.refl _ | (simp only [flatL_map, flatL_append_map, flatL_cons, flatL_nil, flatL_mapr, Option.map_some]; exact rfl))); (with_reducible conv => whnf)) | ((with_reducible refine g_t ?_ ?_); (· first | decide | exact Eq.refl _); (with_reducible conv => whnf)) | ((with_reducible refine g_f ?_ ?_); (· first | decide | exact Eq.refl _); (with_reducible conv => whnf)) | ((with_reducible apply g_F); (· (simp only [O.frz, frzL, frzL_map, frzL_append, frzL_mapr, List.nil_append]; exact rfl)); (with_reducible conv => whnf)))
  refine forR_go (fun ds env => ∃ n x v1 b v4 v5 v6 v7 v8, Bx n x ∧ n + 2000 * ds.length ≤ 10000 ∧ env = [some (.d (.kst (ns.map D.int))), v1, some (.own x), some (.d (.bl b)), v4, v5, v6, v7, v8]) ?_ ?_ ?_
  · exact ⟨_, xs, _, _, _, _, _, _, _, hB, by simp, rfl⟩
  · rintro _ ⟨n, x, v1, b, v4, v5, v6, v7, v8, hB, hn, rfl⟩
    (with_reducible conv => whnf); repeat (first | ((with_reducible refine And.intro ?_ ?_); (· (first | ((with_reducible conv => whnf); exact trivial) | omega | assumption | exact Eq.refl _ | exact Nat.zero_le _ | (simp only [List.length_map, List.length_append, List.length_cons, List.length_nil, List.length_singleton, List.length_reverse, List.length_drop, List.length_take, List.length_range, List.length_replicate, cut_tl, cut_hd, cut_take, cut_drop]; omega))); (with_reducible conv => whnf)) | (with_reducible refine g_flat ?_; (with_reducible conv => whnf)) | (with_reducible refine Eq.mpr u_forN ?_; (with_reducible conv => whnf)) | ((with_reducible refine Eq.mpr l1_law_eq ?_); simp only [e_Var, e_Bor, e_Mov, e_Frz, e_C, e_Give, e_Op, e_Un, e_Nil, e_Cons, e_Tup, e_LNil, e_LCons, e_Lst, e_CallV, e_CallV0, e_CallVK, e_CallM, e_CallB, e_Next, e_Seq, e_Break, e_Cont, e_Drop, e_Ret, e_RetN, e_If, e_gName, e_Asg, e_gNil, e_gCons, e_gTup, e_Test, e_And, e_Or, e_NotT, e_AndV, e_OrV, e_NotV, e_IfE, e_NoPart, e_Part, e_Sl, e_IAny, e_For, e_While, e_Rng1, e_IZip, e_Lc, e_Yes, e_Append, e_Pop, e_PopAt, e_Extend, e_Reverse, e_SetItem, e_Aug, e_Par, e_SIndex, e_Isi, e_DispC, e_DGet2, e_Cn, e_Chain, e_Raise, e_TryAs, e_Xf, e_Append2, e_Reverse2, e_Pop2, h_Sub, h_FdivW, h_Mod, h_Pow, h_Lt, h_Le, h_Gt, h_Ge, h_Iadd, h_Isub, h_Neg, h_Abs, h_Int, h_Len, h_Sum, h_All, h_Any, h_List, h_Tuple, h_Add, h_Mul, h_Ix, h_Sl, h_Rev, h_Is, h_Not, h_Eq, h_Ne, h_In, h_Nin, e_endsV, e_endsM, h_Max2, h_Min2]; (with_reducible conv => whnf)) | ((with_reducible refine Eq.mpr l2_law_eq ?_); simp only [e_Var, e_Bor, e_Mov, e_Frz, e_C, e_Give, e_Op, e_Un, e_Nil, e_Cons, e_Tup, e_LNil, e_LCons, e_Lst, e_CallV, e_CallV0, e_CallVK, e_CallM, e_CallB, e_Next, e_Seq, e_Break, e_Cont, e_Drop, e_Ret, e_RetN, e_If, e_gName, e_Asg, e_gNil, e_gCons, e_gTup, e_Test, e_And, e_Or, e_NotT, e_AndV, e_OrV, e_NotV, e_IfE, e_NoPart, e_Part, e_Sl, e_IAny, e_For, e_While, e_Rng1, e_IZip, e_Lc, e_Yes, e_Append, e_Pop, e_PopAt, e_Extend, e_Reverse, e_SetItem, e_Aug, e_Par, e_SIndex, e_Isi, e_DispC, e_DGet2, e_Cn, e_Chain, e_Raise, e_TryAs, e_Xf, e_Append2, e_Reverse2, e_Pop2, h_Sub, h_FdivW, h_Mod, h_Pow, h_Lt, h_Le, h_Gt, h_Ge, h_Iadd, h_Isub, h_Neg, h_Abs, h_Int, h_Len, h_Sum, h_All, h_Any, h_List, h_Tuple, h_Add, h_Mul, h_Ix, h_Sl, h_Rev, h_Is, h_Not, h_Eq, h_Ne, h_In, h_Nin, e_endsV, e_endsM, h_Max2, h_Min2]; (with_reducible conv => whnf)) | ((with_reducible refine Eq.mpr l3_law_eq ?_); simp only [e_Var, e_Bor, e_Mov, e_Frz, e_C, e_Give, e_Op, e_Un, e_Nil, e_Cons, e_Tup, e_LNil, e_LCons, e_Lst, e_CallV, e_CallV0, e_CallVK, e_CallM, e_CallB, e_Next, e_Seq, e_Break, e_Cont, e_Drop, e_Ret, e_RetN, e_If, e_gName, e_Asg, e_gNil, e_gCons, e_gTup, e_Test, e_And, e_Or, e_NotT, e_AndV, e_OrV, e_NotV, e_IfE, e_NoPart, e_Part, e_Sl, e_IAny, e_For, e_While, e_Rng1, e_IZip, e_Lc, e_Yes, e_Append, e_Pop, e_PopAt, e_Extend, e_Reverse, e_SetItem, e_Aug, e_Par, e_SIndex, e_Isi, e_DispC, e_DGet2, e_Cn, e_Chain, e_Raise, e_TryAs, e_Xf, e_Append2, e_Reverse2, e_Pop2, h_Sub, h_FdivW, h_Mod, h_Pow, h_Lt, h_Le, h_Gt, h_Ge, h_Iadd, h_Isub, h_Neg, h_Abs, h_Int, h_Len, h_Sum, h_All, h_Any, h_List, h_Tuple, h_Add, h_Mul, h_Ix, h_Sl, h_Rev, h_Is, h_Not, h_Eq, h_Ne, h_In, h_Nin, e_endsV, e_endsM, h_Max2, h_Min2]; (with_reducible conv => whnf)) | ((with_reducible apply g_S); (· (first | exact Eq.refl _ | (simp only [flatL_map, flatL_append_map, flatL_cons, flatL_nil, flatL_mapr, Option.map_some]; exact rfl))); (with_reducible conv => whnf)) | ((with_reducible refine g_t ?_ ?_); (· first | decide | exact Eq.refl _); (with_reducible conv => whnf)) | ((with_reducible refine g_f ?_ ?_); (· first | decide | exact Eq.refl _); (with_reducible conv => whnf)) | ((with_reducible apply g_F); (· (simp only [O.frz, frzL, frzL_map, frzL_append, frzL_mapr, List.nil_append]; exact rfl)); (with_reducible conv => whnf)))
    exact ih _ ⟨fun d hd' => hd d (List.mem_cons_of_mem _ hd'), _, _, _, _, _, _, _, _, rfl⟩
  rintro d2 ds2 _ ⟨n, x, v1, b, v4, v5, v6, v7, v8, hB, hn2, rfl⟩ ih2
  simp only [List.length_cons] at hn2
  (with_reducible conv => whnf); repeat (first | ((with_reducible refine And.intro ?_ ?_); (· (first | ((with_reducible conv => whnf); exact trivial) | omega | assumption | exact Eq.refl _ | exact Nat.zero_le _ | (simp only [List.length_map, List.length_append, List.length_cons, List.length_nil, List.length_singleton, List.length_reverse, List.length_drop, List.length_take, List.length_range, List.length_replicate, cut_tl, cut_hd, cut_take, cut_drop]; omega))); (with_reducible conv => whnf)) | (with_reducible refine g_flat ?_; (with_reducible conv => whnf)) | (with_reducible refine Eq.mpr u_forN ?_; (with_reducible conv => whnf)) | ((with_reducible refine Eq.mpr l1_law_eq ?_); simp only [e_Var, e_Bor, e_Mov, e_Frz, e_C, e_Give, e_Op, e_Un, e_Nil, e_Cons, e_Tup, e_LNil, e_LCons, e_Lst, e_CallV, e_CallV0, e_CallVK, e_CallM, e_CallB, e_Next, e_Seq, e_Break, e_Cont, e_Drop, e_Ret, e_RetN, e_If, e_gName, e_Asg, e_gNil, e_gCons, e_gTup, e_Test, e_And, e_Or, e_NotT, e_AndV, e_OrV, e_NotV, e_IfE, e_NoPart, e_Part, e_Sl, e_IAny, e_For, e_While, e_Rng1, e_IZip, e_Lc, e_Yes, e_Append, e_Pop, e_PopAt, e_Extend, e_Reverse, e_SetItem, e_Aug, e_Par, e_SIndex, e_Isi, e_DispC, e_DGet2, e_Cn, e_Chain, e_Raise, e_TryAs, e_Xf, e_Append2, e_Reverse2, e_Pop2, h_Sub, h_FdivW, h_Mod, h_Pow, h_Lt, h_Le, h_Gt, h_Ge, h_Iadd, h_Isub, h_Neg, h_Abs, h_Int, h_Len, h_Sum, h_All, h_Any, h_List, h_Tuple, h_Add, h_Mul, h_Ix, h_Sl, h_Rev, h_Is, h_Not, h_Eq, h_Ne, h_In, h_Nin, e_endsV, e_endsM, h_Max2, h_Min2]; (with_reducible conv => whnf)) | ((with_reducible refine Eq.mpr l2_law_eq ?_); simp only [e_Var, e_Bor, e_Mov, e_Frz, e_C, e_Give, e_Op, e_Un, e_Nil, e_Cons, e_Tup, e_LNil, e_LCons, e_Lst, e_CallV, e_CallV0, e_CallVK, e_CallM, e_CallB, e_Next, e_Seq, e_Break, e_Cont, e_Drop, e_Ret, e_RetN, e_If, e_gName, e_Asg, e_gNil, e_gCons, e_gTup, e_Test, e_And, e_Or, e_NotT, e_AndV, e_OrV, e_NotV, e_IfE, e_NoPart, e_Part, e_Sl, e_IAny, e_For, e_While, e_Rng1, e_IZip, e_Lc, e_Yes, e_Append, e_Pop, e_PopAt, e_Extend, e_Reverse, e_SetItem, e_Aug, e_Par, e_SIndex, e_Isi, e_DispC, e_DGet2, e_Cn, e_Chain, e_Raise, e_TryAs, e_Xf, e_Append2, e_Reverse2, e_Pop2, h_Sub, h_FdivW, h_Mod, h_Pow, h_Lt, h_Le, h_Gt, h_Ge, h_Iadd, h_Isub, h_Neg, h_Abs, h_Int, h_Len, h_Sum, h_All, h_Any, h_List, h_Tuple, h_Add, h_Mul, h_Ix, h_Sl, h_Rev, h_Is, h_Not, h_Eq, h_Ne, h_In, h_Nin, e_endsV, e_endsM, h_Max2, h_Min2]; (with_reducible conv => whnf)) | ((with_reducible refine Eq.mpr l3_law_eq ?_); simp only [e_Var, e_Bor, e_Mov, e_Frz, e_C, e_Give, e_Op, e_Un, e_Nil, e_Cons, e_Tup, e_LNil, e_LCons, e_Lst, e_CallV, e_CallV0, e_CallVK, e_CallM, e_CallB, e_Next, e_Seq, e_Break, e_Cont, e_Drop, e_Ret, e_RetN, e_If, e_gName, e_Asg, e_gNil, e_gCons, e_gTup, e_Test, e_And, e_Or, e_NotT, e_AndV, e_OrV, e_NotV, e_IfE, e_NoPart, e_Part, e_Sl, e_IAny, e_For, e_While, e_Rng1, e_IZip, e_Lc, e_Yes, e_Append, e_Pop, e_PopAt, e_Extend, e_Reverse, e_SetItem, e_Aug, e_Par, e_SIndex, e_Isi, e_DispC, e_DGet2, e_Cn, e_Chain, e_Raise, e_TryAs, e_Xf, e_Append2, e_Reverse2, e_Pop2, h_Sub, h_FdivW, h_Mod, h_Pow, h_Lt, h_Le, h_Gt, h_Ge, h_Iadd, h_Isub, h_Neg, h_Abs, h_Int, h_Len, h_Sum, h_All, h_Any, h_List, h_Tuple, h_Add, h_Mul, h_Ix, h_Sl, h_Rev, h_Is, h_Not, h_Eq, h_Ne, h_In, h_Nin, e_endsV, e_endsM, h_Max2, h_Min2]; (with_reducible conv => whnf)) | ((with_reducible apply g_S); (· (first | exact Eq.refl _ | (simp only [flatL_map, flatL_append_map, flatL_cons, flatL_nil, flatL_mapr, Option.map_some]; exact rfl))); (with_reducible conv => whnf)) | ((with_reducible refine g_t ?_ ?_); (· first | decide | exact Eq.refl _); (with_reducible conv => whnf)) | ((with_reducible refine g_f ?_ ?_); (· first | decide | exact Eq.refl _); (with_reducible conv => whnf)) | ((with_reducible apply g_F); (· (simp only [O.frz, frzL, frzL_map, frzL_append, frzL_mapr, List.nil_append]; exact rfl)); (with_reducible conv => whnf)))
  refine pick_use hB (by omega) (by simp) (by simp) fun d3 x1 hd3 hB1 => ?_
  obtain ⟨z, rfl, z1, z2⟩ : ∃ z : Nat, d3 = .int z ∧ 1 ≤ z ∧ z ≤ 40 := by
    simp only [List.mem_cons, List.not_mem_nil, or_false] at hd3
    rcases hd3 with rfl | rfl | rfl | rfl | rfl | rfl
    · exact ⟨3, rfl, by decide, by decide⟩
    · exact ⟨6, rfl, by decide, by decide⟩
    · exact ⟨10, rfl, by decide, by decide⟩
    · exact ⟨16, rfl, by decide, by decide⟩
    · exact ⟨24, rfl, by decide, by decide⟩
    · exact ⟨40, rfl, by decide, by decide⟩
  (with_reducible conv => whnf); repeat (first | ((with_reducible refine And.intro ?_ ?_); (· (first | ((with_reducible conv => whnf); exact trivial) | omega | assumption | exact Eq.refl _ | exact Nat.zero_le _ | (simp only [List.length_map, List.length_append, List.length_cons, List.length_nil, List.length_singleton, List.length_reverse, List.length_drop, List.length_take, List.length_range, List.length_replicate, cut_tl, cut_hd, cut_take, cut_drop]; omega))); (with_reducible conv => whnf)) | (with_reducible refine g_flat ?_; (with_reducible conv => whnf)) | (with_reducible refine Eq.mpr u_forN ?_; (with_reducible conv => whnf)) | ((with_reducible refine Eq.mpr l1_law_eq ?_); simp only [e_Var, e_Bor, e_Mov, e_Frz, e_C, e_Give, e_Op, e_Un, e_Nil, e_Cons, e_Tup, e_LNil, e_LCons, e_Lst, e_CallV, e_CallV0, e_CallVK, e_CallM, e_CallB, e_Next, e_Seq, e_Break, e_Cont, e_Drop, e_Ret, e_RetN, e_If, e_gName, e_Asg, e_gNil, e_gCons, e_gTup, e_Test, e_And, e_Or, e_NotT, e_AndV, e_OrV, e_NotV, e_IfE, e_NoPart, e_Part, e_Sl, e_IAny, e_For, e_While, e_Rng1, e_IZip, e_Lc, e_Yes, e_Append, e_Pop, e_PopAt, e_Extend, e_Reverse, e_SetItem, e_Aug, e_Par, e_SIndex, e_Isi, e_DispC, e_DGet2, e_Cn, e_Chain, e_Raise, e_TryAs, e_Xf, e_Append2, e_Reverse2, e_Pop2, h_Sub, h_FdivW, h_Mod, h_Pow, h_Lt, h_Le, h_Gt, h_Ge, h_Iadd, h_Isub, h_Neg, h_Abs, h_Int, h_Len, h_Sum, h_All, h_Any, h_List, h_Tuple, h_Add, h_Mul, h_Ix, h_Sl, h_Rev, h_Is, h_Not, h_Eq, h_Ne, h_In, h_Nin, e_endsV, e_endsM, h_Max2, h_Min2]; (with_reducible conv => whnf)) | ((with_reducible refine Eq.mpr l2_law_eq ?_); simp only [e_Var, e_Bor, e_Mov, e_Frz, e_C, e_Give, e_Op, e_Un, e_Nil, e_Cons, e_Tup, e_LNil, e_LCons, e_Lst, e_CallV, e_CallV0, e_CallVK, e_CallM, e_CallB, e_Next, e_Seq, e_Break, e_Cont, e_Drop, e_Ret, e_RetN, e_If, e_gName, e_Asg, e_gNil, e_gCons, e_gTup, e_Test, e_And, e_Or, e_NotT, e_AndV, e_OrV, e_NotV, e_IfE, e_NoPart, e_Part, e_Sl, e_IAny, e_For, e_While, e_Rng1, e_IZip, e_Lc, e_Yes, e_Append, e_Pop, e_PopAt, e_Extend, e_Reverse, e_SetItem, e_Aug, e_Par, e_SIndex, e_Isi, e_DispC, e_DGet2, e_Cn, e_Chain, e_Raise, e_TryAs, e_Xf, e_Append2, e_Reverse2, e_Pop2, h_Sub, h_FdivW, h_Mod, h_Pow, h_Lt, h_Le, h_Gt, h_Ge, h_Iadd, h_Isub, h_Neg, h_Abs, h_Int, h_Len, h_Sum, h_All, h_Any, h_List, h_Tuple, h_Add, h_Mul, h_Ix, h_Sl, h_Rev, h_Is, h_Not, h_Eq, h_Ne, h_In, h_Nin, e_endsV, e_endsM, h_Max2, h_Min2]; (with_reducible conv => whnf)) | ((with_reducible refine Eq.mpr l3_law_eq ?_); simp only [e_Var, e_Bor, e_Mov, e_Frz, e_C, e_Give, e_Op, e_Un, e_Nil, e_Cons, e_Tup, e_LNil, e_LCons, e_Lst, e_CallV, e_CallV0, e_CallVK, e_CallM, e_CallB, e_Next, e_Seq, e_Break, e_Cont, e_Drop, e_Ret, e_RetN, e_If, e_gName, e_Asg, e_gNil, e_gCons, e_gTup, e_Test, e_And, e_Or, e_NotT, e_AndV, e_OrV, e_NotV, e_IfE, e_NoPart, e_Part, e_Sl, e_IAny, e_For, e_While, e_Rng1, e_IZip, e_Lc, e_Yes, e_Append, e_Pop, e_PopAt, e_Extend, e_Reverse, e_SetItem, e_Aug, e_Par, e_SIndex, e_Isi, e_DispC, e_DGet2, e_Cn, e_Chain, e_Raise, e_TryAs, e_Xf, e_Append2, e_Reverse2, e_Pop2, h_Sub, h_FdivW, h_Mod, h_Pow, h_Lt, h_Le, h_Gt, h_Ge, h_Iadd, h_Isub, h_Neg, h_Abs, h_Int, h_Len, h_Sum, h_All, h_Any, h_List, h_Tuple, h_Add, h_Mul, h_Ix, h_Sl, h_Rev, h_Is, h_Not, h_Eq, h_Ne, h_In, h_Nin, e_endsV, e_endsM, h_Max2, h_Min2]; (with_reducible conv => whnf)) | ((with_reducible apply g_S); (· (first | exact Eq.refl _ | (simp only [flatL_map, flatL_append_map, flatL_cons, flatL_nil, flatL_mapr, Option.map_some]; exact rfl))); (with_reducible conv => whnf)) | ((with_reducible refine g_t ?_ ?_); (· first | decide | exact Eq.refl _); (with_reducible conv => whnf)) | ((with_reducible refine g_f ?_ ?_); (· first | decide | exact Eq.refl _); (with_reducible conv => whnf)) | ((with_reducible apply g_F); (· (simp only [O.frz, frzL, frzL_map, frzL_append, frzL_mapr, List.nil_append]; exact rfl)); (with_reducible conv => whnf)))
  refine nested_use (size := z) rfl hB1 (by omega) (by omega) (by omega) fun t x2 ot st hB2 => ?_
  have td := size_depth t
  have sp := size_pos t
  have lt := walkT_len t []
  have gt : t.good := ⟨ot, by omega⟩
  (with_reducible conv => whnf); repeat (first | ((with_reducible refine And.intro ?_ ?_); (· (first | ((with_reducible conv => whnf); exact trivial) | omega | assumption | exact Eq.refl _ | exact Nat.zero_le _ | (simp only [List.length_map, List.length_append, List.length_cons, List.length_nil, List.length_singleton, List.length_reverse, List.length_drop, List.length_take, List.length_range, List.length_replicate, cut_tl, cut_hd, cut_take, cut_drop]; omega))); (with_reducible conv => whnf)) | (with_reducible refine g_flat ?_; (with_reducible conv => whnf)) | (with_reducible refine Eq.mpr u_forN ?_; (with_reducible conv => whnf)) | ((with_reducible refine Eq.mpr l1_law_eq ?_); simp only [e_Var, e_Bor, e_Mov, e_Frz, e_C, e_Give, e_Op, e_Un, e_Nil, e_Cons, e_Tup, e_LNil, e_LCons, e_Lst, e_CallV, e_CallV0, e_CallVK, e_CallM, e_CallB, e_Next, e_Seq, e_Break, e_Cont, e_Drop, e_Ret, e_RetN, e_If, e_gName, e_Asg, e_gNil, e_gCons, e_gTup, e_Test, e_And, e_Or, e_NotT, e_AndV, e_OrV, e_NotV, e_IfE, e_NoPart, e_Part, e_Sl, e_IAny, e_For, e_While, e_Rng1, e_IZip, e_Lc, e_Yes, e_Append, e_Pop, e_PopAt, e_Extend, e_Reverse, e_SetItem, e_Aug, e_Par, e_SIndex, e_Isi, e_DispC, e_DGet2, e_Cn, e_Chain, e_Raise, e_TryAs, e_Xf, e_Append2, e_Reverse2, e_Pop2, h_Sub, h_FdivW, h_Mod, h_Pow, h_Lt, h_Le, h_Gt, h_Ge, h_Iadd, h_Isub, h_Neg, h_Abs, h_Int, h_Len, h_Sum, h_All, h_Any, h_List, h_Tuple, h_Add, h_Mul, h_Ix, h_Sl, h_Rev, h_Is, h_Not, h_Eq, h_Ne, h_In, h_Nin, e_endsV, e_endsM, h_Max2, h_Min2]; (with_reducible conv => whnf)) | ((with_reducible refine Eq.mpr l2_law_eq ?_); simp only [e_Var, e_Bor, e_Mov, e_Frz, e_C, e_Give, e_Op, e_Un, e_Nil, e_Cons, e_Tup, e_LNil, e_LCons, e_Lst, e_CallV, e_CallV0, e_CallVK, e_CallM, e_CallB, e_Next, e_Seq, e_Break, e_Cont, e_Drop, e_Ret, e_RetN, e_If, e_gName, e_Asg, e_gNil, e_gCons, e_gTup, e_Test, e_And, e_Or, e_NotT, e_AndV, e_OrV, e_NotV, e_IfE, e_NoPart, e_Part, e_Sl, e_IAny, e_For, e_While, e_Rng1, e_IZip, e_Lc, e_Yes, e_Append, e_Pop, e_PopAt, e_Extend, e_Reverse, e_SetItem, e_Aug, e_Par, e_SIndex, e_Isi, e_DispC, e_DGet2, e_Cn, e_Chain, e_Raise, e_TryAs, e_Xf, e_Append2, e_Reverse2, e_Pop2, h_Sub, h_FdivW, h_Mod, h_Pow, h_Lt, h_Le, h_Gt, h_Ge, h_Iadd, h_Isub, h_Neg, h_Abs, h_Int, h_Len, h_Sum, h_All, h_Any, h_List, h_Tuple, h_Add, h_Mul, h_Ix, h_Sl, h_Rev, h_Is, h_Not, h_Eq, h_Ne, h_In, h_Nin, e_endsV, e_endsM, h_Max2, h_Min2]; (with_reducible conv => whnf)) | ((with_reducible refine Eq.mpr l3_law_eq ?_); simp only [e_Var, e_Bor, e_Mov, e_Frz, e_C, e_Give, e_Op, e_Un, e_Nil, e_Cons, e_Tup, e_LNil, e_LCons, e_Lst, e_CallV, e_CallV0, e_CallVK, e_CallM, e_CallB, e_Next, e_Seq, e_Break, e_Cont, e_Drop, e_Ret, e_RetN, e_If, e_gName, e_Asg, e_gNil, e_gCons, e_gTup, e_Test, e_And, e_Or, e_NotT, e_AndV, e_OrV, e_NotV, e_IfE, e_NoPart, e_Part, e_Sl, e_IAny, e_For, e_While, e_Rng1, e_IZip, e_Lc, e_Yes, e_Append, e_Pop, e_PopAt, e_Extend, e_Reverse, e_SetItem, e_Aug, e_Par, e_SIndex, e_Isi, e_DispC, e_DGet2, e_Cn, e_Chain, e_Raise, e_TryAs, e_Xf, e_Append2, e_Reverse2, e_Pop2, h_Sub, h_FdivW, h_Mod, h_Pow, h_Lt, h_Le, h_Gt, h_Ge, h_Iadd, h_Isub, h_Neg, h_Abs, h_Int, h_Len, h_Sum, h_All, h_Any, h_List, h_Tuple, h_Add, h_Mul, h_Ix, h_Sl, h_Rev, h_Is, h_Not, h_Eq, h_Ne, h_In, h_Nin, e_endsV, e_endsM, h_Max2, h_Min2]; (with_reducible conv => whnf)) | ((with_reducible apply g_S); (· (first | exact Eq.refl _ | (simp only [flatL_map, flatL_append_map, flatL_cons, flatL_nil, flatL_mapr, Option.map_some]; exact rfl))); (with_reducible conv => whnf)) | ((with_reducible refine g_t ?_ ?_); (· first | decide | exact Eq.refl _); (with_reducible conv => whnf)) | ((with_reducible refine g_f ?_ ?_); (· first | decide | exact Eq.refl _); (with_reducible conv => whnf)) | ((with_reducible apply g_F); (· (simp only [O.frz, frzL, frzL_map, frzL_append, frzL_mapr, List.nil_append]; exact rfl)); (with_reducible conv => whnf)))
  refine c_law_places.mpr ⟨by omega, by omega, ?_⟩
  (with_reducible conv => whnf); repeat (first | ((with_reducible refine And.intro ?_ ?_); (· (first | ((with_reducible conv => whnf); exact trivial) | omega | assumption | exact Eq.refl _ | exact Nat.zero_le _ | (simp only [List.length_map, List.length_append, List.length_cons, List.length_nil, List.length_singleton, List.length_reverse, List.length_drop, List.length_take, List.length_range, List.length_replicate, cut_tl, cut_hd, cut_take, cut_drop]; omega))); (with_reducible conv => whnf)) | (with_reducible refine g_flat ?_; (with_reducible conv => whnf)) | (with_reducible refine Eq.mpr u_forN ?_; (with_reducible conv => whnf)) | ((with_reducible refine Eq.mpr l1_law_eq ?_); simp only [e_Var, e_Bor, e_Mov, e_Frz, e_C, e_Give, e_Op, e_Un, e_Nil, e_Cons, e_Tup, e_LNil, e_LCons, e_Lst, e_CallV, e_CallV0, e_CallVK, e_CallM, e_CallB, e_Next, e_Seq, e_Break, e_Cont, e_Drop, e_Ret, e_RetN, e_If, e_gName, e_Asg, e_gNil, e_gCons, e_gTup, e_Test, e_And, e_Or, e_NotT, e_AndV, e_OrV, e_NotV, e_IfE, e_NoPart, e_Part, e_Sl, e_IAny, e_For, e_While, e_Rng1, e_IZip, e_Lc, e_Yes, e_Append, e_Pop, e_PopAt, e_Extend, e_Reverse, e_SetItem, e_Aug, e_Par, e_SIndex, e_Isi, e_DispC, e_DGet2, e_Cn, e_Chain, e_Raise, e_TryAs, e_Xf, e_Append2, e_Reverse2, e_Pop2, h_Sub, h_FdivW, h_Mod, h_Pow, h_Lt, h_Le, h_Gt, h_Ge, h_Iadd, h_Isub, h_Neg, h_Abs, h_Int, h_Len, h_Sum, h_All, h_Any, h_List, h_Tuple, h_Add, h_Mul, h_Ix, h_Sl, h_Rev, h_Is, h_Not, h_Eq, h_Ne, h_In, h_Nin, e_endsV, e_endsM, h_Max2, h_Min2]; (with_reducible conv => whnf)) | ((with_reducible refine Eq.mpr l2_law_eq ?_); simp only [e_Var, e_Bor, e_Mov, e_Frz, e_C, e_Give, e_Op, e_Un, e_Nil, e_Cons, e_Tup, e_LNil, e_LCons, e_Lst, e_CallV, e_CallV0, e_CallVK, e_CallM, e_CallB, e_Next, e_Seq, e_Break, e_Cont, e_Drop, e_Ret, e_RetN, e_If, e_gName, e_Asg, e_gNil, e_gCons, e_gTup, e_Test, e_And, e_Or, e_NotT, e_AndV, e_OrV, e_NotV, e_IfE, e_NoPart, e_Part, e_Sl, e_IAny, e_For, e_While, e_Rng1, e_IZip, e_Lc, e_Yes, e_Append, e_Pop, e_PopAt, e_Extend, e_Reverse, e_SetItem, e_Aug, e_Par, e_SIndex, e_Isi, e_DispC, e_DGet2, e_Cn, e_Chain, e_Raise, e_TryAs, e_Xf, e_Append2, e_Reverse2, e_Pop2, h_Sub, h_FdivW, h_Mod, h_Pow, h_Lt, h_Le, h_Gt, h_Ge, h_Iadd, h_Isub, h_Neg, h_Abs, h_Int, h_Len, h_Sum, h_All, h_Any, h_List, h_Tuple, h_Add, h_Mul, h_Ix, h_Sl, h_Rev, h_Is, h_Not, h_Eq, h_Ne, h_In, h_Nin, e_endsV, e_endsM, h_Max2, h_Min2]; (with_reducible conv => whnf)) | ((with_reducible refine Eq.mpr l3_law_eq ?_); simp only [e_Var, e_Bor, e_Mov, e_Frz, e_C, e_Give, e_Op, e_Un, e_Nil, e_Cons, e_Tup, e_LNil, e_LCons, e_Lst, e_CallV, e_CallV0, e_CallVK, e_CallM, e_CallB, e_Next, e_Seq, e_Break, e_Cont, e_Drop, e_Ret, e_RetN, e_If, e_gName, e_Asg, e_gNil, e_gCons, e_gTup, e_Test, e_And, e_Or, e_NotT, e_AndV, e_OrV, e_NotV, e_IfE, e_NoPart, e_Part, e_Sl, e_IAny, e_For, e_While, e_Rng1, e_IZip, e_Lc, e_Yes, e_Append, e_Pop, e_PopAt, e_Extend, e_Reverse, e_SetItem, e_Aug, e_Par, e_SIndex, e_Isi, e_DispC, e_DGet2, e_Cn, e_Chain, e_Raise, e_TryAs, e_Xf, e_Append2, e_Reverse2, e_Pop2, h_Sub, h_FdivW, h_Mod, h_Pow, h_Lt, h_Le, h_Gt, h_Ge, h_Iadd, h_Isub, h_Neg, h_Abs, h_Int, h_Len, h_Sum, h_All, h_Any, h_List, h_Tuple, h_Add, h_Mul, h_Ix, h_Sl, h_Rev, h_Is, h_Not, h_Eq, h_Ne, h_In, h_Nin, e_endsV, e_endsM, h_Max2, h_Min2]; (with_reducible conv => whnf)) | ((with_reducible apply g_S); (· (first | exact Eq.refl _ | (simp only [flatL_map, flatL_append_map, flatL_cons, flatL_nil, flatL_mapr, Option.map_some]; exact rfl))); (with_reducible conv => whnf)) | ((with_reducible refine g_t ?_ ?_); (· first | decide | exact Eq.refl _); (with_reducible conv => whnf)) | ((with_reducible refine g_f ?_ ?_); (· first | decide | exact Eq.refl _); (with_reducible conv => whnf)) | ((with_reducible apply g_F); (· (simp only [O.frz, frzL, frzL_map, frzL_append, frzL_mapr, List.nil_append]; exact rfl)); (with_reducible conv => whnf)))
  refine c_places_right.mpr ⟨gt, by omega, ?_⟩
  (with_reducible conv => whnf); repeat (first | ((with_reducible refine And.intro ?_ ?_); (· (first | ((with_reducible conv => whnf); exact trivial) | omega | assumption | exact Eq.refl _ | exact Nat.zero_le _ | (simp only [List.length_map, List.length_append, List.length_cons, List.length_nil, List.length_singleton, List.length_reverse, List.length_drop, List.length_take, List.length_range, List.length_replicate, cut_tl, cut_hd, cut_take, cut_drop]; omega))); (with_reducible conv => whnf)) | (with_reducible refine g_flat ?_; (with_reducible conv => whnf)) | (with_reducible refine Eq.mpr u_forN ?_; (with_reducible conv => whnf)) | ((with_reducible refine Eq.mpr l1_law_eq ?_); simp only [e_Var, e_Bor, e_Mov, e_Frz, e_C, e_Give, e_Op, e_Un, e_Nil, e_Cons, e_Tup, e_LNil, e_LCons, e_Lst, e_CallV, e_CallV0, e_CallVK, e_CallM, e_CallB, e_Next, e_Seq, e_Break, e_Cont, e_Drop, e_Ret, e_RetN, e_If, e_gName, e_Asg, e_gNil, e_gCons, e_gTup, e_Test, e_And, e_Or, e_NotT, e_AndV, e_OrV, e_NotV, e_IfE, e_NoPart, e_Part, e_Sl, e_IAny, e_For, e_While, e_Rng1, e_IZip, e_Lc, e_Yes, e_Append, e_Pop, e_PopAt, e_Extend, e_Reverse, e_SetItem, e_Aug, e_Par, e_SIndex, e_Isi, e_DispC, e_DGet2, e_Cn, e_Chain, e_Raise, e_TryAs, e_Xf, e_Append2, e_Reverse2, e_Pop2, h_Sub, h_FdivW, h_Mod, h_Pow, h_Lt, h_Le, h_Gt, h_Ge, h_Iadd, h_Isub, h_Neg, h_Abs, h_Int, h_Len, h_Sum, h_All, h_Any, h_List, h_Tuple, h_Add, h_Mul, h_Ix, h_Sl, h_Rev, h_Is, h_Not, h_Eq, h_Ne, h_In, h_Nin, e_endsV, e_endsM, h_Max2, h_Min2]; (with_reducible conv => whnf)) | ((with_reducible refine Eq.mpr l2_law_eq ?_); simp only [e_Var, e_Bor, e_Mov, e_Frz, e_C, e_Give, e_Op, e_Un, e_Nil, e_Cons, e_Tup, e_LNil, e_LCons, e_Lst, e_CallV, e_CallV0, e_CallVK, e_CallM, e_CallB, e_Next, e_Seq, e_Break, e_Cont, e_Drop, e_Ret, e_RetN, e_If, e_gName, e_Asg, e_gNil, e_gCons, e_gTup, e_Test, e_And, e_Or, e_NotT, e_AndV, e_OrV, e_NotV, e_IfE, e_NoPart, e_Part, e_Sl, e_IAny, e_For, e_While, e_Rng1, e_IZip, e_Lc, e_Yes, e_Append, e_Pop, e_PopAt, e_Extend, e_Reverse, e_SetItem, e_Aug, e_Par, e_SIndex, e_Isi, e_DispC, e_DGet2, e_Cn, e_Chain, e_Raise, e_TryAs, e_Xf, e_Append2, e_Reverse2, e_Pop2, h_Sub, h_FdivW, h_Mod, h_Pow, h_Lt, h_Le, h_Gt, h_Ge, h_Iadd, h_Isub, h_Neg, h_Abs, h_Int, h_Len, h_Sum, h_All, h_Any, h_List, h_Tuple, h_Add, h_Mul, h_Ix, h_Sl, h_Rev, h_Is, h_Not, h_Eq, h_Ne, h_In, h_Nin, e_endsV, e_endsM, h_Max2, h_Min2]; (with_reducible conv => whnf)) | ((with_reducible refine Eq.mpr l3_law_eq ?_); simp only [e_Var, e_Bor, e_Mov, e_Frz, e_C, e_Give, e_Op, e_Un, e_Nil, e_Cons, e_Tup, e_LNil, e_LCons, e_Lst, e_CallV, e_CallV0, e_CallVK, e_CallM, e_CallB, e_Next, e_Seq, e_Break, e_Cont, e_Drop, e_Ret, e_RetN, e_If, e_gName, e_Asg, e_gNil, e_gCons, e_gTup, e_Test, e_And, e_Or, e_NotT, e_AndV, e_OrV, e_NotV, e_IfE, e_NoPart, e_Part, e_Sl, e_IAny, e_For, e_While, e_Rng1, e_IZip, e_Lc, e_Yes, e_Append, e_Pop, e_PopAt, e_Extend, e_Reverse, e_SetItem, e_Aug, e_Par, e_SIndex, e_Isi, e_DispC, e_DGet2, e_Cn, e_Chain, e_Raise, e_TryAs, e_Xf, e_Append2, e_Reverse2, e_Pop2, h_Sub, h_FdivW, h_Mod, h_Pow, h_Lt, h_Le, h_Gt, h_Ge, h_Iadd, h_Isub, h_Neg, h_Abs, h_Int, h_Len, h_Sum, h_All, h_Any, h_List, h_Tuple, h_Add, h_Mul, h_Ix, h_Sl, h_Rev, h_Is, h_Not, h_Eq, h_Ne, h_In, h_Nin, e_endsV, e_endsM, h_Max2, h_Min2]; (with_reducible conv => whnf)) | ((with_reducible apply g_S); (· (first | exact Eq.refl _ | (simp only [flatL_map, flatL_append_map, flatL_cons, flatL_nil, flatL_mapr, Option.map_some]; exact rfl))); (with_reducible conv => whnf)) | ((with_reducible refine g_t ?_ ?_); (· first | decide | exact Eq.refl _); (with_reducible conv => whnf)) | ((with_reducible refine g_f ?_ ?_); (· first | decide | exact Eq.refl _); (with_reducible conv => whnf)) | ((with_reducible apply g_F); (· (simp only [O.frz, frzL, frzL_map, frzL_append, frzL_mapr, List.nil_append]; exact rfl)); (with_reducible conv => whnf)))
  refine ⟨_, t, _, hB2, by omega, ot, by omega, rfl, fun x3 hB3 => ?_⟩
  (with_reducible conv => whnf); repeat (first | ((with_reducible refine And.intro ?_ ?_); (· (first | ((with_reducible conv => whnf); exact trivial) | omega | assumption | exact Eq.refl _ | exact Nat.zero_le _ | (simp only [List.length_map, List.length_append, List.length_cons, List.length_nil, List.length_singleton, List.length_reverse, List.length_drop, List.length_take, List.length_range, List.length_replicate, cut_tl, cut_hd, cut_take, cut_drop]; omega))); (with_reducible conv => whnf)) | (with_reducible refine g_flat ?_; (with_reducible conv => whnf)) | (with_reducible refine Eq.mpr u_forN ?_; (with_reducible conv => whnf)) | ((with_reducible refine Eq.mpr l1_law_eq ?_); simp only [e_Var, e_Bor, e_Mov, e_Frz, e_C, e_Give, e_Op, e_Un, e_Nil, e_Cons, e_Tup, e_LNil, e_LCons, e_Lst, e_CallV, e_CallV0, e_CallVK, e_CallM, e_CallB, e_Next, e_Seq, e_Break, e_Cont, e_Drop, e_Ret, e_RetN, e_If, e_gName, e_Asg, e_gNil, e_gCons, e_gTup, e_Test, e_And, e_Or, e_NotT, e_AndV, e_OrV, e_NotV, e_IfE, e_NoPart, e_Part, e_Sl, e_IAny, e_For, e_While, e_Rng1, e_IZip, e_Lc, e_Yes, e_Append, e_Pop, e_PopAt, e_Extend, e_Reverse, e_SetItem, e_Aug, e_Par, e_SIndex, e_Isi, e_DispC, e_DGet2, e_Cn, e_Chain, e_Raise, e_TryAs, e_Xf, e_Append2, e_Reverse2, e_Pop2, h_Sub, h_FdivW, h_Mod, h_Pow, h_Lt, h_Le, h_Gt, h_Ge, h_Iadd, h_Isub, h_Neg, h_Abs, h_Int, h_Len, h_Sum, h_All, h_Any, h_List, h_Tuple, h_Add, h_Mul, h_Ix, h_Sl, h_Rev, h_Is, h_Not, h_Eq, h_Ne, h_In, h_Nin, e_endsV, e_endsM, h_Max2, h_Min2]; (with_reducible conv => whnf)) | ((with_reducible refine Eq.mpr l2_law_eq ?_); simp only [e_Var, e_Bor, e_Mov, e_Frz, e_C, e_Give, e_Op, e_Un, e_Nil, e_Cons, e_Tup, e_LNil, e_LCons, e_Lst, e_CallV, e_CallV0, e_CallVK, e_CallM, e_CallB, e_Next, e_Seq, e_Break, e_Cont, e_Drop, e_Ret, e_RetN, e_If, e_gName, e_Asg, e_gNil, e_gCons, e_gTup, e_Test, e_And, e_Or, e_NotT, e_AndV, e_OrV, e_NotV, e_IfE, e_NoPart, e_Part, e_Sl, e_IAny, e_For, e_While, e_Rng1, e_IZip, e_Lc, e_Yes, e_Append, e_Pop, e_PopAt, e_Extend, e_Reverse, e_SetItem, e_Aug, e_Par, e_SIndex, e_Isi, e_DispC, e_DGet2, e_Cn, e_Chain, e_Raise, e_TryAs, e_Xf, e_Append2, e_Reverse2, e_Pop2, h_Sub, h_FdivW, h_Mod, h_Pow, h_Lt, h_Le, h_Gt, h_Ge, h_Iadd, h_Isub, h_Neg, h_Abs, h_Int, h_Len, h_Sum, h_All, h_Any, h_List, h_Tuple, h_Add, h_Mul, h_Ix, h_Sl, h_Rev, h_Is, h_Not, h_Eq, h_Ne, h_In, h_Nin, e_endsV, e_endsM, h_Max2, h_Min2]; (with_reducible conv => whnf)) | ((with_reducible refine Eq.mpr l3_law_eq ?_); simp only [e_Var, e_Bor, e_Mov, e_Frz, e_C, e_Give, e_Op, e_Un, e_Nil, e_Cons, e_Tup, e_LNil, e_LCons, e_Lst, e_CallV, e_CallV0, e_CallVK, e_CallM, e_CallB, e_Next, e_Seq, e_Break, e_Cont, e_Drop, e_Ret, e_RetN, e_If, e_gName, e_Asg, e_gNil, e_gCons, e_gTup, e_Test, e_And, e_Or, e_NotT, e_AndV, e_OrV, e_NotV, e_IfE, e_NoPart, e_Part, e_Sl, e_IAny, e_For, e_While, e_Rng1, e_IZip, e_Lc, e_Yes, e_Append, e_Pop, e_PopAt, e_Extend, e_Reverse, e_SetItem, e_Aug, e_Par, e_SIndex, e_Isi, e_DispC, e_DGet2, e_Cn, e_Chain, e_Raise, e_TryAs, e_Xf, e_Append2, e_Reverse2, e_Pop2, h_Sub, h_FdivW, h_Mod, h_Pow, h_Lt, h_Le, h_Gt, h_Ge, h_Iadd, h_Isub, h_Neg, h_Abs, h_Int, h_Len, h_Sum, h_All, h_Any, h_List, h_Tuple, h_Add, h_Mul, h_Ix, h_Sl, h_Rev, h_Is, h_Not, h_Eq, h_Ne, h_In, h_Nin, e_endsV, e_endsM, h_Max2, h_Min2]; (with_reducible conv => whnf)) | ((with_reducible apply g_S); (· (first | exact Eq.refl _ | (simp only [flatL_map, flatL_append_map, flatL_cons, flatL_nil, flatL_mapr, Option.map_some]; exact rfl))); (with_reducible conv => whnf)) | ((with_reducible refine g_t ?_ ?_); (· first | decide | exact Eq.refl _); (with_reducible conv => whnf)) | ((with_reducible refine g_f ?_ ?_); (· first | decide | exact Eq.refl _); (with_reducible conv => whnf)) | ((with_reducible apply g_F); (· (simp only [O.frz, frzL, frzL_map, frzL_append, frzL_mapr, List.nil_append]; exact rfl)); (with_reducible conv => whnf)))
  refine ⟨_, t, _, hB3, by omega, ot, by omega, rfl, fun x4 hB4 => ?_⟩
  (with_reducible conv => whnf); repeat (first | ((with_reducible refine And.intro ?_ ?_); (· (first | ((with_reducible conv => whnf); exact trivial) | omega | assumption | exact Eq.refl _ | exact Nat.zero_le _ | (simp only [List.length_map, List.length_append, List.length_cons, List.length_nil, List.length_singleton, List.length_reverse, List.length_drop, List.length_take, List.length_range, List.length_replicate, cut_tl, cut_hd, cut_take, cut_drop]; omega))); (with_reducible conv => whnf)) | (with_reducible refine g_flat ?_; (with_reducible conv => whnf)) | (with_reducible refine Eq.mpr u_forN ?_; (with_reducible conv => whnf)) | ((with_reducible refine Eq.mpr l1_law_eq ?_); simp only [e_Var, e_Bor, e_Mov, e_Frz, e_C, e_Give, e_Op, e_Un, e_Nil, e_Cons, e_Tup, e_LNil, e_LCons, e_Lst, e_CallV, e_CallV0, e_CallVK, e_CallM, e_CallB, e_Next, e_Seq, e_Break, e_Cont, e_Drop, e_Ret, e_RetN, e_If, e_gName, e_Asg, e_gNil, e_gCons, e_gTup, e_Test, e_And, e_Or, e_NotT, e_AndV, e_OrV, e_NotV, e_IfE, e_NoPart, e_Part, e_Sl, e_IAny, e_For, e_While, e_Rng1, e_IZip, e_Lc, e_Yes, e_Append, e_Pop, e_PopAt, e_Extend, e_Reverse, e_SetItem, e_Aug, e_Par, e_SIndex, e_Isi, e_DispC, e_DGet2, e_Cn, e_Chain, e_Raise, e_TryAs, e_Xf, e_Append2, e_Reverse2, e_Pop2, h_Sub, h_FdivW, h_Mod, h_Pow, h_Lt, h_Le, h_Gt, h_Ge, h_Iadd, h_Isub, h_Neg, h_Abs, h_Int, h_Len, h_Sum, h_All, h_Any, h_List, h_Tuple, h_Add, h_Mul, h_Ix, h_Sl, h_Rev, h_Is, h_Not, h_Eq, h_Ne, h_In, h_Nin, e_endsV, e_endsM, h_Max2, h_Min2]; (with_reducible conv => whnf)) | ((with_reducible refine Eq.mpr l2_law_eq ?_); simp only [e_Var, e_Bor, e_Mov, e_Frz, e_C, e_Give, e_Op, e_Un, e_Nil, e_Cons, e_Tup, e_LNil, e_LCons, e_Lst, e_CallV, e_CallV0, e_CallVK, e_CallM, e_CallB, e_Next, e_Seq, e_Break, e_Cont, e_Drop, e_Ret, e_RetN, e_If, e_gName, e_Asg, e_gNil, e_gCons, e_gTup, e_Test, e_And, e_Or, e_NotT, e_AndV, e_OrV, e_NotV, e_IfE, e_NoPart, e_Part, e_Sl, e_IAny, e_For, e_While, e_Rng1, e_IZip, e_Lc, e_Yes, e_Append, e_Pop, e_PopAt, e_Extend, e_Reverse, e_SetItem, e_Aug, e_Par, e_SIndex, e_Isi, e_DispC, e_DGet2, e_Cn, e_Chain, e_Raise, e_TryAs, e_Xf, e_Append2, e_Reverse2, e_Pop2, h_Sub, h_FdivW, h_Mod, h_Pow, h_Lt, h_Le, h_Gt, h_Ge, h_Iadd, h_Isub, h_Neg, h_Abs, h_Int, h_Len, h_Sum, h_All, h_Any, h_List, h_Tuple, h_Add, h_Mul, h_Ix, h_Sl, h_Rev, h_Is, h_Not, h_Eq, h_Ne, h_In, h_Nin, e_endsV, e_endsM, h_Max2, h_Min2]; (with_reducible conv => whnf)) | ((with_reducible refine Eq.mpr l3_law_eq ?_); simp only [e_Var, e_Bor, e_Mov, e_Frz, e_C, e_Give, e_Op, e_Un, e_Nil, e_Cons, e_Tup, e_LNil, e_LCons, e_Lst, e_CallV, e_CallV0, e_CallVK, e_CallM, e_CallB, e_Next, e_Seq, e_Break, e_Cont, e_Drop, e_Ret, e_RetN, e_If, e_gName, e_Asg, e_gNil, e_gCons, e_gTup, e_Test, e_And, e_Or, e_NotT, e_AndV, e_OrV, e_NotV, e_IfE, e_NoPart, e_Part, e_Sl, e_IAny, e_For, e_While, e_Rng1, e_IZip, e_Lc, e_Yes, e_Append, e_Pop, e_PopAt, e_Extend, e_Reverse, e_SetItem, e_Aug, e_Par, e_SIndex, e_Isi, e_DispC, e_DGet2, e_Cn, e_Chain, e_Raise, e_TryAs, e_Xf, e_Append2, e_Reverse2, e_Pop2, h_Sub, h_FdivW, h_Mod, h_Pow, h_Lt, h_Le, h_Gt, h_Ge, h_Iadd, h_Isub, h_Neg, h_Abs, h_Int, h_Len, h_Sum, h_All, h_Any, h_List, h_Tuple, h_Add, h_Mul, h_Ix, h_Sl, h_Rev, h_Is, h_Not, h_Eq, h_Ne, h_In, h_Nin, e_endsV, e_endsM, h_Max2, h_Min2]; (with_reducible conv => whnf)) | ((with_reducible apply g_S); (· (first | exact Eq.refl _ | (simp only [flatL_map, flatL_append_map, flatL_cons, flatL_nil, flatL_mapr, Option.map_some]; exact rfl))); (with_reducible conv => whnf)) | ((with_reducible refine g_t ?_ ?_); (· first | decide | exact Eq.refl _); (with_reducible conv => whnf)) | ((with_reducible refine g_f ?_ ?_); (· first | decide | exact Eq.refl _); (with_reducible conv => whnf)) | ((with_reducible apply g_F); (· (simp only [O.frz, frzL, frzL_map, frzL_append, frzL_mapr, List.nil_append]; exact rfl)); (with_reducible conv => whnf)))
  refine mixed_use hB4 (by simp; omega) fun l x5 hl hB5 => ?_
  simp only [List.length_map] at hB5
  (with_reducible conv => whnf); repeat (first | ((with_reducible refine And.intro ?_ ?_); (· (first | ((with_reducible conv => whnf); exact trivial) | omega | assumption | exact Eq.refl _ | exact Nat.zero_le _ | (simp only [List.length_map, List.length_append, List.length_cons, List.length_nil, List.length_singleton, List.length_reverse, List.length_drop, List.length_take, List.length_range, List.length_replicate, cut_tl, cut_hd, cut_take, cut_drop]; omega))); (with_reducible conv => whnf)) | (with_reducible refine g_flat ?_; (with_reducible conv => whnf)) | (with_reducible refine Eq.mpr u_forN ?_; (with_reducible conv => whnf)) | ((with_reducible refine Eq.mpr l1_law_eq ?_); simp only [e_Var, e_Bor, e_Mov, e_Frz, e_C, e_Give, e_Op, e_Un, e_Nil, e_Cons, e_Tup, e_LNil, e_LCons, e_Lst, e_CallV, e_CallV0, e_CallVK, e_CallM, e_CallB, e_Next, e_Seq, e_Break, e_Cont, e_Drop, e_Ret, e_RetN, e_If, e_gName, e_Asg, e_gNil, e_gCons, e_gTup, e_Test, e_And, e_Or, e_NotT, e_AndV, e_OrV, e_NotV, e_IfE, e_NoPart, e_Part, e_Sl, e_IAny, e_For, e_While, e_Rng1, e_IZip, e_Lc, e_Yes, e_Append, e_Pop, e_PopAt, e_Extend, e_Reverse, e_SetItem, e_Aug, e_Par, e_SIndex, e_Isi, e_DispC, e_DGet2, e_Cn, e_Chain, e_Raise, e_TryAs, e_Xf, e_Append2, e_Reverse2, e_Pop2, h_Sub, h_FdivW, h_Mod, h_Pow, h_Lt, h_Le, h_Gt, h_Ge, h_Iadd, h_Isub, h_Neg, h_Abs, h_Int, h_Len, h_Sum, h_All, h_Any, h_List, h_Tuple, h_Add, h_Mul, h_Ix, h_Sl, h_Rev, h_Is, h_Not, h_Eq, h_Ne, h_In, h_Nin, e_endsV, e_endsM, h_Max2, h_Min2]; (with_reducible conv => whnf)) | ((with_reducible refine Eq.mpr l2_law_eq ?_); simp only [e_Var, e_Bor, e_Mov, e_Frz, e_C, e_Give, e_Op, e_Un, e_Nil, e_Cons, e_Tup, e_LNil, e_LCons, e_Lst, e_CallV, e_CallV0, e_CallVK, e_CallM, e_CallB, e_Next, e_Seq, e_Break, e_Cont, e_Drop, e_Ret, e_RetN, e_If, e_gName, e_Asg, e_gNil, e_gCons, e_gTup, e_Test, e_And, e_Or, e_NotT, e_AndV, e_OrV, e_NotV, e_IfE, e_NoPart, e_Part, e_Sl, e_IAny, e_For, e_While, e_Rng1, e_IZip, e_Lc, e_Yes, e_Append, e_Pop, e_PopAt, e_Extend, e_Reverse, e_SetItem, e_Aug, e_Par, e_SIndex, e_Isi, e_DispC, e_DGet2, e_Cn, e_Chain, e_Raise, e_TryAs, e_Xf, e_Append2, e_Reverse2, e_Pop2, h_Sub, h_FdivW, h_Mod, h_Pow, h_Lt, h_Le, h_Gt, h_Ge, h_Iadd, h_Isub, h_Neg, h_Abs, h_Int, h_Len, h_Sum, h_All, h_Any, h_List, h_Tuple, h_Add, h_Mul, h_Ix, h_Sl, h_Rev, h_Is, h_Not, h_Eq, h_Ne, h_In, h_Nin, e_endsV, e_endsM, h_Max2, h_Min2]; (with_reducible conv => whnf)) | ((with_reducible refine Eq.mpr l3_law_eq ?_); simp only [e_Var, e_Bor, e_Mov, e_Frz, e_C, e_Give, e_Op, e_Un, e_Nil, e_Cons, e_Tup, e_LNil, e_LCons, e_Lst, e_CallV, e_CallV0, e_CallVK, e_CallM, e_CallB, e_Next, e_Seq, e_Break, e_Cont, e_Drop, e_Ret, e_RetN, e_If, e_gName, e_Asg, e_gNil, e_gCons, e_gTup, e_Test, e_And, e_Or, e_NotT, e_AndV, e_OrV, e_NotV, e_IfE, e_NoPart, e_Part, e_Sl, e_IAny, e_For, e_While, e_Rng1, e_IZip, e_Lc, e_Yes, e_Append, e_Pop, e_PopAt, e_Extend, e_Reverse, e_SetItem, e_Aug, e_Par, e_SIndex, e_Isi, e_DispC, e_DGet2, e_Cn, e_Chain, e_Raise, e_TryAs, e_Xf, e_Append2, e_Reverse2, e_Pop2, h_Sub, h_FdivW, h_Mod, h_Pow, h_Lt, h_Le, h_Gt, h_Ge, h_Iadd, h_Isub, h_Neg, h_Abs, h_Int, h_Len, h_Sum, h_All, h_Any, h_List, h_Tuple, h_Add, h_Mul, h_Ix, h_Sl, h_Rev, h_Is, h_Not, h_Eq, h_Ne, h_In, h_Nin, e_endsV, e_endsM, h_Max2, h_Min2]; (with_reducible conv => whnf)) | ((with_reducible apply g_S); (· (first | exact Eq.refl _ | (simp only [flatL_map, flatL_append_map, flatL_cons, flatL_nil, flatL_mapr, Option.map_some]; exact rfl))); (with_reducible conv => whnf)) | ((with_reducible refine g_t ?_ ?_); (· first | decide | exact Eq.refl _); (with_reducible conv => whnf)) | ((with_reducible refine g_f ?_ ?_); (· first | decide | exact Eq.refl _); (with_reducible conv => whnf)) | ((with_reducible apply g_F); (· (simp only [O.frz, frzL, frzL_map, frzL_append, frzL_mapr, List.nil_append]; exact rfl)); (with_reducible conv => whnf)))
  refine forR_go (fun ds env => (∀ d ∈ ds, d ∈ l) ∧ ∃ m x v1 b v4 v7 v8, Bx m x ∧ m + 30 * ds.length ≤ n + 500 ∧ env = [some (.d (.kst (ns.map D.int))), v1, some (.own x), some (.d (.bl b)), v4, some (.d t.enc), some (.d (.lst ((walkT [] t).map pr))), v7, v8]) ?_ ?_ ?_
  · refine ⟨fun d hd => ?_, _, x5, _, _, _, _, _, hB5, ?_, rfl⟩
    · rw [show (some (4 : Int)) = some ((4 : Nat) : Int) from rfl, cut_take] at hd
      exact List.mem_of_mem_take hd
    · rw [show (some (4 : Int)) = some ((4 : Nat) : Int) from rfl, cut_take, List.length_take]
      omega
  · rintro _ ⟨_, m, x, v1, b, v4, v7, v8, hB, hn3, rfl⟩
    (with_reducible conv => whnf); repeat (first | ((with_reducible refine And.intro ?_ ?_); (· (first | ((with_reducible conv => whnf); exact trivial) | omega | assumption | exact Eq.refl _ | exact Nat.zero_le _ | (simp only [List.length_map, List.length_append, List.length_cons, List.length_nil, List.length_singleton, List.length_reverse, List.length_drop, List.length_take, List.length_range, List.length_replicate, cut_tl, cut_hd, cut_take, cut_drop]; omega))); (with_reducible conv => whnf)) | (with_reducible refine g_flat ?_; (with_reducible conv => whnf)) | (with_reducible refine Eq.mpr u_forN ?_; (with_reducible conv => whnf)) | ((with_reducible refine Eq.mpr l1_law_eq ?_); simp only [e_Var, e_Bor, e_Mov, e_Frz, e_C, e_Give, e_Op, e_Un, e_Nil, e_Cons, e_Tup, e_LNil, e_LCons, e_Lst, e_CallV, e_CallV0, e_CallVK, e_CallM, e_CallB, e_Next, e_Seq, e_Break, e_Cont, e_Drop, e_Ret, e_RetN, e_If, e_gName, e_Asg, e_gNil, e_gCons, e_gTup, e_Test, e_And, e_Or, e_NotT, e_AndV, e_OrV, e_NotV, e_IfE, e_NoPart, e_Part, e_Sl, e_IAny, e_For, e_While, e_Rng1, e_IZip, e_Lc, e_Yes, e_Append, e_Pop, e_PopAt, e_Extend, e_Reverse, e_SetItem, e_Aug, e_Par, e_SIndex, e_Isi, e_DispC, e_DGet2, e_Cn, e_Chain, e_Raise, e_TryAs, e_Xf, e_Append2, e_Reverse2, e_Pop2, h_Sub, h_FdivW, h_Mod, h_Pow, h_Lt, h_Le, h_Gt, h_Ge, h_Iadd, h_Isub, h_Neg, h_Abs, h_Int, h_Len, h_Sum, h_All, h_Any, h_List, h_Tuple, h_Add, h_Mul, h_Ix, h_Sl, h_Rev, h_Is, h_Not, h_Eq, h_Ne, h_In, h_Nin, e_endsV, e_endsM, h_Max2, h_Min2]; (with_reducible conv => whnf)) | ((with_reducible refine Eq.mpr l2_law_eq ?_); simp only [e_Var, e_Bor, e_Mov, e_Frz, e_C, e_Give, e_Op, e_Un, e_Nil, e_Cons, e_Tup, e_LNil, e_LCons, e_Lst, e_CallV, e_CallV0, e_CallVK, e_CallM, e_CallB, e_Next, e_Seq, e_Break, e_Cont, e_Drop, e_Ret, e_RetN, e_If, e_gName, e_Asg, e_gNil, e_gCons, e_gTup, e_Test, e_And, e_Or, e_NotT, e_AndV, e_OrV, e_NotV, e_IfE, e_NoPart, e_Part, e_Sl, e_IAny, e_For, e_While, e_Rng1, e_IZip, e_Lc, e_Yes, e_Append, e_Pop, e_PopAt, e_Extend, e_Reverse, e_SetItem, e_Aug, e_Par, e_SIndex, e_Isi, e_DispC, e_DGet2, e_Cn, e_Chain, e_Raise, e_TryAs, e_Xf, e_Append2, e_Reverse2, e_Pop2, h_Sub, h_FdivW, h_Mod, h_Pow, h_Lt, h_Le, h_Gt, h_Ge, h_Iadd, h_Isub, h_Neg, h_Abs, h_Int, h_Len, h_Sum, h_All, h_Any, h_List, h_Tuple, h_Add, h_Mul, h_Ix, h_Sl, h_Rev, h_Is, h_Not, h_Eq, h_Ne, h_In, h_Nin, e_endsV, e_endsM, h_Max2, h_Min2]; (with_reducible conv => whnf)) | ((with_reducible refine Eq.mpr l3_law_eq ?_); simp only [e_Var, e_Bor, e_Mov, e_Frz, e_C, e_Give, e_Op, e_Un, e_Nil, e_Cons, e_Tup, e_LNil, e_LCons, e_Lst, e_CallV, e_CallV0, e_CallVK, e_CallM, e_CallB, e_Next, e_Seq, e_Break, e_Cont, e_Drop, e_Ret, e_RetN, e_If, e_gName, e_Asg, e_gNil, e_gCons, e_gTup, e_Test, e_And, e_Or, e_NotT, e_AndV, e_OrV, e_NotV, e_IfE, e_NoPart, e_Part, e_Sl, e_IAny, e_For, e_While, e_Rng1, e_IZip, e_Lc, e_Yes, e_Append, e_Pop, e_PopAt, e_Extend, e_Reverse, e_SetItem, e_Aug, e_Par, e_SIndex, e_Isi, e_DispC, e_DGet2, e_Cn, e_Chain, e_Raise, e_TryAs, e_Xf, e_Append2, e_Reverse2, e_Pop2, h_Sub, h_FdivW, h_Mod, h_Pow, h_Lt, h_Le, h_Gt, h_Ge, h_Iadd, h_Isub, h_Neg, h_Abs, h_Int, h_Len, h_Sum, h_All, h_Any, h_List, h_Tuple, h_Add, h_Mul, h_Ix, h_Sl, h_Rev, h_Is, h_Not, h_Eq, h_Ne, h_In, h_Nin, e_endsV, e_endsM, h_Max2, h_Min2]; (with_reducible conv => whnf)) | ((with_reducible apply g_S); (· (first | exact Eq.refl _ | (simp only [flatL_map, flatL_append_map, flatL_cons, flatL_nil, flatL_mapr, Option.map_some]; exact rfl))); (with_reducible conv => whnf)) | ((with_reducible refine g_t ?_ ?_); (· first | decide | exact Eq.refl _); (with_reducible conv => whnf)) | ((with_reducible refine g_f ?_ ?_); (· first | decide | exact Eq.refl _); (with_reducible conv => whnf)) | ((with_reducible apply g_F); (· (simp only [O.frz, frzL, frzL_map, frzL_append, frzL_mapr, List.nil_append]; exact rfl)); (with_reducible conv => whnf)))
    exact ih2 _ ⟨m, x, _, _, _, _, _, _, _, hB, by simp at hn3; omega, rfl⟩
  rintro d4 ds4 _ ⟨hd4, m, x, v1, b, v4, v7, v8, hB, hn3, rfl⟩ ih3
  simp only [List.length_cons] at hn3
  obtain ⟨⟨p, u⟩, hr, rfl⟩ := List.mem_map.mp (hl _ (hd4 _ (List.mem_cons_self ..)))
  have hp := (rows_at t).1 _ hr
  simp only at hp
  simp only [pr]
  (with_reducible conv => whnf); repeat (first | ((with_reducible refine And.intro ?_ ?_); (· (first | ((with_reducible conv => whnf); exact trivial) | omega | assumption | exact Eq.refl _ | exact Nat.zero_le _ | (simp only [List.length_map, List.length_append, List.length_cons, List.length_nil, List.length_singleton, List.length_reverse, List.length_drop, List.length_take, List.length_range, List.length_replicate, cut_tl, cut_hd, cut_take, cut_drop]; omega))); (with_reducible conv => whnf)) | (with_reducible refine g_flat ?_; (with_reducible conv => whnf)) | (with_reducible refine Eq.mpr u_forN ?_; (with_reducible conv => whnf)) | ((with_reducible refine Eq.mpr l1_law_eq ?_); simp only [e_Var, e_Bor, e_Mov, e_Frz, e_C, e_Give, e_Op, e_Un, e_Nil, e_Cons, e_Tup, e_LNil, e_LCons, e_Lst, e_CallV, e_CallV0, e_CallVK, e_CallM, e_CallB, e_Next, e_Seq, e_Break, e_Cont, e_Drop, e_Ret, e_RetN, e_If, e_gName, e_Asg, e_gNil, e_gCons, e_gTup, e_Test, e_And, e_Or, e_NotT, e_AndV, e_OrV, e_NotV, e_IfE, e_NoPart, e_Part, e_Sl, e_IAny, e_For, e_While, e_Rng1, e_IZip, e_Lc, e_Yes, e_Append, e_Pop, e_PopAt, e_Extend, e_Reverse, e_SetItem, e_Aug, e_Par, e_SIndex, e_Isi, e_DispC, e_DGet2, e_Cn, e_Chain, e_Raise, e_TryAs, e_Xf, e_Append2, e_Reverse2, e_Pop2, h_Sub, h_FdivW, h_Mod, h_Pow, h_Lt, h_Le, h_Gt, h_Ge, h_Iadd, h_Isub, h_Neg, h_Abs, h_Int, h_Len, h_Sum, h_All, h_Any, h_List, h_Tuple, h_Add, h_Mul, h_Ix, h_Sl, h_Rev, h_Is, h_Not, h_Eq, h_Ne, h_In, h_Nin, e_endsV, e_endsM, h_Max2, h_Min2]; (with_reducible conv => whnf)) | ((with_reducible refine Eq.mpr l2_law_eq ?_); simp only [e_Var, e_Bor, e_Mov, e_Frz, e_C, e_Give, e_Op, e_Un, e_Nil, e_Cons, e_Tup, e_LNil, e_LCons, e_Lst, e_CallV, e_CallV0, e_CallVK, e_CallM, e_CallB, e_Next, e_Seq, e_Break, e_Cont, e_Drop, e_Ret, e_RetN, e_If, e_gName, e_Asg, e_gNil, e_gCons, e_gTup, e_Test, e_And, e_Or, e_NotT, e_AndV, e_OrV, e_NotV, e_IfE, e_NoPart, e_Part, e_Sl, e_IAny, e_For, e_While, e_Rng1, e_IZip, e_Lc, e_Yes, e_Append, e_Pop, e_PopAt, e_Extend, e_Reverse, e_SetItem, e_Aug, e_Par, e_SIndex, e_Isi, e_DispC, e_DGet2, e_Cn, e_Chain, e_Raise, e_TryAs, e_Xf, e_Append2, e_Reverse2, e_Pop2, h_Sub, h_FdivW, h_Mod, h_Pow, h_Lt, h_Le, h_Gt, h_Ge, h_Iadd, h_Isub, h_Neg, h_Abs, h_Int, h_Len, h_Sum, h_All, h_Any, h_List, h_Tuple, h_Add, h_Mul, h_Ix, h_Sl, h_Rev, h_Is, h_Not, h_Eq, h_Ne, h_In, h_Nin, e_endsV, e_endsM, h_Max2, h_Min2]; (with_reducible conv => whnf)) | ((with_reducible refine Eq.mpr l3_law_eq ?_); simp only [e_Var, e_Bor, e_Mov, e_Frz, e_C, e_Give, e_Op, e_Un, e_Nil, e_Cons, e_Tup, e_LNil, e_LCons, e_Lst, e_CallV, e_CallV0, e_CallVK, e_CallM, e_CallB, e_Next, e_Seq, e_Break, e_Cont, e_Drop, e_Ret, e_RetN, e_If, e_gName, e_Asg, e_gNil, e_gCons, e_gTup, e_Test, e_And, e_Or, e_NotT, e_AndV, e_OrV, e_NotV, e_IfE, e_NoPart, e_Part, e_Sl, e_IAny, e_For, e_While, e_Rng1, e_IZip, e_Lc, e_Yes, e_Append, e_Pop, e_PopAt, e_Extend, e_Reverse, e_SetItem, e_Aug, e_Par, e_SIndex, e_Isi, e_DispC, e_DGet2, e_Cn, e_Chain, e_Raise, e_TryAs, e_Xf, e_Append2, e_Reverse2, e_Pop2, h_Sub, h_FdivW, h_Mod, h_Pow, h_Lt, h_Le, h_Gt, h_Ge, h_Iadd, h_Isub, h_Neg, h_Abs, h_Int, h_Len, h_Sum, h_All, h_Any, h_List, h_Tuple, h_Add, h_Mul, h_Ix, h_Sl, h_Rev, h_Is, h_Not, h_Eq, h_Ne, h_In, h_Nin, e_endsV, e_endsM, h_Max2, h_Min2]; (with_reducible conv => whnf)) | ((with_reducible apply g_S); (· (first | exact Eq.refl _ | (simp only [flatL_map, flatL_append_map, flatL_cons, flatL_nil, flatL_mapr, Option.map_some]; exact rfl))); (with_reducible conv => whnf)) | ((with_reducible refine g_t ?_ ?_); (· first | decide | exact Eq.refl _); (with_reducible conv => whnf)) | ((with_reducible refine g_f ?_ ?_); (· first | decide | exact Eq.refl _); (with_reducible conv => whnf)) | ((with_reducible apply g_F); (· (simp only [O.frz, frzL, frzL_map, frzL_append, frzL_mapr, List.nil_append]; exact rfl)); (with_reducible conv => whnf)))
  refine ⟨m, t, u, p, _, hB, by omega, ot, by omega, hp, rfl, fun x6 hB6 => ?_⟩
  (with_reducible conv => whnf); repeat (first | ((with_reducible refine And.intro ?_ ?_); (· (first | ((with_reducible conv => whnf); exact trivial) | omega | assumption | exact Eq.refl _ | exact Nat.zero_le _ | (simp only [List.length_map, List.length_append, List.length_cons, List.length_nil, List.length_singleton, List.length_reverse, List.length_drop, List.length_take, List.length_range, List.length_replicate, cut_tl, cut_hd, cut_take, cut_drop]; omega))); (with_reducible conv => whnf)) | (with_reducible refine g_flat ?_; (with_reducible conv => whnf)) | (with_reducible refine Eq.mpr u_forN ?_; (with_reducible conv => whnf)) | ((with_reducible refine Eq.mpr l1_law_eq ?_); simp only [e_Var, e_Bor, e_Mov, e_Frz, e_C, e_Give, e_Op, e_Un, e_Nil, e_Cons, e_Tup, e_LNil, e_LCons, e_Lst, e_CallV, e_CallV0, e_CallVK, e_CallM, e_CallB, e_Next, e_Seq, e_Break, e_Cont, e_Drop, e_Ret, e_RetN, e_If, e_gName, e_Asg, e_gNil, e_gCons, e_gTup, e_Test, e_And, e_Or, e_NotT, e_AndV, e_OrV, e_NotV, e_IfE, e_NoPart, e_Part, e_Sl, e_IAny, e_For, e_While, e_Rng1, e_IZip, e_Lc, e_Yes, e_Append, e_Pop, e_PopAt, e_Extend, e_Reverse, e_SetItem, e_Aug, e_Par, e_SIndex, e_Isi, e_DispC, e_DGet2, e_Cn, e_Chain, e_Raise, e_TryAs, e_Xf, e_Append2, e_Reverse2, e_Pop2, h_Sub, h_FdivW, h_Mod, h_Pow, h_Lt, h_Le, h_Gt, h_Ge, h_Iadd, h_Isub, h_Neg, h_Abs, h_Int, h_Len, h_Sum, h_All, h_Any, h_List, h_Tuple, h_Add, h_Mul, h_Ix, h_Sl, h_Rev, h_Is, h_Not, h_Eq, h_Ne, h_In, h_Nin, e_endsV, e_endsM, h_Max2, h_Min2]; (with_reducible conv => whnf)) | ((with_reducible refine Eq.mpr l2_law_eq ?_); simp only [e_Var, e_Bor, e_Mov, e_Frz, e_C, e_Give, e_Op, e_Un, e_Nil, e_Cons, e_Tup, e_LNil, e_LCons, e_Lst, e_CallV, e_CallV0, e_CallVK, e_CallM, e_CallB, e_Next, e_Seq, e_Break, e_Cont, e_Drop, e_Ret, e_RetN, e_If, e_gName, e_Asg, e_gNil, e_gCons, e_gTup, e_Test, e_And, e_Or, e_NotT, e_AndV, e_OrV, e_NotV, e_IfE, e_NoPart, e_Part, e_Sl, e_IAny, e_For, e_While, e_Rng1, e_IZip, e_Lc, e_Yes, e_Append, e_Pop, e_PopAt, e_Extend, e_Reverse, e_SetItem, e_Aug, e_Par, e_SIndex, e_Isi, e_DispC, e_DGet2, e_Cn, e_Chain, e_Raise, e_TryAs, e_Xf, e_Append2, e_Reverse2, e_Pop2, h_Sub, h_FdivW, h_Mod, h_Pow, h_Lt, h_Le, h_Gt, h_Ge, h_Iadd, h_Isub, h_Neg, h_Abs, h_Int, h_Len, h_Sum, h_All, h_Any, h_List, h_Tuple, h_Add, h_Mul, h_Ix, h_Sl, h_Rev, h_Is, h_Not, h_Eq, h_Ne, h_In, h_Nin, e_endsV, e_endsM, h_Max2, h_Min2]; (with_reducible conv => whnf)) | ((with_reducible refine Eq.mpr l3_law_eq ?_); simp only [e_Var, e_Bor, e_Mov, e_Frz, e_C, e_Give, e_Op, e_Un, e_Nil, e_Cons, e_Tup, e_LNil, e_LCons, e_Lst, e_CallV, e_CallV0, e_CallVK, e_CallM, e_CallB, e_Next, e_Seq, e_Break, e_Cont, e_Drop, e_Ret, e_RetN, e_If, e_gName, e_Asg, e_gNil, e_gCons, e_gTup, e_Test, e_And, e_Or, e_NotT, e_AndV, e_OrV, e_NotV, e_IfE, e_NoPart, e_Part, e_Sl, e_IAny, e_For, e_While, e_Rng1, e_IZip, e_Lc, e_Yes, e_Append, e_Pop, e_PopAt, e_Extend, e_Reverse, e_SetItem, e_Aug, e_Par, e_SIndex, e_Isi, e_DispC, e_DGet2, e_Cn, e_Chain, e_Raise, e_TryAs, e_Xf, e_Append2, e_Reverse2, e_Pop2, h_Sub, h_FdivW, h_Mod, h_Pow, h_Lt, h_Le, h_Gt, h_Ge, h_Iadd, h_Isub, h_Neg, h_Abs, h_Int, h_Len, h_Sum, h_All, h_Any, h_List, h_Tuple, h_Add, h_Mul, h_Ix, h_Sl, h_Rev, h_Is, h_Not, h_Eq, h_Ne, h_In, h_Nin, e_endsV, e_endsM, h_Max2, h_Min2]; (with_reducible conv => whnf)) | ((with_reducible apply g_S); (· (first | exact Eq.refl _ | (simp only [flatL_map, flatL_append_map, flatL_cons, flatL_nil, flatL_mapr, Option.map_some]; exact rfl))); (with_reducible conv => whnf)) | ((with_reducible refine g_t ?_ ?_); (· first | decide | exact Eq.refl _); (with_reducible conv => whnf)) | ((with_reducible refine g_f ?_ ?_); (· first | decide | exact Eq.refl _); (with_reducible conv => whnf)) | ((with_reducible apply g_F); (· (simp only [O.frz, frzL, frzL_map, frzL_append, frzL_mapr, List.nil_append]; exact rfl)); (with_reducible conv => whnf)))
  exact ih3 _ ⟨fun d hd => hd4 d (List.mem_cons_of_mem _ hd), _, x6, _, _, _, _, _, hB6, by omega, rfl⟩
end Law
end

section
set_option Elab.async false
set_option linter.all false
set_option maxRecDepth 100000
set_option maxHeartbeats 2000000
namespace Law
open PySem PySem.Spec L2 PyProof.Rows DL
def top (i : Nat) : Stmt := PySem.Challenge.pw_lambdabench_k00_places_of_equal_names_an.main.body.getD i (.Pass ⟨0, 0, 0, 0⟩)
def initOf (st : Stmt) : Stmt := match st with
  | .ClassDef _ _ _ b _ _ _ _ _ _ _ => b.headD (.Pass ⟨0, 0, 0, 0⟩)
  | _ => .Pass ⟨0, 0, 0, 0⟩
def bs : List Bo := ([freeB "isinstance", freeB "str", freeB "len", strB "LETTERS" "abcdefghijklmnopqrstuvwxyz", freeB "all", intB "MOST_LETTERS" 4, tupB "APP" [.str "app"], freeB "zip", freeB "tuple", intB "MOST_SIZE" 2000, freeB "sum", freeB "int", freeB "abs", freeB "bool", freeB "range", freeB "list", freeB "min", freeB "max", gloB "is_letters", gloB "is_name"] : List Bo) ++ ([gloB "parts_of", gloB "head_of", gloB "letters_of", gloB "walk_parts", gloB "part_at", gloB "replaced", gloB "has_form", gloB "fits_term", gloB "check_term", gloB "check_place", gloB "part", gloB "with_part", gloB "places", gloB "_law_cell", gloB "_law_box", gloB "_law_take", gloB "_law_same", gloB "_law_pick", gloB "_law_mixed", gloB "_law_drawn"] : List Bo) ++ ([gloB "_law_nested", gloB "_law_places", gloB "_law_with", gloB "_law_told", gloB "_law_places_right", gloB "_law_bound_at", gloB "_law_put_right", gloB "_law_two_right", gloB "_law_none_right", gloB "law", gloB "APP", gloB "InvalidPlace", gloB "InvalidTerm", xB "InvalidPlace" "given", xB "InvalidTerm" "given", exmB "InvalidPlace" "InvalidPlace" true] : List Bo)
def dF (n : Str) (st : Stmt) : He.DefD := ⟨(n, none), n, n, defArgs st, defBody st, defScope st, [], []⟩
def dI (n : Str) (st : Stmt) : He.DefD := ⟨(n, some "__init__"), "__init__", n ++ ".__init__", defArgs st, defBody st, defScope st, [], []⟩
def fns : List He.DefD := ([dF "is_letters" (top 7), dF "is_name" (top 8), dF "parts_of" (top 11), dF "head_of" (top 12), dF "letters_of" (top 13), dF "walk_parts" (top 14), dF "part_at" (top 15), dF "replaced" (top 16), dF "has_form" (top 19), dF "fits_term" (top 20), dF "check_term" (top 21), dF "check_place" (top 22), dF "part" (top 24), dF "with_part" (top 25), dF "places" (top 26), dF "_law_cell" (top 28), dF "_law_box" (top 29), dF "_law_take" (top 30), dF "_law_same" (top 31), dF "_law_pick" (top 32)] : List He.DefD) ++ ([dF "_law_mixed" (top 33), dF "_law_drawn" (top 34), dF "_law_nested" (top 35), dF "_law_places" (top 36), dF "_law_with" (top 37), dF "_law_told" (top 38), dF "_law_places_right" (top 39), dF "_law_bound_at" (top 40), dF "_law_put_right" (top 41), dF "_law_two_right" (top 42), dF "_law_none_right" (top 43), dF "law" (top 44), dI "InvalidPlace" (initOf (top 2)), dI "InvalidTerm" (initOf (top 3))] : List He.DefD)

abbrev Cxt := CxtG bs fns
section
variable {P : Program} {w : World} {K : PySem.W.Frag} {mg : Str → Option Value} {base : Heap}
theorem scI_InvalidPlace : FnScope ["self", "given"] ["self", "given"] (defScope (initOf (top 2))) := ⟨rfl, rfl, rfl, by decide +kernel, rfl, by decide +kernel, by decide +kernel⟩
theorem okx_InvalidPlace (C : Cxt K mg) : Okx P w K mg base "InvalidPlace" "given" := by
  have T := xB_ok (C.says.fact 53 (b := xB "InvalidPlace" "given"))
  obtain ⟨fd, F⟩ := C.says.def_ 32 (d := dI "InvalidPlace" (initOf (top 2)))
  have F' : FunD K "__init__" ("InvalidPlace" ++ ".__init__") (defArgs (initOf (top 2))) (defBody (initOf (top 2))) (defScope (initOf (top 2))) [] [] (He.fAd K ("InvalidPlace", some "__init__")) fd := F
  have b : Binds K fd ["self", "given"] [] := F'.bindsN fun _ _ _ _ _ _ us hl => match us, hl with | [_, _], _ => rfl
  exact ⟨T, fd, b, init_ok (fun_of F') T scI_InvalidPlace fun cdv A outer s H E => pss_one (ps_ost (pv 0) (pv 1)), C.glo 51⟩
theorem scI_InvalidTerm : FnScope ["self", "given"] ["self", "given"] (defScope (initOf (top 3))) := ⟨rfl, rfl, rfl, by decide +kernel, rfl, by decide +kernel, by decide +kernel⟩
theorem okx_InvalidTerm (C : Cxt K mg) : Okx P w K mg base "InvalidTerm" "given" := by
  have T := xB_ok (C.says.fact 54 (b := xB "InvalidTerm" "given"))
  obtain ⟨fd, F⟩ := C.says.def_ 33 (d := dI "InvalidTerm" (initOf (top 3)))
  have F' : FunD K "__init__" ("InvalidTerm" ++ ".__init__") (defArgs (initOf (top 3))) (defBody (initOf (top 3))) (defScope (initOf (top 3))) [] [] (He.fAd K ("InvalidTerm", some "__init__")) fd := F
  have b : Binds K fd ["self", "given"] [] := F'.bindsN fun _ _ _ _ _ _ us hl => match us, hl with | [_, _], _ => rfl
  exact ⟨T, fd, b, init_ok (fun_of F') T scI_InvalidTerm fun cdv A outer s H E => pss_one (ps_ost (pv 0) (pv 1)), C.glo 52⟩

theorem sc_is_letters : FnScope N_is_letters ["value", "most"] (defScope (top 7)) := ⟨rfl, rfl, rfl, by decide +kernel, rfl, by decide +kernel, by decide +kernel⟩
theorem ok_is_letters (C : Cxt K mg)    : Okf P w K mg base 2 "is_letters" (top 7) ["value", "most"] (spV K s_is_letters) := by
  have m_isinstance := C.free 0 (x := "isinstance")
  have m_str := C.free 1 (x := "str")
  have m_len := C.free 2 (x := "len")
  obtain ⟨_, m_LETTERS⟩ := C.str 3 (x := "LETTERS") (z := "abcdefghijklmnopqrstuvwxyz")
  have m_all := C.free 4 (x := "all")
  obtain ⟨fd_is_letters, D_is_letters⟩ := C.fn 0 (x := "is_letters") (st := (top 7))
  have B_is_letters : Binds K fd_is_letters ["value", "most"] [] := D_is_letters.bindsN fun _ _ _ _ _ _ us hl => match us, hl with | [_, _], _ => rfl
  refine ⟨?_, C.glo 18⟩
  refine ⟨fd_is_letters, D_is_letters, B_is_letters, fnV (k := 1) (sp := s_is_letters) (p := b_is_letters) D_is_letters sc_is_letters (by decide) len_is_letters (fun cdv A outer s H E hr => ?_) pure_is_letters⟩
  have tk : Takes (cxOf (L2.CX P w) P w K mg base N_is_letters "is_letters" (defScope (top 7)) (He.ga K "is_letters") cdv A outer s H E) (fun cls d _ H => E cls d H) := takes_of rfl rfl rfl rfl
  refine ⟨_, ?_, (sim_ret (sim_andV (sim_isi okTy_str sim_var) (sim_andV (sim_chain o2_le o2_le (sim_c (v := .int (1)) fun _ => rp_int) (sim_c1 oc_len sim_var) sim_var (by decide)) (sim_c1 oc_all (sim_lc (sim_iany sim_var) (simg_name (by decide)) (tgw_name (by decide)) mono_name sim_yes (sim_op o2_in sim_var (sim_c (v := .str "abcdefghijklmnopqrstuvwxyz") (rp_lit (l := [97, 98, 99, 100, 101, 102, 103, 104, 105, 106, 107, 108, 109, 110, 111, 112, 113, 114, 115, 116, 117, 118, 119, 120, 121, 122]) (by decide +kernel))) (by decide)))))))⟩
  exact (pss_one (ps_ret (pe_and (pe_callB call_isi rfl m_isinstance (by decide +kernel) (pa_cons (pv 0) (pa_cons (pe_bltn (v := .ty "str") (u := .type "str") rfl m_str (by decide +kernel) rfl) pa_nil))) (pe_and (pe_chain (op_le) (op_le) pe_int (pe_callB call_lenAll rfl m_len boot_len (pa_cons (pv 0) pa_nil)) (pv 1)) (pe_one (pe_callB (cr_all rfl) rfl m_all (by decide +kernel) (pa_cons (pe_lc (own := [("sign", 2)]) rfl sc_is_letters.nd (pi_any (pv 0)) (blkOk_by (N := N_is_letters) (sc := defScope (top 7)) (by decide +kernel)) (fun _ _ _ _ _ => (pg_name (i := 2) sc_is_letters.nd rfl (by first | exact Or.inl rfl | exact Or.inr rfl))) (fun _ _ _ _ _ => pts_nil) (fun _ _ _ _ _ => (pe_cmpR (op_inAll (Room.eq hr)) (pv 2) (pe_glob (v := .str "abcdefghijklmnopqrstuvwxyz") rfl m_LETTERS ⟨_, rfl⟩) rfl))) pa_nil)))))))

theorem sc_is_name : FnScope N_is_name ["value"] (defScope (top 8)) := ⟨rfl, rfl, rfl, by decide +kernel, rfl, by decide +kernel, by decide +kernel⟩
theorem ok_is_name (C : Cxt K mg) (O_is_letters : Okf P w K mg base 2 "is_letters" (top 7) ["value", "most"] (spV K s_is_letters))   : Okf P w K mg base 3 "is_name" (top 8) ["value"] (spV K s_is_name) := by
  obtain ⟨_, m_MOST_LETTERS⟩ := C.int 5 (x := "MOST_LETTERS") (i := 4)
  obtain ⟨fd_is_letters, D_is_letters, B_is_letters, F_is_letters⟩ := O_is_letters.ex
  have k_is_letters := D_is_letters.kp
  have g_is_letters := O_is_letters.gm
  obtain ⟨fd_is_name, D_is_name⟩ := C.fn 1 (x := "is_name") (st := (top 8))
  have B_is_name : Binds K fd_is_name ["value"] [] := D_is_name.bindsN fun _ _ _ _ _ _ us hl => match us, hl with | [_], _ => rfl
  refine ⟨?_, C.glo 19⟩
  refine ⟨fd_is_name, D_is_name, B_is_name, fnV (k := 2) (sp := s_is_name) (p := b_is_name) D_is_name sc_is_name (by decide) len_is_name (fun cdv A outer s H E hr => ?_) pure_is_name⟩
  have tk : Takes (cxOf (L2.CX P w) P w K mg base N_is_name "is_name" (defScope (top 8)) (He.ga K "is_name") cdv A outer s H E) (fun cls d _ H => E cls d H) := takes_of rfl rfl rfl rfl
  refine ⟨_, ?_, (sim_ret (sim_callV (sim_acons sim_var (sim_acons (sim_c (v := .int (4)) fun _ => rp_int) sim_anil))))⟩
  exact (pss_one (ps_ret (pe_callS F_is_letters (hr.mono (by omega)) rfl g_is_letters k_is_letters B_is_letters (fun σ => passAt tk σ) (pa_cons (pv 0) (pa_cons (pe_glob (v := .int (4)) rfl m_MOST_LETTERS ⟨_, rfl⟩) pa_nil)))))

theorem sc_parts_of : FnScope N_parts_of ["part"] (defScope (top 11)) := ⟨rfl, rfl, rfl, by decide +kernel, rfl, by decide +kernel, by decide +kernel⟩
theorem ok_parts_of (C : Cxt K mg)    : Okf P w K mg base 2 "parts_of" (top 11) ["part"] (spV K s_parts_of) := by
  obtain ⟨fd_parts_of, D_parts_of⟩ := C.fn 2 (x := "parts_of") (st := (top 11))
  have B_parts_of : Binds K fd_parts_of ["part"] [] := D_parts_of.bindsN fun _ _ _ _ _ _ us hl => match us, hl with | [_], _ => rfl
  refine ⟨?_, C.glo 20⟩
  refine ⟨fd_parts_of, D_parts_of, B_parts_of, fnV (k := 1) (sp := s_parts_of) (p := b_parts_of) D_parts_of sc_parts_of (by decide) len_parts_of (fun cdv A outer s H E hr => ?_) pure_parts_of⟩
  have tk : Takes (cxOf (L2.CX P w) P w K mg base N_parts_of "parts_of" (defScope (top 11)) (He.ga K "parts_of") cdv A outer s H E) (fun cls d _ H => E cls d H) := takes_of rfl rfl rfl rfl
  refine ⟨_, ?_, (sim_seq (sim_if (sim_test (sim_op o2_eq (sim_op o2_ix sim_var (sim_c (v := .int (0)) fun _ => rp_int) (by decide)) (sim_c (v := .str "app") (rp_lit (l := [97, 112, 112]) (by decide +kernel))) (by decide))) (sim_ret (sim_sl os_sl sim_var (sim_part (sim_c (v := .int (1)) fun _ => rp_int)) sim_noPart (by decide))) sim_next)
    (sim_ret (sim_ifE (sim_test (sim_op o2_eq (sim_op o2_ix sim_var (sim_c (v := .int (0)) fun _ => rp_int) (by decide)) (sim_c (v := .str "lam") (rp_lit (l := [108, 97, 109]) (by decide +kernel))) (by decide))) (sim_sl os_sl sim_var (sim_part (sim_un o1_neg (sim_c (v := .int (1)) fun _ => rp_int))) sim_noPart (by decide)) (sim_tup sim_anil (by decide)))))⟩
  exact (pss_cons (ps_if (pt_cmpR (op_eqP (Room.eq hr)) (pe_ix ix_seq (pv 0) pe_int fun _ _ => rfl) pe_str (nomark _)) (pss_one (ps_ret (pe_slice sl_all (pv 0) (po_some pe_int) po_none))) pss_nil)
    (pss_one (ps_ret (pe_ifExp (pt_cmpR (op_eqP (Room.eq hr)) (pe_ix ix_seq (pv 0) pe_int fun _ _ => rfl) pe_str (nomark _)) (pe_slice sl_all (pv 0) (po_some (pe_un un_neg pe_int)) po_none) (pe_tup pa_nil)))))

theorem sc_head_of : FnScope N_head_of ["part"] (defScope (top 12)) := ⟨rfl, rfl, rfl, by decide +kernel, rfl, by decide +kernel, by decide +kernel⟩
theorem ok_head_of (C : Cxt K mg)    : Okf P w K mg base 2 "head_of" (top 12) ["part"] (spV K s_head_of) := by
  have m_APP := C.glo 50 (x := "APP")
  have r_APP := fun S => C.tup 6 (x := "APP") (ds := [.str [97, 112, 112]]) (vs := [.str "app"]) (fun S => by simp only [DL.RpL, List.map, He.Dv.v]; exact ⟨_, _, rfl, (rp_lit (by decide +kernel) _), rfl⟩) S
  obtain ⟨fd_head_of, D_head_of⟩ := C.fn 3 (x := "head_of") (st := (top 12))
  have B_head_of : Binds K fd_head_of ["part"] [] := D_head_of.bindsN fun _ _ _ _ _ _ us hl => match us, hl with | [_], _ => rfl
  refine ⟨?_, C.glo 21⟩
  refine ⟨fd_head_of, D_head_of, B_head_of, fnV (k := 1) (sp := s_head_of) (p := b_head_of) D_head_of sc_head_of (by decide) len_head_of (fun cdv A outer s H E hr => ?_) pure_head_of⟩
  have tk : Takes (cxOf (L2.CX P w) P w K mg base N_head_of "head_of" (defScope (top 12)) (He.ga K "head_of") cdv A outer s H E) (fun cls d _ H => E cls d H) := takes_of rfl rfl rfl rfl
  refine ⟨_, ?_, (sim_seq (sim_if (sim_test (sim_op o2_eq (sim_op o2_ix sim_var (sim_c (v := .int (0)) fun _ => rp_int) (by decide)) (sim_c (v := .str "app") (rp_lit (l := [97, 112, 112]) (by decide +kernel))) (by decide))) (sim_ret (sim_c (v := .ref (He.ga K "APP")) r_APP)) sim_next)
    (sim_ret (sim_ifE (sim_test (sim_op o2_eq (sim_op o2_ix sim_var (sim_c (v := .int (0)) fun _ => rp_int) (by decide)) (sim_c (v := .str "lam") (rp_lit (l := [108, 97, 109]) (by decide +kernel))) (by decide))) (sim_sl os_sl sim_var sim_noPart (sim_part (sim_un o1_neg (sim_c (v := .int (1)) fun _ => rp_int))) (by decide)) sim_var)))⟩
  exact (pss_cons (ps_if (pt_cmpR (op_eqP (Room.eq hr)) (pe_ix ix_seq (pv 0) pe_int fun _ _ => rfl) pe_str (nomark _)) (pss_one (ps_ret (pe_glob (v := .ref (He.ga K "APP")) rfl m_APP rfl))) pss_nil)
    (pss_one (ps_ret (pe_ifExp (pt_cmpR (op_eqP (Room.eq hr)) (pe_ix ix_seq (pv 0) pe_int fun _ _ => rfl) pe_str (nomark _)) (pe_slice sl_all (pv 0) po_none (po_some (pe_un un_neg pe_int))) (pv 0)))))

theorem sc_letters_of : FnScope N_letters_of ["part"] (defScope (top 13)) := ⟨rfl, rfl, rfl, by decide +kernel, rfl, by decide +kernel, by decide +kernel⟩
theorem ok_letters_of (C : Cxt K mg)    : Okf P w K mg base 2 "letters_of" (top 13) ["part"] (spV K s_letters_of) := by
  obtain ⟨fd_letters_of, D_letters_of⟩ := C.fn 4 (x := "letters_of") (st := (top 13))
  have B_letters_of : Binds K fd_letters_of ["part"] [] := D_letters_of.bindsN fun _ _ _ _ _ _ us hl => match us, hl with | [_], _ => rfl
  refine ⟨?_, C.glo 22⟩
  refine ⟨fd_letters_of, D_letters_of, B_letters_of, fnV (k := 1) (sp := s_letters_of) (p := b_letters_of) D_letters_of sc_letters_of (by decide) len_letters_of (fun cdv A outer s H E hr => ?_) pure_letters_of⟩
  have tk : Takes (cxOf (L2.CX P w) P w K mg base N_letters_of "letters_of" (defScope (top 13)) (He.ga K "letters_of") cdv A outer s H E) (fun cls d _ H => E cls d H) := takes_of rfl rfl rfl rfl
  refine ⟨_, ?_, (sim_seq (sim_if (sim_test (sim_op o2_eq (sim_op o2_ix sim_var (sim_c (v := .int (0)) fun _ => rp_int) (by decide)) (sim_c (v := .str "app") (rp_lit (l := [97, 112, 112]) (by decide +kernel))) (by decide))) (sim_ret (sim_c (v := .str "fa") (rp_lit (l := [102, 97]) (by decide +kernel)))) sim_next)
    (sim_ret (sim_ifE (sim_test (sim_op o2_eq (sim_op o2_ix sim_var (sim_c (v := .int (0)) fun _ => rp_int) (by decide)) (sim_c (v := .str "lam") (rp_lit (l := [108, 97, 109]) (by decide +kernel))) (by decide))) (sim_c (v := .str "b") (rp_lit (l := [98]) (by decide +kernel))) (sim_c (v := .str "") (rp_lit (l := []) (by decide +kernel))))))⟩
  exact (pss_cons (ps_if (pt_cmpR (op_eqP (Room.eq hr)) (pe_ix ix_seq (pv 0) pe_int fun _ _ => rfl) pe_str (nomark _)) (pss_one (ps_ret pe_str)) pss_nil)
    (pss_one (ps_ret (pe_ifExp (pt_cmpR (op_eqP (Room.eq hr)) (pe_ix ix_seq (pv 0) pe_int fun _ _ => rfl) pe_str (nomark _)) pe_str pe_str))))

theorem sc_walk_parts : FnScope N_walk_parts ["term"] (defScope (top 14)) := ⟨rfl, rfl, rfl, by decide +kernel, rfl, by decide +kernel, by decide +kernel⟩
theorem ok_walk_parts (C : Cxt K mg) (O_parts_of : Okf P w K mg base 2 "parts_of" (top 11) ["part"] (spV K s_parts_of)) (O_letters_of : Okf P w K mg base 2 "letters_of" (top 13) ["part"] (spV K s_letters_of))   : Okf P w K mg base 3 "walk_parts" (top 14) ["term"] (spV K s_walk_parts) := by
  have m_zip := C.free 7 (x := "zip")
  obtain ⟨fd_parts_of, D_parts_of, B_parts_of, F_parts_of⟩ := O_parts_of.ex
  have k_parts_of := D_parts_of.kp
  have g_parts_of := O_parts_of.gm
  obtain ⟨fd_letters_of, D_letters_of, B_letters_of, F_letters_of⟩ := O_letters_of.ex
  have k_letters_of := D_letters_of.kp
  have g_letters_of := O_letters_of.gm
  obtain ⟨fd_walk_parts, D_walk_parts⟩ := C.fn 5 (x := "walk_parts") (st := (top 14))
  have B_walk_parts : Binds K fd_walk_parts ["term"] [] := D_walk_parts.bindsN fun _ _ _ _ _ _ us hl => match us, hl with | [_], _ => rfl
  refine ⟨?_, C.glo 23⟩
  refine ⟨fd_walk_parts, D_walk_parts, B_walk_parts, fnV (k := 2) (sp := s_walk_parts) (p := b_walk_parts) D_walk_parts sc_walk_parts (by decide) len_walk_parts (fun cdv A outer s H E hr => ?_) pure_walk_parts⟩
  have tk : Takes (cxOf (L2.CX P w) P w K mg base N_walk_parts "walk_parts" (defScope (top 14)) (He.ga K "walk_parts") cdv A outer s H E) (fun cls d _ H => E cls d H) := takes_of rfl rfl rfl rfl
  refine ⟨_, ?_, (sim_seq (sim_par (sim_lcons (sim_lst sim_lnil (by decide)) (sim_lcons (sim_lst (sim_lcons (sim_tup (sim_acons (sim_c (v := .str "") (rp_lit (l := []) (by decide +kernel))) (sim_acons sim_var sim_anil)) (by decide)) sim_lnil) (by decide)) sim_lnil)) (by decide) (by decide))
    (sim_seq (sim_while (sim_test (sim_op o2_ne sim_bor (sim_lst sim_lnil (by decide)) (by decide))) (sim_seq (sim_asg (sim_give sim_pop) (simg_tup (simgs_cons (simg_name (by decide)) (simgs_cons (simg_name (by decide)) simgs_nil))))
    (sim_seq (sim_drop (sim_append (sim_tup (sim_acons sim_var (sim_acons sim_var sim_anil)) (by decide))))
    (sim_seq (sim_asg (sim_give (sim_lc (sim_izip (sim_callV (sim_acons sim_var sim_anil)) (sim_give (sim_callV (sim_acons sim_var sim_anil)))) (simg_tup (simgs_cons (simg_name (by decide)) (simgs_cons (simg_name (by decide)) simgs_nil))) (tgw_tup (tgw_cons (tgw_name (by decide)) (tgw_cons (tgw_name (by decide)) tgw_nil mono_name mono_nil) mono_name (mono_cons mono_name mono_nil))) (mono_tup (mono_cons mono_name (mono_cons mono_name mono_nil))) sim_yes (sim_tup (sim_acons (sim_give (sim_op o2_add sim_var sim_var (by decide))) (sim_acons sim_var sim_anil)) (by decide)))) (simg_name (by decide)))
    (sim_drop (sim_extend (sim_rev sim_var)))))))
    (sim_ret sim_mov)))⟩
  exact (pss_cons (ps_par rfl sc_walk_parts.nd rfl rfl (by decide) rfl rfl (pa_cons (pe_lst pa_nil) (pa_cons (pe_lst (pa_cons (pe_tup (pa_cons pe_str (pa_cons (pv 0) pa_nil))) pa_nil)) pa_nil)) rfl)
    (pss_cons (ps_while (passes_of rfl) (pt_cmpR (op_neP (Room.eq hr)) (pv 2) (pe_lst pa_nil) (nomark _)) (pss_cons (ps_asg (pe_bm0 PySem.F.plainAttrs_list PySem.F.slot_list_pop PySem.F.type_list_pop mt_pop (pv 2)) (pg_tup rfl (pgs_cons (pg_name (i := 4) sc_walk_parts.nd rfl (by first | exact Or.inl rfl | exact Or.inr rfl)) (pgs_cons (pg_name (i := 5) sc_walk_parts.nd rfl (by first | exact Or.inl rfl | exact Or.inr rfl)) pgs_nil))))
    (pss_cons (ps_expr (pe_bm PySem.F.plainAttrs_list PySem.F.slot_list_append PySem.F.type_list_append mt_append (pv 1) (pa_cons (pe_tup (pa_cons (pv 4) (pa_cons (pv 5) pa_nil))) pa_nil)))
    (pss_cons (ps_setLc (own := [("letter", 6), ("item", 7)]) (i := 3) rfl sc_walk_parts.nd rfl rfl (sw_true rfl rfl rfl (by decide +kernel)) (pi_zipZ rfl m_zip (pa_cons (pe_callS F_letters_of (hr.mono (by omega)) rfl g_letters_of k_letters_of B_letters_of (fun σ => passAt tk σ) (pa_cons (pv 5) pa_nil)) (pa_cons (pe_callS F_parts_of (hr.mono (by omega)) rfl g_parts_of k_parts_of B_parts_of (fun σ => passAt tk σ) (pa_cons (pv 5) pa_nil)) pa_nil))) (blkOk_by (N := N_walk_parts) (sc := defScope (top 14)) (by decide +kernel)) (fun _ _ _ _ _ => (pg_tup rfl (pgs_cons (pg_name (i := 6) sc_walk_parts.nd rfl (by first | exact Or.inl rfl | exact Or.inr rfl)) (pgs_cons (pg_name (i := 7) sc_walk_parts.nd rfl (by first | exact Or.inl rfl | exact Or.inr rfl)) pgs_nil)))) (fun _ _ _ _ _ => pts_nil) (fun _ _ _ _ _ => (pe_tup (pa_cons (pe_op op_addAll (pv 4) (pv 6)) (pa_cons (pv 7) pa_nil)))))
    (pss_one (ps_expr (pe_bm PySem.F.plainAttrs_list PySem.F.slot_list_extend PySem.F.type_list_extend mt_extAll (pv 2) (pa_cons (pe_rev (pv 3)) pa_nil))))))))
    (pss_one (ps_ret (pv 1)))))

theorem sc_part_at : FnScope N_part_at ["term", "place"] (defScope (top 15)) := ⟨rfl, rfl, rfl, by decide +kernel, rfl, by decide +kernel, by decide +kernel⟩
theorem ok_part_at (C : Cxt K mg) (O_parts_of : Okf P w K mg base 2 "parts_of" (top 11) ["part"] (spV K s_parts_of)) (O_letters_of : Okf P w K mg base 2 "letters_of" (top 13) ["part"] (spV K s_letters_of))   : Okf P w K mg base 3 "part_at" (top 15) ["term", "place"] (spV K s_part_at) := by
  obtain ⟨fd_parts_of, D_parts_of, B_parts_of, F_parts_of⟩ := O_parts_of.ex
  have k_parts_of := D_parts_of.kp
  have g_parts_of := O_parts_of.gm
  obtain ⟨fd_letters_of, D_letters_of, B_letters_of, F_letters_of⟩ := O_letters_of.ex
  have k_letters_of := D_letters_of.kp
  have g_letters_of := O_letters_of.gm
  obtain ⟨fd_part_at, D_part_at⟩ := C.fn 6 (x := "part_at") (st := (top 15))
  have B_part_at : Binds K fd_part_at ["term", "place"] [] := D_part_at.bindsN fun _ _ _ _ _ _ us hl => match us, hl with | [_, _], _ => rfl
  refine ⟨?_, C.glo 24⟩
  refine ⟨fd_part_at, D_part_at, B_part_at, fnV (k := 2) (sp := s_part_at) (p := b_part_at) D_part_at sc_part_at (by decide) len_part_at (fun cdv A outer s H E hr => ?_) pure_part_at⟩
  have tk : Takes (cxOf (L2.CX P w) P w K mg base N_part_at "part_at" (defScope (top 15)) (He.ga K "part_at") cdv A outer s H E) (fun cls d _ H => E cls d H) := takes_of rfl rfl rfl rfl
  refine ⟨_, ?_, (sim_seq (sim_asg sim_var (simg_name (by decide)))
    (sim_seq (sim_for (sim_iany sim_var) (simg_name (by decide)) (sim_seq (sim_asg (sim_callV (sim_acons sim_var sim_anil)) (simg_name (by decide)))
    (sim_seq (sim_if (sim_test (sim_op o2_nin sim_var sim_var (by decide))) (sim_ret (sim_c (v := .non) fun _ => rp_non)) sim_next)
    (sim_asg (sim_op o2_ix (sim_give (sim_callV (sim_acons sim_var sim_anil))) (sim_sindex sim_var sim_var) (by decide)) (simg_name (by decide))))))
    (sim_ret sim_var)))⟩
  exact (pss_cons (ps_set (i := 2) sc_part_at.nd rfl (by first | exact Or.inl rfl | exact Or.inr rfl) (pv 0))
    (pss_cons (ps_for (passes_of rfl) rfl (pi_any (pv 1)) (pg_name (i := 3) sc_part_at.nd rfl (by first | exact Or.inl rfl | exact Or.inr rfl)) (pss_cons (ps_set (i := 4) sc_part_at.nd rfl (by first | exact Or.inl rfl | exact Or.inr rfl) (pe_callS F_letters_of (hr.mono (by omega)) rfl g_letters_of k_letters_of B_letters_of (fun σ => passAt tk σ) (pa_cons (pv 2) pa_nil)))
    (pss_cons (ps_if (pt_cmpR (op_ninAll (Room.eq hr)) (pv 3) (pv 4) rfl) (pss_one (ps_ret pe_non)) pss_nil)
    (pss_one (ps_set (i := 2) sc_part_at.nd rfl (by first | exact Or.inl rfl | exact Or.inr rfl) (pe_ix ix_seq (pe_callS F_parts_of (hr.mono (by omega)) rfl g_parts_of k_parts_of B_parts_of (fun σ => passAt tk σ) (pa_cons (pv 2) pa_nil)) (pe_bm PySem.F.plainAttrs_str PySem.F.slot_str_index PySem.F.type_str_index mt_sindex (pv 4) (pa_cons (pv 3) pa_nil)) fun _ _ => rfl))))))
    (pss_one (ps_ret (pv 2)))))

theorem sc_replaced : FnScope N_replaced ["term", "place", "other"] (defScope (top 16)) := ⟨rfl, rfl, rfl, by decide +kernel, rfl, by decide +kernel, by decide +kernel⟩
theorem ok_replaced (C : Cxt K mg) (O_parts_of : Okf P w K mg base 2 "parts_of" (top 11) ["part"] (spV K s_parts_of)) (O_head_of : Okf P w K mg base 2 "head_of" (top 12) ["part"] (spV K s_head_of)) (O_letters_of : Okf P w K mg base 2 "letters_of" (top 13) ["part"] (spV K s_letters_of))   : Okf P w K mg base 3 "replaced" (top 16) ["term", "place", "other"] (spV K s_replaced) := by
  obtain ⟨fd_parts_of, D_parts_of, B_parts_of, F_parts_of⟩ := O_parts_of.ex
  have k_parts_of := D_parts_of.kp
  have g_parts_of := O_parts_of.gm
  obtain ⟨fd_head_of, D_head_of, B_head_of, F_head_of⟩ := O_head_of.ex
  have k_head_of := D_head_of.kp
  have g_head_of := O_head_of.gm
  obtain ⟨fd_letters_of, D_letters_of, B_letters_of, F_letters_of⟩ := O_letters_of.ex
  have k_letters_of := D_letters_of.kp
  have g_letters_of := O_letters_of.gm
  obtain ⟨fd_replaced, D_replaced⟩ := C.fn 7 (x := "replaced") (st := (top 16))
  have B_replaced : Binds K fd_replaced ["term", "place", "other"] [] := D_replaced.bindsN fun _ _ _ _ _ _ us hl => match us, hl with | [_, _, _], _ => rfl
  refine ⟨?_, C.glo 25⟩
  refine ⟨fd_replaced, D_replaced, B_replaced, fnV (k := 2) (sp := s_replaced) (p := b_replaced) D_replaced sc_replaced (by decide) len_replaced (fun cdv A outer s H E hr => ?_) pure_replaced⟩
  have tk : Takes (cxOf (L2.CX P w) P w K mg base N_replaced "replaced" (defScope (top 16)) (He.ga K "replaced") cdv A outer s H E) (fun cls d _ H => E cls d H) := takes_of rfl rfl rfl rfl
  refine ⟨_, ?_, (sim_seq (sim_par (sim_lcons (sim_lst sim_lnil (by decide)) (sim_lcons sim_var sim_lnil)) (by decide) (by decide))
    (sim_seq (sim_for (sim_iany sim_var) (simg_name (by decide)) (sim_seq (sim_asg (sim_sindex (sim_callV (sim_acons sim_var sim_anil)) sim_var) (simg_name (by decide)))
    (sim_seq (sim_drop (sim_append (sim_tup (sim_acons sim_var (sim_acons sim_var sim_anil)) (by decide))))
    (sim_asg (sim_op o2_ix (sim_give (sim_callV (sim_acons sim_var sim_anil))) sim_var (by decide)) (simg_name (by decide))))))
    (sim_seq (sim_asg sim_var (simg_name (by decide)))
    (sim_seq (sim_for (sim_iany (sim_give (sim_rev sim_bor))) (simg_tup (simgs_cons (simg_name (by decide)) (simgs_cons (simg_name (by decide)) simgs_nil))) (sim_seq (sim_asg (sim_give (sim_callV (sim_acons sim_var sim_anil))) (simg_name (by decide)))
    (sim_asg (sim_give (sim_op o2_add (sim_op o2_add (sim_op o2_add (sim_callV (sim_acons sim_var sim_anil)) (sim_sl os_sl sim_var sim_noPart (sim_part sim_var) (by decide)) (by decide)) (sim_tup (sim_acons sim_var sim_anil) (by decide)) (by decide)) (sim_sl os_sl sim_var (sim_part (sim_op o2_add sim_var (sim_c (v := .int (1)) fun _ => rp_int) (by decide))) sim_noPart (by decide)) (by decide))) (simg_name (by decide)))))
    (sim_ret sim_var)))))⟩
  exact (pss_cons (ps_par rfl sc_replaced.nd rfl rfl (by decide) rfl rfl (pa_cons (pe_lst pa_nil) (pa_cons (pv 0) pa_nil)) rfl)
    (pss_cons (ps_for (passes_of rfl) rfl (pi_any (pv 1)) (pg_name (i := 5) sc_replaced.nd rfl (by first | exact Or.inl rfl | exact Or.inr rfl)) (pss_cons (ps_set (i := 6) sc_replaced.nd rfl (by first | exact Or.inl rfl | exact Or.inr rfl) (pe_bm PySem.F.plainAttrs_str PySem.F.slot_str_index PySem.F.type_str_index mt_sindex (pe_callS F_letters_of (hr.mono (by omega)) rfl g_letters_of k_letters_of B_letters_of (fun σ => passAt tk σ) (pa_cons (pv 4) pa_nil)) (pa_cons (pv 5) pa_nil)))
    (pss_cons (ps_expr (pe_bm PySem.F.plainAttrs_list PySem.F.slot_list_append PySem.F.type_list_append mt_append (pv 3) (pa_cons (pe_tup (pa_cons (pv 4) (pa_cons (pv 6) pa_nil))) pa_nil)))
    (pss_one (ps_set (i := 4) sc_replaced.nd rfl (by first | exact Or.inl rfl | exact Or.inr rfl) (pe_ix ix_seq (pe_callS F_parts_of (hr.mono (by omega)) rfl g_parts_of k_parts_of B_parts_of (fun σ => passAt tk σ) (pa_cons (pv 4) pa_nil)) (pv 6) fun _ _ => rfl))))))
    (pss_cons (ps_set (i := 4) sc_replaced.nd rfl (by first | exact Or.inl rfl | exact Or.inr rfl) (pv 2))
    (pss_cons (ps_for (passes_of rfl) rfl (pi_any (pe_rev (pv 3))) (pg_tup rfl (pgs_cons (pg_name (i := 7) sc_replaced.nd rfl (by first | exact Or.inl rfl | exact Or.inr rfl)) (pgs_cons (pg_name (i := 6) sc_replaced.nd rfl (by first | exact Or.inl rfl | exact Or.inr rfl)) pgs_nil))) (pss_cons (ps_set (i := 8) sc_replaced.nd rfl (by first | exact Or.inl rfl | exact Or.inr rfl) (pe_callS F_parts_of (hr.mono (by omega)) rfl g_parts_of k_parts_of B_parts_of (fun σ => passAt tk σ) (pa_cons (pv 7) pa_nil)))
    (pss_one (ps_set (i := 4) sc_replaced.nd rfl (by first | exact Or.inl rfl | exact Or.inr rfl) (pe_op op_addAll (pe_op op_addAll (pe_op op_addAll (pe_callS F_head_of (hr.mono (by omega)) rfl g_head_of k_head_of B_head_of (fun σ => passAt tk σ) (pa_cons (pv 7) pa_nil)) (pe_slice sl_all (pv 8) po_none (po_some (pv 6)))) (pe_tup (pa_cons (pv 4) pa_nil))) (pe_slice sl_all (pv 8) (po_some (pe_op op_addAll (pv 6) pe_int)) po_none))))))
    (pss_one (ps_ret (pv 4)))))))

theorem sc_has_form : FnScope N_has_form ["value"] (defScope (top 19)) := ⟨rfl, rfl, rfl, by decide +kernel, rfl, by decide +kernel, by decide +kernel⟩
theorem ok_has_form (C : Cxt K mg) (O_is_name : Okf P w K mg base 3 "is_name" (top 8) ["value"] (spV K s_is_name))   : Okf P w K mg base 4 "has_form" (top 19) ["value"] (spV K s_has_form) := by
  have m_isinstance := C.free 0 (x := "isinstance")
  have m_tuple := C.free 8 (x := "tuple")
  have m_len := C.free 2 (x := "len")
  have m_str := C.free 1 (x := "str")
  obtain ⟨fd_is_name, D_is_name, B_is_name, F_is_name⟩ := O_is_name.ex
  have k_is_name := D_is_name.kp
  have g_is_name := O_is_name.gm
  obtain ⟨fd_has_form, D_has_form⟩ := C.fn 8 (x := "has_form") (st := (top 19))
  have B_has_form : Binds K fd_has_form ["value"] [] := D_has_form.bindsN fun _ _ _ _ _ _ us hl => match us, hl with | [_], _ => rfl
  refine ⟨?_, C.glo 26⟩
  refine ⟨fd_has_form, D_has_form, B_has_form, fnV (k := 3) (sp := s_has_form) (p := b_has_form) D_has_form sc_has_form (by decide) len_has_form (fun cdv A outer s H E hr => ?_) pure_has_form⟩
  have tk : Takes (cxOf (L2.CX P w) P w K mg base N_has_form "has_form" (defScope (top 19)) (He.ga K "has_form") cdv A outer s H E) (fun cls d _ H => E cls d H) := takes_of rfl rfl rfl rfl
  refine ⟨_, ?_, (sim_seq (sim_if (sim_or (sim_notT (sim_B (sim_isi okTy_tuple sim_var))) (sim_or (sim_notT (sim_test (sim_chain o2_le o2_le (sim_c (v := .int (2)) fun _ => rp_int) (sim_c1 oc_len sim_var) (sim_c (v := .int (3)) fun _ => rp_int) (by decide)))) (sim_notT (sim_B (sim_isi okTy_str (sim_op o2_ix sim_var (sim_c (v := .int (0)) fun _ => rp_int) (by decide))))))) (sim_ret (sim_c (v := .bl false) fun _ => rp_bl)) sim_next)
    (sim_seq (sim_if (sim_test (sim_op o2_eq (sim_op o2_ix sim_var (sim_c (v := .int (0)) fun _ => rp_int) (by decide)) (sim_c (v := .str "app") (rp_lit (l := [97, 112, 112]) (by decide +kernel))) (by decide))) (sim_ret (sim_op o2_eq (sim_c1 oc_len sim_var) (sim_c (v := .int (3)) fun _ => rp_int) (by decide))) sim_next)
    (sim_ret (sim_andV (sim_op o2_eq (sim_c1 oc_len sim_var) (sim_dget2 (sim_dispC (ps := [(Sum.inr "var", .int (2)), (Sum.inr "lam", .int (3))]) (kvs := [(Sum.inr ⟨([118, 97, 114] : List Nat).toArray⟩, .int (2)), (Sum.inr ⟨([108, 97, 109] : List Nat).toArray⟩, .int (3))]) (fun _ => (by simp only [DL.RpK]; exact ⟨_, _, rfl, rp_int, ⟨_, _, rfl, rp_int, rfl⟩⟩)) (by decide +kernel) (by decide)) (sim_op o2_ix sim_var (sim_c (v := .int (0)) fun _ => rp_int) (by decide)) (sim_c (v := .int (0)) fun _ => rp_int) (by decide)) (by decide)) (sim_callV (sim_acons (sim_op o2_ix sim_var (sim_c (v := .int (1)) fun _ => rp_int) (by decide)) sim_anil))))))⟩
  exact (pss_cons (ps_if (PW.pt (pw_or (pt_not (pt_val (pe_callB call_isi rfl m_isinstance (by decide +kernel) (pa_cons (pv 0) (pa_cons (pe_bltn (v := .ty "tuple") (u := .type "tuple") rfl m_tuple (by decide +kernel) rfl) pa_nil))))) (pw_or (pt_not (pt_chain (op_le) (op_le) pe_int (pe_callB call_lenAll rfl m_len boot_len (pa_cons (pv 0) pa_nil)) pe_int)) (pw_or1 (pt_not (pt_val (pe_callB call_isi rfl m_isinstance (by decide +kernel) (pa_cons (pe_ix ix_seq (pv 0) pe_int fun _ _ => rfl) (pa_cons (pe_bltn (v := .ty "str") (u := .type "str") rfl m_str (by decide +kernel) rfl) pa_nil))))))))) (pss_one (ps_ret pe_bl)) pss_nil)
    (pss_cons (ps_if (pt_cmpR (op_eqP (Room.eq hr)) (pe_ix ix_seq (pv 0) pe_int fun _ _ => rfl) pe_str (nomark _)) (pss_one (ps_ret (pe_cmpR (op_eqP (Room.eq hr)) (pe_callB call_lenAll rfl m_len boot_len (pa_cons (pv 0) pa_nil)) pe_int (nomark _)))) pss_nil)
    (pss_one (ps_ret (pe_and (pe_cmpR (op_eqP (Room.eq hr)) (pe_callB call_lenAll rfl m_len boot_len (pa_cons (pv 0) pa_nil)) (pe_dget2 (Room.u1 hr) (pe_disp (pps_cons pe_str pe_int (pps_cons pe_str pe_int pps_nil)) rfl rfl (by decide) (by decide)) (pe_ix ix_seq (pv 0) pe_int fun _ _ => rfl) pe_int ⟨rfl, rfl, rfl, rfl⟩) (nomark _)) (pe_one (pe_callS F_is_name (hr.mono (by omega)) rfl g_is_name k_is_name B_is_name (fun σ => passAt tk σ) (pa_cons (pe_ix ix_seq (pv 0) pe_int fun _ _ => rfl) pa_nil))))))))

theorem sc_fits_term : FnScope N_fits_term ["value"] (defScope (top 20)) := ⟨rfl, rfl, rfl, by decide +kernel, rfl, by decide +kernel, by decide +kernel⟩
theorem ok_fits_term (C : Cxt K mg) (O_parts_of : Okf P w K mg base 2 "parts_of" (top 11) ["part"] (spV K s_parts_of)) (O_has_form : Okf P w K mg base 4 "has_form" (top 19) ["value"] (spV K s_has_form))   : Okf P w K mg base 5 "fits_term" (top 20) ["value"] (spV K s_fits_term) := by
  obtain ⟨_, m_MOST_SIZE⟩ := C.int 9 (x := "MOST_SIZE") (i := 2000)
  obtain ⟨fd_parts_of, D_parts_of, B_parts_of, F_parts_of⟩ := O_parts_of.ex
  have k_parts_of := D_parts_of.kp
  have g_parts_of := O_parts_of.gm
  obtain ⟨fd_has_form, D_has_form, B_has_form, F_has_form⟩ := O_has_form.ex
  have k_has_form := D_has_form.kp
  have g_has_form := O_has_form.gm
  obtain ⟨fd_fits_term, D_fits_term⟩ := C.fn 9 (x := "fits_term") (st := (top 20))
  have B_fits_term : Binds K fd_fits_term ["value"] [] := D_fits_term.bindsN fun _ _ _ _ _ _ us hl => match us, hl with | [_], _ => rfl
  refine ⟨?_, C.glo 27⟩
  refine ⟨fd_fits_term, D_fits_term, B_fits_term, fnV (k := 4) (sp := s_fits_term) (p := b_fits_term) D_fits_term sc_fits_term (by decide) len_fits_term (fun cdv A outer s H E hr => ?_) pure_fits_term⟩
  have tk : Takes (cxOf (L2.CX P w) P w K mg base N_fits_term "fits_term" (defScope (top 20)) (He.ga K "fits_term") cdv A outer s H E) (fun cls d _ H => E cls d H) := takes_of rfl rfl rfl rfl
  refine ⟨_, ?_, (sim_seq (sim_par (sim_lcons (sim_lst (sim_lcons sim_var sim_lnil) (by decide)) (sim_lcons (sim_c (v := .int (0)) fun _ => rp_int) sim_lnil)) (by decide) (by decide))
    (sim_seq (sim_while (sim_test (sim_op o2_ne sim_bor (sim_lst sim_lnil (by decide)) (by decide))) (sim_seq (sim_asg (sim_give sim_pop) (simg_name (by decide)))
    (sim_seq (sim_aug o2_iadd (sim_c (v := .int (1)) fun _ => rp_int) (by decide))
    (sim_seq (sim_if (sim_or (sim_test (sim_op o2_gt sim_var (sim_c (v := .int (2000)) fun _ => rp_int) (by decide))) (sim_notT (sim_B (sim_callV (sim_acons sim_var sim_anil))))) (sim_ret (sim_c (v := .bl false) fun _ => rp_bl)) sim_next)
    (sim_drop (sim_extend (sim_callV (sim_acons sim_var sim_anil))))))))
    (sim_ret (sim_c (v := .bl true) fun _ => rp_bl))))⟩
  exact (pss_cons (ps_par rfl sc_fits_term.nd rfl rfl (by decide) rfl rfl (pa_cons (pe_lst (pa_cons (pv 0) pa_nil)) (pa_cons pe_int pa_nil)) rfl)
    (pss_cons (ps_while (passes_of rfl) (pt_cmpR (op_neP (Room.eq hr)) (pv 1) (pe_lst pa_nil) (nomark _)) (pss_cons (ps_set (i := 3) sc_fits_term.nd rfl (by first | exact Or.inl rfl | exact Or.inr rfl) (pe_bm0 PySem.F.plainAttrs_list PySem.F.slot_list_pop PySem.F.type_list_pop mt_pop (pv 1)))
    (pss_cons (ps_aug (i := 2) sc_fits_term.nd rfl (by first | exact Or.inl rfl | exact Or.inr rfl) pe_int ip_add)
    (pss_cons (ps_if (PW.pt (pw_or (pt_cmpR (op_gt) (pv 2) (pe_glob (v := .int (2000)) rfl m_MOST_SIZE ⟨_, rfl⟩) (nomark _)) (pw_or1 (pt_not (pt_val (pe_callS F_has_form (hr.mono (by omega)) rfl g_has_form k_has_form B_has_form (fun σ => passAt tk σ) (pa_cons (pv 3) pa_nil))))))) (pss_one (ps_ret pe_bl)) pss_nil)
    (pss_one (ps_expr (pe_bm PySem.F.plainAttrs_list PySem.F.slot_list_extend PySem.F.type_list_extend mt_extAll (pv 1) (pa_cons (pe_callS F_parts_of (hr.mono (by omega)) rfl g_parts_of k_parts_of B_parts_of (fun σ => passAt tk σ) (pa_cons (pv 3) pa_nil)) pa_nil))))))))
    (pss_one (ps_ret pe_bl))))

theorem sc_check_term : FnScope N_check_term ["term"] (defScope (top 21)) := ⟨rfl, rfl, rfl, by decide +kernel, rfl, by decide +kernel, by decide +kernel⟩
theorem ok_check_term (C : Cxt K mg) (O_fits_term : Okf P w K mg base 5 "fits_term" (top 20) ["value"] (spV K s_fits_term)) (X_InvalidTerm : Okx P w K mg base "InvalidTerm" "given")  : Okf P w K mg base 6 "check_term" (top 21) ["term"] (spV K s_check_term) := by
  obtain ⟨fd_fits_term, D_fits_term, B_fits_term, F_fits_term⟩ := O_fits_term.ex
  have k_fits_term := D_fits_term.kp
  have g_fits_term := O_fits_term.gm
  obtain ⟨T_InvalidTerm, fI_InvalidTerm, bI_InvalidTerm, I_InvalidTerm, g_InvalidTerm⟩ := X_InvalidTerm
  obtain ⟨fd_check_term, D_check_term⟩ := C.fn 10 (x := "check_term") (st := (top 21))
  have B_check_term : Binds K fd_check_term ["term"] [] := D_check_term.bindsN fun _ _ _ _ _ _ us hl => match us, hl with | [_], _ => rfl
  refine ⟨?_, C.glo 28⟩
  refine ⟨fd_check_term, D_check_term, B_check_term, fnV (k := 5) (sp := s_check_term) (p := b_check_term) D_check_term sc_check_term (by decide) len_check_term (fun cdv A outer s H E hr => ?_) pure_check_term⟩
  have tk : Takes (cxOf (L2.CX P w) P w K mg base N_check_term "check_term" (defScope (top 21)) (He.ga K "check_term") cdv A outer s H E) (fun cls d _ H => E cls d H) := takes_of rfl rfl rfl rfl
  refine ⟨_, ?_, (sim_if (sim_notT (sim_B (sim_callV (sim_acons sim_var sim_anil)))) (sim_raise1 sim_var) sim_next)⟩
  exact (pss_one (ps_if (pt_not (pt_val (pe_callS F_fits_term (hr.mono (by omega)) rfl g_fits_term k_fits_term B_fits_term (fun σ => passAt tk σ) (pa_cons (pv 0) pa_nil)))) (pss_one (ps_raise1 rfl tk T_InvalidTerm I_InvalidTerm (hr.mono (by omega)) bI_InvalidTerm rfl g_InvalidTerm (pv 0))) pss_nil))

theorem sc_check_place : FnScope N_check_place ["term", "place"] (defScope (top 22)) := ⟨rfl, rfl, rfl, by decide +kernel, rfl, by decide +kernel, by decide +kernel⟩
theorem ok_check_place (C : Cxt K mg) (O_part_at : Okf P w K mg base 3 "part_at" (top 15) ["term", "place"] (spV K s_part_at)) (X_InvalidPlace : Okx P w K mg base "InvalidPlace" "given")  : Okf P w K mg base 4 "check_place" (top 22) ["term", "place"] (spV K s_check_place) := by
  have m_isinstance := C.free 0 (x := "isinstance")
  have m_str := C.free 1 (x := "str")
  obtain ⟨fd_part_at, D_part_at, B_part_at, F_part_at⟩ := O_part_at.ex
  have k_part_at := D_part_at.kp
  have g_part_at := O_part_at.gm
  obtain ⟨T_InvalidPlace, fI_InvalidPlace, bI_InvalidPlace, I_InvalidPlace, g_InvalidPlace⟩ := X_InvalidPlace
  obtain ⟨fd_check_place, D_check_place⟩ := C.fn 11 (x := "check_place") (st := (top 22))
  have B_check_place : Binds K fd_check_place ["term", "place"] [] := D_check_place.bindsN fun _ _ _ _ _ _ us hl => match us, hl with | [_, _], _ => rfl
  refine ⟨?_, C.glo 29⟩
  refine ⟨fd_check_place, D_check_place, B_check_place, fnV (k := 3) (sp := s_check_place) (p := b_check_place) D_check_place sc_check_place (by decide) len_check_place (fun cdv A outer s H E hr => ?_) pure_check_place⟩
  have tk : Takes (cxOf (L2.CX P w) P w K mg base N_check_place "check_place" (defScope (top 22)) (He.ga K "check_place") cdv A outer s H E) (fun cls d _ H => E cls d H) := takes_of rfl rfl rfl rfl
  refine ⟨_, ?_, (sim_seq (sim_asg (sim_give (sim_ifE (sim_B (sim_isi okTy_str sim_var)) (sim_callV (sim_acons sim_var (sim_acons sim_var sim_anil))) (sim_c (v := .non) fun _ => rp_non))) (simg_name (by decide)))
    (sim_seq (sim_if (sim_test (sim_op o2_is sim_var (sim_c (v := .non) fun _ => rp_non) (by decide))) (sim_raise1 sim_var) sim_next)
    (sim_ret sim_var)))⟩
  exact (pss_cons (ps_set (i := 2) sc_check_place.nd rfl (by first | exact Or.inl rfl | exact Or.inr rfl) (pe_ifExp (pt_val (pe_callB call_isi rfl m_isinstance (by decide +kernel) (pa_cons (pv 1) (pa_cons (pe_bltn (v := .ty "str") (u := .type "str") rfl m_str (by decide +kernel) rfl) pa_nil)))) (pe_callS F_part_at (hr.mono (by omega)) rfl g_part_at k_part_at B_part_at (fun σ => passAt tk σ) (pa_cons (pv 0) (pa_cons (pv 1) pa_nil))) pe_non))
    (pss_cons (ps_if (pt_cmpR (op_isAll) (pv 2) pe_non (nomark _)) (pss_one (ps_raise1 rfl tk T_InvalidPlace I_InvalidPlace (hr.mono (by omega)) bI_InvalidPlace rfl g_InvalidPlace (pv 1))) pss_nil)
    (pss_one (ps_ret (pv 2)))))

theorem sc_part : FnScope N_part ["term", "place"] (defScope (top 24)) := ⟨rfl, rfl, rfl, by decide +kernel, rfl, by decide +kernel, by decide +kernel⟩
theorem ok_part (C : Cxt K mg) (O_check_term : Okf P w K mg base 6 "check_term" (top 21) ["term"] (spV K s_check_term)) (O_check_place : Okf P w K mg base 4 "check_place" (top 22) ["term", "place"] (spV K s_check_place))   : Okf P w K mg base 7 "part" (top 24) ["term", "place"] (spV K s_part) := by
  obtain ⟨fd_check_term, D_check_term, B_check_term, F_check_term⟩ := O_check_term.ex
  have k_check_term := D_check_term.kp
  have g_check_term := O_check_term.gm
  obtain ⟨fd_check_place, D_check_place, B_check_place, F_check_place⟩ := O_check_place.ex
  have k_check_place := D_check_place.kp
  have g_check_place := O_check_place.gm
  obtain ⟨fd_part, D_part⟩ := C.fn 12 (x := "part") (st := (top 24))
  have B_part : Binds K fd_part ["term", "place"] [] := D_part.bindsN fun _ _ _ _ _ _ us hl => match us, hl with | [_, _], _ => rfl
  refine ⟨?_, C.glo 30⟩
  refine ⟨fd_part, D_part, B_part, fnV (k := 6) (sp := s_part) (p := b_part) D_part sc_part (by decide) len_part (fun cdv A outer s H E hr => ?_) pure_part⟩
  have tk : Takes (cxOf (L2.CX P w) P w K mg base N_part "part" (defScope (top 24)) (He.ga K "part") cdv A outer s H E) (fun cls d _ H => E cls d H) := takes_of rfl rfl rfl rfl
  refine ⟨_, ?_, (sim_seq (sim_drop (sim_callV (sim_acons sim_var sim_anil)))
    (sim_ret (sim_callV (sim_acons sim_var (sim_acons sim_var sim_anil)))))⟩
  exact (pss_cons (ps_expr (pe_callS F_check_term (hr.mono (by omega)) rfl g_check_term k_check_term B_check_term (fun σ => passAt tk σ) (pa_cons (pv 0) pa_nil)))
    (pss_one (ps_ret (pe_callS F_check_place (hr.mono (by omega)) rfl g_check_place k_check_place B_check_place (fun σ => passAt tk σ) (pa_cons (pv 0) (pa_cons (pv 1) pa_nil))))))

theorem sc_with_part : FnScope N_with_part ["term", "place", "other"] (defScope (top 25)) := ⟨rfl, rfl, rfl, by decide +kernel, rfl, by decide +kernel, by decide +kernel⟩
theorem ok_with_part (C : Cxt K mg) (O_replaced : Okf P w K mg base 3 "replaced" (top 16) ["term", "place", "other"] (spV K s_replaced)) (O_check_term : Okf P w K mg base 6 "check_term" (top 21) ["term"] (spV K s_check_term)) (O_check_place : Okf P w K mg base 4 "check_place" (top 22) ["term", "place"] (spV K s_check_place))   : Okf P w K mg base 7 "with_part" (top 25) ["term", "place", "other"] (spV K s_with_part) := by
  obtain ⟨fd_replaced, D_replaced, B_replaced, F_replaced⟩ := O_replaced.ex
  have k_replaced := D_replaced.kp
  have g_replaced := O_replaced.gm
  obtain ⟨fd_check_term, D_check_term, B_check_term, F_check_term⟩ := O_check_term.ex
  have k_check_term := D_check_term.kp
  have g_check_term := O_check_term.gm
  obtain ⟨fd_check_place, D_check_place, B_check_place, F_check_place⟩ := O_check_place.ex
  have k_check_place := D_check_place.kp
  have g_check_place := O_check_place.gm
  obtain ⟨fd_with_part, D_with_part⟩ := C.fn 13 (x := "with_part") (st := (top 25))
  have B_with_part : Binds K fd_with_part ["term", "place", "other"] [] := D_with_part.bindsN fun _ _ _ _ _ _ us hl => match us, hl with | [_, _, _], _ => rfl
  refine ⟨?_, C.glo 31⟩
  refine ⟨fd_with_part, D_with_part, B_with_part, fnV (k := 6) (sp := s_with_part) (p := b_with_part) D_with_part sc_with_part (by decide) len_with_part (fun cdv A outer s H E hr => ?_) pure_with_part⟩
  have tk : Takes (cxOf (L2.CX P w) P w K mg base N_with_part "with_part" (defScope (top 25)) (He.ga K "with_part") cdv A outer s H E) (fun cls d _ H => E cls d H) := takes_of rfl rfl rfl rfl
  refine ⟨_, ?_, (sim_seq (sim_drop (sim_callV (sim_acons sim_var sim_anil)))
    (sim_seq (sim_drop (sim_callV (sim_acons sim_var (sim_acons sim_var sim_anil))))
    (sim_seq (sim_drop (sim_callV (sim_acons sim_var sim_anil)))
    (sim_ret (sim_callV (sim_acons sim_var (sim_acons sim_var (sim_acons sim_var sim_anil))))))))⟩
  exact (pss_cons (ps_expr (pe_callS F_check_term (hr.mono (by omega)) rfl g_check_term k_check_term B_check_term (fun σ => passAt tk σ) (pa_cons (pv 0) pa_nil)))
    (pss_cons (ps_expr (pe_callS F_check_place (hr.mono (by omega)) rfl g_check_place k_check_place B_check_place (fun σ => passAt tk σ) (pa_cons (pv 0) (pa_cons (pv 1) pa_nil))))
    (pss_cons (ps_expr (pe_callS F_check_term (hr.mono (by omega)) rfl g_check_term k_check_term B_check_term (fun σ => passAt tk σ) (pa_cons (pv 2) pa_nil)))
    (pss_one (ps_ret (pe_callS F_replaced (hr.mono (by omega)) rfl g_replaced k_replaced B_replaced (fun σ => passAt tk σ) (pa_cons (pv 0) (pa_cons (pv 1) (pa_cons (pv 2) pa_nil)))))))))

theorem sc_places : FnScope N_places ["term"] (defScope (top 26)) := ⟨rfl, rfl, rfl, by decide +kernel, rfl, by decide +kernel, by decide +kernel⟩
theorem ok_places (C : Cxt K mg) (O_walk_parts : Okf P w K mg base 3 "walk_parts" (top 14) ["term"] (spV K s_walk_parts)) (O_check_term : Okf P w K mg base 6 "check_term" (top 21) ["term"] (spV K s_check_term))   : Okf P w K mg base 7 "places" (top 26) ["term"] (spV K s_places) := by
  obtain ⟨fd_walk_parts, D_walk_parts, B_walk_parts, F_walk_parts⟩ := O_walk_parts.ex
  have k_walk_parts := D_walk_parts.kp
  have g_walk_parts := O_walk_parts.gm
  obtain ⟨fd_check_term, D_check_term, B_check_term, F_check_term⟩ := O_check_term.ex
  have k_check_term := D_check_term.kp
  have g_check_term := O_check_term.gm
  obtain ⟨fd_places, D_places⟩ := C.fn 14 (x := "places") (st := (top 26))
  have B_places : Binds K fd_places ["term"] [] := D_places.bindsN fun _ _ _ _ _ _ us hl => match us, hl with | [_], _ => rfl
  refine ⟨?_, C.glo 32⟩
  refine ⟨fd_places, D_places, B_places, fnV (k := 6) (sp := s_places) (p := b_places) D_places sc_places (by decide) len_places (fun cdv A outer s H E hr => ?_) pure_places⟩
  have tk : Takes (cxOf (L2.CX P w) P w K mg base N_places "places" (defScope (top 26)) (He.ga K "places") cdv A outer s H E) (fun cls d _ H => E cls d H) := takes_of rfl rfl rfl rfl
  refine ⟨_, ?_, (sim_seq (sim_drop (sim_callV (sim_acons sim_var sim_anil)))
    (sim_ret (sim_lc (sim_iany (sim_give (sim_callV (sim_acons sim_var sim_anil)))) (simg_tup (simgs_cons (simg_name (by decide)) (simgs_cons (simg_name (by decide)) simgs_nil))) (tgw_tup (tgw_cons (tgw_name (by decide)) (tgw_cons (tgw_name (by decide)) tgw_nil mono_name mono_nil) mono_name (mono_cons mono_name mono_nil))) (mono_tup (mono_cons mono_name (mono_cons mono_name mono_nil))) sim_yes sim_var)))⟩
  exact (pss_cons (ps_expr (pe_callS F_check_term (hr.mono (by omega)) rfl g_check_term k_check_term B_check_term (fun σ => passAt tk σ) (pa_cons (pv 0) pa_nil)))
    (pss_one (ps_ret (pe_lc (own := [("place", 1), ("_", 2)]) rfl sc_places.nd (pi_any (pe_callS F_walk_parts (hr.mono (by omega)) rfl g_walk_parts k_walk_parts B_walk_parts (fun σ => passAt tk σ) (pa_cons (pv 0) pa_nil))) (blkOk_by (N := N_places) (sc := defScope (top 26)) (by decide +kernel)) (fun _ _ _ _ _ => (pg_tup rfl (pgs_cons (pg_name (i := 1) sc_places.nd rfl (by first | exact Or.inl rfl | exact Or.inr rfl)) (pgs_cons (pg_name (i := 2) sc_places.nd rfl (by first | exact Or.inl rfl | exact Or.inr rfl)) pgs_nil)))) (fun _ _ _ _ _ => pts_nil) (fun _ _ _ _ _ => (pv 1))))))

theorem sc__law_cell : FnScope N__law_cell ["script", "k"] (defScope (top 28)) := ⟨rfl, rfl, rfl, by decide +kernel, rfl, by decide +kernel, by decide +kernel⟩
theorem ok__law_cell (C : Cxt K mg)    : Okf P w K mg base 2 "_law_cell" (top 28) ["script", "k"] (spV K s__law_cell) := by
  have m_len := C.free 2 (x := "len")
  have m_sum := C.free 10 (x := "sum")
  have m_int := C.free 11 (x := "int")
  obtain ⟨fd__law_cell, D__law_cell⟩ := C.fn 15 (x := "_law_cell") (st := (top 28))
  have B__law_cell : Binds K fd__law_cell ["script", "k"] [] := D__law_cell.bindsN fun _ _ _ _ _ _ us hl => match us, hl with | [_, _], _ => rfl
  refine ⟨?_, C.glo 33⟩
  refine ⟨fd__law_cell, D__law_cell, B__law_cell, fnV (k := 1) (sp := s__law_cell) (p := b__law_cell) D__law_cell sc__law_cell (by decide) len__law_cell (fun cdv A outer s H E hr => ?_) pure__law_cell⟩
  have tk : Takes (cxOf (L2.CX P w) P w K mg base N__law_cell "_law_cell" (defScope (top 28)) (He.ga K "_law_cell") cdv A outer s H E) (fun cls d _ H => E cls d H) := takes_of rfl rfl rfl rfl
  refine ⟨_, ?_, (sim_ret (sim_ifE (sim_test (sim_op o2_lt sim_var (sim_c1 oc_len sim_var) (by decide))) (sim_op o2_ix sim_var sim_var (by decide)) (sim_op o2_add (sim_op o2_mul (sim_c (v := .int (6037)) fun _ => rp_int) sim_var (by decide)) (sim_op o2_mod (sim_c1 oc_int (sim_c1 oc_sum (sim_sl os_sl sim_var sim_noPart (sim_part (sim_c (v := .int (1)) fun _ => rp_int)) (by decide)))) (sim_c (v := .int (1000033)) fun _ => rp_int) (by decide)) (by decide))))⟩
  exact (pss_one (ps_ret (pe_ifExp (pt_cmpR (op_lt) (pv 1) (pe_callB call_lenAll rfl m_len boot_len (pa_cons (pv 0) pa_nil)) (nomark _)) (pe_ix ix_seq (pv 0) (pv 1) fun _ _ => rfl) (pe_op op_addAll (pe_op op_mulAll pe_int (pv 1)) (pe_op op_mod (pe_callTy call_int1 rfl m_int (by decide +kernel) (pa_cons (pe_callB (cr_sum rfl) rfl m_sum (by decide +kernel) (pa_cons (pe_slice sl_all (pv 0) po_none (po_some pe_int)) pa_nil)) pa_nil)) pe_int)))))

theorem sc__law_box : FnScope N__law_box ["great"] (defScope (top 29)) := ⟨rfl, rfl, rfl, by decide +kernel, rfl, by decide +kernel, by decide +kernel⟩
theorem ok__law_box (C : Cxt K mg)    : Okf P w K mg base 2 "_law_box" (top 29) ["great"] (spV K s__law_box) := by
  have m_abs := C.free 12 (x := "abs")
  have m_int := C.free 11 (x := "int")
  obtain ⟨fd__law_box, D__law_box⟩ := C.fn 16 (x := "_law_box") (st := (top 29))
  have B__law_box : Binds K fd__law_box ["great"] [] := D__law_box.bindsN fun _ _ _ _ _ _ us hl => match us, hl with | [_], _ => rfl
  refine ⟨?_, C.glo 34⟩
  refine ⟨fd__law_box, D__law_box, B__law_box, fnV (k := 1) (sp := s__law_box) (p := b__law_box) D__law_box sc__law_box (by decide) len__law_box (fun cdv A outer s H E hr => ?_) pure__law_box⟩
  have tk : Takes (cxOf (L2.CX P w) P w K mg base N__law_box "_law_box" (defScope (top 29)) (He.ga K "_law_box") cdv A outer s H E) (fun cls d _ H => E cls d H) := takes_of rfl rfl rfl rfl
  refine ⟨_, ?_, (sim_ret (sim_lst (sim_lcons (sim_c1 oc_abs sim_var) (sim_lcons (sim_op o2_ge (sim_c1 oc_abs sim_var) (sim_op o2_pow (sim_c (v := .int (10)) fun _ => rp_int) (sim_c (v := .int (18)) fun _ => rp_int) (by decide)) (by decide)) (sim_lcons (sim_op o2_mod (sim_c1 oc_int (sim_c1 oc_abs sim_var)) (sim_c (v := .int (2147483629)) fun _ => rp_int) (by decide)) (sim_lcons (sim_c (v := .int (0)) fun _ => rp_int) sim_lnil)))) (by decide)))⟩
  exact (pss_one (ps_ret (pe_lst (pa_cons (pe_callB call_abs rfl m_abs (by decide +kernel) (pa_cons (pv 0) pa_nil)) (pa_cons (pe_cmpR (op_ge) (pe_callB call_abs rfl m_abs (by decide +kernel) (pa_cons (pv 0) pa_nil)) (pe_op op_pow pe_int pe_int) (nomark _)) (pa_cons (pe_op op_mod (pe_callTy call_int1 rfl m_int (by decide +kernel) (pa_cons (pe_callB call_abs rfl m_abs (by decide +kernel) (pa_cons (pv 0) pa_nil)) pa_nil)) pe_int) (pa_cons pe_int pa_nil)))))))

theorem sc__law_take : FnScope N__law_take ["box", "many"] (defScope (top 30)) := ⟨rfl, rfl, rfl, by decide +kernel, rfl, by decide +kernel, by decide +kernel⟩
theorem ok__law_take (C : Cxt K mg)    : Okf P w K mg base 2 "_law_take" (top 30) ["box", "many"] (spM K s__law_take) := by
  have m_int := C.free 11 (x := "int")
  obtain ⟨fd__law_take, D__law_take⟩ := C.fn 17 (x := "_law_take") (st := (top 30))
  have B__law_take : Binds K fd__law_take ["box", "many"] [] := D__law_take.bindsN fun _ _ _ _ _ _ us hl => match us, hl with | [_, _], _ => rfl
  refine ⟨?_, C.glo 35⟩
  refine ⟨fd__law_take, D__law_take, B__law_take, fnM (k := 1) (sp := s__law_take) (p := b__law_take) D__law_take sc__law_take (by decide) len__law_take (fun cdv A outer s H E hr => ?_) pure__law_take⟩
  have tk : Takes (cxOf (L2.CX P w) P w K mg base N__law_take "_law_take" (defScope (top 30)) (He.ga K "_law_take") cdv A outer s H E) (fun cls d _ H => E cls d H) := takes_of rfl rfl rfl rfl
  refine ⟨_, ?_, (sim_seq (sim_if (sim_and (sim_B (sim_op o2_ix sim_bor (sim_c (v := .int (1)) fun _ => rp_int) (by decide))) (sim_test (sim_op o2_gt (sim_op o2_ix sim_bor (sim_c (v := .int (0)) fun _ => rp_int) (by decide)) (sim_c (v := .int (0)) fun _ => rp_int) (by decide)))) (sim_seq (sim_asg (sim_op o2_mod (sim_c1 oc_int (sim_op o2_ix sim_bor (sim_c (v := .int (0)) fun _ => rp_int) (by decide))) sim_var (by decide)) (simg_name (by decide)))
    (sim_seq (sim_setL (sim_op o2_fdivW (sim_c1 oc_int (sim_op o2_ix sim_bor (sim_c (v := .int (0)) fun _ => rp_int) (by decide))) sim_var (by decide)) (sim_c (v := .int (0)) fun _ => rp_int))
    (sim_ret sim_var))) sim_next)
    (sim_seq (sim_setL (sim_op o2_add (sim_op o2_ix sim_bor (sim_c (v := .int (3)) fun _ => rp_int) (by decide)) (sim_c (v := .int (1)) fun _ => rp_int) (by decide)) (sim_c (v := .int (3)) fun _ => rp_int))
    (sim_seq (sim_asg (sim_op o2_mod (sim_c1 oc_int (sim_op o2_pow (sim_op o2_add (sim_op o2_add (sim_op o2_ix sim_bor (sim_c (v := .int (2)) fun _ => rp_int) (by decide)) (sim_op o2_mul (sim_c (v := .int (15486101)) fun _ => rp_int) (sim_op o2_ix sim_bor (sim_c (v := .int (3)) fun _ => rp_int) (by decide)) (by decide)) (by decide)) (sim_c (v := .int (179424907)) fun _ => rp_int) (by decide)) (sim_c (v := .int (5)) fun _ => rp_int) (by decide))) (sim_c (v := .int (2147483647)) fun _ => rp_int) (by decide)) (simg_name (by decide)))
    (sim_ret (sim_op o2_mod (sim_c1 oc_int (sim_op o2_fdivW (sim_op o2_mod (sim_c1 oc_int (sim_op o2_pow (sim_op o2_add (sim_op o2_mul sim_var (sim_c (v := .int (48271)) fun _ => rp_int) (by decide)) (sim_op o2_mul (sim_c (v := .int (104729)) fun _ => rp_int) (sim_op o2_ix sim_bor (sim_c (v := .int (3)) fun _ => rp_int) (by decide)) (by decide)) (by decide)) (sim_c (v := .int (3)) fun _ => rp_int) (by decide))) (sim_c (v := .int (2147483587)) fun _ => rp_int) (by decide)) (sim_c (v := .int (64)) fun _ => rp_int) (by decide))) sim_var (by decide))))))⟩
  exact (pss_cons (ps_if (PW.pt (pw_and (pt_val (pe_ix ix_seq (pv 0) pe_int fun _ _ => rfl)) (pw_and1 (pt_cmpR (op_gt) (pe_ix ix_seq (pv 0) pe_int fun _ _ => rfl) pe_int (nomark _))))) (pss_cons (ps_set (i := 2) sc__law_take.nd rfl (by first | exact Or.inl rfl | exact Or.inr rfl) (pe_op op_mod (pe_callTy call_int1 rfl m_int (by decide +kernel) (pa_cons (pe_ix ix_seq (pv 0) pe_int fun _ _ => rfl) pa_nil)) (pv 1)))
    (pss_cons (ps_asg (pe_op op_fdivW (pe_callTy call_int1 rfl m_int (by decide +kernel) (pa_cons (pe_ix ix_seq (pv 0) pe_int fun _ _ => rfl) pa_nil)) (pv 1)) (pg_sub (pv 0) pe_int set_list))
    (pss_one (ps_ret (pv 2))))) pss_nil)
    (pss_cons (ps_asg (pe_op op_addAll (pe_ix ix_seq (pv 0) pe_int fun _ _ => rfl) pe_int) (pg_sub (pv 0) pe_int set_list))
    (pss_cons (ps_set (i := 3) sc__law_take.nd rfl (by first | exact Or.inl rfl | exact Or.inr rfl) (pe_op op_mod (pe_callTy call_int1 rfl m_int (by decide +kernel) (pa_cons (pe_op op_pow (pe_op op_addAll (pe_op op_addAll (pe_ix ix_seq (pv 0) pe_int fun _ _ => rfl) (pe_op op_mulAll pe_int (pe_ix ix_seq (pv 0) pe_int fun _ _ => rfl))) pe_int) pe_int) pa_nil)) pe_int))
    (pss_one (ps_ret (pe_op op_mod (pe_callTy call_int1 rfl m_int (by decide +kernel) (pa_cons (pe_op op_fdivW (pe_op op_mod (pe_callTy call_int1 rfl m_int (by decide +kernel) (pa_cons (pe_op op_pow (pe_op op_addAll (pe_op op_mulAll (pv 3) pe_int) (pe_op op_mulAll pe_int (pe_ix ix_seq (pv 0) pe_int fun _ _ => rfl))) pe_int) pa_nil)) pe_int) pe_int) pa_nil)) (pv 1)))))))

theorem sc__law_same : FnScope N__law_same ["told", "due"] (defScope (top 31)) := ⟨rfl, rfl, rfl, by decide +kernel, rfl, by decide +kernel, by decide +kernel⟩
theorem okn__law_same (C : Cxt K mg)    : ∀ n, Okf P w K mg base (1 + n) "_law_same" (top 31) ["told", "due"] (spV K (s__law_same n))
  | 0 => by
    obtain ⟨fd__law_same, D__law_same⟩ := C.fn 18 (x := "_law_same") (st := (top 31))
    have B__law_same : Binds K fd__law_same ["told", "due"] [] := D__law_same.bindsN fun _ _ _ _ _ _ us hl => match us, hl with | [_, _], _ => rfl
    exact ⟨⟨fd__law_same, D__law_same, B__law_same, noV no__law_same⟩, C.glo 36⟩
  | n + 1 => by
    have O__law_same := okn__law_same C  n
    have m_isinstance := C.free 0 (x := "isinstance")
    have m_bool := C.free 13 (x := "bool")
    have m_int := C.free 11 (x := "int")
    have m_str := C.free 1 (x := "str")
    have m_len := C.free 2 (x := "len")
    have m_range := C.free 14 (x := "range")
    have m_list := C.free 15 (x := "list")
    have m_tuple := C.free 8 (x := "tuple")
    obtain ⟨fd__law_same, D__law_same, B__law_same, F__law_same⟩ := O__law_same.ex
    have k__law_same := D__law_same.kp
    have g__law_same := O__law_same.gm
    refine ⟨?_, C.glo 36⟩
    refine ⟨fd__law_same, D__law_same, B__law_same, fnV (k := 1 + n) (sp := s__law_same (n + 1)) (p := b__law_same n) D__law_same sc__law_same (by decide) (len__law_same (n + 1)) (fun cdv A outer s H E hr => ?_) (pure__law_same n)⟩
    have tk : Takes (cxOf (L2.CX P w) P w K mg base N__law_same "_law_same" (defScope (top 31)) (He.ga K "_law_same") cdv A outer s H E) (fun cls d _ H => E cls d H) := takes_of rfl rfl rfl rfl
    refine ⟨_, ?_, (sim_seq (sim_if (sim_or (sim_test (sim_op o2_is sim_var (sim_c (v := .non) fun _ => rp_non) (by decide))) (sim_B (sim_isi okTy_bool sim_var))) (sim_ret (sim_ifE (sim_test (sim_op o2_is sim_var (sim_c (v := .non) fun _ => rp_non) (by decide))) (sim_op o2_is sim_var (sim_c (v := .non) fun _ => rp_non) (by decide)) (sim_andV (sim_isi okTy_bool sim_var) (sim_op o2_eq (sim_op o2_is sim_var (sim_c (v := .bl true) fun _ => rp_bl) (by decide)) (sim_op o2_is sim_var (sim_c (v := .bl true) fun _ => rp_bl) (by decide)) (by decide))))) sim_next)
      (sim_seq (sim_if (sim_B (sim_isi okTy_int sim_var)) (sim_ret (sim_andV (sim_isi okTy_int sim_var) (sim_andV (sim_notV (sim_isi okTy_bool sim_var)) (sim_op o2_eq (sim_op o2_sub (sim_c1 oc_int sim_var) sim_var (by decide)) (sim_c (v := .int (0)) fun _ => rp_int) (by decide))))) sim_next)
      (sim_seq (sim_if (sim_B (sim_isi okTy_str sim_var)) (sim_ret (sim_andV (sim_isi okTy_str sim_var) (sim_andV (sim_op o2_eq (sim_c1 oc_len sim_var) (sim_c1 oc_len sim_var) (by decide)) (sim_op o2_eq (sim_lc (sim_rng1 (sim_c1 oc_len sim_var)) (simg_name (by decide)) (tgw_name (by decide)) mono_name (sim_test (sim_op o2_ne (sim_sl os_sl sim_var (sim_part sim_var) (sim_part (sim_op o2_add sim_var (sim_c (v := .int (1)) fun _ => rp_int) (by decide))) (by decide)) (sim_op o2_ix sim_var sim_var (by decide)) (by decide))) sim_var) (sim_lst sim_lnil (by decide)) (by decide))))) sim_next)
      (sim_seq (sim_if (sim_or (sim_test (sim_op o2_ne (sim_isi okTy_list sim_var) (sim_isi okTy_list sim_var) (by decide))) (sim_test (sim_op o2_ne (sim_isi okTy_tuple sim_var) (sim_isi okTy_tuple sim_var) (by decide)))) (sim_ret (sim_c (v := .bl false) fun _ => rp_bl)) sim_next)
      (sim_ret (sim_andV (sim_op o2_eq (sim_c1 oc_len sim_var) (sim_c1 oc_len sim_var) (by decide)) (sim_op o2_eq (sim_lc (sim_rng1 (sim_c1 oc_len sim_var)) (simg_name (by decide)) (tgw_name (by decide)) mono_name (sim_notT (sim_B (sim_callV0 (sim_acons (sim_op o2_ix sim_var sim_var (by decide)) (sim_acons (sim_op o2_ix sim_var sim_var (by decide)) sim_anil))))) sim_var) (sim_lst sim_lnil (by decide)) (by decide))))))))⟩
    exact (pss_cons (ps_if (PW.pt (pw_or (pt_cmpR (op_isAll) (pv 1) pe_non (nomark _)) (pw_or1 (pt_val (pe_callB call_isi rfl m_isinstance (by decide +kernel) (pa_cons (pv 1) (pa_cons (pe_bltn (v := .ty "bool") (u := .type "bool") rfl m_bool (by decide +kernel) rfl) pa_nil))))))) (pss_one (ps_ret (pe_ifExp (pt_cmpR (op_isAll) (pv 1) pe_non (nomark _)) (pe_cmpR (op_isAll) (pv 0) pe_non (nomark _)) (pe_and (pe_callB call_isi rfl m_isinstance (by decide +kernel) (pa_cons (pv 0) (pa_cons (pe_bltn (v := .ty "bool") (u := .type "bool") rfl m_bool (by decide +kernel) rfl) pa_nil))) (pe_one (pe_cmpR (op_eqP (Room.eq hr)) (pe_cmpR (op_isAll) (pv 0) pe_bl (nomark _)) (pe_cmpR (op_isAll) (pv 1) pe_bl (nomark _)) (nomark _))))))) pss_nil)
      (pss_cons (ps_if (pt_val (pe_callB call_isi rfl m_isinstance (by decide +kernel) (pa_cons (pv 1) (pa_cons (pe_bltn (v := .ty "int") (u := .type "int") rfl m_int (by decide +kernel) rfl) pa_nil)))) (pss_one (ps_ret (pe_and (pe_callB call_isi rfl m_isinstance (by decide +kernel) (pa_cons (pv 0) (pa_cons (pe_bltn (v := .ty "int") (u := .type "int") rfl m_int (by decide +kernel) rfl) pa_nil))) (pe_and (pe_not (pe_callB call_isi rfl m_isinstance (by decide +kernel) (pa_cons (pv 0) (pa_cons (pe_bltn (v := .ty "bool") (u := .type "bool") rfl m_bool (by decide +kernel) rfl) pa_nil)))) (pe_one (pe_cmpR (op_eqP (Room.eq hr)) (pe_op op_sub (pe_callTy call_int1 rfl m_int (by decide +kernel) (pa_cons (pv 0) pa_nil)) (pv 1)) pe_int (nomark _))))))) pss_nil)
      (pss_cons (ps_if (pt_val (pe_callB call_isi rfl m_isinstance (by decide +kernel) (pa_cons (pv 1) (pa_cons (pe_bltn (v := .ty "str") (u := .type "str") rfl m_str (by decide +kernel) rfl) pa_nil)))) (pss_one (ps_ret (pe_and (pe_callB call_isi rfl m_isinstance (by decide +kernel) (pa_cons (pv 0) (pa_cons (pe_bltn (v := .ty "str") (u := .type "str") rfl m_str (by decide +kernel) rfl) pa_nil))) (pe_and (pe_cmpR (op_eqP (Room.eq hr)) (pe_callB call_lenAll rfl m_len boot_len (pa_cons (pv 0) pa_nil)) (pe_callB call_lenAll rfl m_len boot_len (pa_cons (pv 1) pa_nil)) (nomark _)) (pe_one (pe_cmpR (op_eqP (Room.eq hr)) (pe_lc (own := [("k", 2)]) rfl sc__law_same.nd (pi_range1 rfl m_range (pa_cons (pe_callB call_lenAll rfl m_len boot_len (pa_cons (pv 1) pa_nil)) pa_nil)) (blkOk_by (N := N__law_same) (sc := defScope (top 31)) (by decide +kernel)) (fun _ _ _ _ _ => (pg_name (i := 2) sc__law_same.nd rfl (by first | exact Or.inl rfl | exact Or.inr rfl))) (fun _ _ _ _ _ => (pts_one (pt_cmpR (op_neP (Room.eq hr)) (pe_slice sl_all (pv 0) (po_some (pv 2)) (po_some (pe_op op_addAll (pv 2) pe_int))) (pe_ix ix_seq (pv 1) (pv 2) fun _ _ => rfl) (nomark _)))) (fun _ _ _ _ _ => (pv 2))) (pe_lst pa_nil) (nomark _))))))) pss_nil)
      (pss_cons (ps_if (PW.pt (pw_or (pt_cmpR (op_neP (Room.eq hr)) (pe_callB call_isi rfl m_isinstance (by decide +kernel) (pa_cons (pv 0) (pa_cons (pe_bltn (v := .ty "list") (u := .type "list") rfl m_list (by decide +kernel) rfl) pa_nil))) (pe_callB call_isi rfl m_isinstance (by decide +kernel) (pa_cons (pv 1) (pa_cons (pe_bltn (v := .ty "list") (u := .type "list") rfl m_list (by decide +kernel) rfl) pa_nil))) (nomark _)) (pw_or1 (pt_cmpR (op_neP (Room.eq hr)) (pe_callB call_isi rfl m_isinstance (by decide +kernel) (pa_cons (pv 0) (pa_cons (pe_bltn (v := .ty "tuple") (u := .type "tuple") rfl m_tuple (by decide +kernel) rfl) pa_nil))) (pe_callB call_isi rfl m_isinstance (by decide +kernel) (pa_cons (pv 1) (pa_cons (pe_bltn (v := .ty "tuple") (u := .type "tuple") rfl m_tuple (by decide +kernel) rfl) pa_nil))) (nomark _))))) (pss_one (ps_ret pe_bl)) pss_nil)
      (pss_one (ps_ret (pe_and (pe_cmpR (op_eqP (Room.eq hr)) (pe_callB call_lenAll rfl m_len boot_len (pa_cons (pv 0) pa_nil)) (pe_callB call_lenAll rfl m_len boot_len (pa_cons (pv 1) pa_nil)) (nomark _)) (pe_one (pe_cmpR (op_eqP (Room.eq hr)) (pe_lc (own := [("k", 2)]) rfl sc__law_same.nd (pi_range1 rfl m_range (pa_cons (pe_callB call_lenAll rfl m_len boot_len (pa_cons (pv 1) pa_nil)) pa_nil)) (blkOk_by (N := N__law_same) (sc := defScope (top 31)) (by decide +kernel)) (fun _ _ _ _ _ => (pg_name (i := 2) sc__law_same.nd rfl (by first | exact Or.inl rfl | exact Or.inr rfl))) (fun _ _ _ _ _ => (pts_one (pt_not (pt_val (pe_call F__law_same (hr.mono (by omega)) rfl g__law_same k__law_same B__law_same .nil passX0 (pa_cons (pe_ix ix_seq (pv 0) (pv 2) fun _ _ => rfl) (pa_cons (pe_ix ix_seq (pv 1) (pv 2) fun _ _ => rfl) pa_nil))))))) (fun _ _ _ _ _ => (pv 2))) (pe_lst pa_nil) (nomark _))))))))))
theorem ok__law_same (C : Cxt K mg)    : Okf P w K mg base 111 "_law_same" (top 31) ["told", "due"] (spV K (s__law_same 110)) := okn__law_same C  110

theorem sc__law_pick : FnScope N__law_pick ["box", "items"] (defScope (top 32)) := ⟨rfl, rfl, rfl, by decide +kernel, rfl, by decide +kernel, by decide +kernel⟩
theorem ok__law_pick (C : Cxt K mg) (O__law_take : Okf P w K mg base 2 "_law_take" (top 30) ["box", "many"] (spM K s__law_take))   : Okf P w K mg base 3 "_law_pick" (top 32) ["box", "items"] (spM K s__law_pick) := by
  have m_len := C.free 2 (x := "len")
  obtain ⟨fd__law_take, D__law_take, B__law_take, F__law_take⟩ := O__law_take.ex
  have k__law_take := D__law_take.kp
  have g__law_take := O__law_take.gm
  obtain ⟨fd__law_pick, D__law_pick⟩ := C.fn 19 (x := "_law_pick") (st := (top 32))
  have B__law_pick : Binds K fd__law_pick ["box", "items"] [] := D__law_pick.bindsN fun _ _ _ _ _ _ us hl => match us, hl with | [_, _], _ => rfl
  refine ⟨?_, C.glo 37⟩
  refine ⟨fd__law_pick, D__law_pick, B__law_pick, fnM (k := 2) (sp := s__law_pick) (p := b__law_pick) D__law_pick sc__law_pick (by decide) len__law_pick (fun cdv A outer s H E hr => ?_) pure__law_pick⟩
  have tk : Takes (cxOf (L2.CX P w) P w K mg base N__law_pick "_law_pick" (defScope (top 32)) (He.ga K "_law_pick") cdv A outer s H E) (fun cls d _ H => E cls d H) := takes_of rfl rfl rfl rfl
  refine ⟨_, ?_, (sim_ret (sim_op o2_ix sim_var (sim_callM (sim_acons (sim_c1 oc_len sim_var) sim_anil)) (by decide)))⟩
  exact (pss_one (ps_ret (pe_ix ix_seq (pv 1) (pe_callS F__law_take (hr.mono (by omega)) rfl g__law_take k__law_take B__law_take (fun σ => passAt tk σ) (pa_cons (pv 0) (pa_cons (pe_callB call_lenAll rfl m_len boot_len (pa_cons (pv 1) pa_nil)) pa_nil))) fun _ _ => rfl)))

theorem sc__law_mixed : FnScope N__law_mixed ["box", "items"] (defScope (top 33)) := ⟨rfl, rfl, rfl, by decide +kernel, rfl, by decide +kernel, by decide +kernel⟩
theorem ok__law_mixed (C : Cxt K mg) (O__law_take : Okf P w K mg base 2 "_law_take" (top 30) ["box", "many"] (spM K s__law_take))   : Okf P w K mg base 3 "_law_mixed" (top 33) ["box", "items"] (spM K s__law_mixed) := by
  have m_list := C.free 15 (x := "list")
  have m_len := C.free 2 (x := "len")
  have m_range := C.free 14 (x := "range")
  obtain ⟨fd__law_take, D__law_take, B__law_take, F__law_take⟩ := O__law_take.ex
  have k__law_take := D__law_take.kp
  have g__law_take := O__law_take.gm
  obtain ⟨fd__law_mixed, D__law_mixed⟩ := C.fn 20 (x := "_law_mixed") (st := (top 33))
  have B__law_mixed : Binds K fd__law_mixed ["box", "items"] [] := D__law_mixed.bindsN fun _ _ _ _ _ _ us hl => match us, hl with | [_, _], _ => rfl
  refine ⟨?_, C.glo 38⟩
  refine ⟨fd__law_mixed, D__law_mixed, B__law_mixed, fnM (k := 2) (sp := s__law_mixed) (p := b__law_mixed) D__law_mixed sc__law_mixed (by decide) len__law_mixed (fun cdv A outer s H E hr => ?_) pure__law_mixed⟩
  have tk : Takes (cxOf (L2.CX P w) P w K mg base N__law_mixed "_law_mixed" (defScope (top 33)) (He.ga K "_law_mixed") cdv A outer s H E) (fun cls d _ H => E cls d H) := takes_of rfl rfl rfl rfl
  refine ⟨_, ?_, (sim_seq (sim_par (sim_lcons (sim_c1 oc_list sim_var) (sim_lcons (sim_lst sim_lnil (by decide)) sim_lnil)) (by decide) (by decide))
    (sim_seq (sim_for (sim_rng1 (sim_c1 oc_len sim_bor)) (simg_name (by decide)) (sim_drop (sim_append (sim_popAt (sim_callM (sim_acons (sim_c1 oc_len sim_bor) sim_anil))))))
    (sim_ret sim_mov)))⟩
  exact (pss_cons (ps_par rfl sc__law_mixed.nd rfl rfl (by decide) rfl rfl (pa_cons (pe_callTy call_list_of rfl m_list (by decide +kernel) (pa_cons (pv 1) pa_nil)) (pa_cons (pe_lst pa_nil) pa_nil)) rfl)
    (pss_cons (ps_for (passes_of rfl) rfl (pi_range1 rfl m_range (pa_cons (pe_callB call_lenAll rfl m_len boot_len (pa_cons (pv 2) pa_nil)) pa_nil)) (pg_name (i := 4) sc__law_mixed.nd rfl (by first | exact Or.inl rfl | exact Or.inr rfl)) (pss_one (ps_expr (pe_bm PySem.F.plainAttrs_list PySem.F.slot_list_append PySem.F.type_list_append mt_append (pv 3) (pa_cons (pe_bm PySem.F.plainAttrs_list PySem.F.slot_list_pop PySem.F.type_list_pop mt_popW (pv 2) (pa_cons (pe_callS F__law_take (hr.mono (by omega)) rfl g__law_take k__law_take B__law_take (fun σ => passAt tk σ) (pa_cons (pv 0) (pa_cons (pe_callB call_lenAll rfl m_len boot_len (pa_cons (pv 2) pa_nil)) pa_nil))) pa_nil)) pa_nil)))))
    (pss_one (ps_ret (pv 3)))))

theorem sc__law_drawn : FnScope N__law_drawn ["box", "size", "names", "around", "bound"] (defScope (top 34)) := ⟨rfl, rfl, rfl, by decide +kernel, rfl, by decide +kernel, by decide +kernel⟩
theorem okn__law_drawn (C : Cxt K mg) (O__law_take : Okf P w K mg base 2 "_law_take" (top 30) ["box", "many"] (spM K s__law_take)) (O__law_pick : Okf P w K mg base 3 "_law_pick" (top 32) ["box", "items"] (spM K s__law_pick))   : ∀ n, Okf P w K mg base (3 + n) "_law_drawn" (top 34) ["box", "size", "names", "around", "bound"] (spM K (s__law_drawn n))
  | 0 => by
    obtain ⟨fd__law_drawn, D__law_drawn⟩ := C.fn 21 (x := "_law_drawn") (st := (top 34))
    have B__law_drawn : Binds K fd__law_drawn ["box", "size", "names", "around", "bound"] [] := D__law_drawn.bindsN fun _ _ _ _ _ _ us hl => match us, hl with | [_, _, _, _, _], _ => rfl
    exact ⟨⟨fd__law_drawn, D__law_drawn, B__law_drawn, noM no__law_drawn⟩, C.glo 39⟩
  | n + 1 => by
    have O__law_drawn := okn__law_drawn C O__law_take O__law_pick n
    obtain ⟨fd__law_take, D__law_take, B__law_take, F__law_take⟩ := O__law_take.ex
    have k__law_take := D__law_take.kp
    have g__law_take := O__law_take.gm
    obtain ⟨fd__law_pick, D__law_pick, B__law_pick, F__law_pick⟩ := O__law_pick.ex
    have k__law_pick := D__law_pick.kp
    have g__law_pick := O__law_pick.gm
    obtain ⟨fd__law_drawn, D__law_drawn, B__law_drawn, F__law_drawn⟩ := O__law_drawn.ex
    have k__law_drawn := D__law_drawn.kp
    have g__law_drawn := O__law_drawn.gm
    refine ⟨?_, C.glo 39⟩
    refine ⟨fd__law_drawn, D__law_drawn, B__law_drawn, fnM (k := 3 + n) (sp := s__law_drawn (n + 1)) (p := b__law_drawn n) D__law_drawn sc__law_drawn (by decide) (len__law_drawn (n + 1)) (fun cdv A outer s H E hr => ?_) (pure__law_drawn n)⟩
    have tk : Takes (cxOf (L2.CX P w) P w K mg base N__law_drawn "_law_drawn" (defScope (top 34)) (He.ga K "_law_drawn") cdv A outer s H E) (fun cls d _ H => E cls d H) := takes_of rfl rfl rfl rfl
    refine ⟨_, ?_, (sim_seq (sim_if (sim_test (sim_op o2_le sim_var (sim_c (v := .int (1)) fun _ => rp_int) (by decide))) (sim_ret (sim_tup (sim_acons (sim_c (v := .str "var") (rp_lit (l := [118, 97, 114]) (by decide +kernel))) (sim_acons (sim_give (sim_callM (sim_acons (sim_give (sim_op o2_add (sim_op o2_add sim_var sim_var (by decide)) sim_var (by decide))) sim_anil))) sim_anil)) (by decide))) sim_next)
      (sim_seq (sim_asg (sim_callM (sim_acons (sim_c (v := .int (5)) fun _ => rp_int) sim_anil)) (simg_name (by decide)))
      (sim_seq (sim_if (sim_or (sim_test (sim_op o2_lt sim_var (sim_c (v := .int (2)) fun _ => rp_int) (by decide))) (sim_test (sim_op o2_eq sim_var (sim_c (v := .int (2)) fun _ => rp_int) (by decide)))) (sim_seq (sim_asg (sim_give (sim_callM (sim_acons sim_var sim_anil))) (simg_name (by decide)))
      (sim_ret (sim_tup (sim_acons (sim_c (v := .str "lam") (rp_lit (l := [108, 97, 109]) (by decide +kernel))) (sim_acons sim_var (sim_acons (sim_give (sim_callM (sim_acons (sim_op o2_sub sim_var (sim_c (v := .int (1)) fun _ => rp_int) (by decide)) (sim_acons sim_var (sim_acons (sim_give (sim_op o2_add sim_var (sim_lst (sim_lcons sim_var sim_lnil) (by decide)) (by decide))) (sim_acons sim_var sim_anil)))))) sim_anil))) (by decide)))) sim_next)
      (sim_seq (sim_asg (sim_op o2_add (sim_c (v := .int (1)) fun _ => rp_int) (sim_callM (sim_acons (sim_op o2_sub sim_var (sim_c (v := .int (2)) fun _ => rp_int) (by decide)) sim_anil)) (by decide)) (simg_name (by decide)))
      (sim_ret (sim_tup (sim_acons (sim_c (v := .str "app") (rp_lit (l := [97, 112, 112]) (by decide +kernel))) (sim_acons (sim_give (sim_callM (sim_acons sim_var (sim_acons sim_var (sim_acons sim_var (sim_acons sim_var sim_anil)))))) (sim_acons (sim_give (sim_callM (sim_acons (sim_op o2_sub (sim_op o2_sub sim_var (sim_c (v := .int (1)) fun _ => rp_int) (by decide)) sim_var (by decide)) (sim_acons sim_var (sim_acons sim_var (sim_acons sim_var sim_anil)))))) sim_anil))) (by decide)))))))⟩
    exact (pss_cons (ps_if (pt_cmpR (op_le) (pv 1) pe_int (nomark _)) (pss_one (ps_ret (pe_tup (pa_cons pe_str (pa_cons (pe_callS F__law_pick (hr.mono (by omega)) rfl g__law_pick k__law_pick B__law_pick (fun σ => passAt tk σ) (pa_cons (pv 0) (pa_cons (pe_op op_addAll (pe_op op_addAll (pv 2) (pv 3)) (pv 3)) pa_nil))) pa_nil))))) pss_nil)
      (pss_cons (ps_set (i := 5) sc__law_drawn.nd rfl (by first | exact Or.inl rfl | exact Or.inr rfl) (pe_callS F__law_take (hr.mono (by omega)) rfl g__law_take k__law_take B__law_take (fun σ => passAt tk σ) (pa_cons (pv 0) (pa_cons pe_int pa_nil))))
      (pss_cons (ps_if (PW.pt (pw_or (pt_cmpR (op_lt) (pv 5) pe_int (nomark _)) (pw_or1 (pt_cmpR (op_eqP (Room.eq hr)) (pv 1) pe_int (nomark _))))) (pss_cons (ps_set (i := 6) sc__law_drawn.nd rfl (by first | exact Or.inl rfl | exact Or.inr rfl) (pe_callS F__law_pick (hr.mono (by omega)) rfl g__law_pick k__law_pick B__law_pick (fun σ => passAt tk σ) (pa_cons (pv 0) (pa_cons (pv 4) pa_nil))))
      (pss_one (ps_ret (pe_tup (pa_cons pe_str (pa_cons (pv 6) (pa_cons (pe_callS F__law_drawn (hr.mono (by omega)) rfl g__law_drawn k__law_drawn B__law_drawn (fun σ => passAt tk σ) (pa_cons (pv 0) (pa_cons (pe_op op_sub (pv 1) pe_int) (pa_cons (pv 2) (pa_cons (pe_op op_addAll (pv 3) (pe_lst (pa_cons (pv 6) pa_nil))) (pa_cons (pv 4) pa_nil)))))) pa_nil))))))) pss_nil)
      (pss_cons (ps_set (i := 7) sc__law_drawn.nd rfl (by first | exact Or.inl rfl | exact Or.inr rfl) (pe_op op_addAll pe_int (pe_callS F__law_take (hr.mono (by omega)) rfl g__law_take k__law_take B__law_take (fun σ => passAt tk σ) (pa_cons (pv 0) (pa_cons (pe_op op_sub (pv 1) pe_int) pa_nil)))))
      (pss_one (ps_ret (pe_tup (pa_cons pe_str (pa_cons (pe_callS F__law_drawn (hr.mono (by omega)) rfl g__law_drawn k__law_drawn B__law_drawn (fun σ => passAt tk σ) (pa_cons (pv 0) (pa_cons (pv 7) (pa_cons (pv 2) (pa_cons (pv 3) (pa_cons (pv 4) pa_nil)))))) (pa_cons (pe_callS F__law_drawn (hr.mono (by omega)) rfl g__law_drawn k__law_drawn B__law_drawn (fun σ => passAt tk σ) (pa_cons (pv 0) (pa_cons (pe_op op_sub (pe_op op_sub (pv 1) pe_int) (pv 7)) (pa_cons (pv 2) (pa_cons (pv 3) (pa_cons (pv 4) pa_nil)))))) pa_nil))))))))))
theorem ok__law_drawn (C : Cxt K mg) (O__law_take : Okf P w K mg base 2 "_law_take" (top 30) ["box", "many"] (spM K s__law_take)) (O__law_pick : Okf P w K mg base 3 "_law_pick" (top 32) ["box", "items"] (spM K s__law_pick))   : Okf P w K mg base 45 "_law_drawn" (top 34) ["box", "size", "names", "around", "bound"] (spM K (s__law_drawn 42)) := okn__law_drawn C O__law_take O__law_pick 42

theorem sc__law_nested : FnScope N__law_nested ["box", "size"] (defScope (top 35)) := ⟨rfl, rfl, rfl, by decide +kernel, rfl, by decide +kernel, by decide +kernel⟩
theorem ok__law_nested (C : Cxt K mg) (O__law_take : Okf P w K mg base 2 "_law_take" (top 30) ["box", "many"] (spM K s__law_take)) (O__law_pick : Okf P w K mg base 3 "_law_pick" (top 32) ["box", "items"] (spM K s__law_pick)) (O__law_drawn : Okf P w K mg base 45 "_law_drawn" (top 34) ["box", "size", "names", "around", "bound"] (spM K (s__law_drawn 42)))   : Okf P w K mg base 46 "_law_nested" (top 35) ["box", "size"] (spM K s__law_nested) := by
  have m_range := C.free 14 (x := "range")
  obtain ⟨fd__law_take, D__law_take, B__law_take, F__law_take⟩ := O__law_take.ex
  have k__law_take := D__law_take.kp
  have g__law_take := O__law_take.gm
  obtain ⟨fd__law_pick, D__law_pick, B__law_pick, F__law_pick⟩ := O__law_pick.ex
  have k__law_pick := D__law_pick.kp
  have g__law_pick := O__law_pick.gm
  obtain ⟨fd__law_drawn, D__law_drawn, B__law_drawn, F__law_drawn⟩ := O__law_drawn.ex
  have k__law_drawn := D__law_drawn.kp
  have g__law_drawn := O__law_drawn.gm
  obtain ⟨fd__law_nested, D__law_nested⟩ := C.fn 22 (x := "_law_nested") (st := (top 35))
  have B__law_nested : Binds K fd__law_nested ["box", "size"] [] := D__law_nested.bindsN fun _ _ _ _ _ _ us hl => match us, hl with | [_, _], _ => rfl
  refine ⟨?_, C.glo 40⟩
  refine ⟨fd__law_nested, D__law_nested, B__law_nested, fnM (k := 45) (sp := s__law_nested) (p := b__law_nested) D__law_nested sc__law_nested (by decide) len__law_nested (fun cdv A outer s H E hr => ?_) pure__law_nested⟩
  have tk : Takes (cxOf (L2.CX P w) P w K mg base N__law_nested "_law_nested" (defScope (top 35)) (He.ga K "_law_nested") cdv A outer s H E) (fun cls d _ H => E cls d H) := takes_of rfl rfl rfl rfl
  refine ⟨_, ?_, (sim_seq (sim_asg (sim_give (sim_callM (sim_acons (sim_give (sim_lst (sim_lcons (sim_lst (sim_lcons (sim_c (v := .str "x") (rp_lit (l := [120]) (by decide +kernel))) sim_lnil) (by decide)) (sim_lcons (sim_lst (sim_lcons (sim_c (v := .str "x") (rp_lit (l := [120]) (by decide +kernel))) (sim_lcons (sim_c (v := .str "y") (rp_lit (l := [121]) (by decide +kernel))) sim_lnil)) (by decide)) (sim_lcons (sim_lst (sim_lcons (sim_c (v := .str "x") (rp_lit (l := [120]) (by decide +kernel))) (sim_lcons (sim_c (v := .str "y") (rp_lit (l := [121]) (by decide +kernel))) (sim_lcons (sim_c (v := .str "x") (rp_lit (l := [120]) (by decide +kernel))) (sim_lcons (sim_c (v := .str "zz") (rp_lit (l := [122, 122]) (by decide +kernel))) sim_lnil)))) (by decide)) (sim_lcons (sim_lst (sim_lcons (sim_c (v := .str "a") (rp_lit (l := [97]) (by decide +kernel))) (sim_lcons (sim_c (v := .str "b") (rp_lit (l := [98]) (by decide +kernel))) (sim_lcons (sim_c (v := .str "c") (rp_lit (l := [99]) (by decide +kernel))) sim_lnil))) (by decide)) (sim_lcons (sim_lst (sim_lcons (sim_c (v := .str "x") (rp_lit (l := [120]) (by decide +kernel))) sim_lnil) (by decide)) sim_lnil))))) (by decide))) sim_anil))) (simg_name (by decide)))
    (sim_seq (sim_asg (sim_give (sim_callM (sim_acons sim_var (sim_acons (sim_give (sim_callM (sim_acons (sim_give (sim_lst (sim_lcons (sim_lst (sim_lcons (sim_c (v := .str "x") (rp_lit (l := [120]) (by decide +kernel))) (sim_lcons (sim_c (v := .str "y") (rp_lit (l := [121]) (by decide +kernel))) sim_lnil)) (by decide)) (sim_lcons (sim_lst (sim_lcons (sim_c (v := .str "y") (rp_lit (l := [121]) (by decide +kernel))) (sim_lcons (sim_c (v := .str "w") (rp_lit (l := [119]) (by decide +kernel))) sim_lnil)) (by decide)) (sim_lcons (sim_lst (sim_lcons (sim_c (v := .str "a") (rp_lit (l := [97]) (by decide +kernel))) (sim_lcons (sim_c (v := .str "b") (rp_lit (l := [98]) (by decide +kernel))) (sim_lcons (sim_c (v := .str "x") (rp_lit (l := [120]) (by decide +kernel))) sim_lnil))) (by decide)) sim_lnil))) (by decide))) sim_anil))) (sim_acons (sim_give (sim_lst sim_lnil (by decide))) (sim_acons sim_var sim_anil)))))) (simg_name (by decide)))
    (sim_seq (sim_for (sim_rng1 (sim_callM (sim_acons (sim_give (sim_lst (sim_lcons (sim_c (v := .int (0)) fun _ => rp_int) (sim_lcons (sim_c (v := .int (0)) fun _ => rp_int) (sim_lcons (sim_c (v := .int (1)) fun _ => rp_int) (sim_lcons (sim_c (v := .int (2)) fun _ => rp_int) (sim_lcons (sim_c (v := .int (3)) fun _ => rp_int) sim_lnil))))) (by decide))) sim_anil))) (simg_name (by decide)) (sim_asg (sim_ifE (sim_test (sim_op o2_gt (sim_callM (sim_acons (sim_c (v := .int (3)) fun _ => rp_int) sim_anil)) (sim_c (v := .int (0)) fun _ => rp_int) (by decide))) (sim_tup (sim_acons (sim_c (v := .str "lam") (rp_lit (l := [108, 97, 109]) (by decide +kernel))) (sim_acons (sim_op o2_ix sim_var (sim_c (v := .int (0)) fun _ => rp_int) (by decide)) (sim_acons sim_var sim_anil))) (by decide)) (sim_tup (sim_acons (sim_c (v := .str "app") (rp_lit (l := [97, 112, 112]) (by decide +kernel))) (sim_acons sim_var (sim_acons (sim_tup (sim_acons (sim_c (v := .str "lam") (rp_lit (l := [108, 97, 109]) (by decide +kernel))) (sim_acons (sim_op o2_ix sim_var (sim_c (v := .int (0)) fun _ => rp_int) (by decide)) (sim_acons (sim_tup (sim_acons (sim_c (v := .str "var") (rp_lit (l := [118, 97, 114]) (by decide +kernel))) (sim_acons (sim_op o2_ix sim_var (sim_c (v := .int (0)) fun _ => rp_int) (by decide)) sim_anil)) (by decide)) sim_anil))) (by decide)) sim_anil))) (by decide))) (simg_name (by decide))))
    (sim_ret sim_var))))⟩
  exact (pss_cons (ps_set (i := 2) sc__law_nested.nd rfl (by first | exact Or.inl rfl | exact Or.inr rfl) (pe_callS F__law_pick (hr.mono (by omega)) rfl g__law_pick k__law_pick B__law_pick (fun σ => passAt tk σ) (pa_cons (pv 0) (pa_cons (pe_lst (pa_cons (pe_lst (pa_cons pe_str pa_nil)) (pa_cons (pe_lst (pa_cons pe_str (pa_cons pe_str pa_nil))) (pa_cons (pe_lst (pa_cons pe_str (pa_cons pe_str (pa_cons pe_str (pa_cons pe_str pa_nil))))) (pa_cons (pe_lst (pa_cons pe_str (pa_cons pe_str (pa_cons pe_str pa_nil)))) (pa_cons (pe_lst (pa_cons pe_str pa_nil)) pa_nil)))))) pa_nil))))
    (pss_cons (ps_set (i := 3) sc__law_nested.nd rfl (by first | exact Or.inl rfl | exact Or.inr rfl) (pe_callS F__law_drawn (hr.mono (by omega)) rfl g__law_drawn k__law_drawn B__law_drawn (fun σ => passAt tk σ) (pa_cons (pv 0) (pa_cons (pv 1) (pa_cons (pe_callS F__law_pick (hr.mono (by omega)) rfl g__law_pick k__law_pick B__law_pick (fun σ => passAt tk σ) (pa_cons (pv 0) (pa_cons (pe_lst (pa_cons (pe_lst (pa_cons pe_str (pa_cons pe_str pa_nil))) (pa_cons (pe_lst (pa_cons pe_str (pa_cons pe_str pa_nil))) (pa_cons (pe_lst (pa_cons pe_str (pa_cons pe_str (pa_cons pe_str pa_nil)))) pa_nil)))) pa_nil))) (pa_cons (pe_lst pa_nil) (pa_cons (pv 2) pa_nil)))))))
    (pss_cons (ps_for (passes_of rfl) rfl (pi_range1 rfl m_range (pa_cons (pe_callS F__law_pick (hr.mono (by omega)) rfl g__law_pick k__law_pick B__law_pick (fun σ => passAt tk σ) (pa_cons (pv 0) (pa_cons (pe_lst (pa_cons pe_int (pa_cons pe_int (pa_cons pe_int (pa_cons pe_int (pa_cons pe_int pa_nil)))))) pa_nil))) pa_nil)) (pg_name (i := 4) sc__law_nested.nd rfl (by first | exact Or.inl rfl | exact Or.inr rfl)) (pss_one (ps_set (i := 3) sc__law_nested.nd rfl (by first | exact Or.inl rfl | exact Or.inr rfl) (pe_ifExp (pt_cmpR (op_gt) (pe_callS F__law_take (hr.mono (by omega)) rfl g__law_take k__law_take B__law_take (fun σ => passAt tk σ) (pa_cons (pv 0) (pa_cons pe_int pa_nil))) pe_int (nomark _)) (pe_tup (pa_cons pe_str (pa_cons (pe_ix ix_seq (pv 2) pe_int fun _ _ => rfl) (pa_cons (pv 3) pa_nil)))) (pe_tup (pa_cons pe_str (pa_cons (pv 3) (pa_cons (pe_tup (pa_cons pe_str (pa_cons (pe_ix ix_seq (pv 2) pe_int fun _ _ => rfl) (pa_cons (pe_tup (pa_cons pe_str (pa_cons (pe_ix ix_seq (pv 2) pe_int fun _ _ => rfl) pa_nil))) pa_nil)))) pa_nil))))))))
    (pss_one (ps_ret (pv 3))))))

theorem sc__law_places : FnScope N__law_places ["term"] (defScope (top 36)) := ⟨rfl, rfl, rfl, by decide +kernel, rfl, by decide +kernel, by decide +kernel⟩
theorem okn__law_places (C : Cxt K mg)    : ∀ n, Okf P w K mg base (1 + n) "_law_places" (top 36) ["term"] (spV K (s__law_places n))
  | 0 => by
    obtain ⟨fd__law_places, D__law_places⟩ := C.fn 23 (x := "_law_places") (st := (top 36))
    have B__law_places : Binds K fd__law_places ["term"] [] := D__law_places.bindsN fun _ _ _ _ _ _ us hl => match us, hl with | [_], _ => rfl
    exact ⟨⟨fd__law_places, D__law_places, B__law_places, noV no__law_places⟩, C.glo 41⟩
  | n + 1 => by
    have O__law_places := okn__law_places C  n
    obtain ⟨fd__law_places, D__law_places, B__law_places, F__law_places⟩ := O__law_places.ex
    have k__law_places := D__law_places.kp
    have g__law_places := O__law_places.gm
    refine ⟨?_, C.glo 41⟩
    refine ⟨fd__law_places, D__law_places, B__law_places, fnV (k := 1 + n) (sp := s__law_places (n + 1)) (p := b__law_places n) D__law_places sc__law_places (by decide) (len__law_places (n + 1)) (fun cdv A outer s H E hr => ?_) (pure__law_places n)⟩
    have tk : Takes (cxOf (L2.CX P w) P w K mg base N__law_places "_law_places" (defScope (top 36)) (He.ga K "_law_places") cdv A outer s H E) (fun cls d _ H => E cls d H) := takes_of rfl rfl rfl rfl
    refine ⟨_, ?_, (sim_seq (sim_asg (sim_lst (sim_lcons (sim_tup (sim_acons (sim_c (v := .str "") (rp_lit (l := []) (by decide +kernel))) (sim_acons sim_var sim_anil)) (by decide)) sim_lnil) (by decide)) (simg_name (by decide)))
      (sim_seq (sim_if (sim_test (sim_op o2_eq (sim_op o2_ix sim_var (sim_c (v := .int (0)) fun _ => rp_int) (by decide)) (sim_c (v := .str "lam") (rp_lit (l := [108, 97, 109]) (by decide +kernel))) (by decide))) (sim_drop (sim_extend (sim_lc (sim_iany (sim_give (sim_callV (sim_acons (sim_op o2_ix sim_var (sim_c (v := .int (2)) fun _ => rp_int) (by decide)) sim_anil)))) (simg_tup (simgs_cons (simg_name (by decide)) (simgs_cons (simg_name (by decide)) simgs_nil))) (tgw_tup (tgw_cons (tgw_name (by decide)) (tgw_cons (tgw_name (by decide)) tgw_nil mono_name mono_nil) mono_name (mono_cons mono_name mono_nil))) (mono_tup (mono_cons mono_name (mono_cons mono_name mono_nil))) sim_yes (sim_tup (sim_acons (sim_op o2_add (sim_c (v := .str "b") (rp_lit (l := [98]) (by decide +kernel))) sim_var (by decide)) (sim_acons sim_var sim_anil)) (by decide))))) sim_next)
      (sim_seq (sim_if (sim_test (sim_op o2_eq (sim_op o2_ix sim_var (sim_c (v := .int (0)) fun _ => rp_int) (by decide)) (sim_c (v := .str "app") (rp_lit (l := [97, 112, 112]) (by decide +kernel))) (by decide))) (sim_seq (sim_drop (sim_extend (sim_lc (sim_iany (sim_give (sim_callV (sim_acons (sim_op o2_ix sim_var (sim_c (v := .int (1)) fun _ => rp_int) (by decide)) sim_anil)))) (simg_tup (simgs_cons (simg_name (by decide)) (simgs_cons (simg_name (by decide)) simgs_nil))) (tgw_tup (tgw_cons (tgw_name (by decide)) (tgw_cons (tgw_name (by decide)) tgw_nil mono_name mono_nil) mono_name (mono_cons mono_name mono_nil))) (mono_tup (mono_cons mono_name (mono_cons mono_name mono_nil))) sim_yes (sim_tup (sim_acons (sim_op o2_add (sim_c (v := .str "f") (rp_lit (l := [102]) (by decide +kernel))) sim_var (by decide)) (sim_acons sim_var sim_anil)) (by decide)))))
      (sim_drop (sim_extend (sim_lc (sim_iany (sim_give (sim_callV (sim_acons (sim_op o2_ix sim_var (sim_c (v := .int (2)) fun _ => rp_int) (by decide)) sim_anil)))) (simg_tup (simgs_cons (simg_name (by decide)) (simgs_cons (simg_name (by decide)) simgs_nil))) (tgw_tup (tgw_cons (tgw_name (by decide)) (tgw_cons (tgw_name (by decide)) tgw_nil mono_name mono_nil) mono_name (mono_cons mono_name mono_nil))) (mono_tup (mono_cons mono_name (mono_cons mono_name mono_nil))) sim_yes (sim_tup (sim_acons (sim_op o2_add (sim_c (v := .str "a") (rp_lit (l := [97]) (by decide +kernel))) sim_var (by decide)) (sim_acons sim_var sim_anil)) (by decide)))))) sim_next)
      (sim_ret sim_mov))))⟩
    exact (pss_cons (ps_set (i := 1) sc__law_places.nd rfl (by first | exact Or.inl rfl | exact Or.inr rfl) (pe_lst (pa_cons (pe_tup (pa_cons pe_str (pa_cons (pv 0) pa_nil))) pa_nil)))
      (pss_cons (ps_if (pt_cmpR (op_eqP (Room.eq hr)) (pe_ix ix_seq (pv 0) pe_int fun _ _ => rfl) pe_str (nomark _)) (pss_one (ps_expr (pe_bm PySem.F.plainAttrs_list PySem.F.slot_list_extend PySem.F.type_list_extend mt_extAll (pv 1) (pa_cons (pe_lc (own := [("place", 2), ("one", 3)]) rfl sc__law_places.nd (pi_any (pe_callS F__law_places (hr.mono (by omega)) rfl g__law_places k__law_places B__law_places (fun σ => passAt tk σ) (pa_cons (pe_ix ix_seq (pv 0) pe_int fun _ _ => rfl) pa_nil))) (blkOk_by (N := N__law_places) (sc := defScope (top 36)) (by decide +kernel)) (fun _ _ _ _ _ => (pg_tup rfl (pgs_cons (pg_name (i := 2) sc__law_places.nd rfl (by first | exact Or.inl rfl | exact Or.inr rfl)) (pgs_cons (pg_name (i := 3) sc__law_places.nd rfl (by first | exact Or.inl rfl | exact Or.inr rfl)) pgs_nil)))) (fun _ _ _ _ _ => pts_nil) (fun _ _ _ _ _ => (pe_tup (pa_cons (pe_op op_addAll pe_str (pv 2)) (pa_cons (pv 3) pa_nil))))) pa_nil)))) pss_nil)
      (pss_cons (ps_if (pt_cmpR (op_eqP (Room.eq hr)) (pe_ix ix_seq (pv 0) pe_int fun _ _ => rfl) pe_str (nomark _)) (pss_cons (ps_expr (pe_bm PySem.F.plainAttrs_list PySem.F.slot_list_extend PySem.F.type_list_extend mt_extAll (pv 1) (pa_cons (pe_lc (own := [("place", 2), ("one", 3)]) rfl sc__law_places.nd (pi_any (pe_callS F__law_places (hr.mono (by omega)) rfl g__law_places k__law_places B__law_places (fun σ => passAt tk σ) (pa_cons (pe_ix ix_seq (pv 0) pe_int fun _ _ => rfl) pa_nil))) (blkOk_by (N := N__law_places) (sc := defScope (top 36)) (by decide +kernel)) (fun _ _ _ _ _ => (pg_tup rfl (pgs_cons (pg_name (i := 2) sc__law_places.nd rfl (by first | exact Or.inl rfl | exact Or.inr rfl)) (pgs_cons (pg_name (i := 3) sc__law_places.nd rfl (by first | exact Or.inl rfl | exact Or.inr rfl)) pgs_nil)))) (fun _ _ _ _ _ => pts_nil) (fun _ _ _ _ _ => (pe_tup (pa_cons (pe_op op_addAll pe_str (pv 2)) (pa_cons (pv 3) pa_nil))))) pa_nil)))
      (pss_one (ps_expr (pe_bm PySem.F.plainAttrs_list PySem.F.slot_list_extend PySem.F.type_list_extend mt_extAll (pv 1) (pa_cons (pe_lc (own := [("place", 2), ("one", 3)]) rfl sc__law_places.nd (pi_any (pe_callS F__law_places (hr.mono (by omega)) rfl g__law_places k__law_places B__law_places (fun σ => passAt tk σ) (pa_cons (pe_ix ix_seq (pv 0) pe_int fun _ _ => rfl) pa_nil))) (blkOk_by (N := N__law_places) (sc := defScope (top 36)) (by decide +kernel)) (fun _ _ _ _ _ => (pg_tup rfl (pgs_cons (pg_name (i := 2) sc__law_places.nd rfl (by first | exact Or.inl rfl | exact Or.inr rfl)) (pgs_cons (pg_name (i := 3) sc__law_places.nd rfl (by first | exact Or.inl rfl | exact Or.inr rfl)) pgs_nil)))) (fun _ _ _ _ _ => pts_nil) (fun _ _ _ _ _ => (pe_tup (pa_cons (pe_op op_addAll pe_str (pv 2)) (pa_cons (pv 3) pa_nil))))) pa_nil))))) pss_nil)
      (pss_one (ps_ret (pv 1))))))
theorem ok__law_places (C : Cxt K mg)    : Okf P w K mg base 111 "_law_places" (top 36) ["term"] (spV K (s__law_places 110)) := okn__law_places C  110

theorem sc__law_with : FnScope N__law_with ["term", "place", "other"] (defScope (top 37)) := ⟨rfl, rfl, rfl, by decide +kernel, rfl, by decide +kernel, by decide +kernel⟩
theorem okn__law_with (C : Cxt K mg)    : ∀ n, Okf P w K mg base (1 + n) "_law_with" (top 37) ["term", "place", "other"] (spV K (s__law_with n))
  | 0 => by
    obtain ⟨fd__law_with, D__law_with⟩ := C.fn 24 (x := "_law_with") (st := (top 37))
    have B__law_with : Binds K fd__law_with ["term", "place", "other"] [] := D__law_with.bindsN fun _ _ _ _ _ _ us hl => match us, hl with | [_, _, _], _ => rfl
    exact ⟨⟨fd__law_with, D__law_with, B__law_with, noV no__law_with⟩, C.glo 42⟩
  | n + 1 => by
    have O__law_with := okn__law_with C  n
    obtain ⟨fd__law_with, D__law_with, B__law_with, F__law_with⟩ := O__law_with.ex
    have k__law_with := D__law_with.kp
    have g__law_with := O__law_with.gm
    refine ⟨?_, C.glo 42⟩
    refine ⟨fd__law_with, D__law_with, B__law_with, fnV (k := 1 + n) (sp := s__law_with (n + 1)) (p := b__law_with n) D__law_with sc__law_with (by decide) (len__law_with (n + 1)) (fun cdv A outer s H E hr => ?_) (pure__law_with n)⟩
    have tk : Takes (cxOf (L2.CX P w) P w K mg base N__law_with "_law_with" (defScope (top 37)) (He.ga K "_law_with") cdv A outer s H E) (fun cls d _ H => E cls d H) := takes_of rfl rfl rfl rfl
    refine ⟨_, ?_, (sim_seq (sim_if (sim_test (sim_op o2_eq sim_var (sim_c (v := .str "") (rp_lit (l := []) (by decide +kernel))) (by decide))) (sim_ret sim_var) sim_next)
      (sim_seq (sim_if (sim_test (sim_op o2_eq (sim_op o2_ix sim_var (sim_c (v := .int (0)) fun _ => rp_int) (by decide)) (sim_c (v := .str "b") (rp_lit (l := [98]) (by decide +kernel))) (by decide))) (sim_ret (sim_tup (sim_acons (sim_c (v := .str "lam") (rp_lit (l := [108, 97, 109]) (by decide +kernel))) (sim_acons (sim_op o2_ix sim_var (sim_c (v := .int (1)) fun _ => rp_int) (by decide)) (sim_acons (sim_give (sim_callV (sim_acons (sim_op o2_ix sim_var (sim_c (v := .int (2)) fun _ => rp_int) (by decide)) (sim_acons (sim_give (sim_sl os_sl sim_var (sim_part (sim_c (v := .int (1)) fun _ => rp_int)) sim_noPart (by decide))) (sim_acons sim_var sim_anil))))) sim_anil))) (by decide))) sim_next)
      (sim_seq (sim_if (sim_test (sim_op o2_eq (sim_op o2_ix sim_var (sim_c (v := .int (0)) fun _ => rp_int) (by decide)) (sim_c (v := .str "f") (rp_lit (l := [102]) (by decide +kernel))) (by decide))) (sim_ret (sim_tup (sim_acons (sim_c (v := .str "app") (rp_lit (l := [97, 112, 112]) (by decide +kernel))) (sim_acons (sim_give (sim_callV (sim_acons (sim_op o2_ix sim_var (sim_c (v := .int (1)) fun _ => rp_int) (by decide)) (sim_acons (sim_give (sim_sl os_sl sim_var (sim_part (sim_c (v := .int (1)) fun _ => rp_int)) sim_noPart (by decide))) (sim_acons sim_var sim_anil))))) (sim_acons (sim_op o2_ix sim_var (sim_c (v := .int (2)) fun _ => rp_int) (by decide)) sim_anil))) (by decide))) sim_next)
      (sim_ret (sim_tup (sim_acons (sim_c (v := .str "app") (rp_lit (l := [97, 112, 112]) (by decide +kernel))) (sim_acons (sim_op o2_ix sim_var (sim_c (v := .int (1)) fun _ => rp_int) (by decide)) (sim_acons (sim_give (sim_callV (sim_acons (sim_op o2_ix sim_var (sim_c (v := .int (2)) fun _ => rp_int) (by decide)) (sim_acons (sim_give (sim_sl os_sl sim_var (sim_part (sim_c (v := .int (1)) fun _ => rp_int)) sim_noPart (by decide))) (sim_acons sim_var sim_anil))))) sim_anil))) (by decide))))))⟩
    exact (pss_cons (ps_if (pt_cmpR (op_eqP (Room.eq hr)) (pv 1) pe_str (nomark _)) (pss_one (ps_ret (pv 2))) pss_nil)
      (pss_cons (ps_if (pt_cmpR (op_eqP (Room.eq hr)) (pe_ix ix_seq (pv 1) pe_int fun _ _ => rfl) pe_str (nomark _)) (pss_one (ps_ret (pe_tup (pa_cons pe_str (pa_cons (pe_ix ix_seq (pv 0) pe_int fun _ _ => rfl) (pa_cons (pe_callS F__law_with (hr.mono (by omega)) rfl g__law_with k__law_with B__law_with (fun σ => passAt tk σ) (pa_cons (pe_ix ix_seq (pv 0) pe_int fun _ _ => rfl) (pa_cons (pe_slice sl_all (pv 1) (po_some pe_int) po_none) (pa_cons (pv 2) pa_nil)))) pa_nil)))))) pss_nil)
      (pss_cons (ps_if (pt_cmpR (op_eqP (Room.eq hr)) (pe_ix ix_seq (pv 1) pe_int fun _ _ => rfl) pe_str (nomark _)) (pss_one (ps_ret (pe_tup (pa_cons pe_str (pa_cons (pe_callS F__law_with (hr.mono (by omega)) rfl g__law_with k__law_with B__law_with (fun σ => passAt tk σ) (pa_cons (pe_ix ix_seq (pv 0) pe_int fun _ _ => rfl) (pa_cons (pe_slice sl_all (pv 1) (po_some pe_int) po_none) (pa_cons (pv 2) pa_nil)))) (pa_cons (pe_ix ix_seq (pv 0) pe_int fun _ _ => rfl) pa_nil)))))) pss_nil)
      (pss_one (ps_ret (pe_tup (pa_cons pe_str (pa_cons (pe_ix ix_seq (pv 0) pe_int fun _ _ => rfl) (pa_cons (pe_callS F__law_with (hr.mono (by omega)) rfl g__law_with k__law_with B__law_with (fun σ => passAt tk σ) (pa_cons (pe_ix ix_seq (pv 0) pe_int fun _ _ => rfl) (pa_cons (pe_slice sl_all (pv 1) (po_some pe_int) po_none) (pa_cons (pv 2) pa_nil)))) pa_nil)))))))))
theorem ok__law_with (C : Cxt K mg)    : Okf P w K mg base 111 "_law_with" (top 37) ["term", "place", "other"] (spV K (s__law_with 110)) := okn__law_with C  110

theorem sc__law_told : FnScope N__law_told ["which", "args", "named"] (defScope (top 38)) := ⟨rfl, rfl, rfl, by decide +kernel, rfl, by decide +kernel, by decide +kernel⟩
theorem ok__law_told (C : Cxt K mg) (O_part : Okf P w K mg base 7 "part" (top 24) ["term", "place"] (spV K s_part)) (O_with_part : Okf P w K mg base 7 "with_part" (top 25) ["term", "place", "other"] (spV K s_with_part)) (O_places : Okf P w K mg base 7 "places" (top 26) ["term"] (spV K s_places)) (X_InvalidPlace : Okx P w K mg base "InvalidPlace" "given") (M_InvalidPlace : ExM K ["InvalidPlace"] "InvalidPlace") : Okf P w K mg base 8 "_law_told" (top 38) ["which", "args", "named"] (spV K s__law_told) := by
  obtain ⟨fd_part, D_part, B_part, F_part⟩ := O_part.ex
  have k_part := D_part.kp
  have g_part := O_part.gm
  obtain ⟨fd_with_part, D_with_part, B_with_part, F_with_part⟩ := O_with_part.ex
  have k_with_part := D_with_part.kp
  have g_with_part := O_with_part.gm
  obtain ⟨fd_places, D_places, B_places, F_places⟩ := O_places.ex
  have k_places := D_places.kp
  have g_places := O_places.gm
  have kb_part_1_0 := kbD (ps := ["term", "place"]) (ks := ["place", "term"]) (idx := [1, 0]) D_part fun _ _ _ _ _ _ us hl => match us, hl with | [_, _], _ => rfl
  have kb_places_0 := kbD (ps := ["term"]) (ks := ["term"]) (idx := [0]) D_places fun _ _ _ _ _ _ us hl => match us, hl with | [_], _ => rfl
  have kb_with_part_2_1_0 := kbD (ps := ["term", "place", "other"]) (ks := ["other", "place", "term"]) (idx := [2, 1, 0]) D_with_part fun _ _ _ _ _ _ us hl => match us, hl with | [_, _, _], _ => rfl
  obtain ⟨T_InvalidPlace, fI_InvalidPlace, bI_InvalidPlace, I_InvalidPlace, g_InvalidPlace⟩ := X_InvalidPlace
  obtain ⟨fd__law_told, D__law_told⟩ := C.fn 25 (x := "_law_told") (st := (top 38))
  have B__law_told : Binds K fd__law_told ["which", "args", "named"] [] := D__law_told.bindsN fun _ _ _ _ _ _ us hl => match us, hl with | [_, _, _], _ => rfl
  refine ⟨?_, C.glo 43⟩
  refine ⟨fd__law_told, D__law_told, B__law_told, fnV (k := 7) (sp := s__law_told) (p := b__law_told) D__law_told sc__law_told (by decide) len__law_told (fun cdv A outer s H E hr => ?_) pure__law_told⟩
  have tk : Takes (cxOf (L2.CX P w) P w K mg base N__law_told "_law_told" (defScope (top 38)) (He.ga K "_law_told") cdv A outer s H E) (fun cls d _ H => E cls d H) := takes_of rfl rfl rfl rfl
  refine ⟨_, ?_, (sim_try_as2 (L := ["InvalidPlace"]) (c := "InvalidPlace") M_InvalidPlace (by decide) (fun W => (sim_seq (sim_if (sim_test (sim_op o2_eq sim_var (sim_c (v := .int (0)) fun _ => rp_int) (by decide))) (sim_ret (sim_lst (sim_lcons (sim_c (v := .str "told") (rp_lit (l := [116, 111, 108, 100]) (by decide +kernel))) (sim_lcons (sim_ifE (sim_B sim_var) (sim_callVK (sim_acons (sim_op o2_ix sim_var (sim_c (v := .int (0)) fun _ => rp_int) (by decide)) sim_anil)) (sim_callV (sim_acons (sim_op o2_ix sim_var (sim_c (v := .int (0)) fun _ => rp_int) (by decide)) sim_anil))) sim_lnil)) (by decide))) sim_next)
    (sim_seq (sim_if (sim_test (sim_op o2_eq sim_var (sim_c (v := .int (1)) fun _ => rp_int) (by decide))) (sim_ret (sim_lst (sim_lcons (sim_c (v := .str "told") (rp_lit (l := [116, 111, 108, 100]) (by decide +kernel))) (sim_lcons (sim_ifE (sim_B sim_var) (sim_callVK (sim_acons (sim_op o2_ix sim_var (sim_c (v := .int (1)) fun _ => rp_int) (by decide)) (sim_acons (sim_op o2_ix sim_var (sim_c (v := .int (0)) fun _ => rp_int) (by decide)) sim_anil))) (sim_callV (sim_acons (sim_op o2_ix sim_var (sim_c (v := .int (0)) fun _ => rp_int) (by decide)) (sim_acons (sim_op o2_ix sim_var (sim_c (v := .int (1)) fun _ => rp_int) (by decide)) sim_anil)))) sim_lnil)) (by decide))) sim_next)
    (sim_ret (sim_lst (sim_lcons (sim_c (v := .str "told") (rp_lit (l := [116, 111, 108, 100]) (by decide +kernel))) (sim_lcons (sim_ifE (sim_B sim_var) (sim_callVK (sim_acons (sim_op o2_ix sim_var (sim_c (v := .int (2)) fun _ => rp_int) (by decide)) (sim_acons (sim_op o2_ix sim_var (sim_c (v := .int (1)) fun _ => rp_int) (by decide)) (sim_acons (sim_op o2_ix sim_var (sim_c (v := .int (0)) fun _ => rp_int) (by decide)) sim_anil)))) (sim_callV (sim_acons (sim_op o2_ix sim_var (sim_c (v := .int (0)) fun _ => rp_int) (by decide)) (sim_acons (sim_op o2_ix sim_var (sim_c (v := .int (1)) fun _ => rp_int) (by decide)) (sim_acons (sim_op o2_ix sim_var (sim_c (v := .int (2)) fun _ => rp_int) (by decide)) sim_anil))))) sim_lnil)) (by decide)))))) (fun a cls dd d e1 e2 => (sim_ret (sim_lst (sim_lcons (sim_c (v := .str "place") (rp_lit (l := [112, 108, 97, 99, 101]) (by decide +kernel))) (sim_lcons (sim_xf2 e1 e2) sim_lnil)) (by decide)))))⟩
  exact (pss_one (ps_try2 (i := 3) rfl rfl sc__law_told.nd rfl rfl ⟨rfl, by decide, .inl g_InvalidPlace⟩ tk (fun W pn xe tk po => (pss_cons (ps_if (pt_cmpR (op_eqP (Room.eq hr)) (pv 0) pe_int (nomark _)) (pss_one (ps_ret (pe_lst (pa_cons pe_str (pa_cons (pe_ifExp (pt_val (pv 2)) (pe_callKS (idx := [0]) F_places (hr.mono (by omega)) rfl g_places k_places kb_places_0 (fun σ => passAt tk σ) (pk_cons (pe_ix ix_seq (pv 1) pe_int fun _ _ => rfl) pk_nil)) (pe_callS F_places (hr.mono (by omega)) rfl g_places k_places B_places (fun σ => passAt tk σ) (pa_cons (pe_ix ix_seq (pv 1) pe_int fun _ _ => rfl) pa_nil))) pa_nil))))) pss_nil)
    (pss_cons (ps_if (pt_cmpR (op_eqP (Room.eq hr)) (pv 0) pe_int (nomark _)) (pss_one (ps_ret (pe_lst (pa_cons pe_str (pa_cons (pe_ifExp (pt_val (pv 2)) (pe_callKS (idx := [1, 0]) F_part (hr.mono (by omega)) rfl g_part k_part kb_part_1_0 (fun σ => passAt tk σ) (pk_cons (pe_ix ix_seq (pv 1) pe_int fun _ _ => rfl) (pk_cons (pe_ix ix_seq (pv 1) pe_int fun _ _ => rfl) pk_nil))) (pe_callS F_part (hr.mono (by omega)) rfl g_part k_part B_part (fun σ => passAt tk σ) (pa_cons (pe_ix ix_seq (pv 1) pe_int fun _ _ => rfl) (pa_cons (pe_ix ix_seq (pv 1) pe_int fun _ _ => rfl) pa_nil)))) pa_nil))))) pss_nil)
    (pss_one (ps_ret (pe_lst (pa_cons pe_str (pa_cons (pe_ifExp (pt_val (pv 2)) (pe_callKS (idx := [2, 1, 0]) F_with_part (hr.mono (by omega)) rfl g_with_part k_with_part kb_with_part_2_1_0 (fun σ => passAt tk σ) (pk_cons (pe_ix ix_seq (pv 1) pe_int fun _ _ => rfl) (pk_cons (pe_ix ix_seq (pv 1) pe_int fun _ _ => rfl) (pk_cons (pe_ix ix_seq (pv 1) pe_int fun _ _ => rfl) pk_nil)))) (pe_callS F_with_part (hr.mono (by omega)) rfl g_with_part k_with_part B_with_part (fun σ => passAt tk σ) (pa_cons (pe_ix ix_seq (pv 1) pe_int fun _ _ => rfl) (pa_cons (pe_ix ix_seq (pv 1) pe_int fun _ _ => rfl) (pa_cons (pe_ix ix_seq (pv 1) pe_int fun _ _ => rfl) pa_nil))))) pa_nil)))))))) (fun a oe cls d pn hz hf => (pss_one (ps_ret (pe_lst (pa_cons pe_str (pa_cons (pe_xf T_InvalidPlace.xf T_InvalidPlace.no hz hf (pv 3)) pa_nil))))))))

theorem sc__law_places_right : FnScope N__law_places_right ["term", "named"] (defScope (top 39)) := ⟨rfl, rfl, rfl, by decide +kernel, rfl, by decide +kernel, by decide +kernel⟩
theorem ok__law_places_right (C : Cxt K mg) (O__law_same : Okf P w K mg base 111 "_law_same" (top 31) ["told", "due"] (spV K (s__law_same 110))) (O__law_places : Okf P w K mg base 111 "_law_places" (top 36) ["term"] (spV K (s__law_places 110))) (O__law_told : Okf P w K mg base 8 "_law_told" (top 38) ["which", "args", "named"] (spV K s__law_told))   : Okf P w K mg base 112 "_law_places_right" (top 39) ["term", "named"] (spV K s__law_places_right) := by
  have m_range := C.free 14 (x := "range")
  obtain ⟨fd__law_same, D__law_same, B__law_same, F__law_same⟩ := O__law_same.ex
  have k__law_same := D__law_same.kp
  have g__law_same := O__law_same.gm
  obtain ⟨fd__law_places, D__law_places, B__law_places, F__law_places⟩ := O__law_places.ex
  have k__law_places := D__law_places.kp
  have g__law_places := O__law_places.gm
  obtain ⟨fd__law_told, D__law_told, B__law_told, F__law_told⟩ := O__law_told.ex
  have k__law_told := D__law_told.kp
  have g__law_told := O__law_told.gm
  obtain ⟨fd__law_places_right, D__law_places_right⟩ := C.fn 26 (x := "_law_places_right") (st := (top 39))
  have B__law_places_right : Binds K fd__law_places_right ["term", "named"] [] := D__law_places_right.bindsN fun _ _ _ _ _ _ us hl => match us, hl with | [_, _], _ => rfl
  refine ⟨?_, C.glo 44⟩
  refine ⟨fd__law_places_right, D__law_places_right, B__law_places_right, fnV (k := 111) (sp := s__law_places_right) (p := b__law_places_right) D__law_places_right sc__law_places_right (by decide) len__law_places_right (fun cdv A outer s H E hr => ?_) pure__law_places_right⟩
  have tk : Takes (cxOf (L2.CX P w) P w K mg base N__law_places_right "_law_places_right" (defScope (top 39)) (He.ga K "_law_places_right") cdv A outer s H E) (fun cls d _ H => E cls d H) := takes_of rfl rfl rfl rfl
  refine ⟨_, ?_, (sim_seq (sim_asg (sim_give (sim_lc (sim_iany (sim_give (sim_callV (sim_acons sim_var sim_anil)))) (simg_tup (simgs_cons (simg_name (by decide)) (simgs_cons (simg_name (by decide)) simgs_nil))) (tgw_tup (tgw_cons (tgw_name (by decide)) (tgw_cons (tgw_name (by decide)) tgw_nil mono_name mono_nil) mono_name (mono_cons mono_name mono_nil))) (mono_tup (mono_cons mono_name (mono_cons mono_name mono_nil))) sim_yes sim_var)) (simg_name (by decide)))
    (sim_seq (sim_for (sim_rng1 (sim_c (v := .int (2)) fun _ => rp_int)) (simg_name (by decide)) (sim_seq (sim_asg (sim_callV (sim_acons (sim_c (v := .int (0)) fun _ => rp_int) (sim_acons (sim_give (sim_lst (sim_lcons sim_var sim_lnil) (by decide))) (sim_acons sim_var sim_anil)))) (simg_name (by decide)))
    (sim_seq (sim_if (sim_notT (sim_B (sim_callB (sim_bcons sim_bor (sim_bcons (sim_lst (sim_lcons (sim_c (v := .str "told") (rp_lit (l := [116, 111, 108, 100]) (by decide +kernel))) (sim_lcons sim_var sim_lnil)) (by decide)) sim_bnil (by decide)) (by decide))))) (sim_ret (sim_c (v := .bl false) fun _ => rp_bl)) sim_next)
    (sim_seq (sim_drop (sim_append2 (j := 1) (sim_c (v := .str "more") (rp_lit (l := [109, 111, 114, 101]) (by decide +kernel)))))
    (sim_seq (sim_drop (sim_reverse2 (j := 1)))
    (sim_asg (sim_notV sim_var) (simg_name (by decide))))))))
    (sim_ret (sim_c (v := .bl true) fun _ => rp_bl))))⟩
  exact (pss_cons (ps_setLc (own := [("place", 3), ("one", 4)]) (i := 2) rfl sc__law_places_right.nd rfl rfl (sw_true rfl rfl rfl (by decide +kernel)) (pi_any (pe_callS F__law_places (hr.mono (by omega)) rfl g__law_places k__law_places B__law_places (fun σ => passAt tk σ) (pa_cons (pv 0) pa_nil))) (blkOk_by (N := N__law_places_right) (sc := defScope (top 39)) (by decide +kernel)) (fun _ _ _ _ _ => (pg_tup rfl (pgs_cons (pg_name (i := 3) sc__law_places_right.nd rfl (by first | exact Or.inl rfl | exact Or.inr rfl)) (pgs_cons (pg_name (i := 4) sc__law_places_right.nd rfl (by first | exact Or.inl rfl | exact Or.inr rfl)) pgs_nil)))) (fun _ _ _ _ _ => pts_nil) (fun _ _ _ _ _ => (pv 3)))
    (pss_cons (ps_for (passes_of rfl) rfl (pi_range1 rfl m_range (pa_cons pe_int pa_nil)) (pg_name (i := 5) sc__law_places_right.nd rfl (by first | exact Or.inl rfl | exact Or.inr rfl)) (pss_cons (ps_set (i := 6) sc__law_places_right.nd rfl (by first | exact Or.inl rfl | exact Or.inr rfl) (pe_callS F__law_told (hr.mono (by omega)) rfl g__law_told k__law_told B__law_told (fun σ => passAt tk σ) (pa_cons pe_int (pa_cons (pe_lst (pa_cons (pv 0) pa_nil)) (pa_cons (pv 1) pa_nil)))))
    (pss_cons (ps_if (pt_not (pt_val (pe_callS F__law_same (hr.mono (by omega)) rfl g__law_same k__law_same B__law_same (fun σ => passAt tk σ) (pa_cons (pv 6) (pa_cons (pe_lst (pa_cons pe_str (pa_cons (pv 2) pa_nil))) pa_nil))))) (pss_one (ps_ret pe_bl)) pss_nil)
    (pss_cons (ps_expr (pe_bm PySem.F.plainAttrs_list PySem.F.slot_list_append PySem.F.type_list_append mt_append (pe_ix ix_seq (pv 6) pe_int fun _ _ => rfl) (pa_cons pe_str pa_nil)))
    (pss_cons (ps_expr (pe_bm0 PySem.F.plainAttrs_list PySem.F.slot_list_reverse PySem.F.type_list_reverse mt_reverse (pe_ix ix_seq (pv 6) pe_int fun _ _ => rfl)))
    (pss_one (ps_set (i := 1) sc__law_places_right.nd rfl (by first | exact Or.inl rfl | exact Or.inr rfl) (pe_not (pv 1)))))))))
    (pss_one (ps_ret pe_bl))))

theorem sc__law_bound_at : FnScope N__law_bound_at ["term", "place"] (defScope (top 40)) := ⟨rfl, rfl, rfl, by decide +kernel, rfl, by decide +kernel, by decide +kernel⟩
theorem ok__law_bound_at (C : Cxt K mg)    : Okf P w K mg base 2 "_law_bound_at" (top 40) ["term", "place"] (spV K s__law_bound_at) := by
  obtain ⟨fd__law_bound_at, D__law_bound_at⟩ := C.fn 27 (x := "_law_bound_at") (st := (top 40))
  have B__law_bound_at : Binds K fd__law_bound_at ["term", "place"] [] := D__law_bound_at.bindsN fun _ _ _ _ _ _ us hl => match us, hl with | [_, _], _ => rfl
  refine ⟨?_, C.glo 45⟩
  refine ⟨fd__law_bound_at, D__law_bound_at, B__law_bound_at, fnV (k := 1) (sp := s__law_bound_at) (p := b__law_bound_at) D__law_bound_at sc__law_bound_at (by decide) len__law_bound_at (fun cdv A outer s H E hr => ?_) pure__law_bound_at⟩
  have tk : Takes (cxOf (L2.CX P w) P w K mg base N__law_bound_at "_law_bound_at" (defScope (top 40)) (He.ga K "_law_bound_at") cdv A outer s H E) (fun cls d _ H => E cls d H) := takes_of rfl rfl rfl rfl
  refine ⟨_, ?_, (sim_seq (sim_par (sim_lcons (sim_give (sim_lst sim_lnil (by decide))) (sim_lcons sim_var sim_lnil)) (by decide) (by decide))
    (sim_seq (sim_for (sim_iany sim_var) (simg_name (by decide)) (sim_seq (sim_asg (sim_give (sim_op o2_add sim_var (sim_ifE (sim_test (sim_op o2_eq sim_var (sim_c (v := .str "b") (rp_lit (l := [98]) (by decide +kernel))) (by decide))) (sim_lst (sim_lcons (sim_op o2_ix sim_var (sim_c (v := .int (1)) fun _ => rp_int) (by decide)) sim_lnil) (by decide)) (sim_lst sim_lnil (by decide))) (by decide))) (simg_name (by decide)))
    (sim_asg (sim_ifE (sim_test (sim_op o2_in sim_var (sim_c (v := .str "ba") (rp_lit (l := [98, 97]) (by decide +kernel))) (by decide))) (sim_op o2_ix sim_var (sim_c (v := .int (2)) fun _ => rp_int) (by decide)) (sim_op o2_ix sim_var (sim_c (v := .int (1)) fun _ => rp_int) (by decide))) (simg_name (by decide)))))
    (sim_ret sim_var)))⟩
  exact (pss_cons (ps_par rfl sc__law_bound_at.nd rfl rfl (by decide) rfl rfl (pa_cons (pe_lst pa_nil) (pa_cons (pv 0) pa_nil)) rfl)
    (pss_cons (ps_for (passes_of rfl) rfl (pi_any (pv 1)) (pg_name (i := 4) sc__law_bound_at.nd rfl (by first | exact Or.inl rfl | exact Or.inr rfl)) (pss_cons (ps_set (i := 2) sc__law_bound_at.nd rfl (by first | exact Or.inl rfl | exact Or.inr rfl) (pe_op op_addAll (pv 2) (pe_ifExp (pt_cmpR (op_eqP (Room.eq hr)) (pv 4) pe_str (nomark _)) (pe_lst (pa_cons (pe_ix ix_seq (pv 3) pe_int fun _ _ => rfl) pa_nil)) (pe_lst pa_nil))))
    (pss_one (ps_set (i := 3) sc__law_bound_at.nd rfl (by first | exact Or.inl rfl | exact Or.inr rfl) (pe_ifExp (pt_cmpR (op_inAll (Room.eq hr)) (pv 4) pe_str rfl) (pe_ix ix_seq (pv 3) pe_int fun _ _ => rfl) (pe_ix ix_seq (pv 3) pe_int fun _ _ => rfl))))))
    (pss_one (ps_ret (pv 2)))))

theorem sc__law_put_right : FnScope N__law_put_right ["box", "term", "place", "here", "named"] (defScope (top 41)) := ⟨rfl, rfl, rfl, by decide +kernel, rfl, by decide +kernel, by decide +kernel⟩
theorem ok__law_put_right (C : Cxt K mg) (O__law_same : Okf P w K mg base 111 "_law_same" (top 31) ["told", "due"] (spV K (s__law_same 110))) (O__law_pick : Okf P w K mg base 3 "_law_pick" (top 32) ["box", "items"] (spM K s__law_pick)) (O__law_nested : Okf P w K mg base 46 "_law_nested" (top 35) ["box", "size"] (spM K s__law_nested)) (O__law_places : Okf P w K mg base 111 "_law_places" (top 36) ["term"] (spV K (s__law_places 110))) (O__law_with : Okf P w K mg base 111 "_law_with" (top 37) ["term", "place", "other"] (spV K (s__law_with 110))) (O__law_told : Okf P w K mg base 8 "_law_told" (top 38) ["which", "args", "named"] (spV K s__law_told)) (O__law_places_right : Okf P w K mg base 112 "_law_places_right" (top 39) ["term", "named"] (spV K s__law_places_right)) (O__law_bound_at : Okf P w K mg base 2 "_law_bound_at" (top 40) ["term", "place"] (spV K s__law_bound_at))   : Okf P w K mg base 113 "_law_put_right" (top 41) ["box", "term", "place", "here", "named"] (spM K s__law_put_right) := by
  obtain ⟨fd__law_same, D__law_same, B__law_same, F__law_same⟩ := O__law_same.ex
  have k__law_same := D__law_same.kp
  have g__law_same := O__law_same.gm
  obtain ⟨fd__law_pick, D__law_pick, B__law_pick, F__law_pick⟩ := O__law_pick.ex
  have k__law_pick := D__law_pick.kp
  have g__law_pick := O__law_pick.gm
  obtain ⟨fd__law_nested, D__law_nested, B__law_nested, F__law_nested⟩ := O__law_nested.ex
  have k__law_nested := D__law_nested.kp
  have g__law_nested := O__law_nested.gm
  obtain ⟨fd__law_places, D__law_places, B__law_places, F__law_places⟩ := O__law_places.ex
  have k__law_places := D__law_places.kp
  have g__law_places := O__law_places.gm
  obtain ⟨fd__law_with, D__law_with, B__law_with, F__law_with⟩ := O__law_with.ex
  have k__law_with := D__law_with.kp
  have g__law_with := O__law_with.gm
  obtain ⟨fd__law_told, D__law_told, B__law_told, F__law_told⟩ := O__law_told.ex
  have k__law_told := D__law_told.kp
  have g__law_told := O__law_told.gm
  obtain ⟨fd__law_places_right, D__law_places_right, B__law_places_right, F__law_places_right⟩ := O__law_places_right.ex
  have k__law_places_right := D__law_places_right.kp
  have g__law_places_right := O__law_places_right.gm
  obtain ⟨fd__law_bound_at, D__law_bound_at, B__law_bound_at, F__law_bound_at⟩ := O__law_bound_at.ex
  have k__law_bound_at := D__law_bound_at.kp
  have g__law_bound_at := O__law_bound_at.gm
  obtain ⟨fd__law_put_right, D__law_put_right⟩ := C.fn 28 (x := "_law_put_right") (st := (top 41))
  have B__law_put_right : Binds K fd__law_put_right ["box", "term", "place", "here", "named"] [] := D__law_put_right.bindsN fun _ _ _ _ _ _ us hl => match us, hl with | [_, _, _, _, _], _ => rfl
  refine ⟨?_, C.glo 46⟩
  refine ⟨fd__law_put_right, D__law_put_right, B__law_put_right, fnM (k := 112) (sp := s__law_put_right) (p := b__law_put_right) D__law_put_right sc__law_put_right (by decide) len__law_put_right (fun cdv A outer s H E hr => ?_) pure__law_put_right⟩
  have tk : Takes (cxOf (L2.CX P w) P w K mg base N__law_put_right "_law_put_right" (defScope (top 41)) (He.ga K "_law_put_right") cdv A outer s H E) (fun cls d _ H => E cls d H) := takes_of rfl rfl rfl rfl
  refine ⟨_, ?_, (sim_seq (sim_asg (sim_give (sim_callV (sim_acons sim_var (sim_acons sim_var sim_anil)))) (simg_name (by decide)))
    (sim_seq (sim_asg (sim_give (sim_callM (sim_acons (sim_give (sim_lst (sim_lcons (sim_tup (sim_acons (sim_c (v := .str "var") (rp_lit (l := [118, 97, 114]) (by decide +kernel))) (sim_acons (sim_give (sim_callM (sim_acons (sim_give (sim_op o2_add sim_var (sim_lst (sim_lcons (sim_c (v := .str "x") (rp_lit (l := [120]) (by decide +kernel))) sim_lnil) (by decide)) (by decide))) sim_anil))) sim_anil)) (by decide)) (sim_lcons sim_var (sim_lcons (sim_tup (sim_acons (sim_c (v := .str "lam") (rp_lit (l := [108, 97, 109]) (by decide +kernel))) (sim_acons (sim_c (v := .str "x") (rp_lit (l := [120]) (by decide +kernel))) (sim_acons sim_var sim_anil))) (by decide)) (sim_lcons (sim_tup (sim_acons (sim_c (v := .str "app") (rp_lit (l := [97, 112, 112]) (by decide +kernel))) (sim_acons sim_var (sim_acons (sim_tup (sim_acons (sim_c (v := .str "var") (rp_lit (l := [118, 97, 114]) (by decide +kernel))) (sim_acons (sim_give (sim_callM (sim_acons (sim_give (sim_op o2_add sim_var (sim_lst (sim_lcons (sim_c (v := .str "y") (rp_lit (l := [121]) (by decide +kernel))) sim_lnil) (by decide)) (by decide))) sim_anil))) sim_anil)) (by decide)) sim_anil))) (by decide)) (sim_lcons (sim_callM (sim_acons (sim_c (v := .int (5)) fun _ => rp_int) sim_anil)) sim_lnil))))) (by decide))) sim_anil))) (simg_name (by decide)))
    (sim_seq (sim_asg (sim_give (sim_callV (sim_acons sim_var (sim_acons sim_var (sim_acons sim_var sim_anil))))) (simg_name (by decide)))
    (sim_seq (sim_asg (sim_give (sim_lst (sim_lcons (sim_callV (sim_acons (sim_c (v := .int (1)) fun _ => rp_int) (sim_acons (sim_give (sim_lst (sim_lcons sim_var (sim_lcons sim_var sim_lnil)) (by decide))) (sim_acons sim_var sim_anil)))) (sim_lcons (sim_callV (sim_acons (sim_c (v := .int (2)) fun _ => rp_int) (sim_acons (sim_give (sim_lst (sim_lcons sim_var (sim_lcons sim_var (sim_lcons sim_var sim_lnil))) (by decide))) (sim_acons (sim_notV sim_var) sim_anil)))) (sim_lcons (sim_callV (sim_acons (sim_c (v := .int (2)) fun _ => rp_int) (sim_acons (sim_give (sim_lst (sim_lcons sim_var (sim_lcons sim_var (sim_lcons sim_var sim_lnil))) (by decide))) (sim_acons sim_var sim_anil)))) sim_lnil))) (by decide))) (simg_name (by decide)))
    (sim_seq (sim_if (sim_notT (sim_B (sim_callV (sim_acons sim_var (sim_acons (sim_give (sim_lst (sim_lcons (sim_lst (sim_lcons (sim_c (v := .str "told") (rp_lit (l := [116, 111, 108, 100]) (by decide +kernel))) (sim_lcons sim_var sim_lnil)) (by decide)) (sim_lcons (sim_lst (sim_lcons (sim_c (v := .str "told") (rp_lit (l := [116, 111, 108, 100]) (by decide +kernel))) (sim_lcons sim_var sim_lnil)) (by decide)) (sim_lcons (sim_lst (sim_lcons (sim_c (v := .str "told") (rp_lit (l := [116, 111, 108, 100]) (by decide +kernel))) (sim_lcons sim_var sim_lnil)) (by decide)) sim_lnil))) (by decide))) sim_anil))))) (sim_ret (sim_c (v := .bl false) fun _ => rp_bl)) sim_next)
    (sim_seq (sim_asg (sim_give (sim_lst (sim_lcons (sim_callV (sim_acons (sim_c (v := .int (1)) fun _ => rp_int) (sim_acons (sim_give (sim_lst (sim_lcons sim_var (sim_lcons sim_var sim_lnil)) (by decide))) (sim_acons sim_var sim_anil)))) (sim_lcons (sim_callV (sim_acons (sim_c (v := .int (2)) fun _ => rp_int) (sim_acons (sim_give (sim_lst (sim_lcons sim_var (sim_lcons sim_var (sim_lcons sim_var sim_lnil))) (by decide))) (sim_acons (sim_notV sim_var) sim_anil)))) sim_lnil)) (by decide))) (simg_name (by decide)))
    (sim_seq (sim_if (sim_or (sim_notT (sim_B (sim_callV (sim_acons sim_var (sim_acons (sim_give (sim_lst (sim_lcons (sim_lst (sim_lcons (sim_c (v := .str "told") (rp_lit (l := [116, 111, 108, 100]) (by decide +kernel))) (sim_lcons sim_var sim_lnil)) (by decide)) (sim_lcons (sim_lst (sim_lcons (sim_c (v := .str "told") (rp_lit (l := [116, 111, 108, 100]) (by decide +kernel))) (sim_lcons sim_var sim_lnil)) (by decide)) sim_lnil)) (by decide))) sim_anil))))) (sim_notT (sim_B (sim_callV (sim_acons sim_var (sim_acons sim_var sim_anil)))))) (sim_ret (sim_c (v := .bl false) fun _ => rp_bl)) sim_next)
    (sim_seq (sim_asg (sim_give (sim_lc (sim_iany (sim_give (sim_callV (sim_acons sim_var sim_anil)))) (simg_name (by decide)) (tgw_name (by decide)) mono_name sim_yes (sim_op o2_ix sim_var (sim_c (v := .int (0)) fun _ => rp_int) (by decide)))) (simg_name (by decide)))
    (sim_seq (sim_asg (sim_give (sim_callM (sim_acons sim_var sim_anil))) (simg_name (by decide)))
    (sim_seq (sim_asg (sim_give (sim_callV (sim_acons (sim_c (v := .int (2)) fun _ => rp_int) (sim_acons (sim_give (sim_lst (sim_lcons sim_var (sim_lcons sim_var (sim_lcons sim_var sim_lnil))) (by decide))) (sim_acons sim_var sim_anil))))) (simg_name (by decide)))
    (sim_seq (sim_asg (sim_give (sim_callV (sim_acons sim_var (sim_acons (sim_give (sim_op o2_add sim_var sim_var (by decide))) (sim_acons sim_var sim_anil))))) (simg_name (by decide)))
    (sim_ret (sim_andV (sim_op o2_eq (sim_op o2_ix sim_var (sim_c (v := .int (0)) fun _ => rp_int) (by decide)) (sim_c (v := .str "told") (rp_lit (l := [116, 111, 108, 100]) (by decide +kernel))) (by decide)) (sim_callV (sim_acons (sim_give (sim_lst (sim_lcons (sim_callV (sim_acons (sim_c (v := .int (2)) fun _ => rp_int) (sim_acons (sim_give (sim_lst (sim_lcons sim_var (sim_lcons sim_var (sim_lcons (sim_op o2_ix sim_var (sim_c (v := .int (1)) fun _ => rp_int) (by decide)) sim_lnil))) (by decide))) (sim_acons (sim_notV sim_var) sim_anil)))) (sim_lcons (sim_callV (sim_acons (sim_c (v := .int (2)) fun _ => rp_int) (sim_acons (sim_give (sim_lst (sim_lcons sim_var (sim_lcons (sim_op o2_add sim_var sim_var (by decide)) (sim_lcons sim_var sim_lnil))) (by decide))) (sim_acons sim_var sim_anil)))) sim_lnil)) (by decide))) (sim_acons (sim_give (sim_op o2_mul (sim_lst (sim_lcons (sim_give (sim_lst (sim_lcons (sim_c (v := .str "told") (rp_lit (l := [116, 111, 108, 100]) (by decide +kernel))) (sim_lcons sim_var sim_lnil)) (by decide))) sim_lnil) (by decide)) (sim_c (v := .int (2)) fun _ => rp_int) (by decide))) sim_anil))))))))))))))))⟩
  exact (pss_cons (ps_set (i := 5) sc__law_put_right.nd rfl (by first | exact Or.inl rfl | exact Or.inr rfl) (pe_callS F__law_bound_at (hr.mono (by omega)) rfl g__law_bound_at k__law_bound_at B__law_bound_at (fun σ => passAt tk σ) (pa_cons (pv 1) (pa_cons (pv 2) pa_nil))))
    (pss_cons (ps_set (i := 6) sc__law_put_right.nd rfl (by first | exact Or.inl rfl | exact Or.inr rfl) (pe_callS F__law_pick (hr.mono (by omega)) rfl g__law_pick k__law_pick B__law_pick (fun σ => passAt tk σ) (pa_cons (pv 0) (pa_cons (pe_lst (pa_cons (pe_tup (pa_cons pe_str (pa_cons (pe_callS F__law_pick (hr.mono (by omega)) rfl g__law_pick k__law_pick B__law_pick (fun σ => passAt tk σ) (pa_cons (pv 0) (pa_cons (pe_op op_addAll (pv 5) (pe_lst (pa_cons pe_str pa_nil))) pa_nil))) pa_nil))) (pa_cons (pv 3) (pa_cons (pe_tup (pa_cons pe_str (pa_cons pe_str (pa_cons (pv 3) pa_nil)))) (pa_cons (pe_tup (pa_cons pe_str (pa_cons (pv 3) (pa_cons (pe_tup (pa_cons pe_str (pa_cons (pe_callS F__law_pick (hr.mono (by omega)) rfl g__law_pick k__law_pick B__law_pick (fun σ => passAt tk σ) (pa_cons (pv 0) (pa_cons (pe_op op_addAll (pv 5) (pe_lst (pa_cons pe_str pa_nil))) pa_nil))) pa_nil))) pa_nil)))) (pa_cons (pe_callS F__law_nested (hr.mono (by omega)) rfl g__law_nested k__law_nested B__law_nested (fun σ => passAt tk σ) (pa_cons (pv 0) (pa_cons pe_int pa_nil))) pa_nil)))))) pa_nil))))
    (pss_cons (ps_set (i := 7) sc__law_put_right.nd rfl (by first | exact Or.inl rfl | exact Or.inr rfl) (pe_callS F__law_with (hr.mono (by omega)) rfl g__law_with k__law_with B__law_with (fun σ => passAt tk σ) (pa_cons (pv 1) (pa_cons (pv 2) (pa_cons (pv 6) pa_nil)))))
    (pss_cons (ps_set (i := 8) sc__law_put_right.nd rfl (by first | exact Or.inl rfl | exact Or.inr rfl) (pe_lst (pa_cons (pe_callS F__law_told (hr.mono (by omega)) rfl g__law_told k__law_told B__law_told (fun σ => passAt tk σ) (pa_cons pe_int (pa_cons (pe_lst (pa_cons (pv 1) (pa_cons (pv 2) pa_nil))) (pa_cons (pv 4) pa_nil)))) (pa_cons (pe_callS F__law_told (hr.mono (by omega)) rfl g__law_told k__law_told B__law_told (fun σ => passAt tk σ) (pa_cons pe_int (pa_cons (pe_lst (pa_cons (pv 1) (pa_cons (pv 2) (pa_cons (pv 6) pa_nil)))) (pa_cons (pe_not (pv 4)) pa_nil)))) (pa_cons (pe_callS F__law_told (hr.mono (by omega)) rfl g__law_told k__law_told B__law_told (fun σ => passAt tk σ) (pa_cons pe_int (pa_cons (pe_lst (pa_cons (pv 1) (pa_cons (pv 2) (pa_cons (pv 3) pa_nil)))) (pa_cons (pv 4) pa_nil)))) pa_nil)))))
    (pss_cons (ps_if (pt_not (pt_val (pe_callS F__law_same (hr.mono (by omega)) rfl g__law_same k__law_same B__law_same (fun σ => passAt tk σ) (pa_cons (pv 8) (pa_cons (pe_lst (pa_cons (pe_lst (pa_cons pe_str (pa_cons (pv 3) pa_nil))) (pa_cons (pe_lst (pa_cons pe_str (pa_cons (pv 7) pa_nil))) (pa_cons (pe_lst (pa_cons pe_str (pa_cons (pv 1) pa_nil))) pa_nil)))) pa_nil))))) (pss_one (ps_ret pe_bl)) pss_nil)
    (pss_cons (ps_set (i := 9) sc__law_put_right.nd rfl (by first | exact Or.inl rfl | exact Or.inr rfl) (pe_lst (pa_cons (pe_callS F__law_told (hr.mono (by omega)) rfl g__law_told k__law_told B__law_told (fun σ => passAt tk σ) (pa_cons pe_int (pa_cons (pe_lst (pa_cons (pv 7) (pa_cons (pv 2) pa_nil))) (pa_cons (pv 4) pa_nil)))) (pa_cons (pe_callS F__law_told (hr.mono (by omega)) rfl g__law_told k__law_told B__law_told (fun σ => passAt tk σ) (pa_cons pe_int (pa_cons (pe_lst (pa_cons (pv 7) (pa_cons (pv 2) (pa_cons (pv 3) pa_nil)))) (pa_cons (pe_not (pv 4)) pa_nil)))) pa_nil))))
    (pss_cons (ps_if (PW.pt (pw_or (pt_not (pt_val (pe_callS F__law_same (hr.mono (by omega)) rfl g__law_same k__law_same B__law_same (fun σ => passAt tk σ) (pa_cons (pv 9) (pa_cons (pe_lst (pa_cons (pe_lst (pa_cons pe_str (pa_cons (pv 6) pa_nil))) (pa_cons (pe_lst (pa_cons pe_str (pa_cons (pv 1) pa_nil))) pa_nil))) pa_nil))))) (pw_or1 (pt_not (pt_val (pe_callS F__law_places_right (hr.mono (by omega)) rfl g__law_places_right k__law_places_right B__law_places_right (fun σ => passAt tk σ) (pa_cons (pv 7) (pa_cons (pv 4) pa_nil)))))))) (pss_one (ps_ret pe_bl)) pss_nil)
    (pss_cons (ps_setLc (own := [("one", 11)]) (i := 10) rfl sc__law_put_right.nd rfl rfl (sw_true rfl rfl rfl (by decide +kernel)) (pi_any (pe_callS F__law_places (hr.mono (by omega)) rfl g__law_places k__law_places B__law_places (fun σ => passAt tk σ) (pa_cons (pv 3) pa_nil))) (blkOk_by (N := N__law_put_right) (sc := defScope (top 41)) (by decide +kernel)) (fun _ _ _ _ _ => (pg_name (i := 11) sc__law_put_right.nd rfl (by first | exact Or.inl rfl | exact Or.inr rfl))) (fun _ _ _ _ _ => pts_nil) (fun _ _ _ _ _ => (pe_ix ix_seq (pv 11) pe_int fun _ _ => rfl)))
    (pss_cons (ps_set (i := 12) sc__law_put_right.nd rfl (by first | exact Or.inl rfl | exact Or.inr rfl) (pe_callS F__law_pick (hr.mono (by omega)) rfl g__law_pick k__law_pick B__law_pick (fun σ => passAt tk σ) (pa_cons (pv 0) (pa_cons (pv 10) pa_nil))))
    (pss_cons (ps_set (i := 13) sc__law_put_right.nd rfl (by first | exact Or.inl rfl | exact Or.inr rfl) (pe_callS F__law_told (hr.mono (by omega)) rfl g__law_told k__law_told B__law_told (fun σ => passAt tk σ) (pa_cons pe_int (pa_cons (pe_lst (pa_cons (pv 3) (pa_cons (pv 12) (pa_cons (pv 6) pa_nil)))) (pa_cons (pv 4) pa_nil)))))
    (pss_cons (ps_set (i := 14) sc__law_put_right.nd rfl (by first | exact Or.inl rfl | exact Or.inr rfl) (pe_callS F__law_with (hr.mono (by omega)) rfl g__law_with k__law_with B__law_with (fun σ => passAt tk σ) (pa_cons (pv 1) (pa_cons (pe_op op_addAll (pv 2) (pv 12)) (pa_cons (pv 6) pa_nil)))))
    (pss_one (ps_ret (pe_and (pe_cmpR (op_eqP (Room.eq hr)) (pe_ix ix_seq (pv 13) pe_int fun _ _ => rfl) pe_str (nomark _)) (pe_one (pe_callS F__law_same (hr.mono (by omega)) rfl g__law_same k__law_same B__law_same (fun σ => passAt tk σ) (pa_cons (pe_lst (pa_cons (pe_callS F__law_told (hr.mono (by omega)) rfl g__law_told k__law_told B__law_told (fun σ => passAt tk σ) (pa_cons pe_int (pa_cons (pe_lst (pa_cons (pv 1) (pa_cons (pv 2) (pa_cons (pe_ix ix_seq (pv 13) pe_int fun _ _ => rfl) pa_nil)))) (pa_cons (pe_not (pv 4)) pa_nil)))) (pa_cons (pe_callS F__law_told (hr.mono (by omega)) rfl g__law_told k__law_told B__law_told (fun σ => passAt tk σ) (pa_cons pe_int (pa_cons (pe_lst (pa_cons (pv 1) (pa_cons (pe_op op_addAll (pv 2) (pv 12)) (pa_cons (pv 6) pa_nil)))) (pa_cons (pv 4) pa_nil)))) pa_nil))) (pa_cons (pe_op op_mulAll (pe_lst (pa_cons (pe_lst (pa_cons pe_str (pa_cons (pv 14) pa_nil))) pa_nil)) pe_int) pa_nil))))))))))))))))))

theorem sc__law_two_right : FnScope N__law_two_right ["box", "term", "rows", "named"] (defScope (top 42)) := ⟨rfl, rfl, rfl, by decide +kernel, rfl, by decide +kernel, by decide +kernel⟩
theorem ok__law_two_right (C : Cxt K mg) (O__law_same : Okf P w K mg base 111 "_law_same" (top 31) ["told", "due"] (spV K (s__law_same 110))) (O__law_pick : Okf P w K mg base 3 "_law_pick" (top 32) ["box", "items"] (spM K s__law_pick)) (O__law_nested : Okf P w K mg base 46 "_law_nested" (top 35) ["box", "size"] (spM K s__law_nested)) (O__law_with : Okf P w K mg base 111 "_law_with" (top 37) ["term", "place", "other"] (spV K (s__law_with 110))) (O__law_told : Okf P w K mg base 8 "_law_told" (top 38) ["which", "args", "named"] (spV K s__law_told))   : Okf P w K mg base 112 "_law_two_right" (top 42) ["box", "term", "rows", "named"] (spM K s__law_two_right) := by
  have m_len := C.free 2 (x := "len")
  obtain ⟨fd__law_same, D__law_same, B__law_same, F__law_same⟩ := O__law_same.ex
  have k__law_same := D__law_same.kp
  have g__law_same := O__law_same.gm
  obtain ⟨fd__law_pick, D__law_pick, B__law_pick, F__law_pick⟩ := O__law_pick.ex
  have k__law_pick := D__law_pick.kp
  have g__law_pick := O__law_pick.gm
  obtain ⟨fd__law_nested, D__law_nested, B__law_nested, F__law_nested⟩ := O__law_nested.ex
  have k__law_nested := D__law_nested.kp
  have g__law_nested := O__law_nested.gm
  obtain ⟨fd__law_with, D__law_with, B__law_with, F__law_with⟩ := O__law_with.ex
  have k__law_with := D__law_with.kp
  have g__law_with := O__law_with.gm
  obtain ⟨fd__law_told, D__law_told, B__law_told, F__law_told⟩ := O__law_told.ex
  have k__law_told := D__law_told.kp
  have g__law_told := O__law_told.gm
  obtain ⟨fd__law_two_right, D__law_two_right⟩ := C.fn 29 (x := "_law_two_right") (st := (top 42))
  have B__law_two_right : Binds K fd__law_two_right ["box", "term", "rows", "named"] [] := D__law_two_right.bindsN fun _ _ _ _ _ _ us hl => match us, hl with | [_, _, _, _], _ => rfl
  refine ⟨?_, C.glo 47⟩
  refine ⟨fd__law_two_right, D__law_two_right, B__law_two_right, fnM (k := 111) (sp := s__law_two_right) (p := b__law_two_right) D__law_two_right sc__law_two_right (by decide) len__law_two_right (fun cdv A outer s H E hr => ?_) pure__law_two_right⟩
  have tk : Takes (cxOf (L2.CX P w) P w K mg base N__law_two_right "_law_two_right" (defScope (top 42)) (He.ga K "_law_two_right") cdv A outer s H E) (fun cls d _ H => E cls d H) := takes_of rfl rfl rfl rfl
  refine ⟨_, ?_, (sim_seq (sim_par (sim_lcons (sim_op o2_ix (sim_give (sim_callM (sim_acons sim_var sim_anil))) (sim_c (v := .int (0)) fun _ => rp_int) (by decide)) (sim_lcons (sim_op o2_ix (sim_give (sim_callM (sim_acons sim_var sim_anil))) (sim_c (v := .int (0)) fun _ => rp_int) (by decide)) sim_lnil)) (by decide) (by decide))
    (sim_seq (sim_if (sim_or (sim_test (sim_op o2_eq (sim_sl os_sl sim_var sim_noPart (sim_part (sim_c1 oc_len sim_var)) (by decide)) sim_var (by decide))) (sim_test (sim_op o2_eq (sim_sl os_sl sim_var sim_noPart (sim_part (sim_c1 oc_len sim_var)) (by decide)) sim_var (by decide)))) (sim_ret (sim_c (v := .bl true) fun _ => rp_bl)) sim_next)
    (sim_seq (sim_par (sim_lcons (sim_give (sim_callM (sim_acons (sim_c (v := .int (4)) fun _ => rp_int) sim_anil))) (sim_lcons (sim_tup (sim_acons (sim_c (v := .str "var") (rp_lit (l := [118, 97, 114]) (by decide +kernel))) (sim_acons (sim_give (sim_callM (sim_acons (sim_give (sim_lst (sim_lcons (sim_c (v := .str "x") (rp_lit (l := [120]) (by decide +kernel))) (sim_lcons (sim_c (v := .str "y") (rp_lit (l := [121]) (by decide +kernel))) (sim_lcons (sim_c (v := .str "zz") (rp_lit (l := [122, 122]) (by decide +kernel))) sim_lnil))) (by decide))) sim_anil))) sim_anil)) (by decide)) sim_lnil)) (by decide) (by decide))
    (sim_seq (sim_asg (sim_give (sim_callV (sim_acons (sim_give (sim_callV (sim_acons sim_var (sim_acons sim_var (sim_acons sim_var sim_anil))))) (sim_acons sim_var (sim_acons sim_var sim_anil))))) (simg_name (by decide)))
    (sim_seq (sim_asg (sim_give (sim_lst (sim_lcons (sim_callV (sim_acons (sim_c (v := .int (2)) fun _ => rp_int) (sim_acons (sim_give (sim_lst (sim_lcons (sim_op o2_ix (sim_give (sim_callV (sim_acons (sim_c (v := .int (2)) fun _ => rp_int) (sim_acons (sim_give (sim_lst (sim_lcons sim_var (sim_lcons sim_var (sim_lcons sim_var sim_lnil))) (by decide))) (sim_acons sim_var sim_anil))))) (sim_c (v := .int (1)) fun _ => rp_int) (by decide)) (sim_lcons sim_var (sim_lcons sim_var sim_lnil))) (by decide))) (sim_acons (sim_notV sim_var) sim_anil)))) (sim_lcons (sim_callV (sim_acons (sim_c (v := .int (2)) fun _ => rp_int) (sim_acons (sim_give (sim_lst (sim_lcons (sim_op o2_ix (sim_give (sim_callV (sim_acons (sim_c (v := .int (2)) fun _ => rp_int) (sim_acons (sim_give (sim_lst (sim_lcons sim_var (sim_lcons sim_var (sim_lcons sim_var sim_lnil))) (by decide))) (sim_acons sim_var sim_anil))))) (sim_c (v := .int (1)) fun _ => rp_int) (by decide)) (sim_lcons sim_var (sim_lcons sim_var sim_lnil))) (by decide))) (sim_acons sim_var sim_anil)))) sim_lnil)) (by decide))) (simg_name (by decide)))
    (sim_ret (sim_callV (sim_acons sim_var (sim_acons (sim_give (sim_op o2_mul (sim_lst (sim_lcons (sim_give (sim_lst (sim_lcons (sim_c (v := .str "told") (rp_lit (l := [116, 111, 108, 100]) (by decide +kernel))) (sim_lcons sim_var sim_lnil)) (by decide))) sim_lnil) (by decide)) (sim_c (v := .int (2)) fun _ => rp_int) (by decide))) sim_anil)))))))))⟩
  exact (pss_cons (ps_par rfl sc__law_two_right.nd rfl rfl (by decide) rfl rfl (pa_cons (pe_ix ix_seq (pe_callS F__law_pick (hr.mono (by omega)) rfl g__law_pick k__law_pick B__law_pick (fun σ => passAt tk σ) (pa_cons (pv 0) (pa_cons (pv 2) pa_nil))) pe_int fun _ _ => rfl) (pa_cons (pe_ix ix_seq (pe_callS F__law_pick (hr.mono (by omega)) rfl g__law_pick k__law_pick B__law_pick (fun σ => passAt tk σ) (pa_cons (pv 0) (pa_cons (pv 2) pa_nil))) pe_int fun _ _ => rfl) pa_nil)) rfl)
    (pss_cons (ps_if (PW.pt (pw_or (pt_cmpR (op_eqP (Room.eq hr)) (pe_slice sl_all (pv 4) po_none (po_some (pe_callB call_lenAll rfl m_len boot_len (pa_cons (pv 5) pa_nil)))) (pv 5) (nomark _)) (pw_or1 (pt_cmpR (op_eqP (Room.eq hr)) (pe_slice sl_all (pv 5) po_none (po_some (pe_callB call_lenAll rfl m_len boot_len (pa_cons (pv 4) pa_nil)))) (pv 4) (nomark _))))) (pss_one (ps_ret pe_bl)) pss_nil)
    (pss_cons (ps_par rfl sc__law_two_right.nd rfl rfl (by decide) rfl rfl (pa_cons (pe_callS F__law_nested (hr.mono (by omega)) rfl g__law_nested k__law_nested B__law_nested (fun σ => passAt tk σ) (pa_cons (pv 0) (pa_cons pe_int pa_nil))) (pa_cons (pe_tup (pa_cons pe_str (pa_cons (pe_callS F__law_pick (hr.mono (by omega)) rfl g__law_pick k__law_pick B__law_pick (fun σ => passAt tk σ) (pa_cons (pv 0) (pa_cons (pe_lst (pa_cons pe_str (pa_cons pe_str (pa_cons pe_str pa_nil)))) pa_nil))) pa_nil))) pa_nil)) rfl)
    (pss_cons (ps_set (i := 8) sc__law_two_right.nd rfl (by first | exact Or.inl rfl | exact Or.inr rfl) (pe_callS F__law_with (hr.mono (by omega)) rfl g__law_with k__law_with B__law_with (fun σ => passAt tk σ) (pa_cons (pe_callS F__law_with (hr.mono (by omega)) rfl g__law_with k__law_with B__law_with (fun σ => passAt tk σ) (pa_cons (pv 1) (pa_cons (pv 4) (pa_cons (pv 6) pa_nil)))) (pa_cons (pv 5) (pa_cons (pv 7) pa_nil)))))
    (pss_cons (ps_set (i := 9) sc__law_two_right.nd rfl (by first | exact Or.inl rfl | exact Or.inr rfl) (pe_lst (pa_cons (pe_callS F__law_told (hr.mono (by omega)) rfl g__law_told k__law_told B__law_told (fun σ => passAt tk σ) (pa_cons pe_int (pa_cons (pe_lst (pa_cons (pe_ix ix_seq (pe_callS F__law_told (hr.mono (by omega)) rfl g__law_told k__law_told B__law_told (fun σ => passAt tk σ) (pa_cons pe_int (pa_cons (pe_lst (pa_cons (pv 1) (pa_cons (pv 4) (pa_cons (pv 6) pa_nil)))) (pa_cons (pv 3) pa_nil)))) pe_int fun _ _ => rfl) (pa_cons (pv 5) (pa_cons (pv 7) pa_nil)))) (pa_cons (pe_not (pv 3)) pa_nil)))) (pa_cons (pe_callS F__law_told (hr.mono (by omega)) rfl g__law_told k__law_told B__law_told (fun σ => passAt tk σ) (pa_cons pe_int (pa_cons (pe_lst (pa_cons (pe_ix ix_seq (pe_callS F__law_told (hr.mono (by omega)) rfl g__law_told k__law_told B__law_told (fun σ => passAt tk σ) (pa_cons pe_int (pa_cons (pe_lst (pa_cons (pv 1) (pa_cons (pv 5) (pa_cons (pv 7) pa_nil)))) (pa_cons (pv 3) pa_nil)))) pe_int fun _ _ => rfl) (pa_cons (pv 4) (pa_cons (pv 6) pa_nil)))) (pa_cons (pv 3) pa_nil)))) pa_nil))))
    (pss_one (ps_ret (pe_callS F__law_same (hr.mono (by omega)) rfl g__law_same k__law_same B__law_same (fun σ => passAt tk σ) (pa_cons (pv 9) (pa_cons (pe_op op_mulAll (pe_lst (pa_cons (pe_lst (pa_cons pe_str (pa_cons (pv 8) pa_nil))) pa_nil)) pe_int) pa_nil))))))))))

theorem sc__law_none_right : FnScope N__law_none_right ["box", "term", "rows", "named"] (defScope (top 43)) := ⟨rfl, rfl, rfl, by decide +kernel, rfl, by decide +kernel, by decide +kernel⟩
theorem ok__law_none_right (C : Cxt K mg) (O__law_take : Okf P w K mg base 2 "_law_take" (top 30) ["box", "many"] (spM K s__law_take)) (O__law_same : Okf P w K mg base 111 "_law_same" (top 31) ["told", "due"] (spV K (s__law_same 110))) (O__law_pick : Okf P w K mg base 3 "_law_pick" (top 32) ["box", "items"] (spM K s__law_pick)) (O__law_told : Okf P w K mg base 8 "_law_told" (top 38) ["which", "args", "named"] (spV K s__law_told))   : Okf P w K mg base 112 "_law_none_right" (top 43) ["box", "term", "rows", "named"] (spM K s__law_none_right) := by
  have m_range := C.free 14 (x := "range")
  obtain ⟨fd__law_take, D__law_take, B__law_take, F__law_take⟩ := O__law_take.ex
  have k__law_take := D__law_take.kp
  have g__law_take := O__law_take.gm
  obtain ⟨fd__law_same, D__law_same, B__law_same, F__law_same⟩ := O__law_same.ex
  have k__law_same := D__law_same.kp
  have g__law_same := O__law_same.gm
  obtain ⟨fd__law_pick, D__law_pick, B__law_pick, F__law_pick⟩ := O__law_pick.ex
  have k__law_pick := D__law_pick.kp
  have g__law_pick := O__law_pick.gm
  obtain ⟨fd__law_told, D__law_told, B__law_told, F__law_told⟩ := O__law_told.ex
  have k__law_told := D__law_told.kp
  have g__law_told := O__law_told.gm
  obtain ⟨fd__law_none_right, D__law_none_right⟩ := C.fn 30 (x := "_law_none_right") (st := (top 43))
  have B__law_none_right : Binds K fd__law_none_right ["box", "term", "rows", "named"] [] := D__law_none_right.bindsN fun _ _ _ _ _ _ us hl => match us, hl with | [_, _, _, _], _ => rfl
  refine ⟨?_, C.glo 48⟩
  refine ⟨fd__law_none_right, D__law_none_right, B__law_none_right, fnM (k := 111) (sp := s__law_none_right) (p := b__law_none_right) D__law_none_right sc__law_none_right (by decide) len__law_none_right (fun cdv A outer s H E hr => ?_) pure__law_none_right⟩
  have tk : Takes (cxOf (L2.CX P w) P w K mg base N__law_none_right "_law_none_right" (defScope (top 43)) (He.ga K "_law_none_right") cdv A outer s H E) (fun cls d _ H => E cls d H) := takes_of rfl rfl rfl rfl
  refine ⟨_, ?_, (sim_seq (sim_asg (sim_give (sim_lc (sim_iany sim_var) (simg_tup (simgs_cons (simg_name (by decide)) (simgs_cons (simg_name (by decide)) simgs_nil))) (tgw_tup (tgw_cons (tgw_name (by decide)) (tgw_cons (tgw_name (by decide)) tgw_nil mono_name mono_nil) mono_name (mono_cons mono_name mono_nil))) (mono_tup (mono_cons mono_name (mono_cons mono_name mono_nil))) sim_yes sim_var)) (simg_name (by decide)))
    (sim_seq (sim_for (sim_rng1 (sim_c (v := .int (4)) fun _ => rp_int)) (simg_name (by decide)) (sim_seq (sim_asg (sim_give (sim_op o2_add (sim_callM (sim_acons sim_var sim_anil)) (sim_callM (sim_acons (sim_give (sim_lst (sim_lcons (sim_c (v := .str "b") (rp_lit (l := [98]) (by decide +kernel))) (sim_lcons (sim_c (v := .str "f") (rp_lit (l := [102]) (by decide +kernel))) (sim_lcons (sim_c (v := .str "a") (rp_lit (l := [97]) (by decide +kernel))) (sim_lcons (sim_c (v := .str "bb") (rp_lit (l := [98, 98]) (by decide +kernel))) (sim_lcons (sim_c (v := .str "fa") (rp_lit (l := [102, 97]) (by decide +kernel))) (sim_lcons (sim_c (v := .str "c") (rp_lit (l := [99]) (by decide +kernel))) (sim_lcons (sim_c (v := .str "B") (rp_lit (l := [66]) (by decide +kernel))) (sim_lcons (sim_c (v := .str " ") (rp_lit (l := [32]) (by decide +kernel))) sim_lnil)))))))) (by decide))) sim_anil)) (by decide))) (simg_name (by decide)))
    (sim_seq (sim_asg (sim_give (sim_ifE (sim_test (sim_op o2_gt (sim_callM (sim_acons (sim_c (v := .int (3)) fun _ => rp_int) sim_anil)) (sim_c (v := .int (0)) fun _ => rp_int) (by decide))) sim_var (sim_op o2_add (sim_sl os_sl sim_var (sim_part (sim_c (v := .int (1)) fun _ => rp_int)) sim_noPart (by decide)) (sim_sl os_sl sim_var sim_noPart (sim_part (sim_c (v := .int (1)) fun _ => rp_int)) (by decide)) (by decide)))) (simg_name (by decide)))
    (sim_for (sim_iany (sim_tup (sim_acons (sim_tup (sim_acons (sim_c (v := .int (1)) fun _ => rp_int) (sim_acons (sim_give (sim_lst (sim_lcons sim_var (sim_lcons sim_var sim_lnil)) (by decide))) sim_anil)) (by decide)) (sim_acons (sim_tup (sim_acons (sim_c (v := .int (2)) fun _ => rp_int) (sim_acons (sim_give (sim_lst (sim_lcons sim_var (sim_lcons sim_var (sim_lcons (sim_tup (sim_acons (sim_c (v := .str "var") (rp_lit (l := [118, 97, 114]) (by decide +kernel))) (sim_acons (sim_c (v := .str "x") (rp_lit (l := [120]) (by decide +kernel))) sim_anil)) (by decide)) sim_lnil))) (by decide))) sim_anil)) (by decide)) sim_anil)) (by decide))) (simg_tup (simgs_cons (simg_name (by decide)) (simgs_cons (simg_name (by decide)) simgs_nil))) (sim_seq (sim_asg (sim_give (sim_callV (sim_acons sim_var (sim_acons sim_var (sim_acons sim_var sim_anil))))) (simg_name (by decide)))
    (sim_seq (sim_if (sim_or (sim_and (sim_test (sim_op o2_in sim_var sim_var (by decide))) (sim_test (sim_op o2_ne (sim_op o2_ix sim_var (sim_c (v := .int (0)) fun _ => rp_int) (by decide)) (sim_c (v := .str "told") (rp_lit (l := [116, 111, 108, 100]) (by decide +kernel))) (by decide)))) (sim_and (sim_test (sim_op o2_nin sim_var sim_var (by decide))) (sim_notT (sim_B (sim_callV (sim_acons sim_var (sim_acons (sim_give (sim_lst (sim_lcons (sim_c (v := .str "place") (rp_lit (l := [112, 108, 97, 99, 101]) (by decide +kernel))) (sim_lcons sim_var sim_lnil)) (by decide))) sim_anil))))))) (sim_ret (sim_c (v := .bl false) fun _ => rp_bl)) sim_next)
    (sim_asg (sim_notV sim_var) (simg_name (by decide)))))))))
    (sim_ret (sim_c (v := .bl true) fun _ => rp_bl))))⟩
  exact (pss_cons (ps_setLc (own := [("place", 5), ("one", 6)]) (i := 4) rfl sc__law_none_right.nd rfl rfl (sw_true rfl rfl rfl (by decide +kernel)) (pi_any (pv 2)) (blkOk_by (N := N__law_none_right) (sc := defScope (top 43)) (by decide +kernel)) (fun _ _ _ _ _ => (pg_tup rfl (pgs_cons (pg_name (i := 5) sc__law_none_right.nd rfl (by first | exact Or.inl rfl | exact Or.inr rfl)) (pgs_cons (pg_name (i := 6) sc__law_none_right.nd rfl (by first | exact Or.inl rfl | exact Or.inr rfl)) pgs_nil)))) (fun _ _ _ _ _ => pts_nil) (fun _ _ _ _ _ => (pv 5)))
    (pss_cons (ps_for (passes_of rfl) rfl (pi_range1 rfl m_range (pa_cons pe_int pa_nil)) (pg_name (i := 7) sc__law_none_right.nd rfl (by first | exact Or.inl rfl | exact Or.inr rfl)) (pss_cons (ps_set (i := 8) sc__law_none_right.nd rfl (by first | exact Or.inl rfl | exact Or.inr rfl) (pe_op op_addAll (pe_callS F__law_pick (hr.mono (by omega)) rfl g__law_pick k__law_pick B__law_pick (fun σ => passAt tk σ) (pa_cons (pv 0) (pa_cons (pv 4) pa_nil))) (pe_callS F__law_pick (hr.mono (by omega)) rfl g__law_pick k__law_pick B__law_pick (fun σ => passAt tk σ) (pa_cons (pv 0) (pa_cons (pe_lst (pa_cons pe_str (pa_cons pe_str (pa_cons pe_str (pa_cons pe_str (pa_cons pe_str (pa_cons pe_str (pa_cons pe_str (pa_cons pe_str pa_nil))))))))) pa_nil)))))
    (pss_cons (ps_set (i := 8) sc__law_none_right.nd rfl (by first | exact Or.inl rfl | exact Or.inr rfl) (pe_ifExp (pt_cmpR (op_gt) (pe_callS F__law_take (hr.mono (by omega)) rfl g__law_take k__law_take B__law_take (fun σ => passAt tk σ) (pa_cons (pv 0) (pa_cons pe_int pa_nil))) pe_int (nomark _)) (pv 8) (pe_op op_addAll (pe_slice sl_all (pv 8) (po_some pe_int) po_none) (pe_slice sl_all (pv 8) po_none (po_some pe_int)))))
    (pss_one (ps_for (passes_of rfl) rfl (pi_any (pe_tup (pa_cons (pe_tup (pa_cons pe_int (pa_cons (pe_lst (pa_cons (pv 1) (pa_cons (pv 8) pa_nil))) pa_nil))) (pa_cons (pe_tup (pa_cons pe_int (pa_cons (pe_lst (pa_cons (pv 1) (pa_cons (pv 8) (pa_cons (pe_tup (pa_cons pe_str (pa_cons pe_str pa_nil))) pa_nil)))) pa_nil))) pa_nil)))) (pg_tup rfl (pgs_cons (pg_name (i := 9) sc__law_none_right.nd rfl (by first | exact Or.inl rfl | exact Or.inr rfl)) (pgs_cons (pg_name (i := 10) sc__law_none_right.nd rfl (by first | exact Or.inl rfl | exact Or.inr rfl)) pgs_nil))) (pss_cons (ps_set (i := 11) sc__law_none_right.nd rfl (by first | exact Or.inl rfl | exact Or.inr rfl) (pe_callS F__law_told (hr.mono (by omega)) rfl g__law_told k__law_told B__law_told (fun σ => passAt tk σ) (pa_cons (pv 9) (pa_cons (pv 10) (pa_cons (pv 3) pa_nil)))))
    (pss_cons (ps_if (PW.pt (pw_or (PW.pt (pw_and (pt_cmpR (op_inAll (Room.eq hr)) (pv 8) (pv 4) rfl) (pw_and1 (pt_cmpR (op_neP (Room.eq hr)) (pe_ix ix_seq (pv 11) pe_int fun _ _ => rfl) pe_str (nomark _))))) (pw_or1 (PW.pt (pw_and (pt_cmpR (op_ninAll (Room.eq hr)) (pv 8) (pv 4) rfl) (pw_and1 (pt_not (pt_val (pe_callS F__law_same (hr.mono (by omega)) rfl g__law_same k__law_same B__law_same (fun σ => passAt tk σ) (pa_cons (pv 11) (pa_cons (pe_lst (pa_cons pe_str (pa_cons (pv 8) pa_nil))) pa_nil))))))))))) (pss_one (ps_ret pe_bl)) pss_nil)
    (pss_one (ps_set (i := 3) sc__law_none_right.nd rfl (by first | exact Or.inl rfl | exact Or.inr rfl) (pe_not (pv 3)))))))))))
    (pss_one (ps_ret pe_bl))))

theorem sc_law : FnScope N_law ["script"] (defScope (top 44)) := ⟨rfl, rfl, rfl, by decide +kernel, rfl, by decide +kernel, by decide +kernel⟩
theorem ok_law (C : Cxt K mg) (O__law_cell : Okf P w K mg base 2 "_law_cell" (top 28) ["script", "k"] (spV K s__law_cell)) (O__law_box : Okf P w K mg base 2 "_law_box" (top 29) ["great"] (spV K s__law_box)) (O__law_take : Okf P w K mg base 2 "_law_take" (top 30) ["box", "many"] (spM K s__law_take)) (O__law_pick : Okf P w K mg base 3 "_law_pick" (top 32) ["box", "items"] (spM K s__law_pick)) (O__law_mixed : Okf P w K mg base 3 "_law_mixed" (top 33) ["box", "items"] (spM K s__law_mixed)) (O__law_nested : Okf P w K mg base 46 "_law_nested" (top 35) ["box", "size"] (spM K s__law_nested)) (O__law_places : Okf P w K mg base 111 "_law_places" (top 36) ["term"] (spV K (s__law_places 110))) (O__law_places_right : Okf P w K mg base 112 "_law_places_right" (top 39) ["term", "named"] (spV K s__law_places_right)) (O__law_put_right : Okf P w K mg base 113 "_law_put_right" (top 41) ["box", "term", "place", "here", "named"] (spM K s__law_put_right)) (O__law_two_right : Okf P w K mg base 112 "_law_two_right" (top 42) ["box", "term", "rows", "named"] (spM K s__law_two_right)) (O__law_none_right : Okf P w K mg base 112 "_law_none_right" (top 43) ["box", "term", "rows", "named"] (spM K s__law_none_right))   : Okf P w K mg base 114 "law" (top 44) ["script"] (spV K s_law) := by
  have m_len := C.free 2 (x := "len")
  have m_min := C.free 16 (x := "min")
  have m_max := C.free 17 (x := "max")
  have m_range := C.free 14 (x := "range")
  obtain ⟨fd__law_cell, D__law_cell, B__law_cell, F__law_cell⟩ := O__law_cell.ex
  have k__law_cell := D__law_cell.kp
  have g__law_cell := O__law_cell.gm
  obtain ⟨fd__law_box, D__law_box, B__law_box, F__law_box⟩ := O__law_box.ex
  have k__law_box := D__law_box.kp
  have g__law_box := O__law_box.gm
  obtain ⟨fd__law_take, D__law_take, B__law_take, F__law_take⟩ := O__law_take.ex
  have k__law_take := D__law_take.kp
  have g__law_take := O__law_take.gm
  obtain ⟨fd__law_pick, D__law_pick, B__law_pick, F__law_pick⟩ := O__law_pick.ex
  have k__law_pick := D__law_pick.kp
  have g__law_pick := O__law_pick.gm
  obtain ⟨fd__law_mixed, D__law_mixed, B__law_mixed, F__law_mixed⟩ := O__law_mixed.ex
  have k__law_mixed := D__law_mixed.kp
  have g__law_mixed := O__law_mixed.gm
  obtain ⟨fd__law_nested, D__law_nested, B__law_nested, F__law_nested⟩ := O__law_nested.ex
  have k__law_nested := D__law_nested.kp
  have g__law_nested := O__law_nested.gm
  obtain ⟨fd__law_places, D__law_places, B__law_places, F__law_places⟩ := O__law_places.ex
  have k__law_places := D__law_places.kp
  have g__law_places := O__law_places.gm
  obtain ⟨fd__law_places_right, D__law_places_right, B__law_places_right, F__law_places_right⟩ := O__law_places_right.ex
  have k__law_places_right := D__law_places_right.kp
  have g__law_places_right := O__law_places_right.gm
  obtain ⟨fd__law_put_right, D__law_put_right, B__law_put_right, F__law_put_right⟩ := O__law_put_right.ex
  have k__law_put_right := D__law_put_right.kp
  have g__law_put_right := O__law_put_right.gm
  obtain ⟨fd__law_two_right, D__law_two_right, B__law_two_right, F__law_two_right⟩ := O__law_two_right.ex
  have k__law_two_right := D__law_two_right.kp
  have g__law_two_right := O__law_two_right.gm
  obtain ⟨fd__law_none_right, D__law_none_right, B__law_none_right, F__law_none_right⟩ := O__law_none_right.ex
  have k__law_none_right := D__law_none_right.kp
  have g__law_none_right := O__law_none_right.gm
  obtain ⟨fd_law, D_law⟩ := C.fn 31 (x := "law") (st := (top 44))
  have B_law : Binds K fd_law ["script"] [] := D_law.bindsN fun _ _ _ _ _ _ us hl => match us, hl with | [_], _ => rfl
  refine ⟨?_, C.glo 49⟩
  refine ⟨fd_law, D_law, B_law, fnV (k := 113) (sp := s_law) (p := b_law) D_law sc_law (by decide) len_law (fun cdv A outer s H E hr => ?_) pure_law⟩
  have tk : Takes (cxOf (L2.CX P w) P w K mg base N_law "law" (defScope (top 44)) (He.ga K "law") cdv A outer s H E) (fun cls d _ H => E cls d H) := takes_of rfl rfl rfl rfl
  refine ⟨_, ?_, (sim_seq (sim_for (sim_rng1 (sim_cn oc_max2 (sim_acons (sim_c (v := .int (2)) fun _ => rp_int) (sim_acons (sim_cn oc_min2 (sim_acons (sim_c (v := .int (3)) fun _ => rp_int) (sim_acons (sim_c1 oc_len sim_var) sim_anil))) sim_anil)))) (simg_name (by decide)) (sim_seq (sim_asg (sim_callV (sim_acons (sim_give (sim_callV (sim_acons sim_var (sim_acons sim_var sim_anil)))) sim_anil)) (simg_name (by decide)))
    (sim_seq (sim_asg (sim_op o2_eq (sim_callM (sim_acons (sim_c (v := .int (2)) fun _ => rp_int) sim_anil)) (sim_c (v := .int (0)) fun _ => rp_int) (by decide)) (simg_name (by decide)))
    (sim_for (sim_rng1 (sim_c (v := .int (4)) fun _ => rp_int)) (simg_name (by decide)) (sim_seq (sim_asg (sim_give (sim_callM (sim_acons (sim_give (sim_callM (sim_acons (sim_give (sim_lst (sim_lcons (sim_c (v := .int (3)) fun _ => rp_int) (sim_lcons (sim_c (v := .int (6)) fun _ => rp_int) (sim_lcons (sim_c (v := .int (10)) fun _ => rp_int) (sim_lcons (sim_c (v := .int (16)) fun _ => rp_int) (sim_lcons (sim_c (v := .int (24)) fun _ => rp_int) (sim_lcons (sim_c (v := .int (40)) fun _ => rp_int) sim_lnil)))))) (by decide))) sim_anil))) sim_anil))) (simg_name (by decide)))
    (sim_seq (sim_asg (sim_give (sim_callV (sim_acons sim_var sim_anil))) (simg_name (by decide)))
    (sim_seq (sim_if (sim_or (sim_notT (sim_B (sim_callV (sim_acons sim_var (sim_acons sim_var sim_anil))))) (sim_or (sim_notT (sim_B (sim_callM (sim_acons sim_var (sim_acons sim_var (sim_acons (sim_notV sim_var) sim_anil)))))) (sim_notT (sim_B (sim_callM (sim_acons sim_var (sim_acons sim_var (sim_acons sim_var sim_anil)))))))) (sim_ret (sim_c (v := .bl false) fun _ => rp_bl)) sim_next)
    (sim_for (sim_iany (sim_give (sim_sl os_sl (sim_give (sim_callM (sim_acons sim_var sim_anil))) sim_noPart (sim_part (sim_c (v := .int (4)) fun _ => rp_int)) (by decide)))) (simg_tup (simgs_cons (simg_name (by decide)) (simgs_cons (simg_name (by decide)) simgs_nil))) (sim_seq (sim_if (sim_notT (sim_B (sim_callM (sim_acons sim_var (sim_acons sim_var (sim_acons sim_var (sim_acons sim_var sim_anil))))))) (sim_ret (sim_c (v := .bl false) fun _ => rp_bl)) sim_next)
    (sim_asg (sim_notV sim_var) (simg_name (by decide))))))))))))
    (sim_ret (sim_c (v := .bl true) fun _ => rp_bl)))⟩
  exact (pss_cons (ps_for (passes_of rfl) rfl (pi_range1 rfl m_range (pa_cons (pe_callB (call_max2 rfl) rfl m_max (by decide +kernel) (pa_cons pe_int (pa_cons (pe_callB (call_min2 rfl) rfl m_min (by decide +kernel) (pa_cons pe_int (pa_cons (pe_callB call_lenAll rfl m_len boot_len (pa_cons (pv 0) pa_nil)) pa_nil))) pa_nil))) pa_nil)) (pg_name (i := 1) sc_law.nd rfl (by first | exact Or.inl rfl | exact Or.inr rfl)) (pss_cons (ps_set (i := 2) sc_law.nd rfl (by first | exact Or.inl rfl | exact Or.inr rfl) (pe_callS F__law_box (hr.mono (by omega)) rfl g__law_box k__law_box B__law_box (fun σ => passAt tk σ) (pa_cons (pe_callS F__law_cell (hr.mono (by omega)) rfl g__law_cell k__law_cell B__law_cell (fun σ => passAt tk σ) (pa_cons (pv 0) (pa_cons (pv 1) pa_nil))) pa_nil)))
    (pss_cons (ps_set (i := 3) sc_law.nd rfl (by first | exact Or.inl rfl | exact Or.inr rfl) (pe_cmpR (op_eqP (Room.eq hr)) (pe_callS F__law_take (hr.mono (by omega)) rfl g__law_take k__law_take B__law_take (fun σ => passAt tk σ) (pa_cons (pv 2) (pa_cons pe_int pa_nil))) pe_int (nomark _)))
    (pss_one (ps_for (passes_of rfl) rfl (pi_range1 rfl m_range (pa_cons pe_int pa_nil)) (pg_name (i := 4) sc_law.nd rfl (by first | exact Or.inl rfl | exact Or.inr rfl)) (pss_cons (ps_set (i := 5) sc_law.nd rfl (by first | exact Or.inl rfl | exact Or.inr rfl) (pe_callS F__law_nested (hr.mono (by omega)) rfl g__law_nested k__law_nested B__law_nested (fun σ => passAt tk σ) (pa_cons (pv 2) (pa_cons (pe_callS F__law_pick (hr.mono (by omega)) rfl g__law_pick k__law_pick B__law_pick (fun σ => passAt tk σ) (pa_cons (pv 2) (pa_cons (pe_lst (pa_cons pe_int (pa_cons pe_int (pa_cons pe_int (pa_cons pe_int (pa_cons pe_int (pa_cons pe_int pa_nil))))))) pa_nil))) pa_nil))))
    (pss_cons (ps_set (i := 6) sc_law.nd rfl (by first | exact Or.inl rfl | exact Or.inr rfl) (pe_callS F__law_places (hr.mono (by omega)) rfl g__law_places k__law_places B__law_places (fun σ => passAt tk σ) (pa_cons (pv 5) pa_nil)))
    (pss_cons (ps_if (PW.pt (pw_or (pt_not (pt_val (pe_callS F__law_places_right (hr.mono (by omega)) rfl g__law_places_right k__law_places_right B__law_places_right (fun σ => passAt tk σ) (pa_cons (pv 5) (pa_cons (pv 3) pa_nil))))) (pw_or (pt_not (pt_val (pe_callS F__law_two_right (hr.mono (by omega)) rfl g__law_two_right k__law_two_right B__law_two_right (fun σ => passAt tk σ) (pa_cons (pv 2) (pa_cons (pv 5) (pa_cons (pv 6) (pa_cons (pe_not (pv 3)) pa_nil))))))) (pw_or1 (pt_not (pt_val (pe_callS F__law_none_right (hr.mono (by omega)) rfl g__law_none_right k__law_none_right B__law_none_right (fun σ => passAt tk σ) (pa_cons (pv 2) (pa_cons (pv 5) (pa_cons (pv 6) (pa_cons (pv 3) pa_nil))))))))))) (pss_one (ps_ret pe_bl)) pss_nil)
    (pss_one (ps_for (passes_of rfl) rfl (pi_any (pe_slice sl_all (pe_callS F__law_mixed (hr.mono (by omega)) rfl g__law_mixed k__law_mixed B__law_mixed (fun σ => passAt tk σ) (pa_cons (pv 2) (pa_cons (pv 6) pa_nil))) po_none (po_some pe_int))) (pg_tup rfl (pgs_cons (pg_name (i := 7) sc_law.nd rfl (by first | exact Or.inl rfl | exact Or.inr rfl)) (pgs_cons (pg_name (i := 8) sc_law.nd rfl (by first | exact Or.inl rfl | exact Or.inr rfl)) pgs_nil))) (pss_cons (ps_if (pt_not (pt_val (pe_callS F__law_put_right (hr.mono (by omega)) rfl g__law_put_right k__law_put_right B__law_put_right (fun σ => passAt tk σ) (pa_cons (pv 2) (pa_cons (pv 5) (pa_cons (pv 7) (pa_cons (pv 8) (pa_cons (pv 3) pa_nil)))))))) (pss_one (ps_ret pe_bl)) pss_nil)
    (pss_one (ps_set (i := 3) sc_law.nd rfl (by first | exact Or.inl rfl | exact Or.inr rfl) (pe_not (pv 3)))))))))))))))
    (pss_one (ps_ret pe_bl)))

theorem all_ok (C : Cxt K mg) : Okf P w K mg base 114 "law" (top 44) ["script"] (spV K s_law) := by
  have X_InvalidPlace : Okx P w K mg base "InvalidPlace" "given" := okx_InvalidPlace C
  have X_InvalidTerm : Okx P w K mg base "InvalidTerm" "given" := okx_InvalidTerm C
  have M_InvalidPlace : ExM K ["InvalidPlace"] "InvalidPlace" := fun x hx => by rw [List.mem_singleton.mp hx]; exact He.exm_ok (C.says.fact 55 (b := exmB "InvalidPlace" "InvalidPlace" true))
  have O_is_letters := ok_is_letters (P := P) (w := w) (base := base) C 
  have O_is_name := ok_is_name (P := P) (w := w) (base := base) C O_is_letters
  have O_parts_of := ok_parts_of (P := P) (w := w) (base := base) C 
  have O_head_of := ok_head_of (P := P) (w := w) (base := base) C 
  have O_letters_of := ok_letters_of (P := P) (w := w) (base := base) C 
  have O_walk_parts := ok_walk_parts (P := P) (w := w) (base := base) C O_parts_of O_letters_of
  have O_part_at := ok_part_at (P := P) (w := w) (base := base) C O_parts_of O_letters_of
  have O_replaced := ok_replaced (P := P) (w := w) (base := base) C O_parts_of O_head_of O_letters_of
  have O_has_form := ok_has_form (P := P) (w := w) (base := base) C O_is_name
  have O_fits_term := ok_fits_term (P := P) (w := w) (base := base) C O_parts_of O_has_form
  have O_check_term := ok_check_term (P := P) (w := w) (base := base) C O_fits_term X_InvalidTerm
  have O_check_place := ok_check_place (P := P) (w := w) (base := base) C O_part_at X_InvalidPlace
  have O_part := ok_part (P := P) (w := w) (base := base) C O_check_term O_check_place
  have O_with_part := ok_with_part (P := P) (w := w) (base := base) C O_replaced O_check_term O_check_place
  have O_places := ok_places (P := P) (w := w) (base := base) C O_walk_parts O_check_term
  have O__law_cell := ok__law_cell (P := P) (w := w) (base := base) C 
  have O__law_box := ok__law_box (P := P) (w := w) (base := base) C 
  have O__law_take := ok__law_take (P := P) (w := w) (base := base) C 
  have O__law_same := ok__law_same (P := P) (w := w) (base := base) C 
  have O__law_pick := ok__law_pick (P := P) (w := w) (base := base) C O__law_take
  have O__law_mixed := ok__law_mixed (P := P) (w := w) (base := base) C O__law_take
  have O__law_drawn := ok__law_drawn (P := P) (w := w) (base := base) C O__law_take O__law_pick
  have O__law_nested := ok__law_nested (P := P) (w := w) (base := base) C O__law_take O__law_pick O__law_drawn
  have O__law_places := ok__law_places (P := P) (w := w) (base := base) C 
  have O__law_with := ok__law_with (P := P) (w := w) (base := base) C 
  have O__law_told := ok__law_told (P := P) (w := w) (base := base) C O_part O_with_part O_places X_InvalidPlace M_InvalidPlace
  have O__law_places_right := ok__law_places_right (P := P) (w := w) (base := base) C O__law_same O__law_places O__law_told
  have O__law_bound_at := ok__law_bound_at (P := P) (w := w) (base := base) C 
  have O__law_put_right := ok__law_put_right (P := P) (w := w) (base := base) C O__law_same O__law_pick O__law_nested O__law_places O__law_with O__law_told O__law_places_right O__law_bound_at
  have O__law_two_right := ok__law_two_right (P := P) (w := w) (base := base) C O__law_same O__law_pick O__law_nested O__law_with O__law_told
  have O__law_none_right := ok__law_none_right (P := P) (w := w) (base := base) C O__law_take O__law_same O__law_pick O__law_told
  have O_law := ok_law (P := P) (w := w) (base := base) C O__law_cell O__law_box O__law_take O__law_pick O__law_mixed O__law_nested O__law_places O__law_places_right O__law_put_right O__law_two_right O__law_none_right
  exact O_law

end
end Law
end

section
set_option Elab.async false
set_option linter.all false
set_option maxRecDepth 100000
set_option maxHeartbeats 2000000
namespace Law
open PySem PySem.Spec L2 PyProof.Rows DL
theorem start_law {K : PySem.W.Frag} {H : Hp} {a : Addr} {ns : List Int} (hl : ns.length ≤ 63) (hz : ∀ z ∈ ns, Builtin.Int.intBits z ≤ 1048576) (hS : SqL K H a (ns.map V.int)) : spV K s_law [.ref a] H (fun v _ => v = .bl true) fun _ _ _ => False :=
  start_of hS ⟨ns, hl, rfl, rfl⟩
abbrev RowR : PySem.W.OpenRow := PySem.W.OpenLaw.row PySem.Challenge.rw_lambdabench_k00_places_of_equal_names_an
abbrev hkR : PySem.W.Hook := DL.hookB 8 bs fns
def obR (s : PySem.W.SharedT) : DL.AlB := DL.obsBG 8 bs fns (HandSHeadRun.getT s)
theorem obR_eq (s : PySem.W.SharedT) : obR s = hkR.obs s.abs := DL.obsBG_eq (HandSHeadRun.getT_eq s)
def looseR : List PySem.Str := (["LambdaError", "InvalidPlace", "InvalidTerm", "LETTERS", "MOST_LETTERS", "is_letters", "is_name", "APP", "parts_of", "head_of", "letters_of", "walk_parts", "part_at", "replaced", "MOST_SIZE", "has_form", "fits_term", "check_term", "check_place", "part", "with_part", "places", "_law_cell", "_law_box", "_law_take", "_law_same", "_law_pick", "_law_mixed", "_law_drawn", "_law_nested"] : List PySem.Str) ++ (["_law_places", "_law_with", "_law_told", "_law_places_right", "_law_bound_at", "_law_put_right", "_law_two_right", "_law_none_right"] : List PySem.Str)
set_option maxHeartbeats 0 in
theorem runR (w : World) : HandSHeadRun.RunEq RowR (PySem.W.view RowR.prog [44]) hkR obR 5000 looseR w := by
  intro os
  kernel_rfl
theorem room_law : Room 114 callerA := ⟨rfl, by decide, by decide⟩
theorem facts_law {P : Program} {w : World} {K : PySem.W.Frag} {h : Heap} {mg : Str → Option Value} {f : Addr} (X : K.In h) (G : h.Ns mainGlobals mg) (hfa : mg ("law" : Str) = some (.ref f)) (c : SaysB bs fns K) :
    ∃ fd : FuncData, (∀ (s : Shared) (v : Value), BindsTo s fd ⟨[v], []⟩ [("script", v)]) ∧ ∀ base : Heap, K.In base → base.Ns mainGlobals mg → FnOk P w K mg base (L2.CX P w) 114 f fd ["script"] (spV K s_law) := by
  have C : Cxt K mg := ⟨c, h, X, G⟩
  obtain ⟨fd0, F⟩ := C.fn 31 (x := "law") (st := (top 44))
  have e := hfa.symm.trans (C.glo 49 (x := "law"))
  cases e
  have b := FunD.bindsA (ps := ["script"]) F fun _ _ _ _ _ _ us hl => match us, hl with | [_], _ => rfl
  refine ⟨fd0, fun s v => b s [v] rfl, fun base _ _ => ?_⟩
  obtain ⟨fd1, D1, B1, F1⟩ := (all_ok (P := P) (w := w) (base := base) C).ex
  have es : fd1 = fd0 := same_fd D1 F
  exact es ▸ F1
end Law
set_option maxHeartbeats 0 in
theorem PySem.Challenge.cw_lambdabench_k00_places_of_equal_names_an_holds : PySem.Challenge.rw_lambdabench_k00_places_of_equal_names_an.Holds := by
  w_on; o_law
  refine HandSHeadRun.head_any (r := PySem.W.OpenLaw.row PySem.Challenge.rw_lambdabench_k00_places_of_equal_names_an) (q := PySem.W.view (PySem.W.OpenLaw.row PySem.Challenge.rw_lambdabench_k00_places_of_equal_names_an).prog [44]) (H := Law.hkR) (ob := Law.obR) (M := 5000) (loose := Law.looseR) (d := HandSHeadRun.topDef (PySem.W.OpenLaw.row PySem.Challenge.rw_lambdabench_k00_places_of_equal_names_an).prog 44) (kwd := []) Law.obR_eq
    (by kernel_rfl) (fun s => by kernel_rfl) Law.runR (by kernel_rfl) (by kernel_rfl) (by kernel_rfl) (by rfl) (by first | assumption | decide +kernel) (by decide +kernel) ⟨rfl, rfl, rfl, rfl, rfl, by decide +kernel⟩ ?hw ?hc
  case hw => w_witness2
  case hc =>
    refine LamX.walk_ofTsE (l := PySem.Challenge.rw_lambdabench_k00_places_of_equal_names_an) (n := 63) (k := 114) (x := "script") (CX := fun w => L2.CX (PySem.Challenge.rw_lambdabench_k00_places_of_equal_names_an).prog w) rfl (by decide) (by kernel_rfl) Law.room_law ?F ?X
    case X => exact fun w H s e s1 h => DL.noX h
    intro w mg fa h Y G hmg0
    obtain ⟨K, KX, c⟩ := Y
    have hmg : mg ("law" : PySem.Str) = some (.ref fa) := by
      have e : (HandSHeadRun.topDef (PySem.W.OpenLaw.row PySem.Challenge.rw_lambdabench_k00_places_of_equal_names_an).prog 44).name = ("law" : PySem.Str) := by kernel_rfl
      rw [← e]
      exact hmg0
    obtain ⟨fd, hb, hF⟩ := Law.facts_law (P := (PySem.Challenge.rw_lambdabench_k00_places_of_equal_names_an).prog) (w := w) KX G hmg c
    exact ⟨K, KX, fd, [], DL.spV K Law.s_law, fun p hp => (by cases hp), fun p hp => (by cases hp), fun p hp => (by cases hp), hb, fun H a ns hl hz _ hS => Law.start_law hl hz hS, fun base i j _ => hF base i j⟩
end
