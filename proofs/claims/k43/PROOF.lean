import PyProof.Rows.All
import Wide.All
import OpenK.AllK
import Wide.FinOn
import HandS.ForMost
import HandS.Exc
import HandS.Defaults
import HandS.Wide
import HandS.TupAny
import HandS.TupMul
import HandS.TupLe
import HandS.Deep
import HandS.Flow
import HandS.Walk
import HandS.Style
import HandS.Rev
import HandS.Text
import HandS.Words
import HandS.WordsList
import HandS.WordsDict
import HandS.Conv
import HandS.Dict
import HandS.Comp
import HandS.AnyAll
import HandS.Zip
import HandS.ExcOwn
import HandS.CallSlots
import KE.KExcSuper
import KE.KSuper
import HandS.ExcInit
import HandS.RaiseMore
import HandS.TryMany
import HandS.ExcField
import HandS.ExcIs
import HandS.IsInst
import KE.KExcIs
import HandS.SetFor
import HandS.Steps
import HandS.Replace
import HandS.More
import PyProof.Draws
import PyProof.EnumMake
import PyProof.EnumFor
import HandS.Zip0
import HandS.Iter
import PyProof.SliceStr2
import HandS.NoneIn
import KE.KStateDown
import HandS.Head0
import HandS.Head1
import HandS.Head2
import HandS.HeadEnd
import HandS.HeadHook1
import HandS.HeadHook2
import HandS.HotCalls
import PySem.Challenge.RW_sameunits_k43_papers_and_arguments_of_bu
set_option Elab.async false
set_option linter.all false
set_option maxRecDepth 100000
set_option maxHeartbeats 0
set_option autoImplicit false
namespace Ev
open PySem PySem.Spec PyProof.Rows L2

/-- data values: lists that never change again are values; a list that changes is a place (loc) in the store -/
inductive D where
  | non | bl (b : Bool) | int (i : Int) | str (x : Str) | tup (ds : List D) | lst (ds : List D) | rol (ds : List D) | loc (l : Nat) | fn (f : Nat) | err (c : Nat) (d : D)

inductive Cell where
  | lst (ds : List D)
  | dic (kvs : List (Key × D))

abbrev Store := List Cell

/-- what does not change while a law runs -/
structure Cst where
  K : PySem.W.Frag
  fa : Nat → Addr
  ca : Nat → Addr
  fld : Nat → Str

/-- the store's places, the hidden addresses, the handled error -/
structure Pl where
  ρ : List Addr
  hid : List Addr
  π : Option (Addr × Obj)

/-- the handled error's object -/
def ErrRep (C : Cst) (π : Option (Addr × Obj)) (H : Hp) (c : Nat) (P : V → Prop) (v : V) : Prop :=
  ∃ p dx u vs, π = some p ∧ v = .ref p.1 ∧ Zc (.ref (C.ca c)) (some dx) p.2 ∧ p.2.data = .fields vs ∧ H dx = some (.xd [(C.fld c, u)]) ∧ P u

/-- a list that nobody of ours writes: the script, a list of the module -/
def WrL (K : PySem.W.Frag) (a : Addr) (xs : List V) : Prop :=
  ∃ (o : Obj) (its : Array Value) (n : Nat), K.lookup a = some o ∧ o.cls = .type "list" ∧ o.dict = none ∧ o.data = .seq its n ∧ its.size ≤ sizeLine ∧ Vals xs its.toList
def RolAt (K : PySem.W.Frag) (p : Pl) (H : Hp) (a : Addr) (vs : List V) : Prop :=
  (H a = some (.lst vs) ∧ a ∉ p.ρ ∧ a ∉ p.hid) ∨ (∃ o, H a = some (.frz o (.lst vs))) ∨ WrL K a vs
theorem RolAt.sq {K : PySem.W.Frag} {p : Pl} {H : Hp} {a : Addr} {vs : List V} (h : RolAt K p H a vs) : SqL K H a vs := by
  rcases h with h | h | h
  · exact .inl (.inl h.1)
  · exact .inl (.inr h)
  · exact .inr h

mutual
def Rep (C : Cst) (p : Pl) (H : Hp) : D → V → Prop
  | .non, v => v = .non
  | .bl b, v => v = .bl b
  | .int i, v => v = .int i
  | .str x, v => v = .str x
  | .tup ds, v => ∃ a vs, v = .ref a ∧ SqT C.K H a vs ∧ RepL C p H ds vs
  | .lst ds, v => ∃ a vs, v = .ref a ∧ a ∉ p.ρ ∧ a ∉ p.hid ∧ H a = some (.lst vs) ∧ RepL C p H ds vs
  | .rol ds, v => ∃ a vs, v = .ref a ∧ RolAt C.K p H a vs ∧ RepL C p H ds vs
  | .loc l, v => ∃ a, v = .ref a ∧ p.ρ[l]? = some a
  | .fn f, v => v = .ref (C.fa f)
  | .err c d, v => ErrRep C p.π H c (Rep C p H d) v
def RepL (C : Cst) (p : Pl) (H : Hp) : List D → List V → Prop
  | [], vs => vs = []
  | d :: ds, vs => ∃ v r, vs = v :: r ∧ Rep C p H d v ∧ RepL C p H ds r
end

def RepKV (C : Cst) (p : Pl) (H : Hp) : List (Key × D) → List (Key × V) → Prop
  | [], vs => vs = []
  | (k, d) :: ds, vs => ∃ v r, vs = (k, v) :: r ∧ Rep C p H d v ∧ RepKV C p H ds r

def CellRep (C : Cst) (p : Pl) (H : Hp) (a : Addr) : Cell → Prop
  | .lst ds => ∃ vs, H a = some (.lst vs) ∧ RepL C p H ds vs
  | .dic kvs => ∃ vs, H a = some (.dK vs) ∧ RepKV C p H kvs vs

/-- the heap bears the store -/
structure Ok (C : Cst) (p : Pl) (S : Store) (H : Hp) : Prop where
  len : p.ρ.length = S.length
  nd : p.ρ.Nodup
  cell : ∀ (l : Nat) c, S[l]? = some c → ∃ a, p.ρ[l]? = some a ∧ CellRep C p H a c
  hid : ∀ a ∈ p.hid, a ∉ p.ρ ∧ ∃ o, H a = some o

/-- from one moment to a later one -/
structure Step (p : Pl) (H : Hp) (p' : Pl) (H' : Hp) : Prop where
  pre : ∃ more, p'.ρ = p.ρ ++ more
  hid : p'.hid = p.hid
  err : p'.π = p.π
  frz : ∀ a o, H a = some o → a ∉ p.ρ → H' a = some o
  new : ∀ a ∈ p'.ρ, a ∉ p.ρ → H a = none

theorem Step.refl (p : Pl) (H : Hp) : Step p H p H := ⟨⟨[], by simp⟩, rfl, rfl, fun _ _ h _ => h, fun _ h h' => absurd h h'⟩
theorem Step.trans {p p' p'' : Pl} {H H' H'' : Hp} (a : Step p H p' H') (b : Step p' H' p'' H'') : Step p H p'' H'' := by
  obtain ⟨m1, e1⟩ := a.pre
  obtain ⟨m2, e2⟩ := b.pre
  have mem : ∀ x, x ∈ p.ρ → x ∈ p'.ρ := fun x h => by rw [e1]; exact List.mem_append_left _ h
  have old : ∀ x o, H x = some o → x ∉ p.ρ → x ∉ p'.ρ := fun x o h h' h2 => by
    have := a.new x h2 h'
    rw [h] at this; cases this
  refine ⟨⟨m1 ++ m2, by rw [e2, e1, List.append_assoc]⟩, b.hid.trans a.hid, b.err.trans a.err, fun x o h h' => b.frz x o (a.frz x o h h') (old x o h h'), fun x h h' => ?_⟩
  by_cases h2 : x ∈ p'.ρ
  · exact a.new x h2 h'
  · have h3 := b.new x h h2
    cases e : H x with
    | none => rfl
    | some o =>
      have := a.frz x o e h'
      rw [h3] at this; cases this

theorem Step.get {p p' : Pl} {H H' : Hp} (s : Step p H p' H') {l : Nat} {a : Addr} (h : p.ρ[l]? = some a) : p'.ρ[l]? = some a := by
  obtain ⟨m, e⟩ := s.pre
  have hl := (List.getElem?_eq_some_iff.mp h).1
  rw [e, List.getElem?_append_left hl]
  exact h

/-- what is kept of the heap, so that values stay what they are -/
structure Keep (K : PySem.W.Frag) (p : Pl) (H : Hp) (p' : Pl) (H' : Hp) : Prop where
  get : ∀ (l : Nat) a, p.ρ[l]? = some a → p'.ρ[l]? = some a
  hid : ∀ a o, H a = some o → a ∉ p.ρ → a ∉ p.hid → a ∉ p'.hid
  err : p'.π = p.π
  tup : ∀ a xs, H a = some (.tup xs) → H' a = some (.tup xs)
  ftup : ∀ a o xs, H a = some (.frz o (.tup xs)) → H' a = some (.frz o (.tup xs))
  xd : ∀ a xs, H a = some (.xd xs) → H' a = some (.xd xs)
  lst : ∀ a vs, H a = some (.lst vs) → a ∉ p.ρ → a ∉ p.hid → H' a = some (.lst vs) ∧ a ∉ p'.ρ
  rol : ∀ a vs, RolAt K p H a vs → RolAt K p' H' a vs

theorem sqT_keep {K : PySem.W.Frag} {p p' : Pl} {H H' : Hp} (k : Keep K p H p' H') {a : Addr} {vs : List V} (h : SqT K H a vs) : SqT K H' a vs := by
  rcases h with h | h
  · rcases h with h | ⟨o, h⟩
    · exact .inl (.inl (k.tup a vs h))
    · exact .inl (.inr ⟨o, k.ftup a o vs h⟩)
  · exact .inr h

mutual
theorem Rep.keep {C : Cst} {p p' : Pl} {H H' : Hp} (k : Keep C.K p H p' H') : ∀ (d : D) (v : V), Rep C p H d v → Rep C p' H' d v
  | .non, v, h => by simpa only [Rep] using h
  | .bl b, v, h => by simpa only [Rep] using h
  | .int b, v, h => by simpa only [Rep] using h
  | .str b, v, h => by simpa only [Rep] using h
  | .fn b, v, h => by simpa only [Rep] using h
  | .loc l, v, h => by
    simp only [Rep] at h ⊢
    obtain ⟨a, e, h⟩ := h
    exact ⟨a, e, k.get l a h⟩
  | .tup ds, v, h => by
    simp only [Rep] at h ⊢
    obtain ⟨a, vs, e, h, h2⟩ := h
    exact ⟨a, vs, e, sqT_keep k h, RepL.keep k ds vs h2⟩
  | .lst ds, v, h => by
    simp only [Rep] at h ⊢
    obtain ⟨a, vs, e, n1, n2, h, h2⟩ := h
    obtain ⟨q1, q2⟩ := k.lst a vs h n1 n2
    exact ⟨a, vs, e, q2, k.hid a _ h n1 n2, q1, RepL.keep k ds vs h2⟩
  | .rol ds, v, h => by
    simp only [Rep] at h ⊢
    obtain ⟨a, vs, e, h, h2⟩ := h
    exact ⟨a, vs, e, k.rol a vs h, RepL.keep k ds vs h2⟩
  | .err c d, v, h => by
    simp only [Rep] at h ⊢
    obtain ⟨q, dx, u, vs, e1, e2, e3, e4, e5, e6⟩ := h
    exact ⟨q, dx, u, vs, k.err.trans e1, e2, e3, e4, k.xd _ _ e5, Rep.keep k d u e6⟩
theorem RepL.keep {C : Cst} {p p' : Pl} {H H' : Hp} (k : Keep C.K p H p' H') : ∀ (ds : List D) (vs : List V), RepL C p H ds vs → RepL C p' H' ds vs
  | [], vs, h => by simpa only [RepL] using h
  | d :: ds, vs, h => by
    simp only [RepL] at h ⊢
    obtain ⟨v, r, e, h1, h2⟩ := h
    exact ⟨v, r, e, Rep.keep k d v h1, RepL.keep k ds r h2⟩
end
theorem RepKV.keep {C : Cst} {p p' : Pl} {H H' : Hp} (k : Keep C.K p H p' H') : ∀ (ds : List (Key × D)) (vs : List (Key × V)), RepKV C p H ds vs → RepKV C p' H' ds vs
  | [], vs, h => by simpa only [RepKV] using h
  | (x, d) :: ds, vs, h => by
    simp only [RepKV] at h ⊢
    obtain ⟨v, r, e, h1, h2⟩ := h
    exact ⟨v, r, e, Rep.keep k d v h1, RepKV.keep k ds r h2⟩

theorem Ok.locNot {C : Cst} {p : Pl} {S : Store} {H : Hp} (o : Ok C p S H) {a : Addr} (h : a ∈ p.ρ) : (∃ vs, H a = some (.lst vs)) ∨ ∃ kvs, H a = some (.dK kvs) := by
  obtain ⟨l, hl⟩ := List.mem_iff_getElem?.mp h
  have hlt := (List.getElem?_eq_some_iff.mp hl).1
  rw [o.len] at hlt
  obtain ⟨c, hc⟩ : ∃ c, S[l]? = some c := ⟨S[l], by simp [hlt]⟩
  obtain ⟨b, hb, r⟩ := o.cell l c hc
  rw [hl] at hb; cases hb
  cases c with
  | lst ds => obtain ⟨vs, e, _⟩ := r; exact .inl ⟨vs, e⟩
  | dic kvs => obtain ⟨vs, e, _⟩ := r; exact .inr ⟨vs, e⟩

/-- a step keeps values -/
theorem Step.keep {C : Cst} {p p' : Pl} {S : Store} {H H' : Hp} (o : Ok C p S H) (s : Step p H p' H') : Keep C.K p H p' H' where
  get := fun l a h => s.get h
  hid := fun a o' h n1 n2 => by rw [s.hid]; exact n2
  err := s.err
  tup := fun a xs h => s.frz a _ h fun m => by
    rcases o.locNot m with ⟨vs, e⟩ | ⟨vs, e⟩ <;> (rw [h] at e; cases e)
  ftup := fun a ob xs h => s.frz a _ h fun m => by
    rcases o.locNot m with ⟨vs, e⟩ | ⟨vs, e⟩ <;> (rw [h] at e; cases e)
  xd := fun a xs h => s.frz a _ h fun m => by
    rcases o.locNot m with ⟨vs, e⟩ | ⟨vs, e⟩ <;> (rw [h] at e; cases e)
  lst := fun a vs h n1 n2 => by
    refine ⟨s.frz a _ h n1, fun m => ?_⟩
    have z := s.new a m n1
    rw [h] at z; cases z
  rol := fun a vs h => by
    rcases h with ⟨h, n1, n2⟩ | ⟨ob, h⟩ | h
    · refine .inl ⟨s.frz a _ h n1, fun m => ?_, by rw [s.hid]; exact n2⟩
      have z := s.new a m n1
      rw [h] at z; cases z
    · exact .inr (.inl ⟨ob, s.frz a _ h fun m => by
        rcases o.locNot m with ⟨vs, e⟩ | ⟨vs, e⟩ <;> (rw [h] at e; cases e)⟩)
    · exact .inr (.inr h)

/-! ### results -/
inductive Res (α : Type) where
  | ok (a : α) (S : Store)
  | exc (c : Nat) (d : D) (S : Store)
  | stuck
abbrev Env := List (Option D)
abbrev M (α : Type) := Store → Res α

def Res.bind {α β : Type} (r : Res α) (f : α → M β) : Res β := match r with
  | .ok a S => f a S
  | .exc c d S => .exc c d S
  | .stuck => .stuck

/-- the slots bear the values -/
def REnv (C : Cst) (p : Pl) (H : Hp) (δ : Env) (σ : L2.St) : Prop := δ.length = σ.length ∧ ∀ (i : Nat) d, δ[i]? = some (some d) → ∃ v, σ[i]? = some (some v) ∧ Rep C p H d v

theorem REnv.keep {C : Cst} {p p' : Pl} {H H' : Hp} {δ : Env} {σ : L2.St} (k : Keep C.K p H p' H') (r : REnv C p H δ σ) : REnv C p' H' δ σ :=
  ⟨r.1, fun i d h => let ⟨v, e, q⟩ := r.2 i d h; ⟨v, e, Rep.keep k d v q⟩⟩

/-- an error's dict -/
def XRep (C : Cst) (p : Pl) (H : Hp) (c : Nat) (d : D) (dx : Addr) : Prop := ∃ u, H dx = some (.xd [(C.fld c, u)]) ∧ Rep C p H d u

/-- what is wanted behind an expression -/
def Post {α β : Type} (C : Cst) (W : WX) (p : Pl) (H : Hp) (σ : L2.St) (R : Pl → Hp → α → β → Prop) (Q : β → Hp → Prop) : Res α → Prop
  | .ok a S' => ∀ p' H' b, Step p H p' H' → Ok C p' S' H' → R p' H' a b → Q b H'
  | .exc c d S' => ∀ p' H' dx, Step p H p' H' → Ok C p' S' H' → XRep C p' H' c d dx → W (.ref (C.ca c)) (some dx) σ H'
  | .stuck => False

theorem Post.mono {α β : Type} {C : Cst} {W : WX} {p : Pl} {H : Hp} {σ : L2.St} {R : Pl → Hp → α → β → Prop} {Q Q' : β → Hp → Prop} {r : Res α} (h : Post C W p H σ R Q r) (hq : ∀ b H', Q b H' → Q' b H') : Post C W p H σ R Q' r := by
  cases r with
  | ok a S => exact fun p' H' b s o q => hq b H' (h p' H' b s o q)
  | exc c d S => exact h
  | stuck => exact h
theorem Post.step {α β : Type} {C : Cst} {W : WX} {p p' : Pl} {H H' : Hp} {σ : L2.St} {R : Pl → Hp → α → β → Prop} {Q : β → Hp → Prop} {r : Res α} (s : Step p H p' H') (h : Post C W p H σ R Q r) : Post C W p' H' σ R Q r := by
  cases r with
  | ok a S => exact fun p2 H2 b s2 o q => h p2 H2 b (s.trans s2) o q
  | exc c d S => exact fun p2 H2 dx s2 o q => h p2 H2 dx (s.trans s2) o q
  | stuck => exact h

/-- an expression's reading by the evaluator -/
def TEe (C : Cst) (π : Option (Addr × Obj)) (W : WX) (m : Env → M D) : TE := fun σ H Q =>
  ∃ p S δ, p.π = π ∧ Ok C p S H ∧ REnv C p H δ σ ∧ Post C W p H σ (Rep C) Q (m δ S)
def TTe (C : Cst) (π : Option (Addr × Obj)) (W : WX) (m : Env → M Bool) : TT := fun σ H Q =>
  ∃ p S δ, p.π = π ∧ Ok C p S H ∧ REnv C p H δ σ ∧ Post C W p H σ (fun _ _ a b => a = b) Q (m δ S)
def TAe (C : Cst) (π : Option (Addr × Obj)) (W : WX) (m : Env → M (List D)) : TA := fun σ H Q =>
  ∃ p S δ, p.π = π ∧ Ok C p S H ∧ REnv C p H δ σ ∧ Post C W p H σ (RepL C) Q (m δ S)

open PySem PySem.Spec PyProof.Rows L2

/-! ### a new object -/
theorem Step.alloc {p : Pl} {H : Hp} {q : Addr} {o : HO} (hq : H q = none) : Step p H p (upd H q o) :=
  ⟨⟨[], by simp⟩, rfl, rfl, fun a ob h _ => by rw [upd_ne (ne_of_none h hq)]; exact h, fun _ h h' => absurd h h'⟩
theorem CellRep.keep {C : Cst} {p p' : Pl} {H H' : Hp} {a : Addr} {c : Cell} (k : Keep C.K p H p' H') (r : CellRep C p H a c) (e : ∀ o, H a = some o → H' a = some o) : CellRep C p' H' a c := by
  cases c with
  | lst ds => obtain ⟨vs, h, q⟩ := r; exact ⟨vs, e _ h, RepL.keep k ds vs q⟩
  | dic kvs => obtain ⟨vs, h, q⟩ := r; exact ⟨vs, e _ h, RepKV.keep k kvs vs q⟩
theorem CellRep.there {C : Cst} {p : Pl} {H : Hp} {a : Addr} {c : Cell} (r : CellRep C p H a c) : ∃ o, H a = some o := by
  cases c with
  | lst ds => obtain ⟨vs, h, q⟩ := r; exact ⟨_, h⟩
  | dic kvs => obtain ⟨vs, h, q⟩ := r; exact ⟨_, h⟩
theorem Ok.alloc {C : Cst} {p : Pl} {S : Store} {H : Hp} {q : Addr} {o : HO} (ok : Ok C p S H) (hq : H q = none) : Ok C p S (upd H q o) := by
  have k := (Step.alloc (p := p) (o := o) hq).keep ok
  refine ⟨ok.len, ok.nd, fun l c h => ?_, fun a h => ?_⟩
  · obtain ⟨a, e, r⟩ := ok.cell l c h
    exact ⟨a, e, r.keep k fun ob h => by rw [upd_ne (ne_of_none h hq)]; exact h⟩
  · obtain ⟨n, ob, e⟩ := ok.hid a h
    exact ⟨n, ob, by rw [upd_ne (ne_of_none e hq)]; exact e⟩

/-- what is wanted of a value that comes, the store as it was -/
abbrev Wants (C : Cst) (p : Pl) (S : Store) (H : Hp) (d : D) (Q : VK) : Prop := ∀ p' H' v, Step p H p' H' → Ok C p' S H' → Rep C p' H' d v → Q v H'

section
variable {C : Cst} {p : Pl} {S : Store} {H : Hp} {Q : VK}
theorem Wants.here {d : D} {v : V} (w : Wants C p S H d Q) (ok : Ok C p S H) (r : Rep C p H d v) : Q v H := w p H v (Step.refl _ _) ok r
theorem Wants.tup {ds : List D} {vs : List V} {q : Addr} (w : Wants C p S H (.tup ds) Q) (ok : Ok C p S H) (r : RepL C p H ds vs) (hq : H q = none) : Q (.ref q) (upd H q (.tup vs)) := by
  refine w p _ _ (Step.alloc hq) (ok.alloc hq) ?_
  simp only [Rep]
  exact ⟨q, vs, rfl, .inl (.inl upd_same), RepL.keep ((Step.alloc hq).keep ok) ds vs r⟩
theorem Wants.lst {ds : List D} {vs : List V} {q : Addr} (w : Wants C p S H (.lst ds) Q) (ok : Ok C p S H) (r : RepL C p H ds vs) (hq : H q = none) : Q (.ref q) (upd H q (.lst vs)) := by
  refine w p _ _ (Step.alloc hq) (ok.alloc hq) ?_
  simp only [Rep]
  refine ⟨q, vs, rfl, fun m => ?_, fun m => ?_, upd_same, RepL.keep ((Step.alloc hq).keep ok) ds vs r⟩
  · rcases ok.locNot m with ⟨vs, e⟩ | ⟨vs, e⟩ <;> (rw [hq] at e; cases e)
  · obtain ⟨_, o, e⟩ := ok.hid q m
    rw [hq] at e; cases e
end

theorem RepL.length {C : Cst} {p : Pl} {H : Hp} : ∀ {ds : List D} {vs : List V}, RepL C p H ds vs → ds.length = vs.length
  | [], vs, h => by simp only [RepL] at h; rw [h]; rfl
  | d :: ds, vs, h => by
    simp only [RepL] at h
    obtain ⟨v, r, rfl, _, h2⟩ := h
    simp [RepL.length h2]
theorem RepL.append {C : Cst} {p : Pl} {H : Hp} : ∀ {ds es : List D} {vs ws : List V}, RepL C p H ds vs → RepL C p H es ws → RepL C p H (ds ++ es) (vs ++ ws)
  | [], es, vs, ws, h, g => by simp only [RepL] at h; rw [h]; exact g
  | d :: ds, es, vs, ws, h, g => by
    simp only [RepL] at h
    obtain ⟨v, r, rfl, h1, h2⟩ := h
    show RepL C p H (d :: (ds ++ es)) (v :: (r ++ ws))
    simp only [RepL]
    exact ⟨v, r ++ ws, rfl, h1, RepL.append h2 g⟩
theorem RepL.get {C : Cst} {p : Pl} {H : Hp} : ∀ {ds : List D} {vs : List V} {i : Nat} {d : D}, RepL C p H ds vs → ds[i]? = some d → ∃ v, vs[i]? = some v ∧ Rep C p H d v
  | [], vs, i, d, h, e => by simp at e
  | d :: ds, vs, 0, d', h, e => by
    simp only [RepL] at h
    obtain ⟨v, r, rfl, h1, h2⟩ := h
    simp at e; subst e
    exact ⟨v, rfl, h1⟩
  | d :: ds, vs, i + 1, d', h, e => by
    simp only [RepL] at h
    obtain ⟨v, r, rfl, h1, h2⟩ := h
    obtain ⟨v', e', r'⟩ := RepL.get (i := i) (d := d') h2 (by simpa using e)
    exact ⟨v', by simpa using e', r'⟩
theorem RepL.take {C : Cst} {p : Pl} {H : Hp} : ∀ {ds : List D} {vs : List V} (n : Nat), RepL C p H ds vs → RepL C p H (ds.take n) (vs.take n)
  | ds, vs, 0, h => by simp [RepL]
  | [], vs, n + 1, h => by simp only [RepL] at h; rw [h]; simp [RepL]
  | d :: ds, vs, n + 1, h => by
    simp only [RepL] at h
    obtain ⟨v, r, rfl, h1, h2⟩ := h
    simp only [List.take_succ_cons, RepL]
    exact ⟨v, _, rfl, h1, RepL.take n h2⟩
theorem RepL.drop {C : Cst} {p : Pl} {H : Hp} : ∀ {ds : List D} {vs : List V} (n : Nat), RepL C p H ds vs → RepL C p H (ds.drop n) (vs.drop n)
  | ds, vs, 0, h => h
  | [], vs, n + 1, h => by simp only [RepL] at h; rw [h]; simp [RepL]
  | d :: ds, vs, n + 1, h => by
    simp only [RepL] at h
    obtain ⟨v, r, rfl, h1, h2⟩ := h
    exact RepL.drop n h2
theorem RepL.set {C : Cst} {p : Pl} {H : Hp} {d : D} {v : V} (q : Rep C p H d v) : ∀ {ds : List D} {vs : List V} (n : Nat), RepL C p H ds vs → RepL C p H (ds.set n d) (vs.set n v)
  | [], vs, n, h => by simp only [RepL] at h; rw [h]; simp [RepL]
  | d' :: ds, vs, 0, h => by
    simp only [RepL] at h
    obtain ⟨v', r, rfl, h1, h2⟩ := h
    simp only [List.set_cons_zero, RepL]
    exact ⟨v, r, rfl, q, h2⟩
  | d' :: ds, vs, n + 1, h => by
    simp only [RepL] at h
    obtain ⟨v', r, rfl, h1, h2⟩ := h
    simp only [List.set_cons_succ, RepL]
    exact ⟨v', _, rfl, h1, RepL.set q n h2⟩
theorem RepL.one {C : Cst} {p : Pl} {H : Hp} {d : D} {vs : List V} (h : RepL C p H [d] vs) : ∃ v, vs = [v] ∧ Rep C p H d v := by
  simp only [RepL] at h
  obtain ⟨v, r, rfl, h1, rfl⟩ := h
  exact ⟨v, rfl, h1⟩
theorem RepL.two {C : Cst} {p : Pl} {H : Hp} {d e : D} {vs : List V} (h : RepL C p H [d, e] vs) : ∃ v w, vs = [v, w] ∧ Rep C p H d v ∧ Rep C p H e w := by
  simp only [RepL] at h
  obtain ⟨v, r, rfl, h1, w, r2, rfl, h2, rfl⟩ := h
  exact ⟨v, w, rfl, h1, h2⟩
theorem RepL.ints {C : Cst} {p : Pl} {H : Hp} : ∀ {is : List Int} {vs : List V}, RepL C p H (is.map D.int) vs → vs = is.map V.int
  | [], vs, h => by simpa only [List.map, RepL] using h
  | i :: is, vs, h => by
    simp only [List.map, RepL, Rep] at h
    obtain ⟨v, r, rfl, h1, h2⟩ := h
    rw [h1, RepL.ints h2]; rfl
theorem RepL.strs {C : Cst} {p : Pl} {H : Hp} : ∀ {is : List Str} {vs : List V}, RepL C p H (is.map D.str) vs → vs = is.map V.str
  | [], vs, h => by simpa only [List.map, RepL] using h
  | i :: is, vs, h => by
    simp only [List.map, RepL, Rep] at h
    obtain ⟨v, r, rfl, h1, h2⟩ := h
    rw [h1, RepL.strs h2]; rfl
theorem RepL.bls {C : Cst} {p : Pl} {H : Hp} : ∀ {is : List Bool} {vs : List V}, RepL C p H (is.map D.bl) vs → vs = is.map V.bl
  | [], vs, h => by simpa only [List.map, RepL] using h
  | i :: is, vs, h => by
    simp only [List.map, RepL, Rep] at h
    obtain ⟨v, r, rfl, h1, h2⟩ := h
    rw [h1, RepL.bls h2]; rfl

/-! ### what is in a row -/
/-- the items of a list -/
def listOf (S : Store) : D → Option (List D)
  | .lst ds => some ds
  | .rol ds => some ds
  | .loc l => match S[l]? with
    | some (.lst ds) => some ds
    | _ => none
  | _ => none
/-- the items of a list that is no read-only one -/
def listW (S : Store) : D → Option (List D)
  | .lst ds => some ds
  | .loc l => match S[l]? with
    | some (.lst ds) => some ds
    | _ => none
  | _ => none
section
variable {C : Cst} {p : Pl} {S : Store} {H : Hp}
theorem locAt {l : Nat} {v : V} {c : Cell} (ok : Ok C p S H) (r : Rep C p H (.loc l) v) (e : S[l]? = some c) : ∃ a, v = .ref a ∧ p.ρ[l]? = some a ∧ CellRep C p H a c := by
  simp only [Rep] at r
  obtain ⟨a, rfl, h⟩ := r
  obtain ⟨b, h2, q⟩ := ok.cell l c e
  rw [h] at h2; cases h2
  exact ⟨a, rfl, h, q⟩
theorem listW_rep {d : D} {v : V} {ds : List D} (ok : Ok C p S H) (r : Rep C p H d v) (e : listW S d = some ds) : ∃ a vs, v = .ref a ∧ H a = some (.lst vs) ∧ RepL C p H ds vs := by
  cases d with
  | lst es =>
    simp only [listW, Option.some.injEq] at e; subst e
    simp only [Rep] at r
    obtain ⟨a, vs, h1, _, _, h2, h3⟩ := r
    exact ⟨a, vs, h1, h2, h3⟩
  | loc l =>
    simp only [listW] at e
    split at e
    · rename_i es hs
      cases e
      obtain ⟨a, h1, _, vs, h2, h3⟩ := locAt ok r hs
      exact ⟨a, vs, h1, h2, h3⟩
    · cases e
  | _ => simp [listW] at e
theorem listOf_rep {d : D} {v : V} {ds : List D} (ok : Ok C p S H) (r : Rep C p H d v) (e : listOf S d = some ds) : ∃ a vs, v = .ref a ∧ SqL C.K H a vs ∧ RepL C p H ds vs := by
  cases d with
  | lst es =>
    obtain ⟨a, vs, h1, h2, h3⟩ := listW_rep ok r (show listW S (.lst es) = some ds from e)
    exact ⟨a, vs, h1, .of h2, h3⟩
  | rol es =>
    simp only [listOf, Option.some.injEq] at e; subst e
    simp only [Rep] at r
    obtain ⟨a, vs, h1, h2, h3⟩ := r
    exact ⟨a, vs, h1, h2.sq, h3⟩
  | loc l =>
    obtain ⟨a, vs, h1, h2, h3⟩ := listW_rep ok r (show listW S (.loc l) = some ds from e)
    exact ⟨a, vs, h1, .of h2, h3⟩
  | _ => simp [listOf] at e
theorem tup_rep {ds : List D} {v : V} (r : Rep C p H (.tup ds) v) : ∃ a vs, v = .ref a ∧ SqT C.K H a vs ∧ RepL C p H ds vs := by
  simpa only [Rep] using r
end

/-! ### operators by values -/
def rV2 (C : Cst) (g : Store → D → D → Option D) : R2 := fun x y H Q => ∃ p S dx dy d, Ok C p S H ∧ Rep C p H dx x ∧ Rep C p H dy y ∧ g S dx dy = some d ∧ Wants C p S H d Q
def rV1 (C : Cst) (g : Store → D → Option D) : V → Hp → VK → Prop := fun x H Q => ∃ p S dx d, Ok C p S H ∧ Rep C p H dx x ∧ g S dx = some d ∧ Wants C p S H d Q
def rVs (C : Cst) (g : Store → List D → Option D) : List V → Hp → VK → Prop := fun xs H Q => ∃ p S ds d, Ok C p S H ∧ RepL C p H ds xs ∧ g S ds = some d ∧ Wants C p S H d Q

def addD (S : Store) (a b : D) : Option D := match a, b with
  | .int i, .int j => some (.int (i + j))
  | .str x, .str y => if x.length + y.length ≤ sizeLine then some (.str (x ++ y)) else none
  | .tup xs, .tup ys => if xs.length + ys.length ≤ sizeLine then some (.tup (xs ++ ys)) else none
  | a, b => match listW S a, listW S b with
    | some xs, some ys => if xs.length + ys.length ≤ sizeLine then some (.lst (xs ++ ys)) else none
    | _, _ => none
def subD (_ : Store) (a b : D) : Option D := match a, b with
  | .int i, .int j => some (.int (i - j))
  | _, _ => none
def smallB (i : Int) (k : Nat) : Bool := decide (i.natAbs.log2 < k)
def mulD (S : Store) (a b : D) : Option D := match a, b with
  | .int i, .int j => if i.natAbs.log2 + j.natAbs.log2 < 1000000 then some (.int (i * j)) else none
  | .tup xs, .int k => if xs = [] then none else if 1 ≤ k ∧ k ≤ 1000 ∧ xs.length ≤ 1000 then some (.tup (List.replicate k.toNat xs).flatten) else none
  | a, .int k => match listW S a with
    | some xs => if -(2 ^ 63) ≤ k ∧ k < 2 ^ 63 ∧ xs.length * k.toNat ≤ sizeLine then some (.lst (List.replicate k.toNat xs).flatten) else none
    | none => none
  | _, _ => none
def fdivD (_ : Store) (a b : D) : Option D := match a, b with
  | .int i, .int j => if 0 < j ∧ j.natAbs.log2 < 9000 then some (.int (i / j)) else none
  | _, _ => none
def modD (_ : Store) (a b : D) : Option D := match a, b with
  | .int i, .int j => if 0 < j then some (.int (i % j)) else none
  | _, _ => none
def powD (_ : Store) (a b : D) : Option D := match a, b with
  | .int i, .int j => if 0 ≤ j ∧ j ≤ 1000000 ∧ i.natAbs < 2 ^ 64 then some (.int (i ^ j.toNat)) else none
  | _, _ => none
def ltD (S : Store) (a b : D) : Option D := match a, b with
  | .int i, .int j => some (.bl (decide (i < j)))
  | .str x, .str y => some (.bl (decide (x.cps.toList < y.cps.toList)))
  | _, _ => none
def leD (S : Store) (a b : D) : Option D := match a, b with
  | .int i, .int j => some (.bl (decide (i ≤ j)))
  | _, _ => none
def gtD (S : Store) (a b : D) : Option D := match a, b with
  | .int i, .int j => some (.bl (decide (j < i)))
  | _, _ => none
def geD (S : Store) (a b : D) : Option D := match a, b with
  | .int i, .int j => some (.bl (decide (j ≤ i)))
  | _, _ => none
def isD (_ : Store) (a b : D) : Option D := match a, b with
  | .non, .non => some (.bl true)
  | .bl x, .bl y => some (.bl (decide (x = y)))
  | .err _ _, .non => some (.bl false)
  | .int _, .non => some (.bl false)
  | .str _, .non => some (.bl false)
  | .tup _, .non => some (.bl false)
  | .lst _, .non => some (.bl false)
  | .rol _, .non => some (.bl false)
  | .loc _, .non => some (.bl false)
  | .bl _, .non => some (.bl false)
  | _, _ => none

section
variable {X : Cx} {C : Cst}
theorem RepL.rep {p : Pl} {H : Hp} {ds : List D} {vs : List V} (h : RepL C p H ds vs) : ∀ k : Nat, RepL C p H (List.replicate k ds).flatten (List.replicate k vs).flatten
  | 0 => by simp [RepL]
  | k + 1 => by
    rw [List.replicate_succ, List.replicate_succ, List.flatten_cons, List.flatten_cons]
    exact RepL.append h (RepL.rep h k)
theorem listW_notStr {S : Store} {x : Str} : listW S (.str x) = none := rfl
theorem add_ok (hK : X.K = C.K) : OpR X (binaryOp .Add) (rV2 C addD) := by
  intro pins s σ H x y v u Q I rx ry h
  obtain ⟨p, S, dx, dy, d, ok, r1, r2, e, w⟩ := h
  have lists : ∀ xs ys, listW S dx = some xs → listW S dy = some ys → xs.length + ys.length ≤ sizeLine → d = .lst (xs ++ ys) → wpAny (model X.prog X.w) X.A (binaryOp .Add v u) (EP X pins σ Q) X.xe s := by
    intro xs ys h1 h2 hz hd
    subst hd
    obtain ⟨a, vs, rfl, ha, q1⟩ := listW_rep ok r1 h1
    obtain ⟨b, ws, rfl, hb, q2⟩ := listW_rep ok r2 h2
    refine op_cat pins s σ H _ _ v u Q I rx ry ⟨a, b, vs, ws, rfl, rfl, ha, hb, by rw [← q1.length, ← q2.length]; exact hz, fun q hq => ?_⟩
    exact w.lst ok (q1.append q2) hq
  cases dx with
  | int i =>
    cases dy with
    | int j =>
      simp only [addD, Option.some.injEq] at e; subst e
      simp only [Rep] at r1 r2
      exact op_add pins s σ H x y v u Q I rx ry ⟨i, j, r1, r2, w.here ok (by simp only [Rep])⟩
    | _ => simp [addD, listW] at e
  | str i =>
    cases dy with
    | str j =>
      simp only [addD] at e
      split at e
      · rename_i hz
        cases e
        simp only [Rep] at r1 r2
        exact op_add_str pins s σ H x y v u Q I rx ry ⟨i, j, r1, r2, hz, w.here ok (by simp only [Rep])⟩
      · cases e
    | _ => simp [addD, listW] at e
  | tup xs =>
    cases dy with
    | tup ys =>
      simp only [addD] at e
      split at e
      · rename_i hz
        cases e
        obtain ⟨a, vs, rfl, ha, q1⟩ := tup_rep r1
        obtain ⟨b, ws, rfl, hb, q2⟩ := tup_rep r2
        refine op_catA pins s σ H _ _ v u Q I rx ry ⟨a, b, vs, ws, rfl, rfl, by rw [hK]; exact ha, by rw [hK]; exact hb, by rw [← q1.length, ← q2.length]; exact hz, fun hv => ?_, fun _ hw => ?_, fun _ _ q hq => w.tup ok (q1.append q2) hq⟩
        · have e1 := q1.length
          rw [hv] at e1
          have e2 : xs = [] := List.eq_nil_of_length_eq_zero e1
          subst e2
          exact w.here ok (by simpa using r2)
        · have e1 := q2.length
          rw [hw] at e1
          have e2 : ys = [] := List.eq_nil_of_length_eq_zero e1
          subst e2
          exact w.here ok (by simpa using r1)
      · cases e
    | _ => simp [addD, listW] at e
  | lst xs =>
    simp only [addD] at e
    split at e
    · rename_i xs ys h1 h2
      split at e
      · rename_i hz
        cases e
        exact lists _ _ h1 h2 hz rfl
      · cases e
    · cases e
  | loc l =>
    simp only [addD] at e
    split at e
    · rename_i xs ys h1 h2
      split at e
      · rename_i hz
        cases e
        exact lists _ _ h1 h2 hz rfl
      · cases e
    · cases e
  | _ => simp [addD, listW] at e
theorem sub_ok : OpR X (binaryOp .Sub) (rV2 C subD) := by
  intro pins s σ H x y v u Q I rx ry h
  obtain ⟨p, S, dx, dy, d, ok, r1, r2, e, w⟩ := h
  cases dx <;> cases dy <;> first | (simp [subD] at e; done) | skip
  simp only [subD, Option.some.injEq] at e; subst e
  simp only [Rep] at r1 r2
  exact op_sub pins s σ H x y v u Q I rx ry ⟨_, _, r1, r2, w.here ok (by simp only [Rep])⟩
theorem fdiv_ok : OpR X (binaryOp .FloorDiv) (rV2 C fdivD) := by
  intro pins s σ H x y v u Q I rx ry h
  obtain ⟨p, S, dx, dy, d, ok, r1, r2, e, w⟩ := h
  cases dx <;> cases dy <;> first | (simp [fdivD] at e; done) | skip
  simp only [fdivD] at e
  split at e
  · rename_i hz
    cases e
    simp only [Rep] at r1 r2
    exact op_fdivW pins s σ H x y v u Q I rx ry ⟨_, _, r1, r2, hz, w.here ok (by simp only [Rep])⟩
  · cases e
theorem mod_ok : OpR X (binaryOp .Mod) (rV2 C modD) := by
  intro pins s σ H x y v u Q I rx ry h
  obtain ⟨p, S, dx, dy, d, ok, r1, r2, e, w⟩ := h
  cases dx <;> cases dy <;> first | (simp [modD] at e; done) | skip
  simp only [modD] at e
  split at e
  · rename_i hz
    cases e
    simp only [Rep] at r1 r2
    exact op_mod pins s σ H x y v u Q I rx ry ⟨_, _, r1, r2, hz, w.here ok (by simp only [Rep])⟩
  · cases e
theorem pow_ok : OpR X (binaryOp .Pow) (rV2 C powD) := by
  intro pins s σ H x y v u Q I rx ry h
  obtain ⟨p, S, dx, dy, d, ok, r1, r2, e, w⟩ := h
  cases dx <;> cases dy <;> first | (simp [powD] at e; done) | skip
  simp only [powD] at e
  split at e
  · rename_i hz
    cases e
    simp only [Rep] at r1 r2
    exact op_pow pins s σ H x y v u Q I rx ry ⟨_, _, r1, r2, hz, w.here ok (by simp only [Rep])⟩
  · cases e
theorem lt_ok : OpR X (compareOp .Lt) (rV2 C ltD) := by
  intro pins s σ H x y v u Q I rx ry h
  obtain ⟨p, S, dx, dy, d, ok, r1, r2, e, w⟩ := h
  cases dx <;> cases dy <;> first | (simp [ltD] at e; done) | skip
  · simp only [ltD, Option.some.injEq] at e; subst e
    simp only [Rep] at r1 r2
    exact op_lt pins s σ H x y v u Q I rx ry ⟨_, _, r1, r2, w.here ok (by simp only [Rep])⟩
  · simp only [ltD, Option.some.injEq] at e; subst e
    simp only [Rep] at r1 r2
    exact op_lt_str pins s σ H x y v u Q I rx ry ⟨_, _, r1, r2, w.here ok (by simp only [Rep])⟩
theorem le_ok : OpR X (compareOp .LtE) (rV2 C leD) := by
  intro pins s σ H x y v u Q I rx ry h
  obtain ⟨p, S, dx, dy, d, ok, r1, r2, e, w⟩ := h
  cases dx <;> cases dy <;> first | (simp [leD] at e; done) | skip
  simp only [leD, Option.some.injEq] at e; subst e
  simp only [Rep] at r1 r2
  exact op_le pins s σ H x y v u Q I rx ry ⟨_, _, r1, r2, w.here ok (by simp only [Rep])⟩
theorem gt_ok : OpR X (compareOp .Gt) (rV2 C gtD) := by
  intro pins s σ H x y v u Q I rx ry h
  obtain ⟨p, S, dx, dy, d, ok, r1, r2, e, w⟩ := h
  cases dx <;> cases dy <;> first | (simp [gtD] at e; done) | skip
  simp only [gtD, Option.some.injEq] at e; subst e
  simp only [Rep] at r1 r2
  exact op_gt pins s σ H x y v u Q I rx ry ⟨_, _, r1, r2, w.here ok (by simp only [Rep])⟩
theorem ge_ok : OpR X (compareOp .GtE) (rV2 C geD) := by
  intro pins s σ H x y v u Q I rx ry h
  obtain ⟨p, S, dx, dy, d, ok, r1, r2, e, w⟩ := h
  cases dx <;> cases dy <;> first | (simp [geD] at e; done) | skip
  simp only [geD, Option.some.injEq] at e; subst e
  simp only [Rep] at r1 r2
  exact op_ge pins s σ H x y v u Q I rx ry ⟨_, _, r1, r2, w.here ok (by simp only [Rep])⟩
end

open PySem PySem.Spec PyProof.Rows L2

/-! ### how wants are handed on -/
theorem pe_mono {X : Cx} {e : Expr} {t t' : TE} (h : PE X e t) (k : ∀ σ H Q, t' σ H Q → t σ H Q) : PE X e t' := ⟨fun pins s σ H Q I hw => h.run pins s σ H Q I (k σ H Q hw)⟩
theorem pt_mono {X : Cx} {e : Expr} {t t' : TT} (h : PT X e t) (k : ∀ σ H Q, t' σ H Q → t σ H Q) : PT X e t' := ⟨fun pins s σ H Q I hw => h.run pins s σ H Q I (k σ H Q hw)⟩
theorem pa_mono {X : Cx} {es : List Expr} {t t' : TA} (h : PA X es t) (k : ∀ σ H Q, t' σ H Q → t σ H Q) : PA X es t' := ⟨fun pos pins s σ H Q I hw => h.run pos pins s σ H Q I (k σ H Q hw)⟩

/-- a reading, whatever it gives -/
def TRe {α β : Type} (C : Cst) (π : Option (Addr × Obj)) (W : WX) (R : Pl → Hp → α → β → Prop) (m : Env → M α) : L2.St → Hp → (β → Hp → Prop) → Prop := fun σ H Q =>
  ∃ p S δ, p.π = π ∧ Ok C p S H ∧ REnv C p H δ σ ∧ Post C W p H σ R Q (m δ S)

section
variable {α β γ ε : Type} {C : Cst} {π : Option (Addr × Obj)} {W : WX} {p : Pl} {S : Store} {H : Hp} {σ : L2.St} {δ : Env}
theorem Post.bind {R : Pl → Hp → γ → ε → Prop} {R1 : Pl → Hp → α → β → Prop} {Q : ε → Hp → Prop} {Q1 : β → Hp → Prop} {r : Res α} {f : α → M γ} (h : Post C W p H σ R Q (r.bind f))
    (k : ∀ a S1 p' H' b, Step p H p' H' → Ok C p' S1 H' → R1 p' H' a b → Post C W p' H' σ R Q (f a S1) → Q1 b H') : Post C W p H σ R1 Q1 r := by
  cases r with
  | ok a S1 => exact fun p' H' b s o q => k a S1 p' H' b s o q (Post.step s h)
  | exc c d S1 => exact h
  | stuck => exact h.elim
theorem TRe.of {R : Pl → Hp → α → β → Prop} {m : Env → M α} {Q : β → Hp → Prop} (hp : p.π = π) (ok : Ok C p S H) (re : REnv C p H δ σ) (po : Post C W p H σ R Q (m δ S)) : TRe C π W R m σ H Q := ⟨p, S, δ, hp, ok, re, po⟩
/-- one reading behind another -/
theorem TRe.go {R : Pl → Hp → γ → ε → Prop} {R1 : Pl → Hp → α → β → Prop} {Q : ε → Hp → Prop} {Q1 : β → Hp → Prop} {m : Env → M α} {f : α → M γ} (hp : p.π = π) (ok : Ok C p S H) (re : REnv C p H δ σ) (po : Post C W p H σ R Q ((m δ S).bind f))
    (k : ∀ a S1 p' H' b, Keep C.K p H p' H' → Ok C p' S1 H' → p'.π = π → REnv C p' H' δ σ → R1 p' H' a b → Post C W p' H' σ R Q (f a S1) → Q1 b H') : TRe C π W R1 m σ H Q1 :=
  ⟨p, S, δ, hp, ok, re, Post.bind po fun a S1 p' H' b s o q po2 => k a S1 p' H' b (s.keep ok) o (s.err.trans hp) (re.keep (s.keep ok)) q po2⟩
end
theorem tee_eq {C : Cst} {π : Option (Addr × Obj)} {W : WX} {m : Env → M D} : TEe C π W m = TRe C π W (Rep C) m := rfl
theorem tte_eq {C : Cst} {π : Option (Addr × Obj)} {W : WX} {m : Env → M Bool} : TTe C π W m = TRe C π W (fun _ _ a b => a = b) m := rfl
theorem tae_eq {C : Cst} {π : Option (Addr × Obj)} {W : WX} {m : Env → M (List D)} : TAe C π W m = TRe C π W (RepL C) m := rfl

/-! ### what is reckoned -/
abbrev EM (α : Type) := Env → M α
def out {α : Type} (o : Option α) : M α := fun S => match o with
  | some d => .ok d S
  | none => .stuck
def mVar (i : Nat) : EM D := fun δ S => match δ[i]? with
  | some (some d) => .ok d S
  | _ => .stuck
def mC (d : D) : EM D := fun _ S => .ok d S
def mOp (g : Store → D → D → Option D) (a b : EM D) : EM D := fun δ S => (a δ S).bind fun x S1 => (b δ S1).bind fun y S2 => out (g S2 x y) S2
def mUn (g : Store → D → Option D) (a : EM D) : EM D := fun δ S => (a δ S).bind fun x S1 => out (g S1 x) S1
def mNil : EM (List D) := fun _ S => .ok [] S
def mCons (a : EM D) (b : EM (List D)) : EM (List D) := fun δ S => (a δ S).bind fun x S1 => (b δ S1).bind fun y S2 => .ok (x :: y) S2
def small (ds : List D) : Bool := decide (ds.length ≤ sizeLine)
def mTup (a : EM (List D)) : EM D := fun δ S => (a δ S).bind fun x S1 => if small x then .ok (.tup x) S1 else .stuck
def mLst (a : EM (List D)) : EM D := fun δ S => (a δ S).bind fun x S1 => if small x then .ok (.lst x) S1 else .stuck
def mLoc (a : EM (List D)) : EM D := fun δ S => (a δ S).bind fun x S1 => if small x then .ok (.loc S1.length) (S1 ++ [.lst x]) else .stuck
def mCB (g : Store → List D → Option D) (a : EM (List D)) : EM D := fun δ S => (a δ S).bind fun x S1 => out (g S1 x) S1
def mIf (t : EM Bool) (a b : EM D) : EM D := fun δ S => (t δ S).bind fun k S1 => if k = true then a δ S1 else b δ S1
def mTest (a : EM D) : EM Bool := fun δ S => (a δ S).bind fun x S1 => match x with
  | .bl k => .ok k S1
  | _ => .stuck
def mNot (t : EM Bool) : EM Bool := fun δ S => (t δ S).bind fun k S1 => .ok (!k) S1
def mAnd (t u : EM Bool) : EM Bool := fun δ S => (t δ S).bind fun k S1 => if k = true then u δ S1 else .ok false S1
def mOr (t u : EM Bool) : EM Bool := fun δ S => (t δ S).bind fun k S1 => if k = true then .ok true S1 else u δ S1
def truD (S : Store) : D → Option Bool
  | .non => some false
  | .bl b => some b
  | .int i => some (i != 0)
  | .str x => if x.length ≤ sizeLine then some ((x.length : Int) != 0) else none
  | .tup ds => some (!ds.isEmpty)
  | .lst ds => some (!ds.isEmpty)
  | .rol ds => some (!ds.isEmpty)
  | .loc l => match S[l]? with
    | some (.lst ds) => some (!ds.isEmpty)
    | some (.dic kvs) => some (!kvs.isEmpty)
    | none => none
  | _ => none
def mTru (a : EM D) : EM Bool := fun δ S => (a δ S).bind fun x S1 => out (truD S1 x) S1
/-- a and b, a or b, not a as values -/
def mAndV (a b : EM D) : EM D := fun δ S => (a δ S).bind fun x S1 => (out (truD S1 x) S1).bind fun k S2 => if k = true then b δ S2 else .ok x S2
def mOrV (a b : EM D) : EM D := fun δ S => (a δ S).bind fun x S1 => (out (truD S1 x) S1).bind fun k S2 => if k = true then .ok x S2 else b δ S2
def mNotV (a : EM D) : EM D := fun δ S => (a δ S).bind fun x S1 => (out (truD S1 x) S1).bind fun k S2 => .ok (.bl (!k)) S2
/-- a op1 b op2 c -/
def mChain (g g' : Store → D → D → Option D) (a b c : EM D) : EM D := fun δ S => (a δ S).bind fun x S1 => (b δ S1).bind fun y S2 => (out (g S2 x y) S2).bind fun z S3 => match z with
  | .bl k => if k = true then (c δ S3).bind fun w S4 => out (g' S4 y w) S4 else .ok (.bl false) S3
  | _ => .stuck

section
variable {X : Cx} {C : Cst} {π : Option (Addr × Obj)} {W : WX} {a b c : Expr} {ma mb mc : EM D} {pos : Pos}
theorem Post.out {α β : Type} {p : Pl} {S : Store} {H : Hp} {σ : L2.St} {R : Pl → Hp → α → β → Prop} {Q : β → Hp → Prop} {o : Option α} (h : Post C W p H σ R Q (Ev.out o S)) :
    ∃ d, o = some d ∧ ∀ p' H' b, Step p H p' H' → Ok C p' S H' → R p' H' d b → Q b H' := by
  cases o with
  | some d => exact ⟨d, rfl, h⟩
  | none => exact h.elim
theorem e_var {i : Nat} {x : Str} (hN : X.N[i]? = some x) (hv : Vis X.env.scope x) (hd : (x == ("__debug__" : Str)) = false := by decide) (hcd : (x == ("__classdict__" : Str)) = false := by decide) :
    PE X (.Name x pos) (TEe C π W (mVar i)) := pe_mono (pe_var hN hv hd hcd) fun σ H Q h => by
  obtain ⟨p, S, δ, hp, ok, re, po⟩ := h
  unfold mVar at po
  split at po
  · rename_i d e
    obtain ⟨v, e2, r⟩ := re.2 i d e
    exact ⟨v, e2, po p H v (Step.refl _ _) ok r⟩
  · exact po.elim
theorem e_c {e : Expr} {v : V} {d : D} (h : PE X e (tC v)) (r : ∀ p H, Rep C p H d v) : PE X e (TEe C π W (mC d)) := pe_mono h fun σ H Q h => by
  obtain ⟨p, S, δ, hp, ok, re, po⟩ := h
  exact po p H v (Step.refl _ _) ok (r p H)
theorem e_int {i j pos} : PE X (.Constant (.int i) j pos) (TEe C π W (mC (.int i))) := e_c pe_int fun _ _ => by simp only [Rep]
theorem e_bl {i j pos} : PE X (.Constant (.bool i) j pos) (TEe C π W (mC (.bl i))) := e_c pe_bl fun _ _ => by simp only [Rep]
theorem e_non {j pos} : PE X (.Constant .none j pos) (TEe C π W (mC .non)) := e_c pe_non fun _ _ => by simp only [Rep]
theorem e_str {i j pos} : PE X (.Constant (.str i) j pos) (TEe C π W (mC (.str i))) := e_c pe_str fun _ _ => by simp only [Rep]
theorem e_op {op : Operator} {g : Store → D → D → Option D} (ho : OpR X (binaryOp op) (rV2 C g)) (ha : PE X a (TEe C π W ma)) (hb : PE X b (TEe C π W mb)) : PE X (.BinOp a op b pos) (TEe C π W (mOp g ma mb)) :=
  pe_mono (pe_op ho ha hb) fun σ H Q ⟨p, S, δ, hp, ok, re, po⟩ => TRe.go hp ok re po fun x S1 p1 H1 v k1 ok1 hp1 re1 r1 po1 => TRe.go hp1 ok1 re1 po1 fun y S2 p2 H2 w k2 ok2 hp2 re2 r2 po2 => by
    obtain ⟨d, e, q⟩ := po2.out
    exact ⟨p2, S2, x, y, d, ok2, r1.keep k2, r2, e, q⟩
theorem e_un {op : UnaryOp} {g : Store → D → Option D} (ho : UnR X (unaryOp op) (rV1 C g)) (ha : PE X a (TEe C π W ma)) : PE X (.UnaryOp op a pos) (TEe C π W (mUn g ma)) :=
  pe_mono (pe_un ho ha) fun σ H Q ⟨p, S, δ, hp, ok, re, po⟩ => TRe.go hp ok re po fun x S1 p1 H1 v k1 ok1 hp1 re1 r1 po1 => by
    obtain ⟨d, e, q⟩ := po1.out
    exact ⟨p1, S1, x, d, ok1, r1, e, q⟩
theorem e_cmp {op : CmpOp} {g : Store → D → D → Option D} (ho : OpR X (compareOp op) (rV2 C g)) (ha : PE X a (TEe C π W ma)) (hb : PE X b (TEe C π W mb)) (hm : behindInMarks op b = false) : PE X (.Compare a [op] [b] pos) (TEe C π W (mOp g ma mb)) :=
  pe_mono (pe_cmpR ho ha hb hm) fun σ H Q ⟨p, S, δ, hp, ok, re, po⟩ => TRe.go hp ok re po fun x S1 p1 H1 v k1 ok1 hp1 re1 r1 po1 => TRe.go hp1 ok1 re1 po1 fun y S2 p2 H2 w k2 ok2 hp2 re2 r2 po2 => by
    obtain ⟨d, e, q⟩ := po2.out
    exact ⟨p2, S2, x, y, d, ok2, r1.keep k2, r2, e, q⟩
theorem e_chain {op op' : CmpOp} {g g' : Store → D → D → Option D} (ho : OpR X (compareOp op) (rV2 C g)) (ho' : OpR X (compareOp op') (rV2 C g')) (ha : PE X a (TEe C π W ma)) (hb : PE X b (TEe C π W mb)) (hc : PE X c (TEe C π W mc))
    (hm : lastMarks [op, op'] [b, c] = false := by with_unfolding_all rfl) : PE X (.Compare a [op, op'] [b, c] pos) (TEe C π W (mChain g g' ma mb mc)) :=
  pe_mono (pe_chain ho ho' ha hb hc hm) fun σ H Q ⟨p, S, δ, hp, ok, re, po⟩ => TRe.go hp ok re po fun x S1 p1 H1 v k1 ok1 hp1 re1 r1 po1 => TRe.go hp1 ok1 re1 po1 fun y S2 p2 H2 w k2 ok2 hp2 re2 r2 po2 => by
    cases e : g S2 x y with
    | none => rw [e] at po2; exact po2.elim
    | some z =>
      rw [e] at po2
      refine ⟨p2, S2, x, y, z, ok2, r1.keep k2, r2, e, fun p3 H3 zv s3 ok3 r3 => ?_⟩
      have k3 := s3.keep ok2
      have po3 := Post.step s3 po2
      cases z with
      | bl k =>
        simp only [Rep] at r3
        refine ⟨k, r3, ?_⟩
        cases k with
        | true =>
          show TEe C π W mc σ H3 _
          exact TRe.go (s3.err.trans hp2) ok3 (re2.keep k3) po3 fun w' S4 p4 H4 v4 k4 ok4 hp4 re4 r4 po4 => by
            obtain ⟨d, e4, q⟩ := po4.out
            exact ⟨p4, S4, y, w', d, ok4, (r2.keep k3).keep k4, r4, e4, q⟩
        | false => exact po3 p3 H3 _ (Step.refl _ _) ok3 (by simp only [Rep])
      | _ => exact po3.elim

/-! ### rows of arguments -/
variable {es : List Expr} {ms : EM (List D)}
theorem a_nil : PA X [] (TAe C π W mNil) := pa_mono pa_nil fun σ H Q ⟨p, S, δ, hp, ok, re, po⟩ => po p H [] (Step.refl _ _) ok (by simp only [RepL])
theorem a_cons (ha : PE X a (TEe C π W ma)) (hr : PA X es (TAe C π W ms)) (hs : starEach (a :: es) X.env = (false, eval a X.env) :: starEach es X.env := by rfl) : PA X (a :: es) (TAe C π W (mCons ma ms)) :=
  pa_mono (pa_cons ha hr hs) fun σ H Q ⟨p, S, δ, hp, ok, re, po⟩ => TRe.go hp ok re po fun x S1 p1 H1 v k1 ok1 hp1 re1 r1 po1 => TRe.go hp1 ok1 re1 po1 fun y S2 p2 H2 w k2 ok2 hp2 re2 r2 po2 =>
    po2 p2 H2 _ (Step.refl _ _) ok2 (by simp only [RepL]; exact ⟨v, w, rfl, r1.keep k2, r2⟩)
theorem e_tup {x1} (h : PA X es (TAe C π W ms)) : PE X (.Tuple es x1 pos) (TEe C π W (mTup ms)) :=
  pe_mono (pe_tup h) fun σ H Q ⟨p, S, δ, hp, ok, re, po⟩ => TRe.go hp ok re po fun x S1 p1 H1 v k1 ok1 hp1 re1 r1 po1 => by
    split at po1
    · rename_i z
      have w : Wants C p1 S1 H1 (.tup x) Q := fun p' H' v s o r => po1 p' H' v s o r
      exact ⟨by rw [← r1.length]; exact of_decide_eq_true z, fun q hq => w.tup ok1 r1 hq⟩
    · exact po1.elim
theorem e_lst (h : PA X es (TAe C π W ms)) : PE X (.List es pos) (TEe C π W (mLst ms)) :=
  pe_mono (pe_lst h) fun σ H Q ⟨p, S, δ, hp, ok, re, po⟩ => TRe.go hp ok re po fun x S1 p1 H1 v k1 ok1 hp1 re1 r1 po1 => by
    split at po1
    · rename_i z
      have w : Wants C p1 S1 H1 (.lst x) Q := fun p' H' v s o r => po1 p' H' v s o r
      exact ⟨by rw [← r1.length]; exact of_decide_eq_true z, fun q hq => w.lst ok1 r1 hq⟩
    · exact po1.elim

/-! ### a new list that will change -/
theorem Step.newLoc {p : Pl} {H : Hp} {q : Addr} {o : HO} (hq : H q = none) : Step p H { p with ρ := p.ρ ++ [q] } (upd H q o) where
  pre := ⟨[q], rfl⟩
  hid := rfl
  err := rfl
  frz := fun a ob h _ => by rw [upd_ne (ne_of_none h hq)]; exact h
  new := fun a h h' => by
    rcases List.mem_append.mp h with z | z
    · exact absurd z h'
    · have e : a = q := by simpa using z
      rw [e]; exact hq
theorem Ok.notρ {C : Cst} {p : Pl} {S : Store} {H : Hp} {q : Addr} (ok : Ok C p S H) (hq : H q = none) : q ∉ p.ρ := fun m => by
  rcases ok.locNot m with ⟨vs, e⟩ | ⟨vs, e⟩ <;> (rw [hq] at e; cases e)
theorem Ok.newLoc {C : Cst} {p : Pl} {S : Store} {H : Hp} {q : Addr} {o : HO} {c : Cell} (ok : Ok C p S H) (hq : H q = none) (r : CellRep C { p with ρ := p.ρ ++ [q] } (upd H q o) q c) : Ok C { p with ρ := p.ρ ++ [q] } (S ++ [c]) (upd H q o) := by
  have k := (Step.newLoc (p := p) (o := o) hq).keep ok
  refine ⟨by simp [ok.len], ?_, fun l c' h => ?_, fun a h => ?_⟩
  · show (p.ρ ++ [q]).Nodup
    rw [List.nodup_append]
    refine ⟨ok.nd, by simp, fun a ha b hb => ?_⟩
    have e : b = q := by simpa using hb
    rw [e]
    exact fun z => ok.notρ hq (z ▸ ha)
  · by_cases hl : l < S.length
    · rw [List.getElem?_append_left hl] at h
      obtain ⟨a, e, r'⟩ := ok.cell l c' h
      refine ⟨a, k.get l a e, r'.keep k fun ob h => by rw [upd_ne (ne_of_none h hq)]; exact h⟩
    · have hl' : l = S.length := by
        have := (List.getElem?_eq_some_iff.mp h).1
        simp at this; omega
      subst hl'
      simp at h
      subst h
      refine ⟨q, ?_, r⟩
      show (p.ρ ++ [q])[S.length]? = some q
      rw [← ok.len]; simp
  · obtain ⟨n, ob, e⟩ := ok.hid a h
    refine ⟨fun m => ?_, ob, by rw [upd_ne (ne_of_none e hq)]; exact e⟩
    rcases List.mem_append.mp m with z | z
    · exact n z
    · have e' : a = q := by simpa using z
      rw [e', hq] at e; cases e
theorem Rep.newLoc {C : Cst} {p : Pl} {S : Store} {H : Hp} {q : Addr} (ok : Ok C p S H) : Rep C { p with ρ := p.ρ ++ [q] } H (.loc S.length) (.ref q) := by
  simp only [Rep]
  exact ⟨q, rfl, by show (p.ρ ++ [q])[S.length]? = some q; rw [← ok.len]; simp⟩
theorem Rep.newLoc' {C : Cst} {p : Pl} {S : Store} {H H' : Hp} {q : Addr} (ok : Ok C p S H) : Rep C { p with ρ := p.ρ ++ [q] } H' (.loc S.length) (.ref q) := by
  simp only [Rep]
  exact ⟨q, rfl, by show (p.ρ ++ [q])[S.length]? = some q; rw [← ok.len]; simp⟩
theorem e_loc (h : PA X es (TAe C π W ms)) : PE X (.List es pos) (TEe C π W (mLoc ms)) :=
  pe_mono (pe_lst h) fun σ H Q ⟨p, S, δ, hp, ok, re, po⟩ => TRe.go hp ok re po fun x S1 p1 H1 v k1 ok1 hp1 re1 r1 po1 => by
    split at po1
    · rename_i z
      refine ⟨by rw [← r1.length]; exact of_decide_eq_true z, fun q hq => ?_⟩
      have s := Step.newLoc (p := p1) (o := .lst v) hq
      exact po1 _ _ _ s (ok1.newLoc hq ⟨v, upd_same, RepL.keep (s.keep ok1) x v r1⟩) (Rep.newLoc' ok1)
    · exact po1.elim

/-! ### tests -/
theorem truD_rep {p : Pl} {S : Store} {H : Hp} {d : D} {v : V} {k : Bool} (ok : Ok C p S H) (r : Rep C p H d v) (e : truD S d = some k) : TruV C.K v H k := by
  cases d with
  | non => simp only [Rep] at r; subst r; simp only [truD, Option.some.injEq] at e; exact e.symm
  | bl b => simp only [Rep] at r; subst r; simp only [truD, Option.some.injEq] at e; exact e.symm
  | int b => simp only [Rep] at r; subst r; simp only [truD, Option.some.injEq] at e; exact e.symm
  | str b =>
    simp only [Rep] at r; subst r; simp only [truD] at e
    split at e
    · rename_i z; cases e; exact ⟨z, rfl⟩
    · cases e
  | tup ds =>
    obtain ⟨a, vs, rfl, h, q⟩ := tup_rep r
    simp only [truD, Option.some.injEq] at e
    refine .inr (.inl ⟨vs, h, ?_⟩)
    rw [← e]
    have z := q.length
    cases ds <;> cases vs <;> first | rfl | simp at z
  | lst ds =>
    obtain ⟨a, vs, rfl, h, q⟩ := listOf_rep ok r (show listOf S (.lst ds) = some ds from rfl)
    simp only [truD, Option.some.injEq] at e
    refine .inl ⟨vs, h, ?_⟩
    rw [← e]
    have z := q.length
    cases ds <;> cases vs <;> first | rfl | simp at z
  | rol ds =>
    obtain ⟨a, vs, rfl, h, q⟩ := listOf_rep ok r (show listOf S (.rol ds) = some ds from rfl)
    simp only [truD, Option.some.injEq] at e
    refine .inl ⟨vs, h, ?_⟩
    rw [← e]
    have z := q.length
    cases ds <;> cases vs <;> first | rfl | simp at z
  | loc l =>
    simp only [truD] at e
    split at e
    · rename_i ds hl
      cases e
      obtain ⟨a, vs, rfl, h, q⟩ := listOf_rep ok r (show listOf S (.loc l) = some ds by simp only [listOf, hl])
      refine .inl ⟨vs, h, ?_⟩
      have z := q.length
      cases ds <;> cases vs <;> first | rfl | simp at z
    · rename_i kvs hl
      cases e
      obtain ⟨a, rfl, _, vs, h, q⟩ := locAt ok r hl
      refine .inr (.inr ⟨vs, h, ?_⟩)
      cases kvs with
      | nil => simp only [RepKV] at q; rw [q]; rfl
      | cons x kvs =>
        obtain ⟨x1, x2⟩ := x
        simp only [RepKV] at q
        obtain ⟨_, _, rfl, _⟩ := q
        rfl
    · cases e
  | _ => simp [truD] at e
variable {tA tB : EM Bool} {rest : List Expr}
theorem t_tru (hK : X.K = C.K) (ha : PE X a (TEe C π W ma)) (he : ∀ whole, isTrue a X.env whole = (do let v ← whole; standAt a.pos; holding [v] (truthy v))) : PT X a (TTe C π W (mTru ma)) :=
  pt_mono (pt_truth ha he) fun σ H Q ⟨p, S, δ, hp, ok, re, po⟩ => TRe.go hp ok re po fun x S1 p1 H1 v k1 ok1 hp1 re1 r1 po1 => by
    obtain ⟨d, e, q⟩ := po1.out
    exact ⟨d, by rw [hK]; exact truD_rep ok1 r1 e, q p1 H1 d (Step.refl _ _) ok1 rfl⟩
theorem t_cmp {op : CmpOp} {g : Store → D → D → Option D} (ho : OpR X (compareOp op) (rV2 C g)) (ha : PE X a (TEe C π W ma)) (hb : PE X b (TEe C π W mb)) (hm : behindInMarks op b = false) : PT X (.Compare a [op] [b] pos) (TTe C π W (mTest (mOp g ma mb))) :=
  pt_mono (pt_cmpR ho ha hb hm) fun σ H Q ⟨p, S, δ, hp, ok, re, po⟩ => by
    have po' : Post C W p H σ (fun _ _ a b => a = b) Q ((ma δ S).bind fun x S1 => (mb δ S1).bind fun y S2 => (out (g S2 x y) S2).bind fun x S1 => match x with
      | .bl k => Res.ok k S1
      | _ => .stuck) := by
      have e : mTest (mOp g ma mb) δ S = (ma δ S).bind fun x S1 => (mb δ S1).bind fun y S2 => (out (g S2 x y) S2).bind fun x S1 => match x with
        | .bl k => Res.ok k S1
        | _ => .stuck := by
        unfold mTest mOp
        cases ma δ S with
        | ok x S1 =>
          simp only [Res.bind]
          cases mb δ S1 <;> rfl
        | exc => rfl
        | stuck => rfl
      rw [← e]; exact po
    exact TRe.go hp ok re po' fun x S1 p1 H1 v k1 ok1 hp1 re1 r1 po1 => TRe.go hp1 ok1 re1 po1 fun y S2 p2 H2 w k2 ok2 hp2 re2 r2 po2 => by
      cases e : g S2 x y with
      | none => rw [e] at po2; exact po2.elim
      | some z =>
        rw [e] at po2
        refine ⟨p2, S2, x, y, z, ok2, r1.keep k2, r2, e, fun p3 H3 zv s3 ok3 r3 => ?_⟩
        have po3 := Post.step s3 po2
        cases z with
        | bl k =>
          simp only [Rep] at r3
          exact ⟨k, r3, po3 p3 H3 k (Step.refl _ _) ok3 rfl⟩
        | _ => exact po3.elim
/-- any other value that is a bool, as a test -/
theorem t_val (ha : PE X a (TEe C π W ma)) (he : ∀ whole, isTrue a X.env whole = (do let v ← whole; standAt a.pos; holding [v] (truthy v)) := by intro _; rfl) : PT X a (TTe C π W (mTest ma)) :=
  pt_mono (pt_val ha he) fun σ H Q ⟨p, S, δ, hp, ok, re, po⟩ => TRe.go hp ok re po fun x S1 p1 H1 v k1 ok1 hp1 re1 r1 po1 => by
    cases x with
    | bl k => simp only [Rep] at r1; exact ⟨k, r1, po1 p1 H1 k (Step.refl _ _) ok1 rfl⟩
    | _ => exact po1.elim
theorem pw_mono {X : Cx} {e : Expr} {t t' : TT} (h : PW X e t) (k : ∀ σ H Q, t' σ H Q → t σ H Q) : PW X e t' := ⟨fun wh pins s σ H Q I hw => h.run wh pins s σ H Q I (k σ H Q hw)⟩
theorem w_and (ha : PT X a (TTe C π W tA)) (hb : PW X (.BoolOp .And (b :: rest) pos) (TTe C π W tB)) : PW X (.BoolOp .And (a :: b :: rest) pos) (TTe C π W (mAnd tA tB)) :=
  pw_mono (pw_and ha hb) fun σ H Q ⟨p, S, δ, hp, ok, re, po⟩ => TRe.go hp ok re po fun x S1 p1 H1 v k1 ok1 hp1 re1 r1 po1 => by
    subst r1
    cases x with
    | true => exact ⟨p1, S1, δ, hp1, ok1, re1, po1⟩
    | false => exact po1 p1 H1 false (Step.refl _ _) ok1 rfl
theorem w_or (ha : PT X a (TTe C π W tA)) (hb : PW X (.BoolOp .Or (b :: rest) pos) (TTe C π W tB)) : PW X (.BoolOp .Or (a :: b :: rest) pos) (TTe C π W (mOr tA tB)) :=
  pw_mono (pw_or ha hb) fun σ H Q ⟨p, S, δ, hp, ok, re, po⟩ => TRe.go hp ok re po fun x S1 p1 H1 v k1 ok1 hp1 re1 r1 po1 => by
    subst r1
    cases x with
    | true => exact po1 p1 H1 true (Step.refl _ _) ok1 rfl
    | false => exact ⟨p1, S1, δ, hp1, ok1, re1, po1⟩
theorem t_not (ha : PT X a (TTe C π W tA)) : PT X (.UnaryOp .Not a pos) (TTe C π W (mNot tA)) :=
  pt_mono (pt_not ha) fun σ H Q ⟨p, S, δ, hp, ok, re, po⟩ => TRe.go hp ok re po fun x S1 p1 H1 v k1 ok1 hp1 re1 r1 po1 => by
    subst r1
    exact po1 p1 H1 _ (Step.refl _ _) ok1 rfl
theorem e_if {cnd : Expr} (hc : PT X cnd (TTe C π W tA)) (ha : PE X a (TEe C π W ma)) (hb : PE X b (TEe C π W mb)) : PE X (.IfExp cnd a b pos) (TEe C π W (mIf tA ma mb)) :=
  pe_mono (pe_ifExp hc ha hb) fun σ H Q ⟨p, S, δ, hp, ok, re, po⟩ => TRe.go hp ok re po fun x S1 p1 H1 v k1 ok1 hp1 re1 r1 po1 => by
    subst r1
    cases x with
    | true => exact ⟨p1, S1, δ, hp1, ok1, re1, po1⟩
    | false => exact ⟨p1, S1, δ, hp1, ok1, re1, po1⟩
theorem e_and (hK : X.K = C.K) (ha : PE X a (TEe C π W ma)) (hb : PE X (.BoolOp .And (b :: rest) pos) (TEe C π W mb)) : PE X (.BoolOp .And (a :: b :: rest) pos) (TEe C π W (mAndV ma mb)) :=
  pe_mono (pe_andT ha hb) fun σ H Q ⟨p, S, δ, hp, ok, re, po⟩ => TRe.go hp ok re po fun x S1 p1 H1 v k1 ok1 hp1 re1 r1 po1 => by
    cases e : truD S1 x with
    | none => rw [e] at po1; exact po1.elim
    | some k =>
      rw [e] at po1
      refine ⟨k, by rw [hK]; exact truD_rep ok1 r1 e, ?_⟩
      cases k with
      | true => exact ⟨p1, S1, δ, hp1, ok1, re1, po1⟩
      | false => exact po1 p1 H1 _ (Step.refl _ _) ok1 r1
theorem e_or (hK : X.K = C.K) (ha : PE X a (TEe C π W ma)) (hb : PE X (.BoolOp .Or (b :: rest) pos) (TEe C π W mb)) : PE X (.BoolOp .Or (a :: b :: rest) pos) (TEe C π W (mOrV ma mb)) :=
  pe_mono (pe_orT ha hb) fun σ H Q ⟨p, S, δ, hp, ok, re, po⟩ => TRe.go hp ok re po fun x S1 p1 H1 v k1 ok1 hp1 re1 r1 po1 => by
    cases e : truD S1 x with
    | none => rw [e] at po1; exact po1.elim
    | some k =>
      rw [e] at po1
      refine ⟨k, by rw [hK]; exact truD_rep ok1 r1 e, ?_⟩
      cases k with
      | true => exact po1 p1 H1 _ (Step.refl _ _) ok1 r1
      | false => exact ⟨p1, S1, δ, hp1, ok1, re1, po1⟩
theorem e_not (hK : X.K = C.K) (ha : PE X a (TEe C π W ma)) : PE X (.UnaryOp .Not a pos) (TEe C π W (mNotV ma)) :=
  pe_mono (pe_notT ha) fun σ H Q ⟨p, S, δ, hp, ok, re, po⟩ => TRe.go hp ok re po fun x S1 p1 H1 v k1 ok1 hp1 re1 r1 po1 => by
    cases e : truD S1 x with
    | none => rw [e] at po1; exact po1.elim
    | some k =>
      rw [e] at po1
      exact ⟨k, by rw [hK]; exact truD_rep ok1 r1 e, po1 p1 H1 _ (Step.refl _ _) ok1 (by simp only [Rep])⟩

/-! ### calls of what is built in -/
theorem e_cb {id : String} {x : Str} {g : Store → List D → Option D} {e : Expr} {p : Pos} (hc : CallR X (.builtin id) (rVs C g)) (hg : Gl X x) (hm : X.mg x = none) (hv : bootBuiltins x = some (.builtin id)) (ha : PA X (e :: es) (TAe C π W ms)) (hn : x ≠ "__name__" := by decide) (hdb : (x == ("__debug__" : Str)) = false := by decide)
    (he : starEach (e :: es) X.env = (false, eval e X.env) :: starEach es X.env := by rfl) (hpl : (backTo pos (starEach es X.env)).any (·.1) = false := by rfl) : PE X (.Call (.Name x p) (e :: es) [] pos) (TEe C π W (mCB g ms)) :=
  pe_mono (pe_callB hc hg hm hv ha hn hdb he hpl) fun σ H Q ⟨p, S, δ, hp, ok, re, po⟩ => TRe.go hp ok re po fun x S1 p1 H1 v k1 ok1 hp1 re1 r1 po1 => by
    obtain ⟨d, e, q⟩ := po1.out
    exact ⟨p1, S1, x, d, ok1, r1, e, q⟩
theorem e_ct {T : String} {x : Str} {g : Store → List D → Option D} {e : Expr} {p : Pos} (hc : CallR X (.type T) (rVs C g)) (hg : Gl X x) (hm : X.mg x = none) (hv : bootBuiltins x = some (.type T)) (ha : PA X (e :: es) (TAe C π W ms)) (hn : x ≠ "__name__" := by decide) (hdb : (x == ("__debug__" : Str)) = false := by decide)
    (he : starEach (e :: es) X.env = (false, eval e X.env) :: starEach es X.env := by rfl) (hpl : (backTo pos (starEach es X.env)).any (·.1) = false := by rfl) : PE X (.Call (.Name x p) (e :: es) [] pos) (TEe C π W (mCB g ms)) :=
  pe_mono (pe_callTy hc hg hm hv ha hn hdb he hpl) fun σ H Q ⟨p, S, δ, hp, ok, re, po⟩ => TRe.go hp ok re po fun x S1 p1 H1 v k1 ok1 hp1 re1 r1 po1 => by
    obtain ⟨d, e, q⟩ := po1.out
    exact ⟨p1, S1, x, d, ok1, r1, e, q⟩
/-- a[b] -/
theorem e_ix {g : Store → D → D → Option D} (hr : IxR X (rV2 C g)) (ha : PE X a (TEe C π W ma)) (hb : PE X b (TEe C π W mb)) (hs : PlainIx b) : PE X (.Subscript a b pos) (TEe C π W (mOp g ma mb)) :=
  pe_mono (pe_ix hr ha hb hs) fun σ H Q ⟨p, S, δ, hp, ok, re, po⟩ => TRe.go hp ok re po fun x S1 p1 H1 v k1 ok1 hp1 re1 r1 po1 => TRe.go hp1 ok1 re1 po1 fun y S2 p2 H2 w k2 ok2 hp2 re2 r2 po2 => by
    obtain ⟨d, e, q⟩ := po2.out
    exact ⟨p2, S2, x, y, d, ok2, r1.keep k2, r2, e, q⟩
end

open PySem PySem.Spec PyProof.Rows L2

/-! ### statements -/
inductive SR where
  | nx (δ : Env) (S : Store) | rt (d : D) (S : Store) | bk (δ : Env) (S : Store) | ct (δ : Env) (S : Store) | exc (c : Nat) (d : D) (δ : Env) (S : Store) | stuck
abbrev SM := Env → Store → SR
def SR.of {α : Type} (r : Res α) (δ : Env) (k : α → Store → SR) : SR := match r with
  | .ok a S => k a S
  | .exc c d S => .exc c d δ S
  | .stuck => .stuck
def PostS (C : Cst) (W : WX) (p : Pl) (H : Hp) (D : Ends) : SR → Prop
  | .nx δ' S' => ∀ p' H' σ', Step p H p' H' → Ok C p' S' H' → REnv C p' H' δ' σ' → D.nx σ' H'
  | .rt d S' => ∀ p' H' v, Step p H p' H' → Ok C p' S' H' → Rep C p' H' d v → D.rt v H'
  | .bk δ' S' => ∀ p' H' σ', Step p H p' H' → Ok C p' S' H' → REnv C p' H' δ' σ' → D.bk σ' H'
  | .ct δ' S' => ∀ p' H' σ', Step p H p' H' → Ok C p' S' H' → REnv C p' H' δ' σ' → D.ct σ' H'
  | .exc c d δ' S' => ∀ p' H' dx σ', Step p H p' H' → Ok C p' S' H' → REnv C p' H' δ' σ' → XRep C p' H' c d dx → W (.ref (C.ca c)) (some dx) σ' H'
  | .stuck => False
def TSe (C : Cst) (π : Option (Addr × Obj)) (W : WX) (m : SM) : TS := fun D σ H => ∃ p S δ, p.π = π ∧ Ok C p S H ∧ REnv C p H δ σ ∧ PostS C W p H D (m δ S)
section
variable {α β : Type} {C : Cst} {π : Option (Addr × Obj)} {W : WX} {p p' : Pl} {S : Store} {H H' : Hp} {σ : L2.St} {δ : Env} {D : Ends}
theorem PostS.step {r : SR} (s : Step p H p' H') (h : PostS C W p H D r) : PostS C W p' H' D r := by
  cases r with
  | nx δ S => exact fun p2 H2 b s2 o q => h p2 H2 b (s.trans s2) o q
  | rt d S => exact fun p2 H2 b s2 o q => h p2 H2 b (s.trans s2) o q
  | bk δ S => exact fun p2 H2 b s2 o q => h p2 H2 b (s.trans s2) o q
  | ct δ S => exact fun p2 H2 b s2 o q => h p2 H2 b (s.trans s2) o q
  | exc c d δ S => exact fun p2 H2 dx b s2 o q x => h p2 H2 dx b (s.trans s2) o q x
  | stuck => exact h
/-- an expression in a statement -/
theorem TRe.st {R1 : Pl → Hp → α → β → Prop} {Q1 : β → Hp → Prop} {m : Env → M α} {f : α → Store → SR} (hp : p.π = π) (ok : Ok C p S H) (re : REnv C p H δ σ) (po : PostS C W p H D (SR.of (m δ S) δ f))
    (k : ∀ a S1 p' H' b, Step p H p' H' → Keep C.K p H p' H' → Ok C p' S1 H' → p'.π = π → REnv C p' H' δ σ → R1 p' H' a b → PostS C W p' H' D (f a S1) → Q1 b H') : TRe C π W R1 m σ H Q1 := by
  refine ⟨p, S, δ, hp, ok, re, ?_⟩
  cases e : m δ S with
  | ok a S1 =>
    rw [e] at po
    exact fun p' H' b s o q => k a S1 p' H' b s (s.keep ok) o (s.err.trans hp) (re.keep (s.keep ok)) q (PostS.step s po)
  | exc c d S1 =>
    rw [e] at po
    exact fun p' H' dx s o x => po p' H' dx σ s o (re.keep (s.keep ok)) x
  | stuck =>
    rw [e] at po
    exact po.elim
end
theorem ps_mono {X : Cx} {st : Stmt} {t t' : TS} (h : PS X st t) (k : ∀ D σ H, t' D σ H → t D σ H) : PS X st t' := ⟨fun pins s σ H D I hw => h.run pins s σ H D I (k D σ H hw)⟩
theorem pss_mono {X : Cx} {st : List Stmt} {t t' : TS} (h : PSs X st t) (k : ∀ D σ H, t' D σ H → t D σ H) : PSs X st t' := ⟨fun pins s σ H D I hw => h.run pins s σ H D I (k D σ H hw)⟩

def sNext : SM := fun δ S => .nx δ S
def sSeq (a b : SM) : SM := fun δ S => match a δ S with
  | .nx δ' S' => b δ' S'
  | r => r
def sRet (e : EM D) : SM := fun δ S => SR.of (e δ S) δ fun d S1 => .rt d S1
def sRetN : SM := fun _ S => .rt .non S
def sDrop (e : EM D) : SM := fun δ S => SR.of (e δ S) δ fun _ S1 => .nx δ S1
def sIf (c : EM Bool) (a b : SM) : SM := fun δ S => SR.of (c δ S) δ fun k S1 => if k = true then a δ S1 else b δ S1
def sBrk : SM := fun δ S => .bk δ S
def sCt : SM := fun δ S => .ct δ S
def sStuck : SM := fun _ _ => .stuck

/-! ### targets -/
abbrev GM := D → Env → M Env
def gmName (i : Nat) : GM := fun d δ S => .ok (δ.set i (some d)) S
abbrev GMs := List D → Env → M Env
def gmNil : GMs := fun ds δ S => match ds with
  | [] => .ok δ S
  | _ => .stuck
def gmCons (g : GM) (h : GMs) : GMs := fun ds δ S => match ds with
  | d :: r => (g d δ S).bind fun δ1 S1 => h r δ1 S1
  | [] => .stuck
def gmTup (n : Nat) (g : GMs) : GM := fun d δ S => match d with
  | .tup ds => if ds.length = n then g ds δ S else .stuck
  | _ => .stuck
def PostG (C : Cst) (p : Pl) (H : Hp) (σ : L2.St) (ts : List Nat) (Q : L2.St → Hp → Prop) : Res Env → Prop
  | .ok δ' S' => ∀ p' H' σ', Step p H p' H' → Ok C p' S' H' → REnv C p' H' δ' σ' → wipe σ' ts = wipe σ ts → Q σ' H'
  | _ => False
/-- ts: the slots that are set -/
def TGe (C : Cst) (π : Option (Addr × Obj)) (ts : List Nat) (g : GM) : TG := fun v σ H Q => ∃ p S δ d, p.π = π ∧ Ok C p S H ∧ REnv C p H δ σ ∧ Rep C p H d v ∧ PostG C p H σ ts Q (g d δ S)
def TGse (C : Cst) (π : Option (Addr × Obj)) (ts : List Nat) (g : GMs) : TGs := fun vs σ H Q => ∃ p S δ ds, p.π = π ∧ Ok C p S H ∧ REnv C p H δ σ ∧ RepL C p H ds vs ∧ PostG C p H σ ts Q (g ds δ S)
theorem wipe_set {σ : L2.St} {i : Nat} {x : Option V} : ∀ {ts : List Nat}, i ∈ ts → wipe (σ.set i x) ts = wipe σ ts
  | t :: ts, h => by
    by_cases hi : i ∈ ts
    · show (wipe (σ.set i x) ts).set t none = (wipe σ ts).set t none
      rw [wipe_set hi]
    · have e : i = t := (List.mem_cons.mp h).elim id fun z => absurd z hi
      subst e
      have push : ∀ {ts : List Nat}, i ∉ ts → wipe (σ.set i x) ts = (wipe σ ts).set i x := fun {ts} => by
        induction ts with
        | nil => intro _; rfl
        | cons t ts ih =>
          intro h
          have h1 : i ≠ t := fun z => h (by simp [z])
          have h2 : i ∉ ts := fun z => h (List.mem_cons_of_mem _ z)
          show (wipe (σ.set i x) ts).set t none = ((wipe σ ts).set t none).set i x
          rw [ih h2, List.set_comm _ _ h1]
      show (wipe (σ.set i x) ts).set i none = (wipe σ ts).set i none
      rw [push hi, List.set_set]
theorem REnv.set {C : Cst} {p : Pl} {H : Hp} {δ : Env} {σ : L2.St} {d : D} {v : V} {i : Nat} (re : REnv C p H δ σ) (r : Rep C p H d v) : REnv C p H (δ.set i (some d)) (σ.set i (some v)) := by
  refine ⟨by simp [re.1], fun j e h => ?_⟩
  by_cases hj : j = i
  · subst hj
    have hl : j < δ.length := by
      have := (List.getElem?_eq_some_iff.mp h).1
      simpa using this
    rw [List.getElem?_set_self hl] at h
    cases h
    exact ⟨v, by rw [List.getElem?_set_self (by rw [← re.1]; exact hl)], r⟩
  · rw [List.getElem?_set_ne (Ne.symm hj)] at h
    obtain ⟨u, e2, q⟩ := re.2 j e h
    exact ⟨u, by rw [List.getElem?_set_ne (Ne.symm hj)]; exact e2, q⟩
theorem PostG.step {C : Cst} {p p' : Pl} {H H' : Hp} {Q : L2.St → Hp → Prop} {σ σ' : L2.St} {ts : List Nat} {r : Res Env} (s : Step p H p' H') (e : wipe σ' ts = wipe σ ts) (h : PostG C p H σ ts Q r) : PostG C p' H' σ' ts Q r := by
  cases r with
  | ok δ S => exact fun p2 H2 b s2 o q w => h p2 H2 b (s.trans s2) o q (w.trans e)
  | exc c d S => exact h
  | stuck => exact h
theorem pg_mono {X : Cx} {e : Expr} {t t' : TG} (h : PG X e t) (k : ∀ v σ H Q, t' v σ H Q → t v σ H Q) : PG X e t' := ⟨fun pins s σ H v u Q I r hw => h.run pins s σ H v u Q I r (k v σ H Q hw)⟩
theorem pgs_mono {X : Cx} {e : List Expr} {t t' : TGs} (h : PGs X e t) (k : ∀ v σ H Q, t' v σ H Q → t v σ H Q) : PGs X e t' := ⟨fun pins s σ H v u Q I r hw => h.run pins s σ H v u Q I r (k v σ H Q hw)⟩
section
variable {X : Cx} {C : Cst} {π : Option (Addr × Obj)} {W : WX} {pos : Pos} {e : Expr} {es : List Expr} {m : EM D} {g : GM} {gs : GMs} {ts : List Nat}
theorem g_name {i : Nat} {x : Str} (hN : X.N.Nodup) (hi : X.N[i]? = some x) (hx : Loc X.env.scope x) (hf : X.fn x = true ∨ X.env.scope.names.lookup x = some .local) (ht : i ∈ ts) : PG X (.Name x pos) (TGe C π ts (gmName i)) :=
  pg_mono (pg_name hN hi hx hf) fun v σ H Q ⟨p, S, δ, d, hp, ok, re, r, po⟩ => po p H _ (Step.refl _ _) ok (re.set r) (wipe_set ht)
theorem gs_nil : PGs X [] (TGse C π ts gmNil) := pgs_mono pgs_nil fun vs σ H Q ⟨p, S, δ, ds, hp, ok, re, r, po⟩ => by
  cases ds with
  | nil => simp only [RepL] at r; exact ⟨r, po p H σ (Step.refl _ _) ok re rfl⟩
  | cons d ds => exact po.elim
theorem gs_cons (h1 : PG X e (TGe C π ts g)) (h2 : PGs X es (TGse C π ts gs)) (hs : (assignEach (e :: es) X.env).map (·.2) = assign e X.env :: (assignEach es X.env).map (·.2) := by rfl) : PGs X (e :: es) (TGse C π ts (gmCons g gs)) :=
  pgs_mono (pgs_cons h1 h2 hs) fun vs σ H Q ⟨p, S, δ, ds, hp, ok, re, r, po⟩ => by
    cases ds with
    | nil => exact po.elim
    | cons d ds =>
      simp only [RepL] at r
      obtain ⟨v, vr, rfl, r1, r2⟩ := r
      refine ⟨v, vr, rfl, p, S, δ, d, hp, ok, re, r1, ?_⟩
      have po' : PostG C p H σ ts Q ((g d δ S).bind fun δ1 S1 => gs ds δ1 S1) := po
      cases e1 : g d δ S with
      | ok δ1 S1 =>
        rw [e1] at po'
        exact fun p' H' σ' s o q w => ⟨p', S1, δ1, ds, s.err.trans hp, o, q, RepL.keep (s.keep ok) ds vr r2, PostG.step s w po'⟩
      | exc => rw [e1] at po'; exact po'.elim
      | stuck => rw [e1] at po'; exact po'.elim
theorem g_tup {k n : Nat} (hK : X.K = C.K) (hc : X.calm = true) (h : PGs X es (TGse C π ts gs)) (hn : (assignEach es X.env).length = n := by rfl) (hst : (assignEach es X.env).findIdx? (·.1) = none := by rfl) : PG X (.Tuple es k pos) (TGe C π ts (gmTup n gs)) :=
  pg_mono (pg_tup hc h hn hst) fun v σ H Q ⟨p, S, δ, d, hp, ok, re, r, po⟩ => by
    cases d with
    | tup ds =>
      obtain ⟨a, vs, rfl, h1, h2⟩ := tup_rep r
      have po' : PostG C p H σ ts Q (if ds.length = n then gs ds δ S else .stuck) := po
      split at po'
      · rename_i z
        exact ⟨a, vs, rfl, by rw [hK]; exact h1, by rw [← h2.length]; exact z, p, S, δ, ds, hp, ok, re, h2, po'⟩
      · exact po'.elim
    | _ => exact po.elim

/-! ### small statements -/
variable {st : Stmt} {rest : List Stmt} {a b : SM}
theorem z_nil : PSs X [] (TSe C π W sNext) := pss_mono pss_nil fun D σ H ⟨p, S, δ, hp, ok, re, po⟩ => po p H σ (Step.refl _ _) ok re
theorem z_cons (h1 : PS X st (TSe C π W a)) (h2 : PSs X rest (TSe C π W b)) : PSs X (st :: rest) (TSe C π W (sSeq a b)) :=
  pss_mono (pss_cons h1 h2) fun D σ H ⟨p, S, δ, hp, ok, re, po⟩ => by
    refine ⟨p, S, δ, hp, ok, re, ?_⟩
    unfold sSeq at po
    cases e1 : a δ S with
    | nx δ' S' =>
      rw [e1] at po
      exact fun p' H' σ' s o q => ⟨p', S', δ', s.err.trans hp, o, q, PostS.step s po⟩
    | rt d S' => rw [e1] at po; exact po
    | bk δ' S' => rw [e1] at po; exact po
    | ct δ' S' => rw [e1] at po; exact po
    | exc c d δ' S' => rw [e1] at po; exact po
    | stuck => rw [e1] at po; exact po.elim
theorem z_one (h1 : PS X st (TSe C π W a)) : PSs X [st] (TSe C π W a) := pss_one h1
theorem z_pass : PS X (.Pass pos) (TSe C π W sNext) := ps_mono ps_pass fun D σ H ⟨p, S, δ, hp, ok, re, po⟩ => po p H σ (Step.refl _ _) ok re
theorem z_brk : PS X (.Break pos) (TSe C π W sBrk) := ps_mono ps_break fun D σ H ⟨p, S, δ, hp, ok, re, po⟩ => po p H σ (Step.refl _ _) ok re
theorem z_ct : PS X (.Continue pos) (TSe C π W sCt) := ps_mono ps_continue fun D σ H ⟨p, S, δ, hp, ok, re, po⟩ => po p H σ (Step.refl _ _) ok re
theorem z_doc {x j pos pos'} : PS X (.Expr (.Constant (.str x) j pos) pos') (TSe C π W sNext) := ps_mono ps_doc fun D σ H ⟨p, S, δ, hp, ok, re, po⟩ => po p H σ (Step.refl _ _) ok re
/-- a statement that is never come to -/
theorem z_never : PS X st (TSe C π W sStuck) := ps_mono ps_never fun D σ H ⟨p, S, δ, hp, ok, re, po⟩ => po.elim
theorem z_ret (he : PE X e (TEe C π W m)) : PS X (.Return (some e) pos) (TSe C π W (sRet m)) :=
  ps_mono (ps_ret he) fun D σ H ⟨p, S, δ, hp, ok, re, po⟩ => TRe.st hp ok re po fun d S1 p1 H1 v s1 k1 ok1 hp1 re1 r1 po1 => po1 p1 H1 v (Step.refl _ _) ok1 r1
theorem z_retN : PS X (.Return none pos) (TSe C π W sRetN) := ps_mono ps_retN fun D σ H ⟨p, S, δ, hp, ok, re, po⟩ => po p H .non (Step.refl _ _) ok (by simp only [Rep])
theorem z_expr (he : PE X e (TEe C π W m)) (hs : swapsWith e none pos.line X.env = pure false := by rfl) : PS X (.Expr e pos) (TSe C π W (sDrop m)) :=
  ps_mono (ps_expr he hs) fun D σ H ⟨p, S, δ, hp, ok, re, po⟩ => TRe.st hp ok re po fun d S1 p1 H1 v s1 k1 ok1 hp1 re1 r1 po1 => po1 p1 H1 σ (Step.refl _ _) ok1 re1
theorem z_if {c : Expr} {t : EM Bool} {s1 s2 : List Stmt} (hc : PT X c (TTe C π W t)) (ha : PSs X s1 (TSe C π W a)) (hb : PSs X s2 (TSe C π W b)) : PS X (.If c s1 s2 pos) (TSe C π W (sIf t a b)) :=
  ps_mono (ps_if hc ha hb) fun D σ H ⟨p, S, δ, hp, ok, re, po⟩ => TRe.st hp ok re po fun d S1 p1 H1 v s1 k1 ok1 hp1 re1 r1 po1 => by
    subst r1
    cases d with
    | true => exact ⟨p1, S1, δ, hp1, ok1, re1, po1⟩
    | false => exact ⟨p1, S1, δ, hp1, ok1, re1, po1⟩
/-- target = e -/
def sAsg (m : EM D) (g : GM) : SM := fun δ S => SR.of (m δ S) δ fun d S1 => match g d δ S1 with
  | .ok δ' S' => .nx δ' S'
  | _ => .stuck
theorem postG_of {C : Cst} {W : WX} {p : Pl} {H : Hp} {D : Ends} {σ : L2.St} {ts : List Nat} {r : Res Env} (h : PostS C W p H D (match r with | .ok δ' S' => SR.nx δ' S' | _ => SR.stuck)) : PostG C p H σ ts D.nx r := by
  cases r with
  | ok δ S => exact fun p' H' σ' s o q _ => h p' H' σ' s o q
  | exc => exact h.elim
  | stuck => exact h.elim
theorem z_asg {tg : Expr} (he : PE X e (TEe C π W m)) (hg : PG X tg (TGe C π ts g)) (hs : swapsWithSole [tg] e pos.line X.env = pure false := by rfl) (hw : swappedStores [tg] e X.env = pure none := by rfl) (h1 : (assignEach [tg] X.env).map (·.2) = [assign tg X.env] := by rfl) :
    PS X (.Assign [tg] e pos) (TSe C π W (sAsg m g)) :=
  ps_mono (ps_asg he hg hs hw h1) fun D σ H ⟨p, S, δ, hp, ok, re, po⟩ => TRe.st hp ok re po fun d S1 p1 H1 v s1 k1 ok1 hp1 re1 r1 po1 => ⟨p1, S1, δ, d, hp1, ok1, re1, r1, postG_of po1⟩
theorem z_set {i : Nat} {x : Str} {pos' : Pos} (hN : X.N.Nodup) (hi : X.N[i]? = some x) (hx : Loc X.env.scope x) (he : PE X e (TEe C π W m)) (hs : swapsWith e (some (.Name x pos')) pos.line X.env = pure false := by rfl) (hf : X.fn x = true ∨ X.env.scope.names.lookup x = some .local) :
    PS X (.Assign [.Name x pos'] e pos) (TSe C π W (sAsg m (gmName i))) :=
  ps_mono (ps_set hN hi hx he hs hf) fun D σ H ⟨p, S, δ, hp, ok, re, po⟩ => TRe.st hp ok re po fun d S1 p1 H1 v s1 k1 ok1 hp1 re1 r1 po1 => po1 p1 H1 _ (Step.refl _ _) ok1 (re1.set r1)
/-- x, y = a, b stored from the right -/
def sPar (i j : Nat) (ms : EM (List D)) : SM := fun δ S => SR.of (ms δ S) δ fun ds S1 => match ds with
  | [d, e] => .nx ((δ.set i (some d)).set j (some e)) S1
  | _ => .stuck
theorem z_par {i j : Nat} {x y : Str} {e1 e2 : Expr} {ms : EM (List D)} {px py pt : Pos} {kt k2 pt2} (hc : X.calm = true) (hN : X.N.Nodup) (hi : X.N[i]? = some x) (hj : X.N[j]? = some y) (hij : i ≠ j)
    (hx : X.env.scope.names.lookup x = some .local) (hy : X.env.scope.names.lookup y = some .local) (ha : PA X [e1, e2] (TAe C π W ms))
    (hw : swappedStores [.Tuple [.Name x px, .Name y py] kt pt] (.Tuple [e1, e2] k2 pt2) X.env = pure (some [x, y]))
    (hs : swapsWithSole [.Tuple [.Name x px, .Name y py] kt pt] (.Tuple [e1, e2] k2 pt2) pos.line X.env = pure false := by rfl) :
    PS X (.Assign [.Tuple [.Name x px, .Name y py] kt pt] (.Tuple [e1, e2] k2 pt2) pos) (TSe C π W (sPar i j ms)) :=
  ps_mono (ps_par hc hN hi hj hij hx hy ha hw hs) fun D σ H ⟨p, S, δ, hp, ok, re, po⟩ => TRe.st hp ok re po fun ds S1 p1 H1 vs s1 k1 ok1 hp1 re1 r1 po1 => by
    split at po1
    · rename_i d d2
      obtain ⟨v, w, rfl, q1, q2⟩ := r1.two
      exact ⟨v, w, rfl, po1 p1 H1 _ (Step.refl _ _) ok1 ((re1.set q1).set q2)⟩
    · exact po1.elim
/-- x op= e -/
def sAug (i : Nat) (g : Store → D → D → Option D) (m : EM D) : SM := fun δ S => match δ[i]? with
  | some (some x) => SR.of (m δ S) δ fun y S1 => match g S1 x y with
    | some z => .nx (δ.set i (some z)) S1
    | none => .stuck
  | _ => .stuck
theorem z_aug {i : Nat} {x : Str} {op : Operator} {gg : Store → D → D → Option D} {pos' : Pos} (hN : X.N.Nodup) (hi : X.N[i]? = some x) (hx : Loc X.env.scope x) (he : PE X e (TEe C π W m)) (ho : PIp X op (rV2 C gg)) (hf : X.fn x = true ∨ X.env.scope.names.lookup x = some .local) :
    PS X (.AugAssign (.Name x pos') op e pos) (TSe C π W (sAug i gg m)) :=
  ps_mono (ps_aug hN hi hx he ho hf) fun D σ H ⟨p, S, δ, hp, ok, re, po⟩ => by
    unfold sAug at po
    split at po
    · rename_i dx e1
      obtain ⟨v, ev, rv⟩ := re.2 i dx e1
      refine ⟨v, ev, TRe.st hp ok re po fun dy S1 p1 H1 w s1 k1 ok1 hp1 re1 r1 po1 => ?_⟩
      split at po1
      · rename_i z ez
        exact ⟨p1, S1, dx, dy, z, ok1, rv.keep k1, r1, ez, fun p' H' u s o r => po1 p' H' _ s o ((re1.keep (s.keep ok1)).set r)⟩
      · exact po1.elim
    · exact po.elim

/-! ### while -/
def sWhile (c : EM Bool) (b : SM) : Nat → SM
  | 0 => fun _ _ => .stuck
  | n + 1 => fun δ S => SR.of (c δ S) δ fun k S1 => if k = true then (match b δ S1 with
    | .nx δ' S' => sWhile c b n δ' S'
    | .ct δ' S' => sWhile c b n δ' S'
    | .bk δ' S' => .nx δ' S'
    | r => r) else .nx δ S1
theorem z_while {c : Expr} {t : EM Bool} {body : List Stmt} (n : Nat) (hp : PassesOwn (model X.prog X.w) X.A X.env X.xe) (hc : PT X c (TTe C π W t)) (hb : PSs X body (TSe C π W b)) : PS X (.While c body [] pos) (TSe C π W (sWhile t b n)) :=
  ps_mono (ps_while hp hc hb) fun D σ H ⟨p, S, δ, hpi, ok, re, po⟩ => by
    refine ⟨fun k σ H => ∃ p S δ, p.π = π ∧ Ok C p S H ∧ REnv C p H δ σ ∧ PostS C W p H D (sWhile t b k δ S), ⟨n, p, S, δ, hpi, ok, re, po⟩, ?_⟩
    rintro k σ H ⟨p, S, δ, hpi, ok, re, po⟩
    cases k with
    | zero => exact po.elim
    | succ k =>
      refine TRe.st hpi ok re po fun d S1 p1 H1 v s1 k1 ok1 hp1 re1 r1 po1 => ?_
      subst r1
      cases d with
      | false => exact po1 p1 H1 σ (Step.refl _ _) ok1 re1
      | true =>
        refine ⟨fun σ H => ∃ p S δ, p.π = π ∧ Ok C p S H ∧ REnv C p H δ σ ∧ PostS C W p H D (sWhile t b k δ S), fun σ' H' h => ⟨k, Nat.lt_succ_self _, h⟩, p1, S1, δ, hp1, ok1, re1, ?_⟩
        have po2 : PostS C W p1 H1 D (match b δ S1 with
          | .nx δ' S' => sWhile t b k δ' S'
          | .ct δ' S' => sWhile t b k δ' S'
          | .bk δ' S' => .nx δ' S'
          | r => r) := po1
        cases e1 : b δ S1 with
        | nx δ' S' => rw [e1] at po2; exact fun p' H' σ' s o q => ⟨p', S', δ', s.err.trans hp1, o, q, PostS.step s po2⟩
        | ct δ' S' => rw [e1] at po2; exact fun p' H' σ' s o q => ⟨p', S', δ', s.err.trans hp1, o, q, PostS.step s po2⟩
        | bk δ' S' => rw [e1] at po2; exact po2
        | rt d S' => rw [e1] at po2; exact po2
        | exc c d δ' S' => rw [e1] at po2; exact po2
        | stuck => rw [e1] at po2; exact po2.elim
end

open PySem PySem.Spec PyProof.Rows L2

/-! ### what is walked -/
structure ItD where
  n : Nat
  item : Nat → Store → Option (Option D)
structure WalkOk (C : Cst) (p0 : Pl) (H0 : Hp) (it : ItD) (J : It) : Prop where
  stop : ∀ i p S H, Keep C.K p0 H0 p H → Ok C p S H → it.item i S = some none → J.stop i H
  go : ∀ i p S H d, Keep C.K p0 H0 p H → Ok C p S H → it.item i S = some (some d) → J.go i H
  yields : ∀ i p S H d x H', Keep C.K p0 H0 p H → Ok C p S H → it.item i S = some (some d) → J.yld i H x H' → Step p H p H' ∧ Ok C p S H' ∧ Rep C p H' d x
def PostI (C : Cst) (W : WX) (p : Pl) (H : Hp) (σ : L2.St) (R : It → Hp → Prop) : Res ItD → Prop
  | .ok it S' => ∀ p' H' J, Step p H p' H' → Ok C p' S' H' → WalkOk C p' H' it J → R J H'
  | .exc c d S' => ∀ p' H' dx, Step p H p' H' → Ok C p' S' H' → XRep C p' H' c d dx → W (.ref (C.ca c)) (some dx) σ H'
  | .stuck => False
def TIe (C : Cst) (π : Option (Addr × Obj)) (W : WX) (m : Env → M ItD) : TI := fun σ H R => ∃ p S δ, p.π = π ∧ Ok C p S H ∧ REnv C p H δ σ ∧ PostI C W p H σ R (m δ S)
theorem pi_mono {X : Cx} {tg e : Expr} {t t' : TI} (h : PI X tg e t) (k : ∀ σ H R, t' σ H R → t σ H R) : PI X tg e t' := ⟨fun pins s σ H R I hw => h.run pins s σ H R I (k σ H R hw)⟩
theorem pi_or {X : Cx} {tg e : Expr} {t t' : TI} (h : PI X tg e t) (h' : PI X tg e t') : PI X tg e (fun σ H R => t σ H R ∨ t' σ H R) := ⟨fun pins s σ H R I hw => hw.elim (h.run pins s σ H R I) (h'.run pins s σ H R I)⟩

def chars (x : Str) : List D := x.cps.toList.map fun c => .str ⟨#[c]⟩
def itL (ds : List D) : ItD := ⟨ds.length, fun i _ => some ds[i]?⟩
def itLoc (n l : Nat) : ItD := ⟨n, fun i S => match S[l]? with
  | some (.lst ds) => some ds[i]?
  | _ => none⟩
def itR (lo : Int) (n : Nat) : ItD := ⟨n, fun i _ => some (if i < n then some (.int (lo + i)) else none)⟩
def iterD (S : Store) : D → Option ItD
  | .tup ds => some (itL ds)
  | .lst ds => some (itL ds)
  | .rol ds => some (itL ds)
  | .str x => some (itL (chars x))
  | .loc l => match S[l]? with
    | some (.lst ds) => some (itLoc ds.length l)
    | _ => none
  | _ => none
def mIt (m : EM D) : EM ItD := fun δ S => (m δ S).bind fun d S1 => out (iterD S1 d) S1
def rangeD1 : List D → Option ItD
  | [.int j] => if -(2 ^ 62) ≤ j ∧ j < 2 ^ 62 then some (itR 0 j.toNat) else none
  | _ => none
def rangeD2 : List D → Option ItD
  | [.int i, .int j] => if -(2 ^ 62) ≤ i ∧ i < 2 ^ 62 ∧ -(2 ^ 62) ≤ j ∧ j < 2 ^ 62 then some (itR i (j - i).toNat) else none
  | _ => none
def mItA (g : List D → Option ItD) (m : EM (List D)) : EM ItD := fun δ S => (m δ S).bind fun d S1 => out (g d) S1

section
variable {C : Cst} {π : Option (Addr × Obj)} {W : WX} {p : Pl} {S : Store} {H : Hp} {σ : L2.St} {δ : Env}
theorem PostI.bind {α β : Type} {R1 : Pl → Hp → α → β → Prop} {R : It → Hp → Prop} {Q1 : β → Hp → Prop} {r : Res α} {f : α → M ItD} (h : PostI C W p H σ R (r.bind f))
    (k : ∀ a S1 p' H' b, Step p H p' H' → Ok C p' S1 H' → R1 p' H' a b → PostI C W p' H' σ R (f a S1) → Q1 b H') : Post C W p H σ R1 Q1 r := by
  cases r with
  | ok a S1 =>
    refine fun p' H' b s o q => k a S1 p' H' b s o q ?_
    have h' : PostI C W p H σ R (f a S1) := h
    cases e : f a S1 with
    | ok it S2 => rw [e] at h'; exact fun p2 H2 J s2 o2 w => h' p2 H2 J (s.trans s2) o2 w
    | exc c d S2 => rw [e] at h'; exact fun p2 H2 dx s2 o2 w => h' p2 H2 dx (s.trans s2) o2 w
    | stuck => rw [e] at h'; exact h'.elim
  | exc c d S1 => exact h
  | stuck => exact h.elim
theorem walk_seqL {K : PySem.W.Frag} {a : Addr} {vs : List V} {ds : List D} (hK : K = C.K) (h : ∀ p' H', Keep C.K p H p' H' → SqL K H' a vs) (r : RepL C p H ds vs) : WalkOk C p H (itL ds) (Itl K a) where
  stop := fun i p' S' H' k o e => ⟨vs, h p' H' k, by
    simp only [itL, Option.some.injEq] at e
    rw [← r.length]
    exact List.getElem?_eq_none_iff.mp e⟩
  go := fun i p' S' H' d k o e => by
    simp only [itL, Option.some.injEq] at e
    obtain ⟨v, ev, _⟩ := r.get e
    exact ⟨vs, v, h p' H' k, ev⟩
  yields := fun i p' S' H' d x H2 k o e y => by
    simp only [itL, Option.some.injEq] at e
    obtain ⟨v, ev, rv⟩ := r.get e
    obtain ⟨rfl, y2⟩ := y
    have z := y2 vs (h p' _ k)
    rw [ev] at z; cases z
    exact ⟨Step.refl _ _, o, rv.keep k⟩
theorem walk_seqT {K : PySem.W.Frag} {a : Addr} {vs : List V} {ds : List D} (h : ∀ p' H', Keep C.K p H p' H' → SqT K H' a vs) (r : RepL C p H ds vs) : WalkOk C p H (itL ds) (Itt K a) where
  stop := fun i p' S' H' k o e => ⟨vs, h p' H' k, by
    simp only [itL, Option.some.injEq] at e
    rw [← r.length]
    exact List.getElem?_eq_none_iff.mp e⟩
  go := fun i p' S' H' d k o e => by
    simp only [itL, Option.some.injEq] at e
    obtain ⟨v, ev, _⟩ := r.get e
    exact ⟨vs, v, h p' H' k, ev⟩
  yields := fun i p' S' H' d x H2 k o e y => by
    simp only [itL, Option.some.injEq] at e
    obtain ⟨v, ev, rv⟩ := r.get e
    obtain ⟨rfl, y2⟩ := y
    have z := y2 vs (h p' _ k)
    rw [ev] at z; cases z
    exact ⟨Step.refl _ _, o, rv.keep k⟩
theorem walk_loc {K : PySem.W.Frag} {a : Addr} {l n : Nat} (h : p.ρ[l]? = some a) : WalkOk C p H (itLoc n l) (Itl K a) where
  stop := fun i p' S' H' k o e => by
    simp only [itLoc] at e
    split at e
    · rename_i ds hs
      simp only [Option.some.injEq] at e
      obtain ⟨b, hb, vs, hv, r⟩ := o.cell l _ hs
      rw [k.get l a h] at hb; cases hb
      exact ⟨vs, .of hv, by rw [← r.length]; exact List.getElem?_eq_none_iff.mp e⟩
    · cases e
  go := fun i p' S' H' d k o e => by
    simp only [itLoc] at e
    split at e
    · rename_i ds hs
      simp only [Option.some.injEq] at e
      obtain ⟨b, hb, vs, hv, r⟩ := o.cell l _ hs
      rw [k.get l a h] at hb; cases hb
      obtain ⟨v, ev, _⟩ := r.get e
      exact ⟨vs, v, .of hv, ev⟩
    · cases e
  yields := fun i p' S' H' d x H2 k o e y => by
    simp only [itLoc] at e
    split at e
    · rename_i ds hs
      simp only [Option.some.injEq] at e
      obtain ⟨b, hb, vs, hv, r⟩ := o.cell l _ hs
      rw [k.get l a h] at hb; cases hb
      obtain ⟨v, ev, rv⟩ := r.get e
      obtain ⟨rfl, y2⟩ := y
      have z := y2 vs (.of hv)
      rw [ev] at z; cases z
      exact ⟨Step.refl _ _, o, rv⟩
    · cases e
theorem walk_rng {lo : Int} {n : Nat} : WalkOk C p H (itR lo n) (Itr lo n) where
  stop := fun i p' S' H' k o e => by
    simp only [itR, Option.some.injEq] at e
    split at e
    · cases e
    · rename_i z; exact Nat.le_of_not_lt z
  go := fun i p' S' H' d k o e => by
    simp only [itR, Option.some.injEq] at e
    split at e
    · rename_i z; exact z
    · cases e
  yields := fun i p' S' H' d x H2 k o e y => by
    simp only [itR, Option.some.injEq] at e
    split at e
    · cases e
      obtain ⟨rfl, rfl⟩ := y
      exact ⟨Step.refl _ _, o, by simp only [Rep]⟩
    · cases e
theorem walk_chars {x : Str} : WalkOk C p H (itL (chars x)) (Its x) where
  stop := fun i p' S' H' k o e => by
    simp only [itL, chars, Option.some.injEq, List.getElem?_map, Option.map_eq_none_iff] at e
    show x.cps.size ≤ i
    have := List.getElem?_eq_none_iff.mp e
    simpa using this
  go := fun i p' S' H' d k o e => by
    simp only [itL, chars, Option.some.injEq, List.getElem?_map, Option.map_eq_some_iff] at e
    obtain ⟨c, e, _⟩ := e
    show i < x.cps.size
    have := (List.getElem?_eq_some_iff.mp e).1
    simpa using this
  yields := fun i p' S' H' d v H2 k o e y => by
    simp only [itL, chars, Option.some.injEq, List.getElem?_map, Option.map_eq_some_iff] at e
    obtain ⟨c, e, rfl⟩ := e
    obtain ⟨rfl, c', e', rfl⟩ := y
    have z : x.cps[i]? = some c := by simpa using e
    rw [z] at e'; cases e'
    exact ⟨Step.refl _ _, o, by simp only [Rep]⟩
end
section
variable {X : Cx} {C : Cst} {π : Option (Addr × Obj)} {W : WX} {pos : Pos} {tg e : Expr} {m : EM D} {ms : EM (List D)}
/-- a tuple, a list, a text -/
theorem i_seq (hK : X.K = C.K) (he : PE X e (TEe C π W m)) : PI X tg e (TIe C π W (mIt m)) := by
  refine pi_mono (pi_or (pi_list he) (pi_or (pi_tup he) (pi_str he))) fun σ H R ⟨p, S, δ, hp, ok, re, po⟩ => ?_
  have lists : ∀ (Q : VK), (∀ d S1 p1 H1 v, Keep C.K p H p1 H1 → Ok C p1 S1 H1 → Rep C p1 H1 d v → PostI C W p1 H1 σ R (out (iterD S1 d) S1) → (m δ S = .ok d S1) → Q v H1) → TEe C π W m σ H Q := fun Q k => by
    refine ⟨p, S, δ, hp, ok, re, ?_⟩
    have po' : PostI C W p H σ R ((m δ S).bind fun d S1 => out (iterD S1 d) S1) := po
    cases e1 : m δ S with
    | ok d S1 =>
      rw [e1] at po'
      have po2 : PostI C W p H σ R (out (iterD S1 d) S1) := po'
      refine fun p' H' v s o r => k d S1 p' H' v (s.keep ok) o r ?_ e1
      cases e2 : iterD S1 d with
      | none => rw [e2] at po2; exact po2.elim
      | some it => rw [e2] at po2; exact fun p2 H2 J s2 o2 w => po2 p2 H2 J (s.trans s2) o2 w
    | exc c d S1 => rw [e1] at po'; exact po'
    | stuck => rw [e1] at po'; exact po'.elim
  have go : ∀ {d : D} {S1 : Store}, m δ S = .ok d S1 → iList X.K (TEe C π W m) σ H R ∨ iTup X.K (TEe C π W m) σ H R ∨ iStr (TEe C π W m) σ H R := fun {d S1} e1 => by
    cases d with
    | tup ds =>
      refine .inr (.inl (lists _ fun d' S1' p1 H1 v k1 ok1 r1 po1 e1' => ?_))
      rw [e1] at e1'; cases e1'
      obtain ⟨a, vs, rfl, h, q⟩ := tup_rep r1
      exact ⟨a, rfl, ⟨vs, by rw [hK]; exact h⟩, po1 p1 H1 _ (Step.refl _ _) ok1 (walk_seqT (fun p' H' k => by rw [hK]; exact sqT_keep k h) q)⟩
    | str x =>
      refine .inr (.inr (lists _ fun d' S1' p1 H1 v k1 ok1 r1 po1 e1' => ?_))
      rw [e1] at e1'; cases e1'
      simp only [Rep] at r1
      exact ⟨x, r1, po1 p1 H1 _ (Step.refl _ _) ok1 walk_chars⟩
    | lst ds =>
      refine .inl (lists _ fun d' S1' p1 H1 v k1 ok1 r1 po1 e1' => ?_)
      rw [e1] at e1'; cases e1'
      have r1' := r1
      simp only [Rep] at r1'
      obtain ⟨a, vs, rfl, n1, n2, h, q⟩ := r1'
      exact ⟨a, rfl, ⟨vs, .of h⟩, po1 p1 H1 _ (Step.refl _ _) ok1 (walk_seqL hK (fun p' H' k => .of (k.lst a vs h n1 n2).1) q)⟩
    | rol ds =>
      refine .inl (lists _ fun d' S1' p1 H1 v k1 ok1 r1 po1 e1' => ?_)
      rw [e1] at e1'; cases e1'
      have r1' := r1
      simp only [Rep] at r1'
      obtain ⟨a, vs, rfl, h, q⟩ := r1'
      exact ⟨a, rfl, ⟨vs, by rw [hK]; exact h.sq⟩, po1 p1 H1 _ (Step.refl _ _) ok1 (walk_seqL hK (fun p' H' k => by rw [hK]; exact (k.rol a vs h).sq) q)⟩
    | loc l =>
      refine .inl (lists _ fun d' S1' p1 H1 v k1 ok1 r1 po1 e1' => ?_)
      rw [e1] at e1'; cases e1'
      simp only [iterD] at po1
      split at po1
      · rename_i ds hs
        obtain ⟨a, rfl, ha, vs, hv, q⟩ := locAt ok1 r1 hs
        exact ⟨a, rfl, ⟨vs, .of hv⟩, po1 p1 H1 _ (Step.refl _ _) ok1 (walk_loc ha)⟩
      · exact po1.elim
    | _ =>
      exfalso
      have po' : PostI C W p H σ R ((m δ S).bind fun d S1 => out (iterD S1 d) S1) := po
      rw [e1] at po'
      exact po'.elim
  cases e1 : m δ S with
  | ok d S1 => exact go e1
  | exc c d S1 =>
    refine .inl (lists _ fun d' S1' p1 H1 v k1 ok1 r1 po1 e1' => ?_)
    rw [e1] at e1'; cases e1'
  | stuck =>
    have po' : PostI C W p H σ R ((m δ S).bind fun d S1 => out (iterD S1 d) S1) := po
    rw [e1] at po'; exact po'.elim
theorem TIe.go {α β : Type} {R1 : Pl → Hp → α → β → Prop} {p : Pl} {S : Store} {H : Hp} {σ : L2.St} {δ : Env} {R : It → Hp → Prop} {Q1 : β → Hp → Prop} {m : Env → M α} {f : α → M ItD} (hp : p.π = π) (ok : Ok C p S H) (re : REnv C p H δ σ) (po : PostI C W p H σ R ((m δ S).bind f))
    (k : ∀ a S1 p' H' b, Keep C.K p H p' H' → Ok C p' S1 H' → R1 p' H' a b → PostI C W p' H' σ R (f a S1) → Q1 b H') : TRe C π W R1 m σ H Q1 :=
  ⟨p, S, δ, hp, ok, re, PostI.bind po fun a S1 p' H' b s o q po2 => k a S1 p' H' b (s.keep ok) o q po2⟩
theorem i_rng1 {a : Expr} {q : Pos} (hg : Gl X "range") (hm : X.mg "range" = none) (ha : PA X [a] (TAe C π W ms)) (hs : starEach [a] X.env = [(false, eval a X.env)] := by rfl) : PI X tg (.Call (.Name "range" q) [a] [] pos) (TIe C π W (mItA rangeD1 ms)) :=
  pi_mono (pi_range1 hg hm ha hs) fun σ H R ⟨p, S, δ, hp, ok, re, po⟩ => TIe.go hp ok re po fun ds S1 p1 H1 vs k1 ok1 r1 po1 => by
    unfold rangeD1 at po1
    split at po1
    · rename_i j
      split at po1
      · rename_i z
        obtain ⟨v, rfl, rv⟩ := r1.one
        simp only [Rep] at rv; subst rv
        exact ⟨j, rfl, z.1, z.2, po1 p1 H1 _ (Step.refl _ _) ok1 walk_rng⟩
      · exact po1.elim
    · exact po1.elim
theorem i_rng2 {a b : Expr} {q : Pos} (hg : Gl X "range") (hm : X.mg "range" = none) (ha : PA X [a, b] (TAe C π W ms)) (hs : starEach [a, b] X.env = [(false, eval a X.env), (false, eval b X.env)] := by rfl) (hs2 : starEach [b] X.env = [(false, eval b X.env)] := by rfl) :
    PI X tg (.Call (.Name "range" q) [a, b] [] pos) (TIe C π W (mItA rangeD2 ms)) :=
  pi_mono (pi_range2 hg hm ha hs hs2) fun σ H R ⟨p, S, δ, hp, ok, re, po⟩ => TIe.go hp ok re po fun ds S1 p1 H1 vs k1 ok1 r1 po1 => by
    unfold rangeD2 at po1
    split at po1
    · rename_i i j
      split at po1
      · rename_i z
        obtain ⟨v, w, rfl, rv, rw'⟩ := r1.two
        simp only [Rep] at rv rw'; subst rv; subst rw'
        exact ⟨i, j, rfl, z, po1 p1 H1 _ (Step.refl _ _) ok1 walk_rng⟩
      · exact po1.elim
    · exact po1.elim

/-! ### for -/
def forGo (it : ItD) (g : GM) (b : SM) : Nat → Nat → SM
  | 0, i => fun δ S => match it.item i S with
    | some none => .nx δ S
    | _ => .stuck
  | k + 1, i => fun δ S => match it.item i S with
    | some none => .nx δ S
    | some (some d) => (match g d δ S with
      | .ok δ1 S1 => (match b δ1 S1 with
        | .nx δ2 S2 => forGo it g b k (i + 1) δ2 S2
        | .ct δ2 S2 => forGo it g b k (i + 1) δ2 S2
        | .bk δ2 S2 => .nx δ2 S2
        | r => r)
      | _ => .stuck)
    | none => .stuck
def sFor (mi : EM ItD) (g : GM) (b : SM) : SM := fun δ S => SR.of (mi δ S) δ fun it S1 => forGo it g b it.n 0 δ S1
theorem z_for {iter : Expr} {mi : EM ItD} {g : GM} {b : SM} {ts : List Nat} {body : List Stmt} (hp : PassesOwn (model X.prog X.w) X.A X.env X.xe) (hc : X.calm = true) (hi : PI X tg iter (TIe C π W mi)) (hg : PG X tg (TGe C π ts g)) (hb : PSs X body (TSe C π W b))
    (hs : ∀ x, foldedSetIterable iter X.env x = pure x := by intro _; rfl) : PS X (.For tg iter body [] pos) (TSe C π W (sFor mi g b)) :=
  ps_mono (ps_forE hp hc hi hg hb pss_nil hs) fun D σ H ⟨p, S, δ, hpi, ok, re, po⟩ => by
    refine ⟨p, S, δ, hpi, ok, re, ?_⟩
    unfold sFor at po
    cases e1 : mi δ S with
    | stuck => rw [e1] at po; exact po.elim
    | exc c d S1 => rw [e1] at po; exact fun p' H' dx s o x => po p' H' dx σ s o (re.keep (s.keep ok)) x
    | ok it S1 =>
      rw [e1] at po
      have po0 : PostS C W p H D (forGo it g b it.n 0 δ S1) := po
      intro p0 H0 J s0 ok0 w
      refine ⟨fun i k σ H => ∃ p S δ, p.π = π ∧ Step p0 H0 p H ∧ Ok C p S H ∧ REnv C p H δ σ ∧ PostS C W p H D (forGo it g b k i δ S), ⟨it.n, p0, S1, δ, s0.err.trans hpi, Step.refl _ _, ok0, re.keep (s0.keep ok), PostS.step s0 po0⟩, ?_⟩
      rintro i k σ H ⟨p, S, δ, hpi, st, ok, re, po⟩
      have kp := st.keep ok0
      have stopped : it.item i S = some none → PostS C W p H D (.nx δ S) → J.stop i H ∧ D.nx σ H := fun e q => ⟨w.stop i p S H kp ok e, q p H σ (Step.refl _ _) ok re⟩
      cases k with
      | zero =>
        unfold forGo at po
        cases e2 : it.item i S with
        | none => rw [e2] at po; exact po.elim
        | some o =>
          rw [e2] at po
          cases o with
          | none => exact .inl (stopped e2 po)
          | some d => exact po.elim
      | succ k =>
        unfold forGo at po
        cases e2 : it.item i S with
        | none => rw [e2] at po; exact po.elim
        | some o =>
          rw [e2] at po
          cases o with
          | none => exact .inl (stopped e2 po)
          | some d =>
            refine .inr ⟨w.go i p S H d kp ok e2, fun σ H => ∃ p S δ, p.π = π ∧ Step p0 H0 p H ∧ Ok C p S H ∧ REnv C p H δ σ ∧ PostS C W p H D (forGo it g b k (i + 1) δ S), fun σ' H' h => ⟨k, Nat.lt_succ_self _, h⟩, fun x H' y => ?_⟩
            obtain ⟨s2, ok2, rx⟩ := w.yields i p S H d x H' kp ok e2 y
            refine ⟨p, S, δ, d, hpi, ok2, re.keep (s2.keep ok), rx, ?_⟩
            dsimp only at po
            cases e3 : g d δ S with
            | stuck => rw [e3] at po; exact po.elim
            | exc => rw [e3] at po; exact po.elim
            | ok δ1 S3 =>
              rw [e3] at po
              dsimp only at po
              intro p3 H3 σ3 s3 ok3 re3 _
              have s03 := (st.trans s2).trans s3
              have po3 := PostS.step (s2.trans s3) po
              refine ⟨p3, S3, δ1, (s2.trans s3).err.trans hpi, ok3, re3, ?_⟩
              cases e4 : b δ1 S3 with
              | nx δ' S' => rw [e4] at po3; exact fun p' H' σ' s o q => ⟨p', S', δ', (s.err.trans ((s2.trans s3).err.trans hpi)), s03.trans s, o, q, PostS.step s po3⟩
              | ct δ' S' => rw [e4] at po3; exact fun p' H' σ' s o q => ⟨p', S', δ', (s.err.trans ((s2.trans s3).err.trans hpi)), s03.trans s, o, q, PostS.step s po3⟩
              | bk δ' S' => rw [e4] at po3; exact po3
              | rt d S' => rw [e4] at po3; exact po3
              | exc c d δ' S' => rw [e4] at po3; exact po3
              | stuck => rw [e4] at po3; exact po3.elim

/-! ### comprehensions -/
def compGo (it : ItD) (g : GM) (t : EM Bool) (e : EM D) (δ0 : Env) : Nat → Nat → List D → M (List D)
  | 0, i, acc => fun S => match it.item i S with
    | some none => .ok acc S
    | _ => .stuck
  | k + 1, i, acc => fun S => match it.item i S with
    | some none => .ok acc S
    | some (some d) => (match g d δ0 S with
      | .ok δ1 S1 => (match t δ1 S1 with
        | .ok b S2 => if b = true then (match e δ1 S2 with
          | .ok y S3 => if acc.length < sizeLine then compGo it g t e δ0 k (i + 1) (acc ++ [y]) S3 else .stuck
          | _ => .stuck) else compGo it g t e δ0 k (i + 1) acc S2
        | _ => .stuck)
      | _ => .stuck)
    | none => .stuck
def wipeE (δ : Env) : List Nat → Env
  | [] => δ
  | v :: vs => (wipeE δ vs).set v none
def mLc (mi : EM ItD) (g : GM) (t : EM Bool) (e : EM D) (vs : List Nat) : EM D := fun δ S => (mi δ S).bind fun it S1 => match compGo it g t e (wipeE δ vs) it.n 0 [] S1 with
  | .ok ds S2 => .ok (.lst ds) S2
  | _ => .stuck
/-- .. as a list that will change -/
def mLcN (mi : EM ItD) (g : GM) (t : EM Bool) (e : EM D) (vs : List Nat) : EM D := fun δ S => (mi δ S).bind fun it S1 => match compGo it g t e (wipeE δ vs) it.n 0 [] S1 with
  | .ok ds S2 => .ok (.loc S2.length) (S2 ++ [.lst ds])
  | _ => .stuck
def mYes : EM Bool := fun _ S => .ok true S
abbrev WF : WX := fun _ _ _ _ => False
theorem REnv.wipe {p : Pl} {H : Hp} {δ : Env} {σ : L2.St} (re : REnv C p H δ σ) : ∀ vs : List Nat, REnv C p H (wipeE δ vs) (L2.wipe σ vs)
  | [] => re
  | v :: vs => by
    have ih := REnv.wipe re vs
    refine ⟨by show ((wipeE δ vs).set v none).length = ((L2.wipe σ vs).set v none).length; simp [ih.1], fun i d h => ?_⟩
    have h : ((wipeE δ vs).set v none)[i]? = some (some d) := h
    show ∃ u, ((L2.wipe σ vs).set v none)[i]? = some (some u) ∧ _
    by_cases hi : v = i
    · subst hi
      by_cases hl : v < (wipeE δ vs).length
      · rw [List.getElem?_set_self hl] at h; cases h
      · rw [List.getElem?_eq_none (by simpa using hl)] at h; cases h
    · rw [List.getElem?_set_ne hi] at h ⊢
      exact ih.2 i d h
theorem wipe_wipe {σ : L2.St} : ∀ {vs : List Nat}, wipe (wipe σ vs) vs = wipe σ vs := fun {vs} => by
  have gen : ∀ (ws vs : List Nat), (∀ w ∈ ws, w ∈ vs) → wipe (wipe σ ws) vs = wipe σ vs := fun ws => by
    induction ws with
    | nil => intro vs _; rfl
    | cons w ws ih =>
      intro vs h
      show L2.wipe ((L2.wipe σ ws).set w none) vs = _
      rw [wipe_set (h w (by simp)), ih vs fun x hx => h x (List.mem_cons_of_mem _ hx)]
  exact gen vs vs fun _ h => h
theorem ts_nil {X : Cx} : PTs X [] (TTe C π W mYes) := ⟨fun pins s σ H Q I ⟨p, S, δ, hp, ok, re, po⟩ => pts_nil.run pins s σ H Q I (po p H true (Step.refl _ _) ok rfl)⟩
theorem ts_one {X : Cx} {c : Expr} {t : EM Bool} (h : PT X c (TTe C π W t)) : PTs X [c] (TTe C π W t) := pts_one h

/-- the store's part without a hidden address -/
abbrev Pl.un (p p0 : Pl) : Pl := { p with hid := p0.hid }
theorem Ok.unhid {p p0 : Pl} {S : Store} {H : Hp} {a : Addr} (h : p.hid = a :: p0.hid) (ok : Ok C p S H) : Ok C (p.un p0) S H := by
  have k : Keep C.K p H (p.un p0) H := ⟨fun l a h => h, fun a' o e n1 n2 m => n2 (by rw [h]; exact List.mem_cons_of_mem _ m), rfl, fun a xs h => h, fun a o xs h => h, fun a xs h => h, fun a vs h n1 n2 => ⟨h, n1⟩, fun a' vs h' => by
    rcases h' with ⟨h1, n1, n2⟩ | h' | h'
    · exact .inl ⟨h1, n1, fun m => n2 (by rw [h]; exact List.mem_cons_of_mem _ m)⟩
    · exact .inr (.inl h')
    · exact .inr (.inr h')⟩
  exact ⟨ok.len, ok.nd, fun l c e => let ⟨a, e2, r⟩ := ok.cell l c e; ⟨a, e2, r.keep k fun o q => q⟩, fun a' m => ok.hid a' (by rw [h]; exact List.mem_cons_of_mem _ m)⟩
theorem Keep.unhid {p p0 : Pl} {H : Hp} {a : Addr} (h : p.hid = a :: p0.hid) : Keep C.K p H (p.un p0) H :=
  ⟨fun l a h => h, fun a' o e n1 n2 m => n2 (by rw [h]; exact List.mem_cons_of_mem _ m), rfl, fun a xs h => h, fun a o xs h => h, fun a xs h => h, fun a vs h n1 n2 => ⟨h, n1⟩, fun a' vs h' => by
    rcases h' with ⟨h1, n1, n2⟩ | h' | h'
    · exact .inl ⟨h1, n1, fun m => n2 (by rw [h]; exact List.mem_cons_of_mem _ m)⟩
    · exact .inr (.inl h')
    · exact .inr (.inr h')⟩
theorem Keep.hide {p p0 : Pl} {S : Store} {H0 H : Hp} {a : Addr} (h : p.hid = a :: p0.hid) (n : H0 a = none) (ok : Ok C p0 S H0) (s : Step p0 H0 (p.un p0) H) : Keep C.K p0 H0 p H := by
  have k := s.keep ok
  refine ⟨k.get, fun b o e n1 n2 m => ?_, k.err, k.tup, k.ftup, k.xd, k.lst, fun b vs r => ?_⟩
  · rw [h] at m
    rcases List.mem_cons.mp m with z | z
    · rw [z, n] at e; cases e
    · exact n2 z
  · have r0 := r
    rcases k.rol b vs r with ⟨h1, n1, n2⟩ | h' | h'
    · rcases r0 with ⟨h0, _, _⟩ | ⟨o, h0⟩ | h0
      · refine .inl ⟨h1, n1, fun m => ?_⟩
        rw [h] at m
        rcases List.mem_cons.mp m with z | z
        · rw [z, n] at h0; cases h0
        · exact n2 z
      · exfalso
        have := s.frz b _ h0 fun m => by
          rcases ok.locNot m with ⟨vs, e⟩ | ⟨vs, e⟩ <;> (rw [h0] at e; cases e)
        rw [h1] at this; cases this
      · exact .inr (.inr h0)
    · exact .inr (.inl h')
    · exact .inr (.inr h')
/-- the hidden list is written -/
theorem Keep.hidden {p : Pl} {H : Hp} {a : Addr} {xs ys : List V} (hm : a ∈ p.hid) (ha : H a = some (.lst xs)) : Keep C.K p H p (upd H a (.lst ys)) := by
  have ne : ∀ b o, H b = some o → (∀ zs, o ≠ .lst zs) → b ≠ a := fun b o e z q => by rw [q, ha] at e; exact z xs (Option.some.inj e).symm
  refine ⟨fun l a h => h, fun a' o e n1 n2 => n2, rfl, fun b xs h => ?_, fun b o xs h => ?_, fun b xs h => ?_, fun b vs h n1 n2 => ?_, fun b vs h => ?_⟩
  · rw [upd_ne (ne b _ h fun zs z => by cases z)]; exact h
  · rw [upd_ne (ne b _ h fun zs z => by cases z)]; exact h
  · rw [upd_ne (ne b _ h fun zs z => by cases z)]; exact h
  · rw [upd_ne (fun z => n2 (by rw [z]; exact hm))]; exact ⟨h, n1⟩
  · rcases h with ⟨h1, n1, n2⟩ | ⟨o, h'⟩ | h'
    · exact .inl ⟨by rw [upd_ne (fun z => n2 (by rw [z]; exact hm))]; exact h1, n1, n2⟩
    · exact .inr (.inl ⟨o, by rw [upd_ne (ne b _ h' fun zs z => by cases z)]; exact h'⟩)
    · exact .inr (.inr h')
theorem Ok.hidden {p : Pl} {S : Store} {H : Hp} {a : Addr} {xs ys : List V} (ok : Ok C p S H) (hm : a ∈ p.hid) (ha : H a = some (.lst xs)) : Ok C p S (upd H a (.lst ys)) := by
  refine ⟨ok.len, ok.nd, fun l c e => ?_, fun b m => ?_⟩
  · obtain ⟨b, e2, r⟩ := ok.cell l c e
    refine ⟨b, e2, r.keep (Keep.hidden hm ha) fun o q => ?_⟩
    rw [upd_ne (fun z => (ok.hid a hm).1 (by rw [← z]; exact List.mem_of_getElem? e2))]; exact q
  · obtain ⟨n, o, e⟩ := ok.hid b m
    refine ⟨n, ?_⟩
    by_cases z : b = a
    · rw [z]; exact ⟨_, upd_same⟩
    · exact ⟨o, by rw [upd_ne z]; exact e⟩
theorem Ok.newHid {p : Pl} {S : Store} {H : Hp} {a : Addr} (ok : Ok C p S H) (n : H a = none) : Ok C { p with hid := a :: p.hid } S (upd H a (.lst [])) := by
  have s : Step p H (Pl.un { p with hid := a :: p.hid } p) (upd H a (.lst [])) := Step.alloc n
  have k := Keep.hide (C := C) rfl n ok s
  refine ⟨ok.len, ok.nd, fun l c e => ?_, fun b m => ?_⟩
  · obtain ⟨b, e2, r⟩ := ok.cell l c e
    exact ⟨b, e2, r.keep k fun o q => by rw [upd_ne (ne_of_none q n)]; exact q⟩
  · rcases List.mem_cons.mp m with z | z
    · subst z; exact ⟨ok.notρ n, _, upd_same⟩
    · obtain ⟨n1, o, e⟩ := ok.hid b z
      exact ⟨n1, o, by rw [upd_ne (ne_of_none e n)]; exact e⟩

theorem lc_walk {g : GM} {t : EM Bool} {me : EM D} {vs : List Nat} {p0 : Pl} {S0 S1 : Store} {H0 : Hp} {J : It} {it : ItD} {δ : Env} {σ : L2.St} {Da : Addr} {Qd : Hp → Prop} (Fin : List D → Store → Prop) (hpi : p0.π = π) (ok0 : Ok C p0 S1 H0) (re0 : REnv C p0 H0 δ σ) (w : WalkOk C p0 H0 it J) (hD : H0 Da = none)
    (hgo : ∃ ds S2, compGo it g t me (wipeE δ vs) it.n 0 [] S1 = .ok ds S2 ∧ Fin ds S2)
    (hfin : ∀ p S H acc xs, p.hid = Da :: p0.hid → Step p0 H0 (p.un p0) H → Ok C p S H → H Da = some (.lst xs) → RepL C p H acc xs → Fin acc S → Qd H) :
    ∃ W : Nat → Nat → Hp → Prop, (∃ m, W 0 m (upd H0 Da (.lst []))) ∧ ∀ i m H, W i m H →
      (J.stop i H ∧ Qd H) ∨ (J.go i H ∧ ∃ Nx : Hp → Prop, (∀ H', Nx H' → ∃ m', m' < m ∧ W (i + 1) m' H') ∧ ∀ x H', J.yld i H x H' → TGe C π vs g x (wipe σ vs) H' fun σ2 H2 => wipe σ2 vs = wipe σ vs ∧ TTe C π WF t σ2 H2 fun b H3 =>
        if b = true then TEe C π WF me σ2 H3 fun y H4 => ∃ acc, H4 Da = some (.lst acc) ∧ acc.length < sizeLine ∧ Nx (upd H4 Da (.lst (acc ++ [y]))) else Nx H3) := by
  refine ⟨fun i k H => ∃ p S acc xs, p.π = π ∧ p.hid = Da :: p0.hid ∧ Step p0 H0 (p.un p0) H ∧ Ok C p S H ∧ H Da = some (.lst xs) ∧ RepL C p H acc xs ∧ ∃ ds S2, compGo it g t me (wipeE δ vs) k i acc S = .ok ds S2 ∧ Fin ds S2, ⟨it.n, { p0 with hid := Da :: p0.hid }, S1, [], [], hpi, rfl, Step.alloc hD, ok0.newHid hD, upd_same, by simp only [RepL], hgo⟩, ?_⟩
  rintro i k H ⟨p, S, acc, xs, hp, hh, st, ok, hx, ra, ds, S2, ego, hf⟩
  have kp : Keep C.K p0 H0 p H := Keep.hide hh hD ok0 st
  have hm : Da ∈ p.hid := by rw [hh]; exact List.mem_cons_self
  have stopped : it.item i S = some none → acc = ds → S = S2 → J.stop i H ∧ Qd H := fun e e1 e2 => by
    subst e1; subst e2
    exact ⟨w.stop i p S H kp ok e, hfin p S H acc xs hh st ok hx ra hf⟩
  cases k with
  | zero =>
    unfold compGo at ego
    cases e2 : it.item i S with
    | none => rw [e2] at ego; cases ego
    | some o =>
      rw [e2] at ego
      cases o with
      | none => injection ego with q1 q2; exact .inl (stopped e2 q1 q2)
      | some d => cases ego
  | succ k =>
    unfold compGo at ego
    cases e2 : it.item i S with
    | none => rw [e2] at ego; cases ego
    | some o =>
      rw [e2] at ego
      cases o with
      | none => injection ego with q1 q2; exact .inl (stopped e2 q1 q2)
      | some d =>
        dsimp only at ego
        refine .inr ⟨w.go i p S H d kp ok e2, fun H => ∃ p S acc xs, p.π = π ∧ p.hid = Da :: p0.hid ∧ Step p0 H0 (p.un p0) H ∧ Ok C p S H ∧ H Da = some (.lst xs) ∧ RepL C p H acc xs ∧ ∃ ds S2, compGo it g t me (wipeE δ vs) k (i + 1) acc S = .ok ds S2 ∧ Fin ds S2, fun H' h => ⟨k, Nat.lt_succ_self _, h⟩, fun x H' y => ?_⟩
        obtain ⟨s2, ok2, rx⟩ := w.yields i p S H d x H' kp ok e2 y
        refine ⟨p, S, wipeE δ vs, d, hp, ok2, (REnv.keep (s2.keep ok) (REnv.keep kp re0)).wipe vs, rx, ?_⟩
        cases e3 : g d (wipeE δ vs) S with
        | stuck => rw [e3] at ego; cases ego
        | exc => rw [e3] at ego; cases ego
        | ok δ1 S3 =>
          rw [e3] at ego
          dsimp only at ego
          intro p3 H3 σ3 s3 ok3 re3 hw
          refine ⟨hw.trans wipe_wipe, p3, S3, δ1, s3.err.trans hp, ok3, re3, ?_⟩
          cases e4 : t δ1 S3 with
          | stuck => rw [e4] at ego; cases ego
          | exc => rw [e4] at ego; cases ego
          | ok b S4 =>
            rw [e4] at ego
            dsimp only at ego
            intro p4 H4 b' s4 ok4 eb
            subst eb
            have at4 : H4 Da = some (.lst xs) := by
              have n0 := (ok.hid Da hm).1
              have q2 := s2.frz Da _ hx n0
              have q3 := s3.frz Da _ q2 n0
              refine s4.frz Da _ q3 ?_
              exact (ok3.hid Da (by rw [s3.hid]; exact hm)).1
            have h4 : p4.hid = Da :: p0.hid := by rw [s4.hid, s3.hid, hh]
            have s234 : Step p H p4 H4 := (s2.trans s3).trans s4
            have st4 : Step p0 H0 (p4.un p0) H4 := st.trans ⟨s234.pre, rfl, s234.err, s234.frz, s234.new⟩
            cases b with
            | false =>
              rw [if_neg Bool.false_ne_true] at ego ⊢
              exact ⟨p4, S4, acc, xs, s234.err.trans hp, h4, st4, ok4, at4, RepL.keep (s234.keep ok) acc xs ra, ds, S2, ego, hf⟩
            | true =>
              rw [if_pos rfl] at ego ⊢
              refine ⟨p4, S4, δ1, s234.err.trans hp, ok4, re3.keep (s4.keep ok3), ?_⟩
              cases e5 : me δ1 S4 with
              | stuck => rw [e5] at ego; cases ego
              | exc => rw [e5] at ego; cases ego
              | ok dy S5 =>
                rw [e5] at ego
                dsimp only at ego
                split at ego
                · rename_i hz
                  intro p5 H5 v s5 ok5 r5
                  have m4 : Da ∈ p4.hid := by rw [h4]; exact List.mem_cons_self
                  have at5 : H5 Da = some (.lst xs) := s5.frz Da _ at4 (ok4.hid Da m4).1
                  have h5 : p5.hid = Da :: p0.hid := by rw [s5.hid, h4]
                  have m5 : Da ∈ p5.hid := by rw [h5]; exact List.mem_cons_self
                  have s25 : Step p H p5 H5 := s234.trans s5
                  have ra5 := RepL.keep (s25.keep ok) acc xs ra
                  have k6 : Keep C.K p5 H5 p5 (upd H5 Da (.lst (xs ++ [v]))) := Keep.hidden m5 at5
                  refine ⟨xs, at5, by rw [← ra.length]; exact hz, p5, S5, acc ++ [dy], xs ++ [v], s25.err.trans hp, h5, ?_, ok5.hidden m5 at5, upd_same, RepL.append (RepL.keep k6 acc xs ra5) (by simp only [RepL]; exact ⟨v, [], rfl, r5.keep k6, rfl⟩), ds, S2, ego, hf⟩
                  have st5 : Step p0 H0 (p5.un p0) H5 := st.trans ⟨s25.pre, rfl, s25.err, s25.frz, s25.new⟩
                  exact ⟨st5.pre, st5.hid, st5.err, fun a o e n => by rw [upd_ne (ne_of_none e hD)]; exact st5.frz a o e n, st5.new⟩
                · cases ego
end

open PySem PySem.Spec PyProof.Rows L2

section
variable {X : Cx} {C : Cst} {π : Option (Addr × Obj)} {W : WX} {pos : Pos}
theorem Keep.promote {p p0 : Pl} {H : Hp} {a : Addr} (h : p.hid = a :: p0.hid) : Keep C.K p H { p.un p0 with ρ := p.ρ ++ [a] } H := by
  have ne : ∀ b, b ∉ p.hid → b ≠ a := fun b n z => n (by rw [h, z]; exact List.mem_cons_self)
  have app : ∀ b, b ∉ p.ρ → b ∉ p.hid → b ∉ p.ρ ++ [a] := fun b n1 n2 m => by
    rcases List.mem_append.mp m with z | z
    · exact n1 z
    · exact ne b n2 (by simpa using z)
  refine ⟨fun l b e => ?_, fun b o e n1 n2 m => n2 (by rw [h]; exact List.mem_cons_of_mem _ m), rfl, fun b xs h => h, fun b o xs h => h, fun b xs h => h, fun b vs h n1 n2 => ⟨h, app b n1 n2⟩, fun b vs h' => ?_⟩
  · show (p.ρ ++ [a])[l]? = some b
    rw [List.getElem?_append_left (List.getElem?_eq_some_iff.mp e).1]; exact e
  · rcases h' with ⟨h1, n1, n2⟩ | h' | h'
    · exact .inl ⟨h1, app b n1 n2, fun m => n2 (by rw [h]; exact List.mem_cons_of_mem _ m)⟩
    · exact .inr (.inl h')
    · exact .inr (.inr h')
theorem Ok.promote {p p0 : Pl} {S : Store} {H : Hp} {a : Addr} {vs : List V} {ds : List D} (h : p.hid = a :: p0.hid) (n0 : a ∉ p0.hid) (ok : Ok C p S H) (ha : H a = some (.lst vs)) (r : RepL C p H ds vs) : Ok C { p.un p0 with ρ := p.ρ ++ [a] } (S ++ [.lst ds]) H := by
  have k := Keep.promote (C := C) (H := H) h
  have na := (ok.hid a (by rw [h]; exact List.mem_cons_self)).1
  refine ⟨?_, ?_, fun l c e => ?_, fun b m => ?_⟩
  · show (p.ρ ++ [a]).length = (S ++ [Cell.lst ds]).length
    simp [ok.len]
  · show (p.ρ ++ [a]).Nodup
    rw [List.nodup_append]
    refine ⟨ok.nd, by simp, fun x hx y hy => ?_⟩
    have e : y = a := by simpa using hy
    rw [e]
    exact fun z => na (by rw [← z]; exact hx)
  · show ∃ b, (p.ρ ++ [a])[l]? = some b ∧ _
    by_cases hl : l < S.length
    · rw [List.getElem?_append_left hl] at e
      obtain ⟨b, e2, r2⟩ := ok.cell l c e
      exact ⟨b, k.get l b e2, r2.keep k fun o q => q⟩
    · have hl' : l = S.length := by
        have := (List.getElem?_eq_some_iff.mp e).1
        simp at this; omega
      subst hl'
      simp at e
      subst e
      exact ⟨a, by rw [← ok.len]; simp, vs, ha, RepL.keep k ds vs r⟩
  · obtain ⟨n, o, e⟩ := ok.hid b (by rw [h]; exact List.mem_cons_of_mem _ m)
    refine ⟨fun q => ?_, o, e⟩
    have q : b ∈ p.ρ ++ [a] := q
    rcases List.mem_append.mp q with z | z
    · exact n z
    · have e2 : b = a := by simpa using z
      exact n0 (by rw [← e2]; exact m)

variable {elt tg iter : Expr} {ifs : List Expr} {scope : Scope} {own : List (Str × Nat)} {mi : EM ItD} {g : GM} {t : EM Bool} {me : EM D}
theorem lc_read {fin : List D → M D} {σ : L2.St} {H : Hp} {Q : VK} (mk : ∀ {p0 p : Pl} {S0 S : Store} {H0 H : Hp} {Da : Addr} {acc : List D} {xs : List V} {Q : VK}, Ok C p0 S0 H0 → H0 Da = none → p.hid = Da :: p0.hid → Step p0 H0 (p.un p0) H → Ok C p S H → H Da = some (.lst xs) → RepL C p H acc xs →
      Post C W p0 H0 σ (Rep C) Q (fin acc S) → Q (.ref Da) H)
    (h : TEe C π W (fun δ S => (mi δ S).bind fun it S1 => match compGo it g t me (wipeE δ (own.map (·.2))) it.n 0 [] S1 with
      | .ok ds S2 => fin ds S2
      | _ => .stuck) σ H Q) : tLc (TIe C π W mi) (TGe C π (own.map (·.2)) g) (TTe C π WF t) (TEe C π WF me) (own.map (·.2)) σ H Q := by
  obtain ⟨p, S, δ, hp, ok, re, po⟩ := h
  refine ⟨p, S, δ, hp, ok, re, ?_⟩
  dsimp only at po
  cases e1 : mi δ S with
  | stuck => rw [e1] at po; exact po.elim
  | exc c d S1 => rw [e1] at po; exact po
  | ok it S1 =>
    rw [e1] at po
    have po' : Post C W p H σ (Rep C) Q (match compGo it g t me (wipeE δ (own.map (·.2))) it.n 0 [] S1 with
      | .ok ds S2 => fin ds S2
      | _ => .stuck) := po
    intro p0 H0 J s0 ok0 w Da hDa
    cases e2 : compGo it g t me (wipeE δ (own.map (·.2))) it.n 0 [] S1 with
    | stuck => rw [e2] at po'; exact po'.elim
    | exc => rw [e2] at po'; exact po'.elim
    | ok ds S2 =>
      rw [e2] at po'
      have po2 : Post C W p0 H0 σ (Rep C) Q (fin ds S2) := Post.step s0 po'
      exact lc_walk (S0 := S1) (Fin := fun acc S => Post C W p0 H0 σ (Rep C) Q (fin acc S)) (s0.err.trans hp) ok0 (re.keep (s0.keep ok)) w hDa ⟨ds, S2, e2, po2⟩ fun p3 S3 H3 acc xs hh st ok3 hx ra hf => mk ok0 hDa hh st ok3 hx ra hf
theorem mk_val {σ : L2.St} {p0 p : Pl} {S0 S : Store} {H0 H : Hp} {Da : Addr} {acc : List D} {xs : List V} {Q : VK} (ok0 : Ok C p0 S0 H0) (hD : H0 Da = none) (hh : p.hid = Da :: p0.hid) (st : Step p0 H0 (p.un p0) H) (ok : Ok C p S H) (hx : H Da = some (.lst xs)) (ra : RepL C p H acc xs)
    (po : Post C W p0 H0 σ (Rep C) Q (.ok (.lst acc) S)) : Q (.ref Da) H := by
  have m : Da ∈ p.hid := by rw [hh]; exact List.mem_cons_self
  refine po (p.un p0) H (.ref Da) st (ok.unhid hh) ?_
  simp only [Rep]
  refine ⟨Da, xs, rfl, (ok.hid Da m).1, fun z => ?_, hx, RepL.keep (Keep.unhid hh) acc xs ra⟩
  obtain ⟨_, o, e⟩ := ok0.hid Da z
  rw [hD] at e; cases e
theorem mk_loc {σ : L2.St} {p0 p : Pl} {S0 S : Store} {H0 H : Hp} {Da : Addr} {acc : List D} {xs : List V} {Q : VK} (ok0 : Ok C p0 S0 H0) (hD : H0 Da = none) (hh : p.hid = Da :: p0.hid) (st : Step p0 H0 (p.un p0) H) (ok : Ok C p S H) (hx : H Da = some (.lst xs)) (ra : RepL C p H acc xs)
    (po : Post C W p0 H0 σ (Rep C) Q (.ok (.loc S.length) (S ++ [.lst acc]))) : Q (.ref Da) H := by
  have n0 : Da ∉ p0.hid := fun z => by
    obtain ⟨_, o, e⟩ := ok0.hid Da z
    rw [hD] at e; cases e
  obtain ⟨more, em⟩ := st.pre
  refine po { p.un p0 with ρ := p.ρ ++ [Da] } H (.ref Da) ⟨⟨more ++ [Da], ?_⟩, rfl, st.err, st.frz, fun a h1 h2 => ?_⟩ (ok.promote hh n0 hx ra) ?_
  · show p.ρ ++ [Da] = p0.ρ ++ (more ++ [Da])
    rw [show p.ρ = p0.ρ ++ more from em, List.append_assoc]
  · have h1 : a ∈ p.ρ ++ [Da] := h1
    rcases List.mem_append.mp h1 with z | z
    · exact st.new a z h2
    · have e : a = Da := by simpa using z
      rw [e]; exact hD
  · simp only [Rep]
    exact ⟨Da, rfl, by show (p.ρ ++ [Da])[S.length]? = some Da; rw [← ok.len]; simp⟩
section
variable (hc : X.calm = true) (hN : X.N.Nodup) (hi : PI X tg iter (TIe C π W mi)) (okB : BlkOk X.N X.env.scope scope own)
  (hg : ∀ (s : Shared) (H : Hp) (Cc : Addr) (cl : List (Str × Addr)) (fp : List Addr), PG (X.blk s H scope (compEnvC scope cl Cc X.env) fp) tg (TGe C π (own.map (·.2)) g))
  (ht : ∀ (s : Shared) (H : Hp) (Cc : Addr) (cl : List (Str × Addr)) (fp : List Addr), PTs (X.blk s H scope (compEnvC scope cl Cc X.env) fp) ifs (TTe C π WF t))
  (he : ∀ (s : Shared) (H : Hp) (Cc : Addr) (cl : List (Str × Addr)) (fp : List Addr), PE (X.blk s H scope (compEnvC scope cl Cc X.env) fp) elt (TEe C π WF me))
  (hs : ∀ x, foldedSetIterable iter X.env x = pure x)
include hc hN hi okB hg ht he hs
theorem e_lc : PE X (.ListComp elt [⟨tg, iter, ifs, 0⟩] scope pos) (TEe C π W (mLc mi g t me (own.map (·.2)))) := pe_mono (pe_lc hc hN hi okB hg ht he hs) fun σ H Q h => lc_read (fin := fun (ds : List D) (S2 : Store) => (Res.ok (D.lst ds) S2 : Res D)) mk_val h
theorem e_lcN : PE X (.ListComp elt [⟨tg, iter, ifs, 0⟩] scope pos) (TEe C π W (mLcN mi g t me (own.map (·.2)))) := pe_mono (pe_lc hc hN hi okB hg ht he hs) fun σ H Q h => lc_read (fin := fun (ds : List D) (S2 : Store) => (Res.ok (D.loc S2.length) (S2 ++ [Cell.lst ds]) : Res D)) mk_loc h
/-- name = [..], on one line -/
theorem z_setLc {i : Nat} {y : Str} {py spos : Pos} (hy : X.N[i]? = some y) (hyl : X.env.scope.names.lookup y = some .local) (hsw : swapsWith (.ListComp elt [⟨tg, iter, ifs, 0⟩] scope pos) (some (.Name y py)) spos.line X.env = pure true) :
    PS X (.Assign [.Name y py] (.ListComp elt [⟨tg, iter, ifs, 0⟩] scope pos) spos) (TSe C π W (sAsg (mLc mi g t me (own.map (·.2))) (gmName i))) :=
  ps_mono (ps_setLc hc hN hy hyl hsw hi okB hg ht he hs) fun DE σ H ⟨p, S, δ, hp, ok, re, po⟩ => by
    have h : TEe C π W (mLc mi g t me (own.map (·.2))) σ H (fun x H1 => gName i x σ H1 DE.nx) := TRe.st hp ok re po fun d S1 p1 H1 v s1 k1 ok1 hp1 re1 r1 po1 => po1 p1 H1 _ (Step.refl _ _) ok1 (re1.set r1)
    exact lc_read (fin := fun (ds : List D) (S2 : Store) => (Res.ok (D.lst ds) S2 : Res D)) mk_val h
theorem z_setLcN {i : Nat} {y : Str} {py spos : Pos} (hy : X.N[i]? = some y) (hyl : X.env.scope.names.lookup y = some .local) (hsw : swapsWith (.ListComp elt [⟨tg, iter, ifs, 0⟩] scope pos) (some (.Name y py)) spos.line X.env = pure true) :
    PS X (.Assign [.Name y py] (.ListComp elt [⟨tg, iter, ifs, 0⟩] scope pos) spos) (TSe C π W (sAsg (mLcN mi g t me (own.map (·.2))) (gmName i))) :=
  ps_mono (ps_setLc hc hN hy hyl hsw hi okB hg ht he hs) fun DE σ H ⟨p, S, δ, hp, ok, re, po⟩ => by
    have h : TEe C π W (mLcN mi g t me (own.map (·.2))) σ H (fun x H1 => gName i x σ H1 DE.nx) := TRe.st hp ok re po fun d S1 p1 H1 v s1 k1 ok1 hp1 re1 r1 po1 => po1 p1 H1 _ (Step.refl _ _) ok1 (re1.set r1)
    exact lc_read (fin := fun (ds : List D) (S2 : Store) => (Res.ok (D.loc S2.length) (S2 ++ [Cell.lst ds]) : Res D)) mk_loc h
end

/-! ### defs -/
abbrev FM := List D → M D
def PostF (C : Cst) (p : Pl) (H : Hp) (Q : VK) (E : XK) : Res D → Prop
  | .ok d S' => ∀ p' H' v, Step p H p' H' → Ok C p' S' H' → Rep C p' H' d v → Q v H'
  | .exc c d S' => ∀ p' H' dx, Step p H p' H' → Ok C p' S' H' → XRep C p' H' c d dx → E (.ref (C.ca c)) (some dx) H'
  | .stuck => False
def spE (C : Cst) (π : Option (Addr × Obj)) (n : Nat) (F : FM) : Sp := fun vs H Q E => vs.length = n ∧ ∃ p S ds, p.π = π ∧ Ok C p S H ∧ RepL C p H ds vs ∧ PostF C p H Q E (F ds S)
def mCall (F : FM) (ms : EM (List D)) : EM D := fun δ S => (ms δ S).bind fun xs S1 => F xs S1
def mCallD (F : FM) (ds : List D) (ms : EM (List D)) : EM D := fun δ S => (ms δ S).bind fun xs S1 => F (xs ++ ds) S1
def envOf (n : Nat) (ds : List D) : Env := ds.map some ++ List.replicate (n - ds.length) none
/-- what a body of n slots makes -/
def mDef (n : Nat) (b : SM) : FM := fun ds S => match b (envOf n ds) S with
  | .nx _ S' => .ok .non S'
  | .rt d S' => .ok d S'
  | .exc c d _ S' => .exc c d S'
  | _ => .stuck
theorem envOf_rep {p : Pl} {H : Hp} {N : List Str} : ∀ {ds : List D} {vs : List V}, RepL C p H ds vs → vs.length ≤ N.length → REnv C p H (envOf N.length ds) (L2.start N vs) := fun {ds vs} r hl => by
  have e := r.length
  refine ⟨?_, fun i d h => ?_⟩
  · unfold envOf L2.start; simp; omega
  · unfold envOf at h
    unfold L2.start
    by_cases hi : i < ds.length
    · rw [List.getElem?_append_left (by simpa using hi), List.getElem?_map] at h
      have : ds[i]? = some d := by
        cases q : ds[i]? with
        | none => rw [q] at h; cases h
        | some x => rw [q] at h; simpa using h
      obtain ⟨v, ev, rv⟩ := r.get this
      exact ⟨v, by rw [List.getElem?_append_left (by simpa using (by omega : i < vs.length)), List.getElem?_map, ev]; rfl, rv⟩
    · rw [List.getElem?_append_right (by simpa using Nat.le_of_not_lt hi), List.getElem?_replicate] at h
      split at h <;> cases h
/-- a body's ends -/
theorem def_ends {p : Pl} {S : Store} {H : Hp} {N : List Str} {b : SM} {ds : List D} {vs : List V} {Q : VK} {E : XK} (hp : p.π = π) (ok : Ok C p S H) (r : RepL C p H ds vs) (hl : vs.length ≤ N.length) (po : PostF C p H Q E (mDef N.length b ds S)) :
    TSe C π (fun cls dx _ H => E cls dx H) b { nx := fun _ H' => Q .non H', rt := Q } (L2.start N vs) H := by
  refine ⟨p, S, envOf N.length ds, hp, ok, envOf_rep r hl, ?_⟩
  unfold mDef at po
  cases e : b (envOf N.length ds) S with
  | nx δ S' => rw [e] at po; exact fun p' H' σ' s o q => po p' H' .non s o (by simp only [Rep])
  | rt d S' => rw [e] at po; exact po
  | exc c d δ S' => rw [e] at po; exact fun p' H' dx σ' s o _ x => po p' H' dx s o x
  | bk δ S' => rw [e] at po; exact po.elim
  | ct δ S' => rw [e] at po; exact po.elim
  | stuck => rw [e] at po; exact po.elim
section
variable {k : Nat} {f : Addr} {fd : FuncData} {ps : List Str} {F : FM} {x : Str} {q : Pos} {e : Expr} {es : List Expr} {ms : EM (List D)}
/-- f(e, ..) -/
theorem e_call (F' : FnOk X.prog X.w X.K X.mg X.base (L2.CX X.prog X.w) k f fd ps (spE C π ps.length F)) (hr : Room k X.A) (hg : Gl X x) (hm : X.mg x = some (.ref f)) (hk : PySem.W.keepIn X.K (.ref f) = true) (hb : Binds X.K fd ps []) (hx : ∀ σ, PassesAt (L2.CX X.prog X.w) X σ (WE W σ))
    (ha : PA X (e :: es) (TAe C π W ms)) (hn : ∀ δ S xs S', ms δ S = .ok xs S' → xs.length = ps.length) (hdb : (x == ("__debug__" : Str)) = false := by decide) (he : starEach (e :: es) X.env = (false, eval e X.env) :: starEach es X.env := by rfl) (hpl : (backTo pos (starEach es X.env)).any (·.1) = false := by rfl) :
    PE X (.Call (.Name x q) (e :: es) [] pos) (TEe C π W (mCall F ms)) :=
  pe_mono (pe_callS F' hr hg hm hk hb hx ha hdb he hpl) fun σ H Q ⟨p, S, δ, hp, ok, re, po⟩ => by
    refine ⟨p, S, δ, hp, ok, re, ?_⟩
    have po' : Post C W p H σ (Rep C) Q ((ms δ S).bind fun xs S1 => F xs S1) := po
    cases e1 : ms δ S with
    | stuck => rw [e1] at po'; exact po'.elim
    | exc c d S1 => rw [e1] at po'; exact po'
    | ok xs S1 =>
      rw [e1] at po'
      have po2 : Post C W p H σ (Rep C) Q (F xs S1) := po'
      refine fun p' H' vs s o r => ⟨by rw [← r.length]; exact hn δ S xs S1 e1, p', S1, xs, s.err.trans hp, o, r, ?_⟩
      have po3 := Post.step s po2
      cases e2 : F xs S1 with
      | ok d S2 => rw [e2] at po3; exact po3
      | exc c d S2 => rw [e2] at po3; exact fun p2 H2 dx s2 o2 x2 => po3 p2 H2 dx s2 o2 x2
      | stuck => rw [e2] at po3; exact po3.elim
theorem e_call0 (F' : FnOk X.prog X.w X.K X.mg X.base (L2.CX X.prog X.w) k f fd ps (spE C π 0 F)) (hr : Room k X.A) (hg : Gl X x) (hm : X.mg x = some (.ref f)) (hk : PySem.W.keepIn X.K (.ref f) = true) (hb : Binds X.K fd ps []) (hx : ∀ σ, PassesAt (L2.CX X.prog X.w) X σ (WE W σ)) : True := trivial
end
end

open PySem PySem.Spec PyProof.Rows L2

/-! ### super().__init__(text) in an exception over ValueError -/
section
variable {X : Cx} {pins : List (Addr × Obj)} {σ : L2.St} {H : Hp} {s : Shared}
theorem mw_call {a C u : Addr} {v : Value} {Q : Value → Shared → Prop} {E : Value → Shared → Prop} (T : OexC X.K C) (I : Inv X pins σ H s) (e : H a = some (exo a C none)) (hu : s.heap.get? u = some (PySem.W.kxs_mw "ValueError.__init__" a))
    (h : ∀ s', Inv X pins σ H s' → Q .none s') : wpAny (model X.prog X.w) X.A (call (.ref u) [v]) Q E s := by
  obtain ⟨nm, q, N, bs, bm, sn, sub, ab, col, dd, k0, k1, k2, k3, k5, hC, hbm⟩ := T.cls
  obtain ⟨t1, ho⟩ := exo_at I.hok e
  have fin : ∀ h' t2, (∀ b o, b ≠ a → s.heap.get? b = some o → h'.get? b = some o) → h'.get? a = some ({ cls := .ref C, dict := none, data := .fields #[.ref t2, .none, .none, .none, .bool false, .none] } : Obj) → Q .none { s with heap := h' } := fun h' t2 k hx => by
    have J := I.write (t' := s.toks) (x := a) (e := a) (o := exo a C none) (by rw [e]; exact True.intro) (.inl rfl) k ⟨_, hx⟩ (exo_ok hx)
    have eu : upd H a (exo a C none) = H := by
      funext b
      unfold upd
      split
      · rename_i z; rw [z, e]
      · rfl
    rw [eu] at J
    exact h _ J
  have hCs := I.kIn _ _ hC
  obtain ⟨hp, g, d, tk, os⟩ := s
  refine wpAny_call (codeAny_of_tree ?_)
  show wpAny _ X.A.in1 (callAny (.ref u) ⟨[v], []⟩) _ _ _
  simp only [callAny]
  refine wpAny_bind (wpAny_load hu ?_)
  have mwb : (Value.type "method-wrapper" == Value.type "method" || Value.type "method-wrapper" == Value.type "builtin_function_or_method" || Value.type "method-wrapper" == Value.type "method-wrapper") = true := by decide
  simp only [PySem.W.kxs_mw, mwb, if_true]
  refine PySem.W.KFB.if_so (by decide) ?_
  refine wpAny_bind (PySem.W.check_bound_init PySem.F.excBase_ValueError.toExcCallFacts hCs ho rfl ?_)
  refine wpAny_bind (wpAny_pure (wpAny_pure ?_))
  refine ⟨plainId_quiet PySem.F.excBase_ValueError.init.plain _, codeAny_builtin PySem.F.excBase_ValueError.initEntry ?_⟩
  exact PySem.W.exc_init_tree (cls := .ref C) (t0 := t1) (dv := none) (c2 := .none) (c3 := .none) (b4 := .bool false) ho (by show 1 ≤ sizeLine; rw [sizeLine_eq]; omega) fun h' k hx _ => fin h' _ k hx
end

/-- the context of such an __init__ -/
def cxI (CX : CXT) (P : Program) (w : World) (K : PySem.W.Frag) (mg : Str → Option Value) (base : Heap) (N : List Str) (qual : Str) (scope : Scope) (f : Addr) (cd : Value) (cc : Addr) (A : Around) (outer : List PySem.Env) (s : Shared) (H : Hp) (E : XK) : Cx :=
  { cxOf CX P w K mg base N qual scope f cd A outer s H E with
    A := A.deeper (PySem.W.ksEnv qual scope s.heap.objs.size f cd cc)
    env := PySem.W.ksEnv qual scope s.heap.objs.size f cd cc
    stack := PySem.W.ksEnv qual scope s.heap.objs.size f cd cc :: outer
    fn := fun _ => false
    xe := fun e s' => wpAny (model P w) (A.deeper (PySem.W.ksEnv qual scope s.heap.objs.size f cd cc)) (leaving (PySem.W.ksEnv qual scope s.heap.objs.size f cd cc) e) (fun _ s'' => CX outer H s E e s'') (fun e' s'' => CX outer H s E e' s'') s' }

/-- what the scope of such an __init__ must say -/
structure InitScope (scope : Scope) (x : Str) : Prop where
  kind : scope.kind = .function
  co : scope.isCoroutine = false
  gen : scope.isGenerator = false
  cell : ∀ y ∈ scope.names, y.2 ≠ .cell
  free : ∀ y ∈ scope.names, y.2 = .free → y.1 = "__class__"
  self : scope.names.lookup ("self" : Str) = some .local
  arg : scope.names.lookup x = some .local
  sup : scope.names.lookup ("super" : Str) = some .globalImplicit
  cls : scope.names.lookup ("__class__" : Str) = some .free
  ne : x ≠ "self"
section
variable {CX : CXT} {P : Program} {w : World} {K : PySem.W.Frag} {mg : Str → Option Value} {base : Heap} {k : Nat} {f cc : Addr} {qual : Str} {scope : Scope} {cd : Value} {A : Around} {outer : List PySem.Env} {s : Shared} {H : Hp} {E : XK} {x : Str} {u0 u1 : Value} {v0 v1 : V}
theorem lookup_free {names : List (Str × NameKind)} {y : Str} {q : NameKind} (h : names.lookup y = some q) : (y, q) ∈ names := PySem.mem_of_lookup h
theorem init_inv {h1 : Heap} {tk : Nat} {D : Addr} {cl : Value} {cld : Option Addr} {csl : Array (Option Value)} (S : InitScope scope x) (hr : Room k A) (e0 : Env0 P w K mg base A outer s H) (hcc : K.lookup cc = some ⟨cl, cld, .cell (some (.ref D)), csl⟩)
    (r0 : RelV v0 u0) (r1 : RelV v1 u1) (hns : h1.Ns s.heap.objs.size (fun y => ([(("self" : Str), u0), (x, u1)].reverse).lookup y)) (hk : ∀ b o, s.heap.get? b = some o → h1.get? b = some o) :
    Inv (cxI CX P w K mg base ["self", x] qual scope f cd cc A outer s H E) [] [some v0, some v1] H { s with heap := h1, toks := tk } := by
  have hb := e0.mod.kin _ _ hcc
  have noE : ∀ b : Addr, b ∉ (cxI CX P w K mg base ["self", x] qual scope f cd cc A outer s H E).ex := fun b z => absurd (show b ∈ ([] : List Addr) from z) (by simp)
  have onlyC : ∀ (y : Str) (c : Addr), ([(("__class__" : Str), cc)] : List (Str × Addr)).lookup y = some c → y = "__class__" ∧ c = cc := fun y c z => by
    have m := PySem.mem_of_lookup z
    simp at m
    exact m
  refine ⟨⟨e0.mod, S.kind, rfl, rfl, Nat.le_refl _, fun y z c a b => ?_, fun y hy => ?_, fun y c z => ?_, fun _ => hr.hd, Around.frames_deeper e0.frames, .inr ⟨rfl, rfl⟩, fun b z => absurd z (noE b), e0.bs, e0.bsz, fun b _ _ => noE b, fun b z => absurd z (noE b), e0.funs, e0.frf⟩,
    rfl, e0.bare, Un.kept hk, ⟨_, hns, fun i y v a b c => ?_⟩, fun y c z => ?_, e0.hok.fresh (Nat.le_refl _), fun y c z => ?_, fun p hp => absurd (show p ∈ ([] : List (Addr × Obj)) from hp) (by simp), e0.hok.kept hk, rfl⟩
  · rw [(onlyC y c a).1, (onlyC z c b).1]
  · refine ⟨cc, ?_⟩
    have hy : scope.names.lookup y = some .cell ∨ scope.names.lookup y = some .free := hy
    rcases hy with hy | hy
    · exact absurd rfl (S.cell _ (lookup_free hy))
    · have z : y = "__class__" := S.free (y, .free) (lookup_free hy) rfl
      rw [z]; rfl
  · exact Bool.noConfusion z
  · have neS : (x == ("self" : Str)) = false := by simpa using S.ne
    match i, a, b with
    | 0, a, b =>
      have a : some ("self" : Str) = some y := a
      simp at a b; subst a; subst b
      refine ⟨u0, r0, .inl ⟨S.self, ?_⟩⟩
      have q : (("self" : Str) == x) = false := by simpa using fun z => S.ne z.symm
      simp [List.lookup, q]
    | 1, a, b =>
      have a : some x = some y := a
      simp at a b; subst a; subst b
      refine ⟨u1, r1, .inl ⟨S.arg, ?_⟩⟩
      simp [List.lookup]
    | i + 2, a, b => exact absurd b (by simp)
  · obtain ⟨_, rfl⟩ := onlyC y c z
    exact ⟨_, _, hk _ _ (e0.bs _ _ hb).1, rfl⟩
  · obtain ⟨_, rfl⟩ := onlyC y c z
    exact (e0.bs _ _ hb).2
theorem _root_.L2.Inv.unpinned0 {X : Cx} {pins : List (Addr × Obj)} {σ : L2.St} {H : Hp} {s : Shared} (I : Inv X pins σ H s) : Inv X [] σ H s :=
  ⟨I.ok, I.os, I.bare, I.base, I.loc, I.cell, I.free, I.freeC, fun p hp => I.pin p (by
    rw [List.append_nil] at hp
    exact List.mem_append_left _ hp), I.hok, I.len⟩
/-- the promise of such an __init__ -/
def spI (C : Addr) (fl : Str) (T : V → Prop) : Sp := fun vs H Q _ => ∃ (a : Addr) (r : V), vs = [.ref a, r] ∧ H a = some (exo a C none) ∧ T r ∧ ∀ dx, H dx = none → dx ≠ a → Q .non (upd (upd H dx (exd dx [(fl, r)])) a (exo a C (some dx)))
/-- what the written part says of the class and of the code object -/
structure InitFacts (P : Program) (K : PySem.W.Frag) (mg : Str → Option Value) (C cc cda : Addr) (fl : Str) : Prop where
  oex : OexC K C
  nofl : PySem.W.findIn K (.ref C) fl = some none
  cell : ∃ cl cld csl, K.lookup cc = some ⟨cl, cld, .cell (some (.ref C)), csl⟩
  code : ∃ (ccl : Value) (cdd : Option Addr) (vs : Array Value) (ccs : Array (Option Value)) (file : Str) (tf : Tok), K.lookup cda = some ⟨ccl, cdd, .fields vs, ccs⟩ ∧ vs[2]? = some (.str file tf) ∧ ((P.main.file : Str) == file) = true
  sub : PySem.W.mroIn K C (.ref C) = some true
  val : PySem.W.subIn K (.ref C) (.type "ValueError") = some true
  sup : PySem.W.ks_superIn K C C "__init__" = some (some (.builtin "ValueError.__init__"))
  stat : PySem.W.nsIn K PySem.cStatics "thirdparty.any" = some none
  nosup : mg "super" = none
  top : (P.main.scope.names.lookup ("super" : Str)).isSome = false
open PySem.W in
theorem init_fn {name : Str} {params : Arguments} {e : Expr} {dV kV doc pm ct oc : Value} {an od : Option Addr} {osl : Array (Option Value)} {C cda : Addr} {fl : Str} {T : V → Prop} {ar : Arg} {p0 p1 p2 p3 p4 p5 p6 p7 p8 : Pos}
    (F : InitFacts P K mg C cc cda fl) (S : InitScope scope x)
    (lk : K.lookup f = some ⟨oc, od, .func (ksFn name qual params [.Expr (.Call (.Attribute (.Call (.Name "super" p0) [] [] p1) "__init__" p2) [e] [] p3) p4, .Assign [.Attribute (.Name "self" p5) fl p6] (.Name x p7) p8] scope dV kV doc pm an (.ref cda) ct cc), osl⟩)
    (hcd : codeIn K (.ref cda) qual = true) (hp : (params.posonlyargs ++ params.args).head? = some ar) (har : ar.arg = "self") (hst : ∀ env, starEach [e] env = [(false, eval e env)]) {plf : PySem.Env → Sem Bool}
    (hev : ∀ env, eval (.Call (.Attribute (.Call (.Name "super" p0) [] [] p1) "__init__" p2) [e] [] p3) env = (do
      let ov ← attributeBase (.Call (.Name "super" p0) [] [] p1) "__init__" env (eval (.Call (.Name "super" p0) [] [] p1) env)
      standAt p2.atName
      let (f, first) ← holding [ov] (getMethod ov "__init__" (plf env))
      callWith p3 f first (backTo p3 (starEach [e] env)) [])) (hsw : ∀ env, swapsWith (.Call (.Attribute (.Call (.Name "super" p0) [] [] p1) "__init__" p2) [e] [] p3) none p4.line env = pure false) (hxd : (x == ("__debug__" : Str)) = false) (hxc : (x == ("__classdict__" : Str)) = false)
    (he : ∀ (A : Around) (outer : List PySem.Env) (s : Shared) (H : Hp) (E : XK), ∃ te, PE (cxI CX P w K mg base ["self", x] qual scope f (.ref cda) cc A outer s H E) e te ∧ ∀ v r H1, T r → te [some v, some r] H1 (fun _ H2 => H2 = H1)) :
    FnOk P w K mg base CX (k + 1) f (ksFn name qual params [.Expr (.Call (.Attribute (.Call (.Name "super" p0) [] [] p1) "__init__" p2) [e] [] p3) p4, .Assign [.Attribute (.Name "self" p5) fl p6] (.Name x p7) p8] scope dV kV doc pm an (.ref cda) ct cc) ["self", x] (spI C fl T) := by
  refine ⟨fun vs H Q E h => ?_, fun A outer s H args us vs Q E hr e0 hb r h => ?_⟩
  · obtain ⟨a, r, rfl, _⟩ := h; rfl
  obtain ⟨a, v1, rfl, ha, ht, hq⟩ := h
  cases r with
  | @cons _ u0 _ ur r0 rr =>
  cases rr with
  | @cons _ u1 _ ur r1 rr =>
  cases rr
  obtain rfl : u0 = Value.ref a := r0
  have KX : K.In s.heap := e0.mod.kin.keeps fun b o e => (e0.bs b o e).1
  obtain ⟨cl, cld, csl, hcc⟩ := F.cell
  obtain ⟨ccl, cdd, cvs, ccs, file, tf, hcode, hvs, hfile⟩ := F.code
  refine ks_codeAny_call_defAt hr.depth (KX _ _ lk) rfl (e0.mod.nolimit.keeps fun b o e => (e0.bs b o e).1) (codeRec_of KX hcd) rfl hb S.cell (fun y hy => ?_) (fun h1 hns hk => ?_) S.co S.gen S.kind
  · simp at hy
    rcases hy with rfl | rfl
    · exact S.self
    · exact S.arg
  show _root_.PySem.wpAt (model P w) (A.deeper (ksEnv qual scope s.heap.objs.size f (.ref cda) cc)) (.func _ (ksEnv qual scope s.heap.objs.size f (.ref cda) cc)) (execs _ (ksEnv qual scope s.heap.objs.size f (.ref cda) cc)) _ _ _
  have I : Inv (cxI CX P w K mg base ["self", x] qual scope f (.ref cda) cc A outer s H E) [] [some (.ref a), some v1] H { s with heap := h1, toks := s.toks + 2 } := init_inv S hr e0 hcc rfl r1 hns hk
  refine ks_wpAt_mono (Q := SP (cxI CX P w K mg base ["self", x] qual scope f (.ref cda) cc A outer s H E) [] { nx := fun _ H' => Q .non H', rt := Q }) (E := (cxI CX P w K mg base ["self", x] qual scope f (.ref cda) cc A outer s H E).xe) ?_ (fun fw s' hs => ?_) fun e s' hs => hs
  · have hcls : PySem.W.clsIn K C ≠ none := fun z => by
      have q := F.sub
      unfold mroIn at q
      rw [z] at q
      cases q
    have hCO : ∃ cdC oC, K.lookup C = some oC ∧ oC.data = .cls cdC ∧ PySem.W.clsIn K C = some cdC := by
      unfold clsIn at hcls ⊢
      split
      · rename_i c d cd' sl ho
        exact ⟨cd', _, ho, rfl, rfl⟩
      · rename_i z
        exact absurd (by
          split
          · rename_i c d cd' sl ho
            exact absurd ho (z c d cd' sl)
          · rfl) hcls
    obtain ⟨cdC, oC, hoC, hdC, hclC⟩ := hCO
    obtain ⟨t1, hoa⟩ := exo_at I.hok ha
    have tail : ∀ s', Inv (cxI CX P w K mg base ["self", x] qual scope f (.ref cda) cc A outer s H E) [] [some (.ref a), some v1] H s' →
        wpAny (model P w) (cxI CX P w K mg base ["self", x] qual scope f (.ref cda) cc A outer s H E).A (execs [.Assign [.Attribute (.Name "self" p5) fl p6] (.Name x p7) p8] (cxI CX P w K mg base ["self", x] qual scope f (.ref cda) cc A outer s H E).env)
          (SP (cxI CX P w K mg base ["self", x] qual scope f (.ref cda) cc A outer s H E) [] { nx := fun _ H' => Q .non H', rt := Q }) (cxI CX P w K mg base ["self", x] qual scope f (.ref cda) cc A outer s H E).xe s' := fun s' J =>
      (pss_one (ps_ost (pe_var (i := 0) rfl (.inl S.self)) (pe_var (i := 1) rfl (.inl S.arg) hxd hxc))).run [] s' _ H _ J ⟨v1, rfl, .ref a, rfl, a, C, rfl, F.oex, F.nofl, .inl ⟨ha, hq⟩⟩
    obtain ⟨mb, hmb1, hmb2⟩ := e0.mod.blt
    have bk : ∀ b o, base.get? b = some o → h1.get? b = some o := fun b o z => hk _ _ (e0.bs b o z).1
    refine ks_wpAt_execs_cons (ks_wpAt_Expr_any (ks_wpAt_MethodCall ?_ (hev _)) (by show (scope.kind == .module && _) = false; rw [S.kind]; rfl) (hsw _))
    refine ks_wpAt_super_base (env := ksEnv qual scope s.heap.objs.size f (.ref cda) cc) (cc := cda) S.sup S.cls rfl rfl (hk _ _ (KX _ _ lk)) rfl hp rfl (bk _ _ (e0.mod.kin _ _ hcode)) rfl hvs hfile F.top ?_
    refine ks_loadName_global S.kind S.sup (Calls.loadGlobal_builtin (e0.mod.glob.keeps bk) F.nosup (hmb1.keeps bk) ((hmb2 _ (by decide)).trans (by rfl)) ⟨rfl, ?_⟩)
    refine wpAny_loadName_free S.kind S.cls rfl ⟨_, bk _ _ (e0.mod.kin _ _ hcc), rfl⟩ ?_
    rw [har]
    refine wpAny_loadName_local (v := .ref a) S.kind S.self hns (by
      have q : (("self" : Str) == x) = false := by simpa using fun z => S.ne z.symm
      simp [List.lookup, q]) ?_
    refine ks_wpAny_isType_cls (bk _ _ (e0.mod.kin _ _ hoC)) hdC ⟨rfl, ?_⟩
    refine ks_wpAny_call_super (bk _ _ (e0.mod.kin _ _ hoC)) hdC hoa rfl (fun c z => by cases z) (looks_mroIn (e0.mod.kin.keeps bk) F.sub) (fun h2 hso k2 => ?_)
    have I2 := I.kept (h' := h2) (t' := s.toks + 2) k2
    have K2 : K.In h2 := (e0.mod.kin.keeps bk).keeps k2
    have IA : InstAt h2 a _ C none := ⟨k2 _ _ hoa, rfl, rfl, trivial⟩
    have hf := F.sup
    unfold ks_superIn at hf
    rw [hclC] at hf
    refine kxs_getMethod kxs_ValueError hso (looks_opaque K2 F.stat) (l₀ := cdC.mro) (fun A Q E s k q => wpAny_bind ((looks_clsIn K2 hclC) A _ E s k (wpAny_pure q))) rfl K2 hf (IA.type.andThen (looks_subIn K2 F.val)) (ks_ne K2 IA hclC) rfl ?_
    have I3 := I2.kept (h' := h2.push (kxs_mw "ValueError.__init__" a)) (t' := s.toks + 2 + 1) fun b o z => Heap.get?_push_of_some _ z
    have I4 : Inv (cxI CX P w K mg base ["self", x] qual scope f (.ref cda) cc A outer s H E) [(h2.objs.size, kxs_mw "ValueError.__init__" a)] [some (.ref a), some v1] H { s with heap := h2.push (kxs_mw "ValueError.__init__" a), toks := s.toks + 2 + 1 } := I3.pins_of fun p hp => by
      have e1 : p = (h2.objs.size, kxs_mw "ValueError.__init__" a) := by simpa using hp
      subst e1
      exact ⟨Heap.get?_push_size _ rfl, I2.hok.fresh (Nat.le_refl _), Nat.ne_of_gt I2.lt, I2.nofs (Nat.le_refl _), fun v z => by cases z⟩
    show wpAny _ _ (callWith p3 (.ref h2.objs.size) [] (backTo p3 (starEach [e] _)) []) _ _ _
    rw [hst]
    refine kxs_callWith (i := "ValueError.__init__") (x := a) rfl (Calls.evalArgs_plain (x := eval e _) (rest := backTo p3 []) ?_)
    obtain ⟨te, hte, htx⟩ := he A outer s H E
    refine Calls.spliced_cons (thn (hte.run _ _ _ H _ I4 (htx (.ref a) v1 H ht)) fun u s5 ⟨v, H5, I5, r5, q5⟩ => ?_)
    subst q5
    refine Calls.spliced_nil ⟨(I5.pin _ (List.mem_append_right _ List.mem_cons_self)).1, ?_⟩
    refine mw_call F.oex I5 ha (I5.pin _ (List.mem_append_right _ List.mem_cons_self)).1 fun s6 I6 => ?_
    exact wpAt_of_wpAny (tail s6 I6.unpinned0)
  · have fin : ∀ {σ' : L2.St} {H' : Hp} {v : V} {u : Value}, Inv (cxI CX P w K mg base ["self", x] qual scope f (.ref cda) cc A outer s H E) [] σ' H' s' → RelV v u → Q v H' → CE outer P w H s Q u s' :=
      fun {σ' H' v u} J rv q => ⟨v, H', J.os, J.bare, J.base, J.hok, rv, q⟩
    cases fw with
    | ret u => obtain ⟨v, σ', H', J, rv, q⟩ := hs; exact fin J rv q
    | next => obtain ⟨σ', H', J, q⟩ := hs; exact fin (v := V.non) (u := Value.none) J rfl q
    | brk => obtain ⟨_, _, _, q⟩ := hs; exact q.elim
    | cont => obtain ⟨_, _, _, q⟩ := hs; exact q.elim
end

open PySem PySem.Spec PyProof.Rows L2

/-! ### the text of an error -/
def txt : D → Option Str
  | .str x => some x
  | .int n => if n.natAbs.log2 < 1920 then some (toString n) else none
  | _ => none
def rsnOk (k : Nat) (d : D) : Bool := match txt d with
  | some t => decide (k + t.length ≤ sizeLine)
  | none => false
/-- .. of a value -/
def TX (k : Nat) (r : V) : Prop := (∃ x : Str, r = .str x ∧ k + x.length ≤ sizeLine) ∨ ∃ n : Int, r = .int n ∧ n.natAbs.log2 < 1920 ∧ k + (toString n : Str).length ≤ sizeLine
theorem rsn_tx {C : Cst} {p : Pl} {H : Hp} {k : Nat} {d : D} {v : V} (h : rsnOk k d = true) (r : Rep C p H d v) : TX k v := by
  unfold rsnOk at h
  cases d <;> simp only [txt] at h <;> try (cases h; done)
  · rename_i i
    split at h
    · rename_i t e
      split at e
      · rename_i hz
        cases e
        simp only [Rep] at r
        exact .inr ⟨i, r, hz, of_decide_eq_true h⟩
      · cases e
    · cases h
  · simp only [Rep] at r
    exact .inl ⟨_, r, of_decide_eq_true h⟩
def strR : List V → Hp → VK → Prop := fun xs H Q => (∃ i, xs = [.int i] ∧ i.natAbs.log2 < 1920 ∧ Q (.str (toString i)) H) ∨ ∃ a, xs = [.str a] ∧ Q (.str a) H
theorem call_strR {X : Cx} : CallR X (.type "str") strR := by
  intro pins s σ H xs us Q I r h
  rcases h with h | h
  · exact call_str_int pins s σ H xs us Q I r h
  · exact SkE.call_str_str pins s σ H xs us Q I r h
section
variable {CX : CXT} {P : Program} {w : World} {K : PySem.W.Frag} {mg : Str → Option Value} {base : Heap} {f cc : Addr} {qual : Str} {scope : Scope} {cd : Value} {x : Str}
/-- 'm' + str(x) in an __init__ -/
theorem pe_text {m : Str} {j pm pn px pc pb} (S : InitScope scope x) (hs : scope.names.lookup ("str" : Str) = some .globalImplicit) (hm : mg "str" = none) (hxd : (x == ("__debug__" : Str)) = false) (hxc : (x == ("__classdict__" : Str)) = false) (A : Around) (outer : List PySem.Env) (s : Shared) (H : Hp) (E : XK) :
    ∃ te, PE (cxI CX P w K mg base ["self", x] qual scope f cd cc A outer s H E) (.BinOp (.Constant (.str m) j pm) .Add (.Call (.Name "str" pn) [.Name x px] [] pc) pb) te ∧ ∀ v r H1, TX m.length r → te [some v, some r] H1 (fun _ H2 => H2 = H1) := by
  refine ⟨_, pe_op op_add_str pe_str (pe_callTy (X := cxI CX P w K mg base ["self", x] qual scope f cd cc A outer s H E) call_strR hs hm (by rfl) (pa_cons (pe_var (i := 1) rfl (.inl S.arg) hxd hxc) pa_nil)), fun v r H1 h => ?_⟩
  refine ⟨r, rfl, ?_⟩
  rcases h with ⟨y, rfl, z⟩ | ⟨n, rfl, z1, z⟩
  · exact .inr ⟨y, rfl, m, y, rfl, rfl, z, rfl⟩
  · exact .inl ⟨n, rfl, z1, m, _, rfl, rfl, z, rfl⟩
end

/-! ### raise -/
def sRaise (c k : Nat) (m : EM D) : SM := fun δ S => SR.of (m δ S) δ fun d S1 => if rsnOk k d = true then .exc c d δ S1 else .stuck
section
variable {X : Cx} {C : Cst} {π : Option (Addr × Obj)} {W : WX}
theorem one_arg {m : EM D} {p : Pl} {S : Store} {δ : Env} {σ : L2.St} {H : Hp} {DE : Ends} {Q : List V → Hp → Prop} {f : D → Store → SR} (hp : p.π = π) (ok : Ok C p S H) (re : REnv C p H δ σ) (po : PostS C W p H DE (SR.of (m δ S) δ f))
    (k : ∀ d S1 p' H' v, Step p H p' H' → Ok C p' S1 H' → p'.π = π → REnv C p' H' δ σ → Rep C p' H' d v → PostS C W p' H' DE (f d S1) → Q [v] H') : TAe C π W (mCons m mNil) σ H Q := by
  refine ⟨p, S, δ, hp, ok, re, ?_⟩
  show Post C W p H σ (RepL C) Q ((m δ S).bind fun x S1 => (Res.ok [] S1).bind fun y S2 => .ok (x :: y) S2)
  cases e : m δ S with
  | stuck => rw [e] at po; exact po.elim
  | exc c d S1 => rw [e] at po; exact fun p' H' dx s o x => po p' H' dx σ s o (re.keep (s.keep ok)) x
  | ok d S1 =>
    rw [e] at po
    intro p' H' vs s o r
    obtain ⟨v, rfl, rv⟩ := RepL.one r
    exact k d S1 p' H' v s o (s.err.trans hp) (re.keep (s.keep ok)) rv (PostS.step s po)
theorem z_raise {c k kk : Nat} {nm x : Str} {fI : Addr} {fd : FuncData} {e : Expr} {m : EM D} {p pos pos' : Pos} {CX : CXT} (hcalm : X.calm = true) (tk : Takes X W) (T : OexC X.K (C.ca c)) (iC : PySem.W.findIn X.K (.ref (C.ca c)) "__init__" = some (some (.ref fI))) (tI : PySem.W.typeIn X.K (.ref fI) = some (.type "function"))
    (F1 : FnOk X.prog X.w X.K X.mg X.base CX kk fI fd ["self", x] (spI (C.ca c) (C.fld c) (TX k))) (hr : Room (kk + 1) X.A) (hb : Binds X.K fd ["self", x] []) (hx : Passes CX X (fun _ _ _ => False)) (hg : Gl X nm) (hm : X.mg nm = some (.ref (C.ca c))) (ha : PE X e (TEe C π W m))
    (hdb : (nm == ("__debug__" : Str)) = false := by decide) (hs : starEach [e] X.env = (false, eval e X.env) :: starEach [] X.env := by rfl) :
    PS X (.Raise (some (.Call (.Name nm p) [e] [] pos)) none pos') (TSe C π W (sRaise c k m)) :=
  ps_mono (ps_raise hcalm tk (pmk_oex T iC tI F1 hr hb .nil hx hg hm (a_cons ha a_nil hs) hdb hs (by rfl))) fun D σ H ⟨p, S, δ, hp, ok, re, po⟩ => by
    refine one_arg hp ok re po fun d S1 p1 H1 v s1 ok1 hp1 re1 r1 po1 => ⟨by simp, fun a ha => ?_⟩
    split at po1
    · rename_i hz
      refine ⟨a, v, rfl, upd_same, rsn_tx hz r1, fun dx h1 h2 => ⟨rfl, dx, [(C.fld c, v)], upd_same, by rw [upd_ne h2]; exact upd_same, by rw [upd_ne h2] at h1; exact h1, ?_⟩⟩
      have hd : H1 dx = none := by rw [upd_ne h2] at h1; exact h1
      have e : upd (del (upd (upd (upd H1 a (exo a (C.ca c) none)) dx (exd dx [(C.fld c, v)])) a (exo a (C.ca c) (some dx))) a) dx (.xd [(C.fld c, v)]) = upd H1 dx (.xd [(C.fld c, v)]) := by
        funext b
        by_cases hb : b = dx
        · rw [hb, upd_same, upd_same]
        · rw [upd_ne hb, upd_ne hb]
          by_cases hba : b = a
          · rw [hba, del_same, ha]
          · rw [del_ne hba, upd_ne hba, upd_ne hb, upd_ne hba]
      rw [e]
      have k1 := (Step.alloc (p := p1) (o := HO.xd [(C.fld c, v)]) hd).keep ok1
      exact po1 p1 _ dx σ (Step.alloc hd) (ok1.alloc hd) (re1.keep k1) ⟨v, upd_same, r1.keep k1⟩
    · exact po1.elim
end

open PySem PySem.Spec PyProof.Rows L2

/-! ### isinstance -/
def tyD (S : Store) : D → Option String
  | .non => some "NoneType"
  | .bl _ => some "bool"
  | .int _ => some "int"
  | .str _ => some "str"
  | .tup _ => some "tuple"
  | .lst _ => some "list"
  | .rol _ => some "list"
  | .loc l => match S[l]? with
    | some (.lst _) => some "list"
    | some (.dic _) => some "dict"
    | none => none
  | _ => none
theorem ty_rep {C : Cst} {p : Pl} {S : Store} {H : Hp} {d : D} {v : V} {a : String} (ok : Ok C p S H) (r : Rep C p H d v) (e : tyD S d = some a) : TyX C.K H v (.type a) := by
  cases d with
  | non => cases e; simp only [Rep] at r; subst r; exact .base .non
  | bl b => cases e; simp only [Rep] at r; subst r; exact .base (.bl b)
  | int b => cases e; simp only [Rep] at r; subst r; exact .base (.int b)
  | str b => cases e; simp only [Rep] at r; subst r; exact .base (.str b)
  | tup ds =>
    cases e
    obtain ⟨q, vs, rfl, h, _⟩ := tup_rep r
    rcases h with (h | ⟨o, h⟩) | ⟨o, its, n, hk, hc, _⟩
    · exact .base (.tup h)
    · exact .fTuple h
    · exact .kTuple hk hc
  | lst ds =>
    cases e
    simp only [Rep] at r
    obtain ⟨q, vs, rfl, _, _, h, _⟩ := r
    exact .base (.lst h)
  | rol ds =>
    cases e
    simp only [Rep] at r
    obtain ⟨q, vs, rfl, h, _⟩ := r
    rcases h with ⟨h, _⟩ | ⟨o, h⟩ | ⟨o, its, n, hk, hc, _⟩
    · exact .base (.lst h)
    · exact .base (.frz h)
    · exact .kList hk hc
  | loc l =>
    simp only [tyD] at e
    split at e
    · rename_i ds hs
      cases e
      obtain ⟨q, rfl, _, vs, h, _⟩ := locAt ok r hs
      exact .base (.lst h)
    · rename_i kvs hs
      cases e
      obtain ⟨q, rfl, _, vs, h, _⟩ := locAt ok r hs
      exact .base (.dK h)
    · cases e
  | fn _ => cases e
  | err _ _ => cases e
/-- isinstance(e, T) -/
def isT (T : String) (S : Store) (d : D) : Option Bool := (tyD S d).bind fun a => kitB a T
def mIsT (T : String) (m : EM D) : EM D := fun δ S => (m δ S).bind fun d S1 => out ((isT T S1 d).map D.bl) S1
/-- isinstance(error, X): tb says it class by class -/
def mIsE (tb : Nat → Option Bool) (m : EM D) : EM D := fun δ S => (m δ S).bind fun d S1 => match d with
  | .err c _ => out ((tb c).map D.bl) S1
  | _ => .stuck
/-- error.field -/
def mXf (cs : List Nat) (m : EM D) : EM D := fun δ S => (m δ S).bind fun d S1 => match d with
  | .err c e => if c ∈ cs then .ok e S1 else .stuck
  | _ => .stuck

/-- what an error's class must say for isinstance and for its field -/
structure IsC (K : PySem.W.Frag) (D : Addr) (fl : Str) : Prop where
  cl : (PySem.W.clsIn K D).isSome = true
  ga : PySem.W.findIn K (.ref D) "__getattribute__" = some (some (.builtin "BaseException.__getattribute__"))
  gt : PySem.W.findIn K (.ref D) "__getattr__" = some none
  sub : PySem.W.subIn K (.ref D) (.type "BaseException") = some true
  ca : PySem.W.findIn K (.ref D) "__class__" = some (some (.builtin "object.__class__"))
  sp : PySem.W.specialIn K (.builtin "object.__class__") "__get__" = some (some (.builtin "getset_descriptor.__get__"))
  tk : PySem.W.takesIn K (.builtin "object.__class__") = some true
  ob : PySem.W.mroIn K D (.type "object") = some true
  hd : PySem.W.hasDictIn K D = true
  no : PySem.W.findIn K (.ref D) fl = some none
/-- the pinned error as an instance -/
theorem pin_inst {X : Cx} {pins : List (Addr × Obj)} {σ : L2.St} {H : Hp} {s : Shared} {a : Addr} {oe : Obj} {cls dx : Addr} {fs : List (Str × V)} (I : Inv X pins σ H s) (hm : (a, oe) ∈ X.pn) (hz : Zc (.ref cls) (some dx) oe) (hf : ∃ vs, oe.data = .fields vs) (hx : H dx = some (.xd fs)) :
    ∃ od, PySem.W.InstAt s.heap a oe cls (some od) ∧ ∃ mA, s.heap.get? dx = some od ∧ (∀ f, RelO (fs.lookup f) (mA f)) ∧ s.heap.Ns1 dx mA := by
  obtain ⟨hget, _⟩ := I.pin (a, oe) (List.mem_append_left _ hm)
  obtain ⟨mA, hns, hr⟩ := (show ObjOk X.prog X.w H s.heap dx (.xd fs) from I.hok dx _ hx)
  obtain ⟨od, es, ep, ho, hq⟩ := id hns
  obtain ⟨vs, hd⟩ := hf
  exact ⟨od, ⟨hget, hz.1, by unfold PySem.W.notCls; rw [hd] <;> rfl, by rw [hz.2]; exact ho⟩, mA, ho, hr, hns⟩
def rIsX (K : PySem.W.Frag) (a : Addr) (oe : Obj) (c2 : V) (cv : Value) : List V → Hp → VK → Prop := fun xs H Q => ∃ (cls dx : Addr) (fs : List (Str × V)) (fl : Str) (b : Bool), xs = [.ref a, c2] ∧ Zc (.ref cls) (some dx) oe ∧ (∃ vs, oe.data = .fields vs) ∧ H dx = some (.xd fs) ∧ IsC K cls fl ∧ PySem.W.kitOne K (.ref cls) cv = some b ∧ Q (.bl b) H
section
variable {X : Cx} {C : Cst} {π : Option (Addr × Obj)} {W : WX} {pos p : Pos} {e ce : Expr} {me : EM D}
theorem call_isX {a : Addr} {oe : Obj} {c2 : V} {cv : Value} (hm : (a, oe) ∈ X.pn) (hc : ClsV c2 cv) : CallR X (.builtin "isinstance") (rIsX X.K a oe c2 cv) := by
  intro pins s σ H xs us Q I r h
  obtain ⟨cls, dx, fs, fl, b, rfl, hz, hf, hx, T, e, q⟩ := h
  obtain ⟨u1, u2, rfl, r1, r2⟩ := vals2 r
  obtain rfl := hc.eq r2
  cases (show u1 = Value.ref a from r1)
  obtain ⟨od, J, _⟩ := pin_inst I hm hz hf hx
  exact PySem.W.kia_one (PySem.W.kitx_exc T.cl T.ga T.gt T.sub T.ca T.sp T.tk T.ob) I.kIn J e (fun z => nomatch z) fun tk => ⟨.bl b, H, I.tok tk, rfl, q⟩
/-- isinstance(e, T), T a built-in type -/
theorem e_isT {T : String} (hK : X.K = C.K) (hg : Gl X "isinstance") (hm : X.mg "isinstance" = none) (he : PE X e (TEe C π W me)) (hc : PE X ce (tC (.ty T))) (hs : starEach [e, ce] X.env = (false, eval e X.env) :: starEach [ce] X.env := by rfl) (hs2 : starEach [ce] X.env = (false, eval ce X.env) :: starEach [] X.env := by rfl) :
    PE X (.Call (.Name "isinstance" p) [e, ce] [] pos) (TEe C π W (mIsT T me)) :=
  pe_mono (pe_callB call_isi hg hm (by rfl) (pa_cons he (pa_cons hc pa_nil hs2) hs) (by decide) (by decide) hs (by rw [hs2]; rfl)) fun σ H Q ⟨p, S, δ, hp, ok, re, po⟩ => TRe.go hp ok re po fun d S1 p1 H1 v k1 ok1 hp1 re1 r1 po1 => by
    obtain ⟨d2, e2, q⟩ := po1.out
    unfold isT at e2
    simp only [Option.map_eq_some_iff, Option.bind_eq_some_iff] at e2
    obtain ⟨b, ⟨a, e3, e4⟩, rfl⟩ := e2
    refine ⟨v, .ty T, _, .type T, b, rfl, .ty T, by rw [hK]; exact ty_rep ok1 r1 e3, kit_ty e4, q p1 H1 _ (Step.refl _ _) ok1 (by simp only [Rep])⟩
/-- isinstance(error, X) -/
theorem e_isE {a : Addr} {oe : Obj} {c2 : V} {cv : Value} {tb : Nat → Option Bool} (hpn : (a, oe) ∈ X.pn) (hg : Gl X "isinstance") (hm : X.mg "isinstance" = none) (he : PE X e (TEe C (some (a, oe)) W me)) (hc : PE X ce (tC c2)) (hv : ClsV c2 cv)
    (ht : ∀ c b, tb c = some b → IsC X.K (C.ca c) (C.fld c) ∧ PySem.W.kitOne X.K (.ref (C.ca c)) cv = some b) (hs : starEach [e, ce] X.env = (false, eval e X.env) :: starEach [ce] X.env := by rfl) (hs2 : starEach [ce] X.env = (false, eval ce X.env) :: starEach [] X.env := by rfl) :
    PE X (.Call (.Name "isinstance" p) [e, ce] [] pos) (TEe C (some (a, oe)) W (mIsE tb me)) :=
  pe_mono (pe_callB (call_isX hpn hv) hg hm (by rfl) (pa_cons he (pa_cons hc pa_nil hs2) hs) (by decide) (by decide) hs (by rw [hs2]; rfl)) fun σ H Q ⟨p, S, δ, hp, ok, re, po⟩ => TRe.go hp ok re po fun d S1 p1 H1 v k1 ok1 hp1 re1 r1 po1 => by
    cases d with
    | err c d =>
      obtain ⟨d2, e2, q⟩ := Post.out po1
      simp only [Option.map_eq_some_iff] at e2
      obtain ⟨b, e3, rfl⟩ := e2
      obtain ⟨T, hk⟩ := ht c b e3
      simp only [Rep] at r1
      obtain ⟨pp, dx, u, vs, e5, rfl, hz, hf, hx, hu⟩ := r1
      rw [hp1] at e5
      cases e5
      exact ⟨_, dx, _, _, b, rfl, hz, ⟨vs, hf⟩, hx, T, hk, q p1 H1 _ (Step.refl _ _) ok1 (by simp only [Rep])⟩
    | _ => exact po1.elim
/-- error.field -/
theorem e_xf {a : Addr} {oe : Obj} {cs : List Nat} {fl : Str} (hpn : (a, oe) ∈ X.pn) (he : PE X e (TEe C (some (a, oe)) W me)) (ht : ∀ c ∈ cs, IsC X.K (C.ca c) fl ∧ C.fld c = fl) (hb : attributeBase e fl X.env (eval e X.env) = eval e X.env := by rfl) :
    PE X (.Attribute e fl pos) (TEe C (some (a, oe)) W (mXf cs me)) := by
  refine ⟨fun pi s σ H Q I h => attr_of hb ?_⟩
  obtain ⟨p, S, δ, hp, ok, re, po⟩ := h
  refine thn (he.run pi s σ H (fun v H1 => ∃ (cls dx : Addr) (u : V), v = .ref a ∧ Zc (.ref cls) (some dx) oe ∧ (∃ vs, oe.data = .fields vs) ∧ H1 dx = some (.xd [(fl, u)]) ∧ IsC X.K cls fl ∧ Q u H1) I (TRe.go hp ok re po fun d S1 p1 H1 v k1 ok1 hp1 re1 r1 po1 => ?_)) fun v s1 ⟨x, H1, I1, rx, cls, dx, u, ev, hz, hf, hx, T, q⟩ => ?_
  · cases d with
    | err c d =>
      have po2 : Post C W p1 H1 σ (Rep C) Q (if c ∈ cs then .ok d S1 else .stuck) := po1
      split at po2
      · rename_i hc
        obtain ⟨T, hfl⟩ := ht c hc
        simp only [Rep] at r1
        obtain ⟨pp, dx, u, vs, e5, rfl, hz, hf, hx, hu⟩ := r1
        rw [hp1] at e5
        cases e5
        rw [hfl] at hx
        exact ⟨_, dx, u, rfl, hz, ⟨vs, hf⟩, hx, T, po2 p1 H1 u (Step.refl _ _) ok1 hu⟩
      · exact po2.elim
    | _ => exact po1.elim
  · subst ev
    cases (show v = Value.ref a from rx)
    obtain ⟨od, J, mA, ho, hr, hns⟩ := pin_inst I1 hpn hz hf hx
    obtain ⟨od2, ho2, hl⟩ := lookIn_ns hns
    rw [ho] at ho2; cases ho2
    obtain ⟨w, hu, ru⟩ := RelO.some_of (v := u) (o := mA fl) (by have z := hr fl; simpa [List.lookup] using z)
    exact HandSPX.exc_get I1.kIn J T.ga T.gt T.sub (PySem.W.findObj_own T.hd T.no rfl (by rw [hl, hu])) (handed_of ru) ⟨u, H1, I1.tok _, ru, q⟩
end

open PySem PySem.Spec PyProof.Rows L2

/-! ### values without errors and places -/
mutual
def plainD : D → Bool
  | .non => true
  | .bl _ => true
  | .int _ => true
  | .str _ => true
  | .fn _ => true
  | .tup ds => plainL ds
  | .lst ds => plainL ds
  | .rol ds => plainL ds
  | .loc _ => false
  | .err _ _ => false
def plainL : List D → Bool
  | [] => true
  | d :: ds => plainD d && plainL ds
end
section
variable {C : Cst} {p q : Pl} {H : Hp}
mutual
theorem plain_rep (h : ∀ a, a ∉ p.ρ → a ∉ p.hid → a ∉ q.ρ ∧ a ∉ q.hid) : ∀ (d : D) (v : V), plainD d = true → Rep C p H d v → Rep C q H d v
  | .non, v, _, r => by simpa only [Rep] using r
  | .bl _, v, _, r => by simpa only [Rep] using r
  | .int _, v, _, r => by simpa only [Rep] using r
  | .str _, v, _, r => by simpa only [Rep] using r
  | .fn _, v, _, r => by simpa only [Rep] using r
  | .loc _, v, z, r => by simp [plainD] at z
  | .err _ _, v, z, r => by simp [plainD] at z
  | .tup ds, v, z, r => by
    simp only [Rep] at r ⊢
    obtain ⟨a, vs, e, k, r2⟩ := r
    exact ⟨a, vs, e, k, plain_repL h ds vs (by simpa only [plainD] using z) r2⟩
  | .lst ds, v, z, r => by
    simp only [Rep] at r ⊢
    obtain ⟨a, vs, e, n1, n2, k, r2⟩ := r
    exact ⟨a, vs, e, (h a n1 n2).1, (h a n1 n2).2, k, plain_repL h ds vs (by simpa only [plainD] using z) r2⟩
  | .rol ds, v, z, r => by
    simp only [Rep] at r ⊢
    obtain ⟨a, vs, e, k, r2⟩ := r
    refine ⟨a, vs, e, ?_, plain_repL h ds vs (by simpa only [plainD] using z) r2⟩
    rcases k with ⟨k, n1, n2⟩ | k | k
    · exact .inl ⟨k, h a n1 n2⟩
    · exact .inr (.inl k)
    · exact .inr (.inr k)
theorem plain_repL (h : ∀ a, a ∉ p.ρ → a ∉ p.hid → a ∉ q.ρ ∧ a ∉ q.hid) : ∀ (ds : List D) (vs : List V), plainL ds = true → RepL C p H ds vs → RepL C q H ds vs
  | [], vs, _, r => by simpa only [RepL] using r
  | d :: ds, vs, z, r => by
    simp only [RepL] at r ⊢
    simp only [plainL, Bool.and_eq_true] at z
    obtain ⟨v, r', e, r1, r2⟩ := r
    exact ⟨v, r', e, plain_rep h d v z.1 r1, plain_repL h ds r' z.2 r2⟩
end
end

/-! ### try .. except X as name, where the clause returns -/
def sTry (mb : SM) (yes : Nat → Option Bool) (i : Nat) (ms : SM) : SM := fun δ S => match mb δ S with
  | .exc c d δ' S' => match yes c with
    | some true => if plainD d = true then (match ms ((δ'.map fun _ => none).set i (some (.err c d))) [] with
      | .rt r _ => if plainD r = true then .rt r S' else .stuck
      | _ => .stuck) else .stuck
    | some false => .exc c d δ' S'
    | none => .stuck
  | r => r
section
variable {X : Cx} {C : Cst} {W : WX} {pos : Pos} {mb ms : SM} {yes : Nat → Option Bool} {i : Nat} {x n : Str} {cv : Value} {body suite : List Stmt} {b0 : Stmt} {np pos' : Pos}
/-- while a suite runs, all places are out of sight -/
abbrev Pl.shut (p : Pl) (q : Addr × Obj) : Pl := ⟨[], p.ρ ++ p.hid, some q⟩
theorem shut_ok {p : Pl} {S : Store} {H : Hp} {q : Addr × Obj} (ok : Ok C p S H) : Ok C (p.shut q) [] H := by
  refine ⟨rfl, by simp, fun l c h => by simp at h, fun a h => ⟨by simp, ?_⟩⟩
  rcases List.mem_append.mp h with h | h
  · rcases ok.locNot h with ⟨vs, e⟩ | ⟨vs, e⟩ <;> exact ⟨_, e⟩
  · exact (ok.hid a h).2
theorem shut_back {p p3 : Pl} {S : Store} {H H3 : Hp} {q : Addr × Obj} (ok : Ok C p S H) (s : Step (p.shut q) H p3 H3) : Step p H p H3 ∧ Ok C p S H3 ∧ ∀ a, a ∉ p3.ρ → a ∉ p3.hid → a ∉ p.ρ ∧ a ∉ p.hid := by
  have all : ∀ a o, H a = some o → H3 a = some o := fun a o h => s.frz a o h (by simp)
  have st : Step p H p H3 := ⟨⟨[], by simp⟩, rfl, rfl, fun a o h _ => all a o h, fun a h h' => absurd h h'⟩
  refine ⟨st, ⟨ok.len, ok.nd, fun l c h => ?_, fun a h => ?_⟩, fun a _ h2 => ?_⟩
  · obtain ⟨a, e, r⟩ := ok.cell l c h
    exact ⟨a, e, r.keep (st.keep ok) (fun o z => all a o z)⟩
  · obtain ⟨n, o, e⟩ := ok.hid a h
    exact ⟨n, o, all a o e⟩
  · rw [s.hid] at h2
    exact ⟨fun z => h2 (List.mem_append_left _ z), fun z => h2 (List.mem_append_right _ z)⟩
theorem z_try (hs : X.stack = X.env :: X.outer) (hf : X.env.frame = some X.env.locals) (hN : X.N.Nodup) (hi : X.N[i]? = some n) (hln : X.env.kindOf n = some .local) (hc : Names X x cv) (tk : Takes X W)
    (hyes : ∀ c b, yes c = some b → PySem.W.exmOne X.K (.ref (C.ca c)) cv = some b)
    (hb : ∀ (W : WX) (pn : List (Addr × Obj)) (xe : Value → Shared → Prop), Takes (X.tr pn xe) W → PassesOwn (model X.prog X.w) X.A X.env xe → PSs (X.tr pn xe) body (TSe C none W mb))
    (hsu : ∀ (a : Addr) (oe : Obj) (pn : List (Addr × Obj)), PSs (X.suite a ((a, oe) :: pn)) (b0 :: suite) (TSe C (some (a, oe)) WF ms)) :
    PS X (.Try body [.ExceptHandler (some (.Name x np)) (some n) (b0 :: suite) pos'] [] [] pos) (TSe C none W (sTry mb yes i ms)) :=
  ps_mono (ps_try_as (tb := fun W => TSe C none W mb) (ts := fun a cls dO D σ H => ∀ oe, Zc cls dO oe → (∃ vs, oe.data = .fields vs) → TSe C (some (a, oe)) WF ms D σ H) hs hf hN hi hln hc tk hb fun a oe cls d pn hz hv => pss_mono (hsu a oe pn) fun D σ H h => h oe hz hv)
    fun DE σ H ⟨p, S, δ, hp, ok, re, po⟩ => by
      refine ⟨p, S, δ, hp, ok, re, ?_⟩
      unfold sTry at po
      cases e : mb δ S with
      | nx δ' S' => rw [e] at po; exact po
      | rt d S' => rw [e] at po; exact po
      | bk δ' S' => rw [e] at po; exact po
      | ct δ' S' => rw [e] at po; exact po
      | stuck => rw [e] at po; exact po
      | exc c d δ' S' =>
        rw [e] at po
        dsimp only at po
        intro p1 H1 dx σ1 s1 ok1 re1 x1
        cases ey : yes c with
        | none => rw [ey] at po; exact po.elim
        | some b =>
          refine ⟨b, hyes c b ey, fun hb a ha oe hz hv => ?_, fun hb => ?_⟩
          · subst hb
            rw [ey] at po
            dsimp only at po
            split at po
            · rename_i hpl
              obtain ⟨u, hu, ru⟩ := x1
              refine ⟨p1.shut (a, oe), [], (δ'.map fun _ => none).set i (some (.err c d)), rfl, shut_ok ok1, ?_, ?_⟩
              · refine ⟨by simp [re1.1], fun j e1 h => ?_⟩
                by_cases hj : j = i
                · subst hj
                  have hl : j < δ'.length := by
                    have := (List.getElem?_eq_some_iff.mp h).1
                    simpa using this
                  rw [List.getElem?_set_self (by simpa using hl)] at h
                  cases h
                  refine ⟨.ref a, by rw [List.getElem?_set_self (by rw [← re1.1]; exact hl)], ?_⟩
                  simp only [Rep]
                  obtain ⟨vs, hvs⟩ := hv
                  exact ⟨(a, oe), dx, u, vs, rfl, rfl, hz, hvs, hu, plain_rep (fun b n1 n2 => ⟨by simp, fun z => (List.mem_append.mp z).elim n1 n2⟩) d u hpl ru⟩
                · rw [List.getElem?_set_ne (Ne.symm hj), List.getElem?_map] at h
                  cases q : δ'[j]? with
                  | none => rw [q] at h; simp at h
                  | some z => rw [q] at h; simp at h
              · cases em : ms ((δ'.map fun _ => none).set i (some (.err c d))) [] with
                | rt r S3 =>
                  rw [em] at po
                  dsimp only at po
                  split at po
                  · rename_i hr
                    intro p3 H3 v s3 ok3 r3
                    obtain ⟨b1, b2, b3⟩ := shut_back ok1 s3
                    exact po p1 H3 v (s1.trans b1) b2 (plain_rep b3 r v hr r3)
                  · exact po.elim
                | nx => rw [em] at po; exact po.elim
                | bk => rw [em] at po; exact po.elim
                | ct => rw [em] at po; exact po.elim
                | exc => rw [em] at po; exact po.elim
                | stuck => rw [em] at po; exact po.elim
            · exact po.elim
          · subst hb
            rw [ey] at po
            exact po p1 H1 dx σ1 s1 ok1 re1 x1
end

open PySem PySem.Spec PyProof.Rows L2

/-! ### equality -/
mutual
def eqq : D → D → Bool
  | .non, .non => true
  | .bl a, .bl b => a == b
  | .bl a, .int b => (if a then 1 else 0) == b
  | .int a, .bl b => a == (if b then 1 else 0)
  | .int a, .int b => a == b
  | .str a, .str b => a == b
  | .tup a, .tup b => eqqL a b
  | .lst a, .lst b => eqqL a b
  | .lst a, .rol b => eqqL a b
  | .rol a, .lst b => eqqL a b
  | .rol a, .rol b => eqqL a b
  | _, _ => false
def eqqL : List D → List D → Bool
  | [], [] => true
  | a :: as, b :: bs => eqq a b && eqqL as bs
  | _, _ => false
end
/-- data of a depth of at most n -/
def okq : Nat → D → Bool
  | _, .non => true
  | _, .bl _ => true
  | _, .int _ => true
  | _, .str x => PyData.strOk x
  | n + 1, .tup ds => ds.all (okq n)
  | n + 1, .lst ds => ds.all (okq n)
  | n + 1, .rol ds => ds.all (okq n)
  | _, _ => false
mutual
def pd : D → PyData
  | .non => .none
  | .bl b => .bool b
  | .int i => .int i
  | .str x => .str x
  | .tup ds => .tuple (pdL ds)
  | .lst ds => .list (pdL ds)
  | .rol ds => .list (pdL ds)
  | _ => .none
def pdL : List D → List PyData
  | [] => []
  | d :: ds => pd d :: pdL ds
end
theorem pd_ok : ∀ (n : Nat) (d : D), okq n d = true → (pd d).canLay0 = true ∧ (pd d).depth ≤ n
  | n, .non, _ => by simp [pd, PyData.canLay0, PyData.depth]
  | n, .bl _, _ => by simp [pd, PyData.canLay0, PyData.depth]
  | n, .int _, _ => by simp [pd, PyData.canLay0, PyData.depth]
  | n, .str x, h => by
    have h' : PyData.strOk x = true := by cases n <;> simpa only [okq] using h
    simp [pd, PyData.canLay0, PyData.depth, h']
  | 0, .tup _, h => by simp [okq] at h
  | 0, .lst _, h => by simp [okq] at h
  | 0, .rol _, h => by simp [okq] at h
  | n, .loc _, h => by cases n <;> simp [okq] at h
  | n, .fn _, h => by cases n <;> simp [okq] at h
  | n, .err _ _, h => by cases n <;> simp [okq] at h
  | n + 1, .tup ds, h => by
    have q := go n ds (by simpa only [okq] using h)
    exact ⟨by simpa only [pd, PyData.canLay0] using q.1, by simp only [pd, PyData.depth]; omega⟩
  | n + 1, .lst ds, h => by
    have q := go n ds (by simpa only [okq] using h)
    exact ⟨by simpa only [pd, PyData.canLay0] using q.1, by simp only [pd, PyData.depth]; omega⟩
  | n + 1, .rol ds, h => by
    have q := go n ds (by simpa only [okq] using h)
    exact ⟨by simpa only [pd, PyData.canLay0] using q.1, by simp only [pd, PyData.depth]; omega⟩
where
  go : ∀ (n : Nat) (ds : List D), ds.all (okq n) = true → PyData.canLayAll0 (pdL ds) = true ∧ PyData.depthAll (pdL ds) ≤ n
  | n, [], _ => by simp [pdL, PyData.canLayAll0, PyData.depthAll]
  | n, d :: ds, h => by
    rw [List.all_cons, Bool.and_eq_true] at h
    have q1 := pd_ok n d h.1
    have q2 := go n ds h.2
    simp only [pdL, PyData.canLayAll0, PyData.depthAll, Bool.and_eq_true]
    exact ⟨⟨q1.1, q2.1⟩, by omega⟩
theorem pd_shaped {n : Nat} {d : D} (h : okq n d = true) (hn : n ≤ 60) : SeqAt.shaped (pd d) = true := by
  have q := pd_ok n d h
  unfold SeqAt.shaped
  rw [Bool.and_eq_true]
  exact ⟨q.1, decide_eq_true (by omega)⟩
mutual
theorem pd_eqv : ∀ (n m : Nat) (a b : D), okq n a = true → okq m b = true → (pd a).eqv (pd b) = eqq a b := by
  intro n m a b ha hb
  cases a <;> cases b <;> first
    | (simp only [pd, PyData.eqv, eqq]; done)
    | (cases n <;> simp [okq] at ha; done)
    | (cases m <;> simp [okq] at hb; done)
    | skip
  all_goals (
    cases n with
    | zero => simp [okq] at ha
    | succ n =>
      cases m with
      | zero => simp [okq] at hb
      | succ m =>
        simp only [okq] at ha hb
        simp only [pd, PyData.eqv, eqq]
        exact pd_eqvL n m _ _ ha hb)
theorem pd_eqvL : ∀ (n m : Nat) (as bs : List D), as.all (okq n) = true → bs.all (okq m) = true → PyData.eqvAll (pdL as) (pdL bs) = eqqL as bs
  | n, m, [], [], _, _ => by simp [pdL, PyData.eqvAll, eqqL]
  | n, m, [], b :: bs, _, _ => by simp [pdL, PyData.eqvAll, eqqL]
  | n, m, a :: as, [], _, _ => by simp [pdL, PyData.eqvAll, eqqL]
  | n, m, a :: as, b :: bs, ha, hb => by
    rw [List.all_cons, Bool.and_eq_true] at ha hb
    simp only [pdL, PyData.eqvAll, eqqL]
    rw [pd_eqv n m a b ha.1 hb.1, pd_eqvL n m as bs ha.2 hb.2]
end

section
variable {C : Cst} {p : Pl} {S : Store} {H : Hp}
mutual
theorem dp_rep : ∀ (n : Nat) (d : D) (v : V), okq n d = true → Rep C p H d v → Dp C.K H v (pd d) := by
  intro n d v h r
  cases d with
  | non => simp only [Rep] at r; subst r; exact .non
  | bl b => simp only [Rep] at r; subst r; exact .bl b
  | int b => simp only [Rep] at r; subst r; exact .int b
  | str b => simp only [Rep] at r; subst r; exact .str b
  | tup ds =>
    cases n with
    | zero => simp [okq] at h
    | succ n =>
      obtain ⟨a, vs, rfl, k, q⟩ := tup_rep r
      exact .tup k (dp_repL n ds vs (by simpa only [okq] using h) q)
  | lst ds =>
    cases n with
    | zero => simp [okq] at h
    | succ n =>
      simp only [Rep] at r
      obtain ⟨a, vs, rfl, _, _, k, q⟩ := r
      exact .lst (.of k) (dp_repL n ds vs (by simpa only [okq] using h) q)
  | rol ds =>
    cases n with
    | zero => simp [okq] at h
    | succ n =>
      simp only [Rep] at r
      obtain ⟨a, vs, rfl, k, q⟩ := r
      exact .lst k.sq (dp_repL n ds vs (by simpa only [okq] using h) q)
  | loc l => cases n <;> simp [okq] at h
  | fn l => cases n <;> simp [okq] at h
  | err l e => cases n <;> simp [okq] at h
theorem dp_repL : ∀ (n : Nat) (ds : List D) (vs : List V), ds.all (okq n) = true → RepL C p H ds vs → DpAll C.K H vs (pdL ds)
  | n, [], vs, _, r => by simp only [RepL] at r; subst r; exact .nil
  | n, d :: ds, vs, h, r => by
    rw [List.all_cons, Bool.and_eq_true] at h
    simp only [RepL] at r
    obtain ⟨v, r', rfl, r1, r2⟩ := r
    exact .cons (dp_rep n d v h.1 r1) (dp_repL n ds r' h.2 r2)
end
/-- a list that stands in the store, as a value -/
def rs (S : Store) : D → Option D
  | .loc l => match S[l]? with
    | some (.lst ds) => some (.lst ds)
    | _ => none
  | d => some d
theorem dp_rs {n : Nat} {d e : D} {v : V} (ok : Ok C p S H) (hr : rs S d = some e) (h : okq n e = true) (r : Rep C p H d v) : Dp C.K H v (pd e) := by
  cases d with
  | loc l =>
    simp only [rs] at hr
    split at hr
    · rename_i ds hs
      cases hr
      obtain ⟨a, rfl, _, vs, k, q⟩ := locAt ok r hs
      cases n with
      | zero => simp [okq] at h
      | succ n => exact .lst (.of k) (dp_repL n ds vs (by simpa only [okq] using h) q)
    · cases hr
  | _ => cases hr; exact dp_rep n _ v h r
end
/-- both flat, by the short road -/
def scalD : D → D → Bool
  | .str _, .str _ => true
  | .int _, .int _ => true
  | _, _ => false
/-- a == b -/
def eqB (S : Store) (a b : D) : Option Bool := match rs S a, rs S b with
  | some x, some y => if scalD x y = true then some (eqq x y) else if okq 40 x = true ∧ okq 40 y = true then some (eqq x y) else none
  | _, _ => none
def eqD (S : Store) (a b : D) : Option D := (eqB S a b).map D.bl
def neD (S : Store) (a b : D) : Option D := (eqB S a b).map fun k => D.bl (!k)
section
variable {X : Cx} {C : Cst}
theorem scal_rep {p : Pl} {S : Store} {H : Hp} {dx dy x y : D} {v w : V} (h : scalD x y = true) (e1 : rs S dx = some x) (e2 : rs S dy = some y) (r1 : Rep C p H dx v) (r2 : Rep C p H dy w) : scal v w = true ∧ decide (v = w) = eqq x y := by
  have l1 : ∀ l, dx = .loc l → False := fun l z => by
    subst z
    simp only [rs] at e1
    split at e1
    · cases e1; simp [scalD] at h
    · cases e1
  have l2 : ∀ l, dy = .loc l → False := fun l z => by
    subst z
    simp only [rs] at e2
    split at e2
    · cases e2; cases x <;> simp [scalD] at h
    · cases e2
  cases dx <;> first
    | exact absurd rfl (fun z => l1 _ z)
    | (cases e1; try (simp [scalD] at h; done))
  all_goals (cases dy <;> first
    | exact absurd rfl (fun z => l2 _ z)
    | (cases e2; try (simp [scalD] at h; done)))
  all_goals (simp only [Rep] at r1 r2; subst r1; subst r2; refine ⟨rfl, ?_⟩; simp only [eqq])
  · exact dec_int
  · exact dec_str
theorem eq_ok (hK : X.K = C.K) (hu : X.A.units + 64 < cLine) : OpR X (compareOp .Eq) (rV2 C eqD) := by
  intro pins s σ H x y v u Q I rx ry h
  obtain ⟨p, S, dx, dy, d, ok, r1, r2, e, w⟩ := h
  unfold eqD eqB at e
  split at e
  · rename_i a b e1 e2
    split at e
    · rename_i hs
      cases e
      obtain ⟨k1, k2⟩ := scal_rep hs e1 e2 r1 r2
      refine op_eq pins s σ H x y v u Q I rx ry ⟨k1, ?_⟩
      rw [k2]
      exact w.here ok (by simp only [Rep])
    · split at e
      · rename_i hq
        cases e
        refine op_eqD hu pins s σ H x y v u Q I rx ry ⟨pd a, pd b, ?_, ?_, pd_shaped hq.1 (by omega), pd_shaped hq.2 (by omega), ?_⟩
        · rw [hK]; exact dp_rs ok e1 hq.1 r1
        · rw [hK]; exact dp_rs ok e2 hq.2 r2
        · rw [pd_eqv 40 40 a b hq.1 hq.2]
          exact w.here ok (by simp only [Rep])
      · cases e
  · cases e
theorem ne_ok (hK : X.K = C.K) (hu : X.A.units + 64 < cLine) : OpR X (compareOp .NotEq) (rV2 C neD) := by
  intro pins s σ H x y v u Q I rx ry h
  obtain ⟨p, S, dx, dy, d, ok, r1, r2, e, w⟩ := h
  unfold neD eqB at e
  split at e
  · rename_i a b e1 e2
    split at e
    · rename_i hs
      cases e
      obtain ⟨k1, k2⟩ := scal_rep hs e1 e2 r1 r2
      refine op_ne pins s σ H x y v u Q I rx ry ⟨k1, ?_⟩
      rw [k2]
      exact w.here ok (by simp only [Rep])
    · split at e
      · rename_i hq
        cases e
        refine op_neD hu pins s σ H x y v u Q I rx ry ⟨pd a, pd b, ?_, ?_, pd_shaped hq.1 (by omega), pd_shaped hq.2 (by omega), ?_⟩
        · rw [hK]; exact dp_rs ok e1 hq.1 r1
        · rw [hK]; exact dp_rs ok e2 hq.2 r2
        · rw [pd_eqv 40 40 a b hq.1 hq.2]
          exact w.here ok (by simp only [Rep])
      · cases e
  · cases e
/-- is, is not -/
theorem is_ok : OpR X (compareOp .Is) (rV2 C isD) := by
  intro pins s σ H x y v u Q I rx ry h
  obtain ⟨p, S, dx, dy, d, ok, r1, r2, e, w⟩ := h
  have nn : ∀ b : Bool, dy = .non → d = .bl b → decide (x = V.non) = b → wpAny (model X.prog X.w) X.A (compareOp .Is v u) (EP X pins σ Q) X.xe s := fun b e1 e2 e3 => by
    subst e1; subst e2
    simp only [Rep] at r2
    exact op_isN pins s σ H x y v u Q I rx ry ⟨r2, by rw [e3]; exact w.here ok (by simp only [Rep])⟩
  cases dx <;> cases dy <;> first | (simp [isD] at e; done) | skip
  · cases e; simp only [Rep] at r1; exact nn true rfl rfl (by simp [r1])
  · cases e; simp only [Rep] at r1; exact nn false rfl rfl (by simp [r1])
  · cases e
    simp only [Rep] at r1 r2
    exact op_is_bl pins s σ H x y v u Q I rx ry ⟨_, _, r1, r2, w.here ok (by simp only [Rep])⟩
  · cases e; simp only [Rep] at r1; exact nn false rfl rfl (by simp [r1])
  · cases e; simp only [Rep] at r1; exact nn false rfl rfl (by simp [r1])
  · cases e; obtain ⟨a, vs, e1, _⟩ := tup_rep r1; exact nn false rfl rfl (by simp [e1])
  · cases e; simp only [Rep] at r1; obtain ⟨a, vs, e1, _⟩ := r1; exact nn false rfl rfl (by simp [e1])
  · cases e; simp only [Rep] at r1; obtain ⟨a, vs, e1, _⟩ := r1; exact nn false rfl rfl (by simp [e1])
  · cases e; simp only [Rep] at r1; obtain ⟨a, e1, _⟩ := r1; exact nn false rfl rfl (by simp [e1])
  · cases e; simp only [Rep] at r1; obtain ⟨q, dx, u, vs, _, e1, _⟩ := r1; exact nn false rfl rfl (by simp [e1])
def nisD (S : Store) (a b : D) : Option D := match b with
  | .non => match isD S a b with
    | some (.bl k) => some (.bl (!k))
    | _ => none
  | _ => none
theorem nis_ok : OpR X (compareOp .IsNot) (rV2 C nisD) := by
  intro pins s σ H x y v u Q I rx ry h
  obtain ⟨p, S, dx, dy, d, ok, r1, r2, e, w⟩ := h
  cases dy <;> first | (simp [nisD] at e; done) | skip
  have nn : ∀ b : Bool, d = .bl (!b) → decide (x = V.non) = b → wpAny (model X.prog X.w) X.A (compareOp .IsNot v u) (EP X pins σ Q) X.xe s := fun b e2 e3 => by
    subst e2
    simp only [Rep] at r2
    exact op_notN pins s σ H x y v u Q I rx ry ⟨r2, by rw [e3]; exact w.here ok (by simp only [Rep])⟩
  cases dx <;> first | (simp [nisD, isD] at e; done) | skip
  · cases e; simp only [Rep] at r1; exact nn true rfl (by simp [r1])
  · cases e; simp only [Rep] at r1; exact nn false rfl (by simp [r1])
  · cases e; simp only [Rep] at r1; exact nn false rfl (by simp [r1])
  · cases e; simp only [Rep] at r1; exact nn false rfl (by simp [r1])
  · cases e; obtain ⟨a, vs, e1, _⟩ := tup_rep r1; exact nn false rfl (by simp [e1])
  · cases e; simp only [Rep] at r1; obtain ⟨a, vs, e1, _⟩ := r1; exact nn false rfl (by simp [e1])
  · cases e; simp only [Rep] at r1; obtain ⟨a, vs, e1, _⟩ := r1; exact nn false rfl (by simp [e1])
  · cases e; simp only [Rep] at r1; obtain ⟨a, e1, _⟩ := r1; exact nn false rfl (by simp [e1])
  · cases e; simp only [Rep] at r1; obtain ⟨q, dx, u, vs, _, e1, _⟩ := r1; exact nn false rfl (by simp [e1])
end

open PySem PySem.Spec PyProof.Rows L2

/-! ### flat values -/
def flatD : D → Bool
  | .non => true
  | .bl _ => true
  | .int _ => true
  | .str _ => true
  | _ => false
def flV : D → V
  | .bl b => .bl b
  | .int i => .int i
  | .str x => .str x
  | _ => .non
theorem flat_rep {C : Cst} {p : Pl} {H : Hp} {d : D} {v : V} (h : flatD d = true) (r : Rep C p H d v) : v = flV d ∧ flatV v = true := by
  cases d <;> first | (simp [flatD] at h; done) | skip
  all_goals (simp only [Rep] at r; subst r; exact ⟨rfl, rfl⟩)
theorem flat_repL {C : Cst} {p : Pl} {H : Hp} : ∀ {ds : List D} {vs : List V}, ds.all flatD = true → RepL C p H ds vs → vs = ds.map flV ∧ vs.all flatV = true
  | [], vs, _, r => by simp only [RepL] at r; subst r; exact ⟨rfl, rfl⟩
  | d :: ds, vs, h, r => by
    rw [List.all_cons, Bool.and_eq_true] at h
    simp only [RepL] at r
    obtain ⟨v, r', rfl, r1, r2⟩ := r
    obtain ⟨e1, f1⟩ := flat_rep h.1 r1
    obtain ⟨e2, f2⟩ := flat_repL h.2 r2
    exact ⟨by rw [List.map_cons, ← e1, ← e2], by rw [List.all_cons, f1, f2]; rfl⟩
theorem flat_eq {a b : D} (ha : flatD a = true) (hb : flatD b = true) : eqV (flV a) (flV b) = eqq a b := by
  cases a <;> first | (simp [flatD] at ha; done) | skip
  all_goals (cases b <;> first | (simp [flatD] at hb; done) | skip)
  all_goals (simp only [flV, eqV, eqq])
theorem flat_any {a : D} (ha : flatD a = true) : ∀ {ds : List D}, ds.all flatD = true → (ds.map flV).any (fun y => eqV y (flV a)) = ds.any fun y => eqq y a
  | [], _ => rfl
  | d :: ds, h => by
    rw [List.all_cons, Bool.and_eq_true] at h
    rw [List.map_cons, List.any_cons, List.any_cons, flat_eq h.1 ha, flat_any ha h.2]
theorem deep_any {n m : Nat} {a : D} (ha : okq m a = true) : ∀ {ds : List D}, ds.all (okq n) = true → ((pdL ds).any fun z => PyData.eqv z (pd a)) = ds.any fun y => eqq y a
  | [], _ => rfl
  | d :: ds, h => by
    rw [List.all_cons, Bool.and_eq_true] at h
    simp only [pdL]
    rw [List.any_cons, List.any_cons, pd_eqv n m d a h.1 ha, deep_any ha h.2]

/-! ### in -/
def inB (S : Store) (a b : D) : Option Bool := match a, b with
  | .str x, .str z => match x.cps.toList with
    | [c] => some (decide (c ∈ z.cps.toList))
    | _ => none
  | a, .tup ds => if flatD a = true ∧ ds.all flatD = true then some (ds.any fun y => eqq y a) else none
  | a, b => match listOf S b with
    | some ds => if flatD a = true ∧ ds.all flatD = true then some (ds.any fun y => eqq y a) else if okq 40 a = true ∧ ds.all (okq 40) = true then some (ds.any fun y => eqq y a) else none
    | none => none
def inD (S : Store) (a b : D) : Option D := (inB S a b).map D.bl
def ninD (S : Store) (a b : D) : Option D := (inB S a b).map fun k => D.bl (!k)
section
variable {X : Cx} {C : Cst}
theorem listOf_dp {p : Pl} {S : Store} {H : Hp} {n : Nat} {b : D} {ds : List D} {v : V} (ok : Ok C p S H) (e : listOf S b = some ds) (h : ds.all (okq n) = true) (r : Rep C p H b v) : Dp C.K H v (.list (pdL ds)) := by
  obtain ⟨a, vs, rfl, k, q⟩ := listOf_rep ok r e
  exact .lst k (dp_repL n ds vs h q)
theorem in_gen {neg : Bool} {op : CmpOp} (hK : X.K = C.K) (h1 : OpR X (compareOp op) (fun x y H Q => ∃ (c : Nat) (z : Str), x = .str ⟨#[c]⟩ ∧ y = .str z ∧ Q (.bl (if neg then !decide (c ∈ z.cps.toList) else decide (c ∈ z.cps.toList))) H)) (h2 : OpR X (compareOp op) (rIn X.K neg))
    (h3 : OpR X (compareOp op) (fun x y H Q => ∃ d ds, Dp X.K H x d ∧ Dp X.K H y (.list ds) ∧ SeqAt.shaped d = true ∧ SeqAt.shaped (.list ds) = true ∧ Q (.bl (if neg then !(ds.any fun z => PyData.eqv z d) else ds.any fun z => PyData.eqv z d)) H)) :
    OpR X (compareOp op) (rV2 C fun S a b => (inB S a b).map fun k => D.bl (if neg then !k else k)) := by
  intro pins s σ H x y v u Q I rx ry h
  obtain ⟨p, S, dx, dy, d, ok, r1, r2, e, w⟩ := h
  simp only [Option.map_eq_some_iff] at e
  obtain ⟨k, e, rfl⟩ := e
  have flat : ∀ ds q vs, flatD dx = true → ds.all flatD = true → y = .ref q → (SqL X.K H q vs ∨ SqT X.K H q vs) → RepL C p H ds vs → k = (ds.any fun z => eqq z dx) → wpAny (model X.prog X.w) X.A (compareOp op v u) (EP X pins σ Q) X.xe s := fun ds q vs f1 f2 ey hs hr hk => by
    obtain ⟨ex, fx⟩ := flat_rep f1 r1
    obtain ⟨ev, fv⟩ := flat_repL f2 hr
    refine h2 pins s σ H x y v u Q I rx ry ⟨q, vs, ey, hs, fx, fv, ?_⟩
    have z : inV x vs = k := by unfold inV; rw [ex, ev, flat_any f1 f2, hk]
    rw [z]
    exact w.here ok (by simp only [Rep])
  have lists : (match listOf S dy with
    | some ds => if flatD dx = true ∧ ds.all flatD = true then some (ds.any fun y => eqq y dx) else if okq 40 dx = true ∧ ds.all (okq 40) = true then some (ds.any fun y => eqq y dx) else none
    | none => none) = some k → wpAny (model X.prog X.w) X.A (compareOp op v u) (EP X pins σ Q) X.xe s := fun e => by
    split at e
    · rename_i ds el
      split at e
      · rename_i hf
        obtain ⟨a, vs, e3, q1, q2⟩ := listOf_rep ok r2 el
        exact flat ds a vs hf.1 hf.2 e3 (.inl (by rw [hK]; exact q1)) q2 (Option.some.inj e).symm
      · split at e
        · rename_i hq
          refine h3 pins s σ H x y v u Q I rx ry ⟨pd dx, pdL ds, by rw [hK]; exact dp_rep 40 dx x hq.1 r1, by rw [hK]; exact listOf_dp ok el hq.2 r2, pd_shaped hq.1 (by omega), ?_, ?_⟩
          · exact pd_shaped (n := 41) (d := .lst ds) (by simpa only [okq] using hq.2) (by omega)
          · rw [deep_any hq.1 hq.2, Option.some.inj e]
            exact w.here ok (by simp only [Rep])
        · cases e
    · cases e
  cases dy with
  | tup ds =>
    have e' : (if flatD dx = true ∧ ds.all flatD = true then some (ds.any fun y => eqq y dx) else none) = some k := by cases dx <;> exact e
    split at e'
    · rename_i hf
      obtain ⟨a, vs, e3, q1, q2⟩ := tup_rep r2
      exact flat ds a vs hf.1 hf.2 e3 (.inr (by rw [hK]; exact q1)) q2 (Option.some.inj e').symm
    · cases e'
  | str z =>
    cases dx with
    | str x0 =>
      simp only [inB] at e
      split at e
      · rename_i c hc
        simp only [Rep] at r1 r2
        have ex : x0 = ⟨#[c]⟩ := by
          obtain ⟨⟨l⟩⟩ := x0
          simp only at hc
          rw [hc]
        subst ex
        refine h1 pins s σ H x y v u Q I rx ry ⟨c, z, r1, r2, ?_⟩
        rw [Option.some.inj e]
        exact w.here ok (by simp only [Rep])
      · cases e
    | _ => simp [inB, listOf] at e
  | lst ds => exact lists (by cases dx <;> exact e)
  | rol ds => exact lists (by cases dx <;> exact e)
  | loc l => exact lists (by cases dx <;> exact e)
  | _ => cases dx <;> simp [inB, listOf] at e
theorem in_ok (hK : X.K = C.K) (hu : X.A.units + 65 < cLine) : OpR X (compareOp .In) (rV2 C inD) :=
  in_gen (neg := false) hK op_inS op_in_seq (op_inD hu)
theorem nin_ok (hK : X.K = C.K) (hu : X.A.units + 65 < cLine) : OpR X (compareOp .NotIn) (rV2 C ninD) :=
  in_gen (neg := true) hK op_notInS op_notIn_seq (op_notInD hu)
end

/-! ### a place of the store is written -/
theorem Step.put {p : Pl} {H : Hp} {a : Addr} {o : HO} (ha : a ∈ p.ρ) : Step p H p (upd H a o) :=
  ⟨⟨[], by simp⟩, rfl, rfl, fun b ob h n => by rw [upd_ne (fun z : b = a => n (by rw [z]; exact ha))]; exact h, fun b h h' => absurd h h'⟩
theorem Ok.put {C : Cst} {p : Pl} {S : Store} {H : Hp} {l : Nat} {a : Addr} {o : HO} {c : Cell} (ok : Ok C p S H) (hl : p.ρ[l]? = some a) (r : CellRep C p (upd H a o) a c) : Ok C p (S.set l c) (upd H a o) := by
  have ha : a ∈ p.ρ := List.mem_of_getElem? hl
  have k := (Step.put (p := p) (H := H) (o := o) ha).keep ok
  have hlt : l < S.length := by rw [← ok.len]; exact (List.getElem?_eq_some_iff.mp hl).1
  refine ⟨by simp [ok.len], ok.nd, fun j c' h => ?_, fun b h => ?_⟩
  · by_cases hj : j = l
    · subst hj
      rw [List.getElem?_set_self hlt] at h
      cases h
      exact ⟨a, hl, r⟩
    · rw [List.getElem?_set_ne (Ne.symm hj)] at h
      obtain ⟨b, e, r'⟩ := ok.cell j c' h
      have hb : b ≠ a := fun z => by
        rw [z] at e
        obtain ⟨x1, y1⟩ := List.getElem?_eq_some_iff.mp e
        obtain ⟨x2, y2⟩ := List.getElem?_eq_some_iff.mp hl
        exact hj ((List.getElem_inj ok.nd).mp (y1.trans y2.symm))
      exact ⟨b, e, r'.keep k fun ob q => by rw [upd_ne hb]; exact q⟩
  · obtain ⟨n, ob, e⟩ := ok.hid b h
    exact ⟨n, ob, by rw [upd_ne (fun z : b = a => n (by rw [z]; exact ha))]; exact e⟩
/-- a list at a place: its address, its items -/
theorem loc_lst {C : Cst} {p : Pl} {S : Store} {H : Hp} {l : Nat} {ds : List D} {v : V} (ok : Ok C p S H) (r : Rep C p H (.loc l) v) (e : S[l]? = some (.lst ds)) : ∃ a vs, v = .ref a ∧ p.ρ[l]? = some a ∧ H a = some (.lst vs) ∧ RepL C p H ds vs := by
  obtain ⟨a, e1, e2, vs, e3, e4⟩ := locAt ok r e
  exact ⟨a, vs, e1, e2, e3, e4⟩
/-- .. and then it is another list -/
theorem loc_put {C : Cst} {p : Pl} {S : Store} {H : Hp} {l : Nat} {a : Addr} {ds : List D} {vs : List V} (ok : Ok C p S H) (hl : p.ρ[l]? = some a) (r : RepL C p H ds vs) : Step p H p (upd H a (.lst vs)) ∧ Ok C p (S.set l (.lst ds)) (upd H a (.lst vs)) := by
  have st : Step p H p (upd H a (.lst vs)) := Step.put (List.mem_of_getElem? hl)
  exact ⟨st, ok.put hl ⟨vs, upd_same, RepL.keep (st.keep ok) ds vs r⟩⟩

/-! ### subscripts -/
def ixD (S : Store) (a b : D) : Option D := match a, b with
  | .tup ds, .int i => atI ds i
  | .str x, .int i => if x.length ≤ sizeLine then (atI x.cps.toList i).map (fun c => .str ⟨#[c]⟩) else none
  | a, .int i => match listOf S a with
    | some ds => atI ds i
    | none => none
  | _, _ => none
theorem atI_rep {C : Cst} {p : Pl} {H : Hp} {ds : List D} {vs : List V} {i : Int} {d : D} (r : RepL C p H ds vs) (e : atI ds i = some d) : ∃ v, atI vs i = some v ∧ Rep C p H d v := by
  unfold atI at e ⊢
  obtain ⟨j, e1, e2⟩ := Option.bind_eq_some_iff.mp e
  obtain ⟨v, e3, q⟩ := r.get e2
  exact ⟨v, by rw [← r.length, e1]; exact e3, q⟩
section
variable {X : Cx} {C : Cst}
theorem ix_ok (hK : X.K = C.K) : IxR X (rV2 C ixD) := by
  intro value slice pins s σ H x y v u Q I rx ry h hsub
  obtain ⟨p, S, dx, dy, d, ok, r1, r2, e, w⟩ := h
  have go : rIx X.K x y H Q → wpAny (model X.prog X.w) X.A (subscriptTail value slice v u) (EP X pins σ Q) X.xe s := fun q => ix_seq value slice pins s σ H x y v u Q I rx ry q hsub
  cases dy with
  | int i =>
    simp only [Rep] at r2
    have lists : (match listOf S dx with
      | some ds => atI ds i
      | none => none) = some d → wpAny (model X.prog X.w) X.A (subscriptTail value slice v u) (EP X pins σ Q) X.xe s := fun e => by
      split at e
      · rename_i ds el
        obtain ⟨a, vs, e1, q1, q2⟩ := listOf_rep ok r1 el
        obtain ⟨z, e2, q3⟩ := atI_rep q2 e
        exact go (.inl ⟨a, vs, i, z, e1, r2, by rw [hK]; exact q1, e2, w.here ok q3⟩)
      · cases e
    cases dx with
    | tup ds =>
      obtain ⟨a, vs, e1, q1, q2⟩ := tup_rep r1
      obtain ⟨z, e2, q3⟩ := atI_rep q2 (show atI ds i = some d from e)
      exact go (.inr (.inl ⟨a, vs, i, z, e1, r2, by rw [hK]; exact q1, e2, w.here ok q3⟩))
    | str x0 =>
      simp only [ixD] at e
      split at e
      · rename_i hz
        obtain ⟨c, e1, rfl⟩ := Option.map_eq_some_iff.mp e
        simp only [Rep] at r1
        exact go (.inr (.inr ⟨x0, i, c, r1, r2, hz, e1, w.here ok (by simp only [Rep])⟩))
      · cases e
    | lst _ => exact lists e
    | rol _ => exact lists e
    | loc _ => exact lists e
    | _ => simp [ixD, listOf] at e
  | _ => cases dx <;> simp [ixD] at e
end
/-- e[lo:hi] -/
def cutD (xs : List D) (lo hi : Option Int) : List D := (xs.drop (HT.sIx xs.length 0 lo)).take (HT.sIx xs.length xs.length hi - HT.sIx xs.length 0 lo)
def slD (S : Store) (a : D) (lo hi : Option Int) : Option D := match a with
  | .tup ds => some (.tup (cutD ds lo hi))
  | .str x => if x.length ≤ sizeLine then some (.str (cutS x lo hi)) else none
  | a => match listOf S a with
    | some ds => some (.lst (cutD ds lo hi))
    | none => none
def mPart (m : EM D) : EM (Option Int) := fun δ S => (m δ S).bind fun d S1 => match d with
  | .int i => .ok (some i) S1
  | _ => .stuck
def mNoPart : EM (Option Int) := fun _ S => .ok none S
def mSl (m : EM D) (lo hi : EM (Option Int)) : EM D := fun δ S => (m δ S).bind fun d S1 => (lo δ S1).bind fun l S2 => (hi δ S2).bind fun h S3 => out (slD S3 d l h) S3
def TOe (C : Cst) (π : Option (Addr × Obj)) (W : WX) (m : EM (Option Int)) : TO := fun σ H Q => TRe C π W (fun _ _ a b => a = b) m σ H Q
section
variable {X : Cx} {C : Cst} {π : Option (Addr × Obj)} {W : WX} {e : Expr} {m : EM D} {ml mh : EM (Option Int)} {lo hi : Option Expr} {pos p2 : Pos}
theorem po_mono {X : Cx} {e : Option Expr} {t t' : TO} (h : PO X e t) (k : ∀ σ H Q, t' σ H Q → t σ H Q) : PO X e t' := ⟨fun pins s σ H Q I hw => h.run pins s σ H Q I (k σ H Q hw)⟩
theorem o_none : PO X none (TOe C π W mNoPart) := po_mono po_none fun σ H Q ⟨p, S, δ, hp, ok, re, po⟩ => po p H none (Step.refl _ _) ok rfl
theorem o_some (he : PE X e (TEe C π W m)) : PO X (some e) (TOe C π W (mPart m)) := po_mono (po_some he) fun σ H Q ⟨p, S, δ, hp, ok, re, po⟩ => TRe.go hp ok re po fun d S1 p1 H1 v k1 ok1 hp1 re1 r1 po1 => by
  cases d with
  | int i => simp only [Rep] at r1; exact ⟨i, r1, po1 p1 H1 _ (Step.refl _ _) ok1 rfl⟩
  | _ => exact po1.elim
theorem RepL.cut {p : Pl} {H : Hp} {ds : List D} {vs : List V} {lo hi : Option Int} (r : RepL C p H ds vs) : RepL C p H (cutD ds lo hi) (cutV vs lo hi) := by
  unfold cutD cutV
  rw [r.length]
  exact (r.drop _).take _
theorem e_sl (hK : X.K = C.K) (he : PE X e (TEe C π W m)) (hl : PO X lo (TOe C π W ml)) (hh : PO X hi (TOe C π W mh)) : PE X (.Subscript e (.Slice lo hi none p2) pos) (TEe C π W (mSl m ml mh)) :=
  pe_mono (pe_slice (SlR.or (sl_tupA (X := X)) (SlR.or sl_list sl_str)) he hl hh) fun σ H Q ⟨p, S, δ, hp, ok, re, po⟩ => TRe.go hp ok re po fun d S1 p1 H1 v k1 ok1 hp1 re1 r1 po1 =>
    TRe.go hp1 ok1 re1 po1 fun l S2 p2 H2 l' k2 ok2 hp2 re2 r2 po2 => TRe.go hp2 ok2 re2 po2 fun h S3 p3 H3 h' k3 ok3 hp3 re3 r3 po3 => by
      subst r2; subst r3
      have r4 := (r1.keep k2).keep k3
      obtain ⟨d3, e3, w⟩ := po3.out
      have lists : (match listOf S3 d with
        | some ds => some (D.lst (cutD ds l h))
        | none => none) = some d3 → rSlL X.K v l h H3 Q := fun e3 => by
        split at e3
        · rename_i ds el
          cases e3
          obtain ⟨a, vs, rfl, q1, q2⟩ := listOf_rep ok3 r4 el
          exact ⟨a, vs, rfl, by rw [hK]; exact q1, fun q hq => Wants.lst w ok3 q2.cut hq⟩
        · cases e3
      cases d with
      | tup ds =>
        cases e3
        obtain ⟨a, vs, rfl, q1, q2⟩ := tup_rep r4
        have all : HT.sIx vs.length 0 l = 0 ∧ HT.sIx vs.length vs.length h = vs.length → cutD ds l h = ds := fun ⟨z1, z2⟩ => by
          unfold cutD
          rw [q2.length, z1, z2, ← q2.length]
          simp
        refine .inl ⟨a, vs, rfl, by rw [hK]; exact q1, fun z => w p3 H3 _ (Step.refl _ _) ok3 (by rw [all z]; exact r4), fun _ q hq => Wants.tup w ok3 q2.cut hq⟩
      | str x =>
        simp only [slD] at e3
        split at e3
        · rename_i hz
          cases e3
          simp only [Rep] at r4
          exact .inr (.inr ⟨x, r4, hz, w p3 H3 _ (Step.refl _ _) ok3 (by simp only [Rep])⟩)
        · cases e3
      | lst _ => exact .inr (.inl (lists e3))
      | rol _ => exact .inr (.inl (lists e3))
      | loc _ => exact .inr (.inl (lists e3))
      | _ => simp [slD, listOf] at e3
end

open PySem PySem.Spec PyProof.Rows L2

/-! ### products, minus -/
def repS (x : Str) (k : Nat) : Str := ⟨(List.replicate k x.cps).foldl (· ++ ·) #[]⟩
def mulV (S : Store) (a b : D) : Option D := match a, b with
  | .int i, .int j => if i.natAbs.log2 + j.natAbs.log2 < 1000000 then some (.int (i * j)) else none
  | .str x, .int k => if 2 ≤ k ∧ k ≤ 100000 ∧ 1 ≤ x.length ∧ x.length ≤ 100 ∧ (repS x k.toNat).length ≤ sizeLine then some (.str (repS x k.toNat)) else none
  | .tup xs, .int k => if xs ≠ [] ∧ 2 ≤ k ∧ k ≤ 1000 ∧ xs.length ≤ 1000 then some (.tup (List.replicate k.toNat xs).flatten) else none
  | a, .int k => match listW S a with
    | some xs => if -(2 ^ 63) ≤ k ∧ k < 2 ^ 63 ∧ xs.length * k.toNat ≤ sizeLine then some (.lst (List.replicate k.toNat xs).flatten) else none
    | none => none
  | _, _ => none
def negD (_ : Store) (a : D) : Option D := match a with
  | .int i => some (.int (-i))
  | _ => none
section
variable {X : Cx} {C : Cst}
theorem op_mul_str : OpR X (binaryOp .Mult) (fun x y H Q => ∃ (z : Str) (k : Int), x = .str z ∧ y = .int k ∧ 2 ≤ k ∧ k ≤ 100000 ∧ 1 ≤ z.length ∧ z.length ≤ 100 ∧ (repS z k.toNat).length ≤ sizeLine ∧ Q (.str (repS z k.toNat)) H) := by
  intro pins s σ H x y v u Q I rx ry h
  obtain ⟨z, k, rfl, rfl, h1, h2, h3, h4, h5, q⟩ := h
  obtain ⟨t, rfl⟩ := rx
  obtain ⟨t2, rfl⟩ := ry
  have b1 : (z.length == 0) = false := by
    rw [beq_eq_false_iff_ne]; omega
  have b2 : (k == 1) = false := by
    rw [beq_eq_false_iff_ne]; omega
  refine PySem.P.mul_str (by rw [decide_eq_false (by omega), decide_eq_false (by omega)]; rfl) (fun _ _ => ?_) (fun _ _ => ?_) ?_
  · have e : (2 ^ 63 - 1 : Int) / k ≥ 100 := by
      apply Int.le_ediv_of_mul_le (by omega)
      omega
    omega
  · unfold Builtin.Str.tooLong
    have : z.length * k.toNat ≤ 100 * 100000 := Nat.mul_le_mul h4 (by omega)
    rw [sizeLine_eq]
    simp; omega
  · rw [if_neg (by omega), b1, b2]
    exact ⟨h5, .str (repS z k.toNat), H, I.tok _, ⟨_, rfl⟩, q⟩
theorem mul_ok (hK : X.K = C.K) : OpR X (binaryOp .Mult) (rV2 C mulV) := by
  intro pins s σ H x y v u Q I rx ry h
  obtain ⟨p, S, dx, dy, d, ok, r1, r2, e, w⟩ := h
  cases dy with
  | int k =>
    simp only [Rep] at r2
    have lists : (match listW S dx with
      | some xs => if -(2 ^ 63) ≤ k ∧ k < 2 ^ 63 ∧ xs.length * k.toNat ≤ sizeLine then some (D.lst (List.replicate k.toNat xs).flatten) else none
      | none => none) = some d → wpAny (model X.prog X.w) X.A (binaryOp .Mult v u) (EP X pins σ Q) X.xe s := fun e => by
      split at e
      · rename_i xs el
        split at e
        · rename_i hz
          cases e
          obtain ⟨a, vs, e1, q1, q2⟩ := listW_rep ok r1 el
          exact op_rep pins s σ H x y v u Q I rx ry ⟨a, k, vs, e1, r2, q1, hz.1, hz.2.1, by rw [← q2.length]; exact hz.2.2, fun q hq => w.lst ok (q2.rep _) hq⟩
        · cases e
      · cases e
    cases dx with
    | int i =>
      simp only [mulV] at e
      split at e
      · rename_i hz
        cases e
        simp only [Rep] at r1
        exact op_mulW pins s σ H x y v u Q I rx ry ⟨i, k, r1, r2, hz, w.here ok (by simp only [Rep])⟩
      · cases e
    | str z =>
      simp only [mulV] at e
      split at e
      · rename_i hz
        cases e
        simp only [Rep] at r1
        exact op_mul_str pins s σ H x y v u Q I rx ry ⟨z, k, r1, r2, hz.1, hz.2.1, hz.2.2.1, hz.2.2.2.1, hz.2.2.2.2, w.here ok (by simp only [Rep])⟩
      · cases e
    | tup xs =>
      simp only [mulV] at e
      split at e
      · rename_i hz
        cases e
        obtain ⟨a, vs, e1, q1, q2⟩ := tup_rep r1
        refine op_repT pins s σ H x y v u Q I rx ry ⟨a, k, vs, e1, r2, by rw [hK]; exact q1, fun z => hz.1 ?_, hz.2.1, hz.2.2.1, by rw [← q2.length]; exact hz.2.2.2, fun q hq => w.tup ok (q2.rep _) hq⟩
        have l := q2.length
        rw [z] at l
        exact List.eq_nil_of_length_eq_zero l
      · cases e
    | lst _ => exact lists e
    | loc _ => exact lists e
    | _ => simp [mulV, listW] at e
  | _ => cases dx <;> simp [mulV] at e
theorem neg_ok : UnR X (unaryOp .USub) (rV1 C negD) := by
  intro pins s σ H x v Q I rx h
  obtain ⟨p, S, dx, d, ok, r1, e, w⟩ := h
  cases dx <;> first | (simp [negD] at e; done) | skip
  cases e
  simp only [Rep] at r1
  exact un_neg pins s σ H x v Q I rx ⟨_, r1, w.here ok (by simp only [Rep])⟩
end

theorem RepKV.length {C : Cst} {p : Pl} {H : Hp} : ∀ {ds : List (Key × D)} {vs : List (Key × V)}, RepKV C p H ds vs → ds.length = vs.length
  | [], vs, h => by simp only [RepKV] at h; rw [h]; rfl
  | (k, d) :: ds, vs, h => by
    simp only [RepKV] at h
    obtain ⟨v, r, rfl, _, h2⟩ := h
    simp [RepKV.length h2]
/-! ### built-in functions -/
def lenD (S : Store) : List D → Option D
  | [.str x] => if x.length ≤ sizeLine then some (.int x.length) else none
  | [.tup ds] => some (.int ds.length)
  | [.loc l] => match S[l]? with
    | some (.lst ds) => some (.int ds.length)
    | some (.dic kvs) => some (.int kvs.length)
    | none => none
  | [d] => match listOf S d with
    | some ds => some (.int ds.length)
    | none => none
  | _ => none
def absD (_ : Store) : List D → Option D
  | [.int i] => some (.int (if i < 0 then -i else i))
  | _ => none
def intD (_ : Store) : List D → Option D
  | [.int i] => some (.int i)
  | [.bl k] => some (.int (if k then 1 else 0))
  | [.str x] => if x.length ≤ 640 then (PySem.intText? x).map D.int else none
  | _ => none
def strD (_ : Store) : List D → Option D
  | [.int i] => if i.natAbs.log2 < 1920 then some (.str (toString i)) else none
  | [.str x] => some (.str x)
  | _ => none
def tupD (S : Store) : List D → Option D
  | [.tup ds] => some (.tup ds)
  | [d] => match listOf S d with
    | some ds => some (.tup ds)
    | none => none
  | _ => none
def lstD (S : Store) : List D → Option D
  | [.tup ds] => some (.lst ds)
  | [d] => match listOf S d with
    | some ds => some (.lst ds)
    | none => none
  | _ => none
def unI : List D → Option (List Int)
  | [] => some []
  | .int i :: ds => (unI ds).map (i :: ·)
  | _ => none
def unB : List D → Option (List Bool)
  | [] => some []
  | .bl i :: ds => (unB ds).map (i :: ·)
  | _ => none
def unS : List D → Option (List Str)
  | [] => some []
  | .str i :: ds => (unS ds).map (i :: ·)
  | _ => none
theorem unI_map : ∀ {ds : List D} {is : List Int}, unI ds = some is → ds = is.map D.int
  | [], _, h => by cases h; rfl
  | d :: ds, is, h => by
    cases d <;> first | (simp [unI] at h; done) | skip
    simp only [unI, Option.map_eq_some_iff] at h
    obtain ⟨js, h, rfl⟩ := h
    rw [unI_map h]; rfl
theorem unB_map : ∀ {ds : List D} {is : List Bool}, unB ds = some is → ds = is.map D.bl
  | [], _, h => by cases h; rfl
  | d :: ds, is, h => by
    cases d <;> first | (simp [unB] at h; done) | skip
    simp only [unB, Option.map_eq_some_iff] at h
    obtain ⟨js, h, rfl⟩ := h
    rw [unB_map h]; rfl
theorem unS_map : ∀ {ds : List D} {is : List Str}, unS ds = some is → ds = is.map D.str
  | [], _, h => by cases h; rfl
  | d :: ds, is, h => by
    cases d <;> first | (simp [unS] at h; done) | skip
    simp only [unS, Option.map_eq_some_iff] at h
    obtain ⟨js, h, rfl⟩ := h
    rw [unS_map h]; rfl
@[simp] theorem unI_int (is : List Int) : unI (is.map D.int) = some is := by
  induction is with
  | nil => rfl
  | cons i is ih => simp [unI, ih]
@[simp] theorem unB_bl (is : List Bool) : unB (is.map D.bl) = some is := by
  induction is with
  | nil => rfl
  | cons i is ih => simp [unB, ih]
@[simp] theorem unS_str (is : List Str) : unS (is.map D.str) = some is := by
  induction is with
  | nil => rfl
  | cons i is ih => simp [unS, ih]
/-- a function of one list -/
def onL {α : Type} (u : List D → Option α) (f : α → Option D) (S : Store) : List D → Option D
  | [d] => match listOf S d with
    | some ds => (u ds).bind f
    | none => none
  | _ => none
def sumD := onL unI fun is => some (.int is.sum)
def allD := onL unB fun bs => some (.bl (bs.all id))
def anyD := onL unB fun bs => some (.bl (bs.any id))
def minD (_ : Store) : List D → Option D
  | [.int i, .int j] => some (.int (if j < i then j else i))
  | _ => none
def maxD (_ : Store) : List D → Option D
  | [.int i, .int j] => some (.int (if j > i then j else i))
  | _ => none
section
variable {X : Cx} {C : Cst}
theorem rVs1 {g : Store → List D → Option D} {T : List V → Hp → VK → Prop} {f : Value} (hc : CallR X f T) (h : ∀ p S d v H Q e, Ok C p S H → Rep C p H d v → g S [d] = some e → Wants C p S H e Q → T [v] H Q) (hn : ∀ S ds, (∀ d, ds ≠ [d]) → g S ds = none) : CallR X f (rVs C g) := by
  intro pins s σ H xs us Q I r hh
  obtain ⟨p, S, ds, e, ok, rl, eg, w⟩ := hh
  match ds, rl, eg with
  | [], _, eg => rw [hn S [] (by simp)] at eg; cases eg
  | [d], rl, eg =>
    obtain ⟨v, rfl, rv⟩ := rl.one
    exact hc pins s σ H [v] us Q I r (h p S d v H Q e ok rv eg w)
  | d :: d2 :: ds, _, eg => rw [hn S _ (by simp)] at eg; cases eg
theorem len_ok (hK : X.K = C.K) : CallR X (.builtin "len") (rVs C lenD) := by
  intro pins s σ H xs us Q I r hh
  obtain ⟨p, S, ds, e, ok, rl, eg, w⟩ := hh
  match ds, rl, eg with
  | [], _, eg => simp [lenD] at eg
  | d :: d2 :: ds, _, eg => cases d <;> simp [lenD] at eg
  | [d], rl, eg =>
    obtain ⟨v, rfl, rv⟩ := rl.one
    have lists : (match listOf S d with
      | some ds => some (D.int ds.length)
      | none => none) = some e → wpAny (model X.prog X.w) X.A (call (.builtin "len") us) (EP X pins σ Q) X.xe s := fun e1 => by
      split at e1
      · rename_i ds el
        cases e1
        obtain ⟨a, vs, rfl, q1, q2⟩ := listOf_rep ok rv el
        exact call_len pins s σ H _ us Q I r ⟨_, vs.length, rfl, .inl ⟨vs, by rw [hK]; exact q1, rfl⟩, by rw [← q2.length]; exact w.here ok (by simp only [Rep])⟩
      · cases e1
    cases d with
    | str x =>
      simp only [lenD] at eg
      split at eg
      · rename_i hz
        cases eg
        simp only [Rep] at rv
        subst rv
        exact call_len pins s σ H _ us Q I r ⟨_, x.length, rfl, ⟨hz, rfl⟩, w.here ok (by simp only [Rep])⟩
      · cases eg
    | tup ds =>
      cases eg
      obtain ⟨a, vs, rfl, q1, q2⟩ := tup_rep rv
      exact call_len pins s σ H _ us Q I r ⟨_, vs.length, rfl, .inr ⟨vs, by rw [hK]; exact q1, rfl⟩, by rw [← q2.length]; exact w.here ok (by simp only [Rep])⟩
    | lst _ => exact lists eg
    | rol _ => exact lists eg
    | loc l =>
      simp only [lenD] at eg
      split at eg
      · rename_i ds hs
        exact lists (by simp only [listOf, hs]; exact eg)
      · rename_i kvs hs
        cases eg
        obtain ⟨a, rfl, _, vs, q1, q2⟩ := locAt ok rv hs
        have hl : kvs.length = vs.length := q2.length
        exact call_lenD pins s σ H _ us Q I r ⟨a, vs, rfl, q1, by rw [← hl]; exact w.here ok (by simp only [Rep])⟩
      · cases eg
    | _ => simp [lenD, listOf] at eg
theorem abs_ok : CallR X (.builtin "abs") (rVs C absD) := by
  intro pins s σ H xs us Q I r hh
  obtain ⟨p, S, ds, e, ok, rl, eg, w⟩ := hh
  unfold absD at eg
  split at eg
  · rename_i i
    cases eg
    obtain ⟨v, rfl, rv⟩ := rl.one
    simp only [Rep] at rv
    subst rv
    exact call_abs pins s σ H _ us Q I r ⟨i, rfl, w.here ok (by simp only [Rep])⟩
  · cases eg
theorem int_ok : CallR X (.type "int") (rVs C intD) := by
  intro pins s σ H xs us Q I r hh
  obtain ⟨p, S, ds, e, ok, rl, eg, w⟩ := hh
  unfold intD at eg
  split at eg
  · rename_i i
    cases eg
    obtain ⟨v, rfl, rv⟩ := rl.one
    simp only [Rep] at rv
    subst rv
    exact call_int1 pins s σ H _ us Q I r (.inl ⟨i, rfl, w.here ok (by simp only [Rep])⟩)
  · rename_i k
    cases eg
    obtain ⟨v, rfl, rv⟩ := rl.one
    simp only [Rep] at rv
    subst rv
    exact call_int1 pins s σ H _ us Q I r (.inr ⟨k, rfl, w.here ok (by simp only [Rep])⟩)
  · rename_i x
    split at eg
    · rename_i hz
      obtain ⟨n, e1, rfl⟩ := Option.map_eq_some_iff.mp eg
      obtain ⟨v, rfl, rv⟩ := rl.one
      simp only [Rep] at rv
      subst rv
      exact call_int_str pins s σ H _ us Q I r ⟨x, n, rfl, e1, hz, w.here ok (by simp only [Rep])⟩
    · cases eg
  · cases eg
theorem str_ok : CallR X (.type "str") (rVs C strD) := by
  intro pins s σ H xs us Q I r hh
  obtain ⟨p, S, ds, e, ok, rl, eg, w⟩ := hh
  unfold strD at eg
  split at eg
  · rename_i i
    split at eg
    · rename_i hz
      cases eg
      obtain ⟨v, rfl, rv⟩ := rl.one
      simp only [Rep] at rv
      subst rv
      exact call_str_int pins s σ H _ us Q I r ⟨i, rfl, hz, w.here ok (by simp only [Rep])⟩
    · cases eg
  · cases eg
    obtain ⟨v, rfl, rv⟩ := rl.one
    simp only [Rep] at rv
    subst rv
    exact SkE.call_str_str pins s σ H _ us Q I r ⟨_, rfl, w.here ok (by simp only [Rep])⟩
  · cases eg
theorem tuple_ok (hK : X.K = C.K) : CallR X (.type "tuple") (rVs C tupD) := by
  intro pins s σ H xs us Q I r hh
  obtain ⟨p, S, ds, e, ok, rl, eg, w⟩ := hh
  match ds, rl, eg with
  | [], _, eg => simp [tupD] at eg
  | d :: d2 :: ds, _, eg => cases d <;> simp [tupD] at eg
  | [d], rl, eg =>
    obtain ⟨v, rfl, rv⟩ := rl.one
    have lists : (match listOf S d with
      | some ds => some (D.tup ds)
      | none => none) = some e → wpAny (model X.prog X.w) X.A (call (.type "tuple") us) (EP X pins σ Q) X.xe s := fun e1 => by
      split at e1
      · rename_i ds el
        cases e1
        obtain ⟨a, vs, rfl, q1, q2⟩ := listOf_rep ok rv el
        exact call_tuple_of pins s σ H _ us Q I r ⟨a, vs, rfl, .inl ⟨by rw [hK]; exact q1, fun l hl => w.tup ok q2 hl⟩⟩
      · cases e1
    cases d with
    | tup ds =>
      cases eg
      have rv' := rv
      obtain ⟨a, vs, rfl, q1, q2⟩ := tup_rep rv
      exact call_tuple_of pins s σ H _ us Q I r ⟨a, vs, rfl, .inr ⟨by rw [hK]; exact q1, w.here ok rv'⟩⟩
    | lst _ => exact lists eg
    | rol _ => exact lists eg
    | loc _ => exact lists eg
    | _ => simp [tupD, listOf] at eg
theorem list_raw (hK : X.K = C.K) {p : Pl} {S : Store} {d e : D} {v : V} {H : Hp} {Q : VK} (ok : Ok C p S H) (rv : Rep C p H d v) (eg : lstD S [d] = some e) (k : ∀ ds vs l, e = .lst ds → RepL C p H ds vs → H l = none → Q (.ref l) (upd H l (.lst vs))) :
    ∃ q ys, v = .ref q ∧ (SqL X.K H q ys ∨ SqT X.K H q ys) ∧ ∀ l, H l = none → Q (.ref l) (upd H l (.lst ys)) := by
  have lists : (match listOf S d with
    | some ds => some (D.lst ds)
    | none => none) = some e → ∃ q ys, v = .ref q ∧ (SqL X.K H q ys ∨ SqT X.K H q ys) ∧ ∀ l, H l = none → Q (.ref l) (upd H l (.lst ys)) := fun e1 => by
    split at e1
    · rename_i ds el
      cases e1
      obtain ⟨a, vs, rfl, q1, q2⟩ := listOf_rep ok rv el
      exact ⟨a, vs, rfl, .inl (by rw [hK]; exact q1), fun l hl => k ds vs l rfl q2 hl⟩
    · cases e1
  cases d with
  | tup ds =>
    cases eg
    obtain ⟨a, vs, rfl, q1, q2⟩ := tup_rep rv
    exact ⟨a, vs, rfl, .inr (by rw [hK]; exact q1), fun l hl => k ds vs l rfl q2 hl⟩
  | lst _ => exact lists eg
  | rol _ => exact lists eg
  | loc _ => exact lists eg
  | _ => simp [lstD, listOf] at eg
theorem list_ok (hK : X.K = C.K) : CallR X (.type "list") (rVs C lstD) :=
  rVs1 call_list_of (fun p S d v H Q e ok rv eg w => by
    obtain ⟨q, ys, e1, e2, e3⟩ := list_raw (X := X) hK ok rv eg (Q := Q) fun ds vs l ee rl hl => by subst ee; exact w.lst ok rl hl
    exact ⟨q, ys, by rw [e1], e2, e3⟩) fun S ds hn => by
      match ds, hn with
      | [], _ => rfl
      | [d], hn => exact absurd rfl (hn d)
      | d :: d2 :: ds, _ => cases d <;> rfl
theorem onL_ok {α : Type} {u : List D → Option α} {f : α → Option D} {mk : α → List D} {F : Value} {T : List V → Hp → VK → Prop} (hc : CallR X F T) (hu : ∀ ds a, u ds = some a → ds = mk a)
    (h : ∀ p S a (vs : List V) q d H Q, Ok C p S H → RepL C p H (mk a) vs → SqL C.K H q vs → f a = some d → Wants C p S H d Q → T [.ref q] H Q) : CallR X F (rVs C (onL u f)) :=
  rVs1 hc (fun p S d v H Q e ok rv eg w => by
    simp only [onL] at eg
    split at eg
    · rename_i ds el
      obtain ⟨a, e1, e2⟩ := Option.bind_eq_some_iff.mp eg
      obtain ⟨q, vs, rfl, q1, q2⟩ := listOf_rep ok rv el
      rw [hu ds a e1] at q2
      exact h p S a vs q e H Q ok q2 q1 e2 w
    · cases eg) fun S ds hn => by
      match ds, hn with
      | [], _ => rfl
      | [d], hn => exact absurd rfl (hn d)
      | d :: d2 :: ds, _ => rfl
theorem sum_ok (hK : X.K = C.K) (hc : X.calm = true) : CallR X (.builtin "sum") (rVs C sumD) :=
  onL_ok (cr_sum hc) (fun _ _ => unI_map) fun p S a vs q d H Q ok rl sq e w => by
    cases e
    exact ⟨q, a, rfl, by rw [← rl.ints, hK]; exact sq, w.here ok (by simp only [Rep])⟩
theorem all_ok (hK : X.K = C.K) (hc : X.calm = true) : CallR X (.builtin "all") (rVs C allD) :=
  onL_ok (cr_all hc) (fun _ _ => unB_map) fun p S a vs q d H Q ok rl sq e w => by
    cases e
    exact ⟨q, a, rfl, by rw [← rl.bls, hK]; exact sq, w.here ok (by simp only [Rep])⟩
theorem any_ok (hK : X.K = C.K) (hc : X.calm = true) : CallR X (.builtin "any") (rVs C anyD) :=
  onL_ok (cr_any hc) (fun _ _ => unB_map) fun p S a vs q d H Q ok rl sq e w => by
    cases e
    exact ⟨q, a, rfl, by rw [← rl.bls, hK]; exact sq, w.here ok (by simp only [Rep])⟩
theorem min_ok (hc : X.calm = true) : CallR X (.builtin "min") (rVs C minD) := by
  intro pins s σ H xs us Q I r hh
  obtain ⟨p, S, ds, e, ok, rl, eg, w⟩ := hh
  unfold minD at eg
  split at eg
  · rename_i i j
    cases eg
    obtain ⟨v, v2, rfl, rv, rv2⟩ := rl.two
    simp only [Rep] at rv rv2
    subst rv; subst rv2
    exact call_min2 hc pins s σ H _ us Q I r ⟨i, j, rfl, w.here ok (by simp only [Rep])⟩
  · cases eg
theorem max_ok (hc : X.calm = true) : CallR X (.builtin "max") (rVs C maxD) := by
  intro pins s σ H xs us Q I r hh
  obtain ⟨p, S, ds, e, ok, rl, eg, w⟩ := hh
  unfold maxD at eg
  split at eg
  · rename_i i j
    cases eg
    obtain ⟨v, v2, rfl, rv, rv2⟩ := rl.two
    simp only [Rep] at rv rv2
    subst rv; subst rv2
    exact call_max2 hc pins s σ H _ us Q I r ⟨i, j, rfl, w.here ok (by simp only [Rep])⟩
  · cases eg
end

open PySem PySem.Spec PyProof.Rows L2

/-! ### methods -/
def rMt (C : Cst) (g : Store → D → List D → Option (D × Store)) : V → List V → Hp → VK → Prop := fun x xs H Q => ∃ p S d ds e S', Ok C p S H ∧ Rep C p H d x ∧ RepL C p H ds xs ∧ g S d ds = some (e, S') ∧ ∀ p' H' v, Step p H p' H' → Ok C p' S' H' → Rep C p' H' e v → Q v H'
def mtTy (T : String) (S : Store) : D → Bool
  | .str _ => decide (T = "str")
  | .lst _ => decide (T = "list")
  | .rol _ => decide (T = "list")
  | .loc l => match S[l]? with
    | some (.lst _) => decide (T = "list")
    | some (.dic _) => decide (T = "dict")
    | none => false
  | _ => false
def mMt (T : String) (g : Store → D → List D → Option (D × Store)) (mo : EM D) (ms : EM (List D)) : EM D := fun δ S => (mo δ S).bind fun d S1 => if mtTy T S1 d = true then (ms δ S1).bind fun ds S2 => (match g S2 d ds with
  | some (e, S3) => .ok e S3
  | none => .stuck) else .stuck
theorem mtTy_rep {C : Cst} {K : PySem.W.Frag} {p : Pl} {S : Store} {H : Hp} {T : String} {d : D} {v : V} (hK : K = C.K) (ok : Ok C p S H) (r : Rep C p H d v) (e : mtTy T S d = true) : tyV K T v H := by
  cases d <;> first | (simp [mtTy] at e; done) | skip
  · simp only [Rep] at r
    subst r
    have e' : T = "str" := of_decide_eq_true e
    exact e'
  · simp only [Rep] at r
    obtain ⟨a, vs, rfl, _, _, h, _⟩ := r
    exact .inl ⟨of_decide_eq_true e, vs, .of h⟩
  · simp only [Rep] at r
    obtain ⟨a, vs, rfl, h, _⟩ := r
    exact .inl ⟨of_decide_eq_true e, vs, by rw [hK]; exact h.sq⟩
  · simp only [mtTy] at e
    split at e
    · rename_i ds hs
      obtain ⟨a, rfl, _, vs, h, _⟩ := locAt ok r hs
      exact .inl ⟨of_decide_eq_true e, vs, .of h⟩
    · rename_i kvs hs
      obtain ⟨a, rfl, _, vs, h, _⟩ := locAt ok r hs
      exact .inr (.inr (.inl ⟨of_decide_eq_true e, .inl ⟨vs, h⟩⟩))
    · cases e
section
variable {X : Cx} {C : Cst} {π : Option (Addr × Obj)} {W : WX} {o e : Expr} {es : List Expr} {mo : EM D} {ms : EM (List D)} {name : Str} {apos cpos : Pos} {T id : String} {g : Store → D → List D → Option (D × Store)}
theorem e_bm (hK : X.K = C.K) (pa : PlainAttrs T) (slot : Slot T name id) (hty : typeOf (.builtin id) = pure (.type "method_descriptor")) (hm : MtR X id (rMt C g)) (ho : PE X o (TEe C π W mo)) (ha : PA X (e :: es) (TAe C π W ms))
    (hbase : attributeBase o name X.env (eval o X.env) = eval o X.env := by rfl)
    (hfew : ((backTo cpos (starEach (e :: es) X.env)).all (fun x => !x.1) && (backToKw cpos (keywordEach [] X.env)).all (fun x => x.1.isSome)
      && decide ((e :: es).length + ([] : List Keyword).length + (if ([] : List Keyword).isEmpty then 0 else 1) < 30)) = true := by rfl)
    (hline : (apos.endLine == cpos.line) = true := by rfl) (hs : starEach (e :: es) X.env = (false, eval e X.env) :: starEach es X.env := by rfl) (hplain : (backTo cpos (starEach es X.env)).any (·.1) = false := by rfl) :
    PE X (.Call (.Attribute o name apos) (e :: es) [] cpos) (TEe C π W (mMt T g mo ms)) :=
  pe_mono (pe_bm pa slot hty hm ho ha hbase hfew hline hs hplain) fun σ H Q ⟨p, S, δ, hp, ok, re, po⟩ => TRe.go hp ok re po fun d S1 p1 H1 v k1 ok1 hp1 re1 r1 po1 => by
    split at po1
    · rename_i ht
      refine ⟨mtTy_rep hK ok1 r1 ht, TRe.go hp1 ok1 re1 po1 fun ds S2 p2 H2 vs k2 ok2 hp2 re2 r2 po2 => ?_⟩
      split at po2
      · rename_i e S3 eg
        exact ⟨p2, S2, d, ds, e, S3, ok2, r1.keep k2, r2, eg, po2⟩
      · exact po2.elim
    · exact po1.elim
theorem e_bm0 (hK : X.K = C.K) (pa : PlainAttrs T) (slot : Slot T name id) (hty : typeOf (.builtin id) = pure (.type "method_descriptor")) (hm : MtR X id (rMt C g)) (ho : PE X o (TEe C π W mo))
    (hbase : attributeBase o name X.env (eval o X.env) = eval o X.env := by rfl) (hline : (apos.endLine == cpos.line) = true := by rfl) : PE X (.Call (.Attribute o name apos) [] [] cpos) (TEe C π W (mMt T g mo mNil)) :=
  pe_mono (pe_bm0 pa slot hty hm ho hbase hline) fun σ H Q ⟨p, S, δ, hp, ok, re, po⟩ => TRe.go hp ok re po fun d S1 p1 H1 v k1 ok1 hp1 re1 r1 po1 => by
    split at po1
    · rename_i ht
      refine ⟨mtTy_rep hK ok1 r1 ht, ?_⟩
      have po2 : Post C W p1 H1 σ (Rep C) Q (match g S1 d [] with
        | some (e, S3) => .ok e S3
        | none => .stuck) := po1
      split at po2
      · rename_i e S3 eg
        exact ⟨p1, S1, d, [], e, S3, ok1, r1, by simp only [RepL], eg, po2⟩
      · exact po2.elim
    · exact po1.elim
end
/-- the list at a place, and what is written there -/
def onLoc (f : List D → Option (D × List D)) (S : Store) : D → Option (D × Store)
  | .loc l => match S[l]? with
    | some (.lst xs) => (f xs).map fun q => (q.1, S.set l (.lst q.2))
    | _ => none
  | _ => none
def appendD (S : Store) (d : D) : List D → Option (D × Store)
  | [e] => onLoc (fun xs => if xs.length < sizeLine then some (.non, xs ++ [e]) else none) S d
  | _ => none
def popD (S : Store) (d : D) : List D → Option (D × Store)
  | [] => onLoc (fun xs => xs[xs.length - 1]?.map fun y => (y, xs.dropLast)) S d
  | _ => none
def popAtD (S : Store) (d : D) : List D → Option (D × Store)
  | [.int i] => onLoc (fun xs => if 0 ≤ i ∧ i < 2 ^ 63 then xs[i.toNat]?.map fun y => (y, xs.eraseIdx i.toNat) else none) S d
  | _ => none
/-- the first that is equal -/
def firstIx (y : D) : List D → Option Nat
  | [] => none
  | x :: xs => if eqq x y = true then some 0 else (firstIx y xs).map (· + 1)
def indexD (S : Store) (d : D) : List D → Option (D × Store)
  | [y] => match listOf S d with
    | some xs => if flatD y = true ∧ xs.all flatD = true then (firstIx y xs).map fun j : Nat => (D.int (j : Int), S) else none
    | none => none
  | _ => none
def countD (S : Store) (d : D) : List D → Option (D × Store)
  | [y] => match listOf S d with
    | some xs => if flatD y = true ∧ xs.all flatD = true then some (.int (xs.countP fun x => eqq x y : Nat), S) else none
    | none => none
  | _ => none
/-- the items of a tuple, of a list -/
def seqOf (S : Store) : D → Option (List D)
  | .tup ds => some ds
  | d => listOf S d
def joinD (S : Store) (d : D) : List D → Option (D × Store)
  | [y] => match d with
    | .str a => match (seqOf S y).bind unS with
      | some ys => if (ys.map (·.length)).sum + ys.length * a.length ≤ 16777216 then some (.str (Txt.join a ys), S) else none
      | none => none
    | _ => none
  | _ => none
def sindexD (S : Store) (d : D) : List D → Option (D × Store)
  | [.str b] => match d with
    | .str a => match Builtin.Str.occurrences a b 0 a.length 1 with
      | i :: _ => some (.int (i : Nat), S)
      | [] => none
    | _ => none
  | _ => none
section
variable {X : Cx} {C : Cst}
theorem onLoc_rep {f : List D → Option (D × List D)} {p : Pl} {S S' : Store} {H : Hp} {d e : D} {v : V} (ok : Ok C p S H) (r : Rep C p H d v) (h : onLoc f S d = some (e, S')) :
    ∃ l a xs vs ys, d = .loc l ∧ v = .ref a ∧ p.ρ[l]? = some a ∧ H a = some (.lst vs) ∧ RepL C p H xs vs ∧ f xs = some (e, ys) ∧ S' = S.set l (.lst ys) := by
  cases d <;> first | (simp [onLoc] at h; done) | skip
  rename_i l
  simp only [onLoc] at h
  split at h
  · rename_i xs hs
    obtain ⟨⟨e1, ys⟩, hf, hq⟩ := Option.map_eq_some_iff.mp h
    cases hq
    obtain ⟨a, vs, rfl, h1, h2, h3⟩ := loc_lst ok r hs
    exact ⟨l, a, xs, vs, ys, rfl, rfl, h1, h2, h3, hf, rfl⟩
  · cases h
theorem RepL.dropLast {p : Pl} {H : Hp} {xs : List D} {vs : List V} (r : RepL C p H xs vs) : RepL C p H xs.dropLast vs.dropLast := by
  rw [List.dropLast_eq_take, List.dropLast_eq_take, r.length]
  exact r.take _
theorem RepL.erase {p : Pl} {H : Hp} {xs : List D} {vs : List V} (r : RepL C p H xs vs) (k : Nat) : RepL C p H (xs.eraseIdx k) (vs.eraseIdx k) := by
  rw [List.eraseIdx_eq_take_drop_succ, List.eraseIdx_eq_take_drop_succ]
  exact (r.take _).append (r.drop _)
theorem append_ok : MtR X "list.append" (rMt C appendD) := by
  intro pins s σ H x xs v us Q I rx rxs h
  obtain ⟨p, S, d, ds, e, S', ok, r, rl, eg, w⟩ := h
  match ds, rl, eg with
  | [], _, eg => simp [appendD] at eg
  | _ :: _ :: _, _, eg => simp [appendD] at eg
  | [y], rl, eg =>
    obtain ⟨vy, rfl, ry⟩ := rl.one
    obtain ⟨l, a, xs, vs, ys, rfl, rfl, h1, h2, h3, h4, rfl⟩ := onLoc_rep ok r eg
    split at h4
    · rename_i hz
      cases h4
      have rr : RepL C p H (xs ++ [y]) (vs ++ [vy]) := h3.append (by simp only [RepL]; exact ⟨vy, [], rfl, ry, rfl⟩)
      obtain ⟨st, ok2⟩ := loc_put ok h1 rr
      exact mt_append pins s σ H _ _ v us Q I rx rxs ⟨a, vs, vy, rfl, rfl, h2, by rw [← h3.length]; exact hz, w p _ _ st ok2 (by simp only [Rep])⟩
    · cases h4
theorem pop_ok : MtR X "list.pop" (rMt C popD) := by
  intro pins s σ H x xs v us Q I rx rxs h
  obtain ⟨p, S, d, ds, e, S', ok, r, rl, eg, w⟩ := h
  match ds, rl, eg with
  | _ :: _, _, eg => simp [popD] at eg
  | [], rl, eg =>
    simp only [RepL] at rl
    subst rl
    obtain ⟨l, a, xs, vs, ys, rfl, rfl, h1, h2, h3, h4, rfl⟩ := onLoc_rep ok r eg
    obtain ⟨y, e1, e2⟩ := Option.map_eq_some_iff.mp h4
    cases e2
    obtain ⟨vy, e3, ry⟩ := h3.get e1
    obtain ⟨st, ok2⟩ := loc_put ok h1 h3.dropLast
    exact mt_pop pins s σ H _ _ v us Q I rx rxs ⟨a, vs, vy, rfl, rfl, h2, by rw [← h3.length]; exact e3, w p _ _ st ok2 (ry.keep (st.keep ok))⟩
theorem popAt_ok : MtR X "list.pop" (rMt C popAtD) := by
  intro pins s σ H x xs v us Q I rx rxs h
  obtain ⟨p, S, d, ds, e, S', ok, r, rl, eg, w⟩ := h
  unfold popAtD at eg
  split at eg
  · rename_i i
    obtain ⟨vi, rfl, ri⟩ := rl.one
    simp only [Rep] at ri
    subst ri
    obtain ⟨l, a, xs, vs, ys, rfl, rfl, h1, h2, h3, h4, rfl⟩ := onLoc_rep ok r eg
    split at h4
    · rename_i hz
      obtain ⟨y, e1, e2⟩ := Option.map_eq_some_iff.mp h4
      cases e2
      obtain ⟨vy, e3, ry⟩ := h3.get e1
      obtain ⟨st, ok2⟩ := loc_put ok h1 (h3.erase i.toNat)
      have hl : i.toNat < vs.length := (List.getElem?_eq_some_iff.mp e3).1
      exact mt_popAt pins s σ H _ _ v us Q I rx rxs ⟨a, vs, i, i.toNat, vy, rfl, rfl, h2, by omega, hz.2, seqIndex_of hz.1 (by omega), e3, w p _ _ st ok2 (ry.keep (st.keep ok))⟩
    · cases h4
  · cases eg
theorem firstIx_at : ∀ {y : D} {xs : List D} {j : Nat}, firstIx y xs = some j → (∃ x, xs[j]? = some x ∧ eqq x y = true) ∧ ∀ m x, m < j → xs[m]? = some x → eqq x y = false
  | y, [], j, h => by simp [firstIx] at h
  | y, x :: xs, j, h => by
    simp only [firstIx] at h
    split at h
    · rename_i e
      cases h
      exact ⟨⟨x, rfl, e⟩, fun m x' hm => absurd hm (by omega)⟩
    · rename_i e
      obtain ⟨k, h', rfl⟩ := Option.map_eq_some_iff.mp h
      obtain ⟨⟨x', e1, e2⟩, e3⟩ := firstIx_at h'
      refine ⟨⟨x', by simpa using e1, e2⟩, fun m z hm hz => ?_⟩
      cases m with
      | zero =>
        simp at hz
        subst hz
        simpa using e
      | succ m => exact e3 m z (by omega) (by simpa using hz)
theorem index_ok (hK : X.K = C.K) : MtR X "list.index" (rMt C indexD) := by
  intro pins s σ H x xs v us Q I rx rxs h
  obtain ⟨p, S, d, ds, e, S', ok, r, rl, eg, w⟩ := h
  match ds, rl, eg with
  | [], _, eg => simp [indexD] at eg
  | _ :: _ :: _, _, eg => simp [indexD] at eg
  | [y], rl, eg =>
    obtain ⟨vy, rfl, ry⟩ := rl.one
    simp only [indexD] at eg
    split at eg
    · rename_i xs el
      split at eg
      · rename_i hf
        obtain ⟨j, e1, e2⟩ := Option.map_eq_some_iff.mp eg
        cases e2
        obtain ⟨a, vs, rfl, q1, q2⟩ := listOf_rep ok r el
        obtain ⟨ev, fv⟩ := flat_repL hf.2 q2
        obtain ⟨ey, fy⟩ := flat_rep hf.1 ry
        obtain ⟨⟨z, z1, z2⟩, z3⟩ := firstIx_at e1
        have fall : ∀ z ∈ xs, flatD z = true := fun z hz => List.all_eq_true.mp hf.2 z hz
        subst ev; subst ey
        refine mt_index pins s σ H _ _ v us Q I rx rxs ⟨a, _, _, j, flV z, rfl, rfl, by rw [hK]; exact q1, fy, fv, by rw [List.getElem?_map, z1]; rfl, ?_, fun m z' hm hz => ?_, w p H _ (Step.refl _ _) ok (by simp only [Rep])⟩
        · rw [flat_eq (fall z (List.mem_of_getElem? z1)) hf.1]; exact z2
        · rw [List.getElem?_map] at hz
          obtain ⟨q, hq, rfl⟩ := Option.map_eq_some_iff.mp hz
          rw [flat_eq (fall q (List.mem_of_getElem? hq)) hf.1]
          exact z3 m q hm hq
      · cases eg
    · cases eg
theorem count_vals {y : V} (fy : flatV y = true) : ∀ {vs : List V} {us : List Value}, Vals vs us → vs.all flatV = true → us.countP (eqU y) = vs.countP fun x => eqV x y
  | _, _, .nil, _ => rfl
  | v :: vs, u :: us, .cons r t, h => by
    rw [List.all_cons, Bool.and_eq_true] at h
    rw [List.countP_cons, List.countP_cons, count_vals fy t h.2, eqU_of r h.1]
theorem flat_count {a : D} (ha : flatD a = true) : ∀ {ds : List D}, ds.all flatD = true → (ds.map flV).countP (fun y => eqV y (flV a)) = ds.countP fun y => eqq y a
  | [], _ => rfl
  | d :: ds, h => by
    rw [List.all_cons, Bool.and_eq_true] at h
    rw [List.map_cons, List.countP_cons, List.countP_cons, flat_eq h.1 ha, flat_count ha h.2]
theorem count_ok (hK : X.K = C.K) : MtR X "list.count" (rMt C countD) := by
  intro pins s σ H x xs v us Q I rx rxs h
  obtain ⟨p, S, d, ds, e, S', ok, r, rl, eg, w⟩ := h
  match ds, rl, eg with
  | [], _, eg => simp [countD] at eg
  | _ :: _ :: _, _, eg => simp [countD] at eg
  | [y], rl, eg =>
    obtain ⟨vy, rfl, ry⟩ := rl.one
    simp only [countD] at eg
    split at eg
    · rename_i xs el
      split at eg
      · rename_i hf
        cases eg
        obtain ⟨a, vs, rfl, q1, q2⟩ := listOf_rep ok r el
        obtain ⟨ev, fv⟩ := flat_repL hf.2 q2
        obtain ⟨ey, fy⟩ := flat_rep hf.1 ry
        cases rx
        obtain ⟨u, rfl, ru⟩ := rxs.one
        obtain ⟨its, rv, ⟨⟨cls, dd, data, sl⟩, n, ho, hc, hdn, hd⟩, hlen⟩ := I.list (show SqL X.K H a vs by rw [hK]; exact q1)
        simp only at hc hd
        subst hc hd
        have ce : its.toArray.toList.countP (eqU vy) = xs.countP fun x => eqq x y := by
          have h1 : its.countP (eqU vy) = vs.countP fun x => eqV x vy := count_vals fy rv fv
          have h2 := flat_count hf.1 hf.2
          rw [← ev, ← ey] at h2
          exact h1.trans h2
        refine call_meets PySem.F.slot_list_count ⟨_, ho, rfl⟩ PySem.F.entry_list_count (PySem.F.args_list_count_2 _ _) (SeqAt.list_countAt a its.toArray n dd sl u (eqU vy)) ⟨ho, fun z hz => mem_eqAt ru fy rv fv z (by simpa using hz), ?_⟩
        rw [ce]
        exact ⟨.int (xs.countP fun x => eqq x y : Nat), H, I.tok _, ⟨s.toks, rfl⟩, w p H _ (Step.refl _ _) ok (by simp only [Rep])⟩
      · cases eg
    · cases eg
theorem seqOf_rep {p : Pl} {S : Store} {H : Hp} {d : D} {ds : List D} {v : V} (ok : Ok C p S H) (r : Rep C p H d v) (e : seqOf S d = some ds) : ∃ q vs, v = .ref q ∧ (SqL C.K H q vs ∨ SqT C.K H q vs) ∧ RepL C p H ds vs := by
  have lists : listOf S d = some ds → ∃ q vs, v = .ref q ∧ (SqL C.K H q vs ∨ SqT C.K H q vs) ∧ RepL C p H ds vs := fun el => by
    obtain ⟨q, vs, e1, q1, q2⟩ := listOf_rep ok r el
    exact ⟨q, vs, e1, .inl q1, q2⟩
  cases d with
  | tup ds' =>
    cases e
    obtain ⟨q, vs, e1, q1, q2⟩ := tup_rep r
    exact ⟨q, vs, e1, .inr q1, q2⟩
  | _ => exact lists e
theorem join_ok (hK : X.K = C.K) : MtR X "str.join" (rMt C joinD) := by
  intro pins s σ H x xs v us Q I rx rxs h
  obtain ⟨p, S, d, ds, e, S', ok, r, rl, eg, w⟩ := h
  match ds, rl, eg with
  | [], _, eg => simp [joinD] at eg
  | _ :: _ :: _, _, eg => simp [joinD] at eg
  | [y], rl, eg =>
    obtain ⟨vy, rfl, ry⟩ := rl.one
    cases d <;> first | (simp [joinD] at eg; done) | skip
    simp only [joinD] at eg
    split at eg
    · rename_i ys hy
      split at eg
      · rename_i hz
        cases eg
        obtain ⟨ds, h1, h2⟩ := Option.bind_eq_some_iff.mp hy
        obtain ⟨q, vs, e1, e2, q2⟩ := seqOf_rep ok ry h1
        rw [unS_map h2] at q2
        have ev := q2.strs
        subst ev
        simp only [Rep] at r
        subst r
        exact mt_join pins s σ H _ _ v us Q I rx rxs ⟨_, q, ys, rfl, by rw [e1], by rw [hK]; exact e2, hz, w p H _ (Step.refl _ _) ok (by simp only [Rep])⟩
      · cases eg
    · cases eg
theorem sindex_ok : MtR X "str.index" (rMt C sindexD) := by
  intro pins s σ H x xs v us Q I rx rxs h
  obtain ⟨p, S, d, ds, e, S', ok, r, rl, eg, w⟩ := h
  unfold sindexD at eg
  split at eg
  · rename_i b
    split at eg
    · rename_i a
      split at eg
      · rename_i i rest ho
        cases eg
        obtain ⟨vb, rfl, rb⟩ := rl.one
        simp only [Rep] at r rb
        subst r; subst rb
        exact mt_sindex pins s σ H _ _ v us Q I rx rxs ⟨a, b, i, rest, rfl, rfl, ho, w p H _ (Step.refl _ _) ok (by simp only [Rep])⟩
      · cases eg
    · cases eg
  · cases eg
end

namespace EvLow
open PySem PySem.Spec PyProof.Rows
open PySem.AutoSeq1 (wpAny_loadPart')
theorem draws_tuple {prog : Program} {w : World} {A : Around} (hh : A.handled = none) (it l : Addr) (hne : l ≠ it) (items : Array Value) :
    Draws prog w A it [it, l] items.size (fun i v => items[i]? = some v) (fun i h => h.IsTupleIter it l i ∧ h.IsTuple l items) where
  live := fun _ _ st => let ⟨o, ho, _⟩ := st.1; ⟨o, ho⟩
  frame := fun _ _ _ st hk => by
    obtain ⟨⟨o, ho, q⟩, ⟨o2, ho2, q2⟩⟩ := st
    exact ⟨⟨o, hk it (by simp) o ho, q⟩, ⟨o2, hk l (by simp) o2 ho2, q2⟩⟩
  item := fun i s Q E hi st hQ => by
    refine RZ.nextOf_tuple_item st.1 st.2 (x := items[i]) (by simp [hi]) fun h' hit' hs' => hQ _ h' s.toks (by simp [hi]) ⟨hit', ?_⟩ hs'
    obtain ⟨o, ho, q⟩ := st.2
    exact ⟨o, hs'.extBut l o hne ho, q⟩
  done := fun s Q E st hE => RZ.nextOf_tuple_end hh st.1 st.2 (by simp) hE
theorem meets_enum_tuple (l : Addr) (items : Array Value) (n : Nat) (dct : Option Addr) (sl : Array (Option Value)) :
    Meets (Builtin.«enumerate.__new__» ⟨[.type "enumerate", .ref l], []⟩) (fun _ R s => s.heap.get? l = some { cls := .type "tuple", dict := dct, data := .seq items n, slots := sl } ∧
      R (.ok (.ret (.ref (s.heap.push { cls := .type "tuple_iterator", data := .fields #[.ref l, .int 0 0] }).objs.size)))
        { s with heap := (s.heap.push { cls := .type "tuple_iterator", data := .fields #[.ref l, .int 0 0] }).push { cls := .type "enumerate", data := .fields #[.none, .bool false, .ref s.heap.objs.size, rawInt 0, .none, .none] } }) :=
  .of_wp fun prog w A R s h => by
    obtain ⟨hp, g, d, tk, os⟩ := s
    obtain ⟨hl, h⟩ := h
    have hsub := sub_enumerate
    have hT : Heap.IsTuple (Shared.heap ⟨hp, g, d, tk, os⟩) l items := ⟨_, hl, rfl, n, rfl⟩
    wp_walk using wpAny_loadPart' hl
    refine wpAny_stack_any fun st => wpAny_pure ?_
    split
    · rename_i c _ _ _ _ _
      cases (c == Value.type "enumerate") <;> (wp_walk using wpAny_loadPart' hl, wpAny_pyIter_tuple hT; exact ⟨_, rfl, h⟩)
    · wp_walk using wpAny_loadPart' hl, wpAny_pyIter_tuple hT
      exact ⟨_, rfl, h⟩
section
variable {prog : Program} {w : World} {A : Around} {E : Value → Shared → Prop} {s : Shared}
theorem call_enum_tuple {l : Addr} {items : Array Value} {Q : Value → Shared → Prop} (hT : s.heap.IsTuple l items)
    (h : ∀ h', IsEnum h' (s.heap.objs.size + 1) s.heap.objs.size 0 .none → h'.IsTupleIter s.heap.objs.size l 0 → (∀ b o, s.heap.get? b = some o → h'.get? b = some o) → Q (.ref (s.heap.objs.size + 1)) { s with heap := h' }) :
    wpAny (model prog w) A (call (.type "enumerate") [.ref l]) Q E s := by
  obtain ⟨⟨c, dct, dt, sl⟩, hl, hc, n, hd⟩ := hT
  simp only at hc hd
  subst hc hd
  refine callType_new F.called_enumerate (by decide) (F.typeCall_enumerate_1 _) (F.newCall_enumerate_1 _) (fun obj => F.args_object_init_2 obj _) F.entry_enumerate_new (meets_enum_tuple l items n dct sl) ⟨hl, ?_⟩
  have hz : (s.heap.push { cls := .type "tuple_iterator", data := .fields #[.ref l, .int 0 0] }).objs.size = s.heap.objs.size + 1 := Heap.size_push ..
  show _ ∧ _
  rw [hz]
  have he : IsEnum ((s.heap.push { cls := .type "tuple_iterator", data := .fields #[.ref l, .int 0 0] }).push { cls := .type "enumerate", data := .fields #[.none, .bool false, .ref s.heap.objs.size, rawInt 0, .none, .none] }) (s.heap.objs.size + 1) s.heap.objs.size 0 .none := by
    have q := Heap.get?_push_size (s.heap.push { cls := .type "tuple_iterator", data := .fields #[.ref l, .int 0 0] }) (o := { cls := .type "enumerate", data := .fields #[.none, .bool false, .ref s.heap.objs.size, rawInt 0, .none, .none] }) rfl
    rw [hz] at q
    exact q
  exact ⟨⟨_, he, rfl⟩, h _ he ⟨_, Heap.get?_push_of_some _ (Heap.get?_push_size _ rfl), rfl, rfl⟩ fun b o x => Heap.get?_push_of_some _ (Heap.get?_push_of_some _ x)⟩
end
end EvLow

open PySem PySem.Spec PyProof.Rows L2

theorem enum_item {X : Cx} {pins : List (Addr × Obj)} {σ : L2.St} {H : Hp} {s : Shared} {E : Value → Shared → Prop} {e it : Addr} {fpd : List Addr} {n i : Nat} {P : Nat → Value → Prop} {St : Nat → Heap → Prop} {old : Value} {Y : V → Prop} {elts : List Expr} {kk : Nat} {tpos : Pos}
    (D : Draws X.prog X.w X.A.in1 it fpd n P St) (I : Inv X pins σ H s) (hf : ∀ b ∈ [e, it], FpOk X pins H b) (he : IsEnum s.heap e it ((i : Nat) : Int) old) (hst : St i s.heap) (hlt : i < n) (hne : e ≠ it) (hef : e ∉ fpd) (hP : ∀ v, P i v → ∃ y, RelV y v ∧ Y y) :
    wpAny (model X.prog X.w) X.A (pyNext (.ref e)) (fun r s1 => ∃ u, r = some u ∧ wpAny (model X.prog X.w) X.A (letOwnedTupleGo (.Tuple elts kk tpos) (.ref e) u) (fun _ s2 => ∃ x H', Inv X pins σ H' s2 ∧ RelV x u ∧
      (∃ T y, x = .ref T ∧ H T = none ∧ H' = upd H T (.tup [.int (i : Nat), y]) ∧ Y y) ∧ (∃ old, IsEnum s2.heap e it ((i + 1 : Nat) : Int) old) ∧ St (i + 1) s2.heap ∧ ∀ b ∈ [e, it], H' b = none) E s1) E s := by
  have hel : e < s.heap.objs.size := Heap.lt_size he
  have hil : it < s.heap.objs.size := by obtain ⟨_, q⟩ := D.live _ _ hst; exact Heap.lt_size q
  refine wpAny_pyNext_enum_itemD D he hst hlt hne hef fun x h' tk hPx ho hst' hT hsz hk => ?_
  obtain ⟨y, ry, hY⟩ := hP x hPx
  refine ⟨_, rfl, wpAny_letOwnedTupleGo_enum (s := { s with heap := h', toks := tk + 1 }) ho fun h2 he2 sb => ?_⟩
  have hT2 : h2.get? s.heap.objs.size = some { cls := .type "tuple", data := .seq #[.int i tk, x] } := (sb.2 _ (Nat.ne_of_gt hel)).trans hT
  have new : ObjOk X.prog X.w (upd H s.heap.objs.size (.tup [.int (i : Nat), y])) h2 s.heap.objs.size (.tup [.int (i : Nat), y]) :=
    ⟨by show 2 ≤ sizeLine; decide, [.int i tk, x], .cons ⟨_, rfl⟩ (.cons ry .nil), ⟨_, hT2, rfl, _, rfl⟩⟩
  have I1 : Inv X pins σ (upd H s.heap.objs.size (.tup [.int (i : Nat), y])) { s with heap := h2, toks := tk + 1 } :=
    I.turnedNew (ch := [e, it]) (fun b ob hb q => (sb.2 b (fun z => hb (by simp [z]))).trans (hk b ob (fun z => hb (by simp [z])) (fun z => hb (by simp [z])) q)) hf (Nat.le_refl _) new
  refine ⟨.ref s.heap.objs.size, _, I1, rfl, ⟨_, y, rfl, I.hok.fresh (Nat.le_refl _), rfl, hY⟩, ⟨x, ?_⟩, D.frame _ _ _ hst' fun b hb o q => (sb.2 b fun z => hef (z ▸ hb)).trans q, fun b hb => ?_⟩
  · have e1 : ((i + 1 : Nat) : Int) = (i : Int) + 1 := by omega
    rw [e1]; exact he2
  · have hb' : b < s.heap.objs.size := by
      have e' : b = e ∨ b = it := by simpa using hb
      rcases e' with z | z
      · rw [z]; exact hel
      · rw [z]; exact hil
    rw [upd_ne (Nat.ne_of_lt hb')]
    exact (hf b hb).1
theorem enum_done {X : Cx} {pins : List (Addr × Obj)} {σ : L2.St} {H : Hp} {s : Shared} {E : Value → Shared → Prop} {e it : Addr} {fpd : List Addr} {n : Nat} {i : Int} {P : Nat → Value → Prop} {St : Nat → Heap → Prop} {old : Value}
    (D : Draws X.prog X.w X.A.in1 it fpd n P St) (I : Inv X pins σ H s) (hf : ∀ b ∈ [e, it], FpOk X pins H b) (he : IsEnum s.heap e it i old) (hst : St n s.heap) :
    wpAny (model X.prog X.w) X.A (pyNext (.ref e)) (fun r s1 => r = none ∧ Inv X pins σ H s1) E s := by
  obtain ⟨f0, f1, f2, f3, f4, f5⟩ := hf it (by simp)
  exact wpAny_pyNext_enum_endD D he hst fun h' eb => ⟨rfl, I.turned (t' := s.toks) (fun b o hb q => eb b o hb q) f0 f1 f3 f4 f5⟩
/-- enumerate of a tuple -/
def IteT (K : PySem.W.Frag) (a : Addr) : It :=
  ⟨fun i H => ∃ (xs : List V) (x : V), SqT K H a xs ∧ xs[i]? = some x, fun i H v H' => ∃ T y, v = .ref T ∧ H T = none ∧ H' = upd H T (.tup [.int (i : Nat), y]) ∧ ∀ xs, SqT K H a xs → xs[i]? = some y, fun i H => ∃ xs : List V, SqT K H a xs ∧ xs.length = i⟩
theorem turn_enumT {P : Program} {w : World} {K : PySem.W.Frag} {elts : List Expr} {kk : Nat} {tpos : Pos} (a e it : Addr) :
    Turn P w K (.Tuple elts kk tpos) (IteT K a) [e, it] e (fun i h => (∃ old, IsEnum h e it ((i : Nat) : Int) old) ∧ h.IsTupleIter it a i ∧ e ≠ it ∧ a ≠ it ∧ a ≠ e) where
  mem := by simp
  obj := fun i h st b hb => by
    obtain ⟨⟨old, he⟩, ⟨o, ho, hc, hd⟩, _⟩ := st
    have e' : b = e ∨ b = it := by simpa using hb
    rcases e' with z | z
    · rw [z]; exact ⟨_, he, fun v q => nomatch q⟩
    · rw [z]; exact ⟨o, ho, fun v q => by rw [hd] at q; cases q⟩
  keep := fun i h h' st k => let ⟨⟨old, he⟩, ⟨o, ho, q⟩, hne⟩ := st; ⟨⟨old, k e (by simp) _ he⟩, ⟨o, k it (by simp) o ho, q⟩, hne⟩
  item := by
    intro X hP hw hK hc i pins s σ H E I hf st hg
    subst hP hw hK
    obtain ⟨⟨old, he⟩, hit, hne, n1, n2⟩ := st
    obtain ⟨xs, x, hq, hx⟩ := hg
    obtain ⟨its, rv, p, hz⟩ := I.tuple hq
    have hT : s.heap.IsTuple a its.toArray := p
    have hlt : i < its.toArray.size := by
      have h1 := (List.getElem?_eq_some_iff.mp hx).1
      have h2 := rv.length
      simp; omega
    refine wpAny_mono (enum_item (Y := fun y => ∀ ys, SqT X.K H a ys → ys[i]? = some y) (EvLow.draws_tuple (A := X.A.in1) (I.ok.hd hc) it a n1 its.toArray) I hf he ⟨hit, hT⟩ hlt hne (by simp [hne, Ne.symm n2]) fun v hv => ?_) (fun r s1 ⟨u, hr, h1⟩ => ⟨u, hr, wpAny_mono h1 (fun _ s2 ⟨x2, H2, I2, r2, y2, e2, t2, f2⟩ => ⟨x2, H2, I2, r2, y2, ⟨e2, t2.1, hne, n1, n2⟩, f2⟩) fun _ _ z => z⟩) fun _ _ z => z
    obtain ⟨u, hu, ru⟩ := rv.get hx
    have e3 : u = v := by
      have h3 : its.toArray[i]? = some u := by simpa using hu
      rw [h3] at hv; cases hv; rfl
    subst e3
    exact ⟨x, ru, fun ys hy => by rw [I.tuple_inj hy hq]; exact hx⟩
  done := by
    intro X hP hw hK hc i pins s σ H E I hf st hg
    subst hP hw hK
    obtain ⟨⟨old, he⟩, hit, hne, n1, n2⟩ := st
    obtain ⟨xs, hq, hx⟩ := hg
    obtain ⟨its, rv, p, hz⟩ := I.tuple hq
    have hT : s.heap.IsTuple a its.toArray := p
    have hl : its.toArray.size = i := by
      have h2 := rv.length
      simp; omega
    exact enum_done (EvLow.draws_tuple (A := X.A.in1) (I.ok.hd hc) it a n1 its.toArray) I hf he (by rw [hl]; exact ⟨hit, hT⟩)
  self := fun A i s Q E st h => let ⟨⟨_, he⟩, _⟩ := st; wpAny_pyIter_enum he h
/-- enumerate of a text -/
def IteS (x : Str) : It :=
  ⟨fun i _ => i < x.cps.size, fun i H v H' => ∃ T y, v = .ref T ∧ H T = none ∧ H' = upd H T (.tup [.int (i : Nat), y]) ∧ ∃ c, x.cps[i]? = some c ∧ y = .str ⟨#[c]⟩, fun i _ => i = x.cps.size⟩
def strIt (x : Str) (t : Tok) (it : Addr) (i : Nat) (h : Heap) : Prop := h.IsStrIter it (strIterType x) x t i
theorem strIt_draws {prog : Program} {w : World} {A : Around} (hh : A.handled = none) (it : Addr) (x : Str) (t : Tok) :
    Draws prog w A it [it] x.cps.size (fun i v => ∃ c u, x.cps[i]? = some c ∧ v = .str ⟨#[c]⟩ u) (fun i h => strIt x t it i h) := by
  unfold strIt strIterType
  cases ha : x.cps.all (· < 128)
  · simp only [Bool.false_eq_true, if_false]
    exact Draws.strWide hh it x t
  · simp only [if_true]
    exact Draws.strAscii hh it x t
theorem turn_enumS {P : Program} {w : World} {K : PySem.W.Frag} {elts : List Expr} {kk : Nat} {tpos : Pos} (x : Str) (t : Tok) (e it : Addr) :
    Turn P w K (.Tuple elts kk tpos) (IteS x) [e, it] e (fun i h => (∃ old, IsEnum h e it ((i : Nat) : Int) old) ∧ strIt x t it i h ∧ e ≠ it) where
  mem := by simp
  obj := fun i h st b hb => by
    obtain ⟨⟨old, he⟩, ⟨o, ho, hc, hd⟩, _⟩ := st
    have e' : b = e ∨ b = it := by simpa using hb
    rcases e' with z | z
    · rw [z]; exact ⟨_, he, fun v q => nomatch q⟩
    · rw [z]; exact ⟨o, ho, fun v q => by rw [hd] at q; cases q⟩
  keep := fun i h h' st k => let ⟨⟨old, he⟩, ⟨o, ho, q⟩, hne⟩ := st; ⟨⟨old, k e (by simp) _ he⟩, ⟨o, k it (by simp) o ho, q⟩, hne⟩
  item := by
    intro X hP hw hK hc i pins s σ H E I hf st hg
    subst hP hw hK
    obtain ⟨⟨old, he⟩, hit, hne⟩ := st
    refine wpAny_mono (enum_item (Y := fun y => ∃ c, x.cps[i]? = some c ∧ y = .str ⟨#[c]⟩) (strIt_draws (A := X.A.in1) (I.ok.hd hc) it x t) I hf he hit hg hne (by simpa using hne) fun v hv => ?_) (fun r s1 ⟨u, hr, h1⟩ => ⟨u, hr, wpAny_mono h1 (fun _ s2 ⟨x2, H2, I2, r2, y2, e2, t2, f2⟩ => ⟨x2, H2, I2, r2, y2, ⟨e2, t2, hne⟩, f2⟩) fun _ _ z => z⟩) fun _ _ z => z
    obtain ⟨c, u, h1, rfl⟩ := hv
    exact ⟨.str ⟨#[c]⟩, ⟨u, rfl⟩, c, h1, rfl⟩
  done := by
    intro X hP hw hK hc i pins s σ H E I hf st hg
    subst hP hw hK
    obtain ⟨⟨old, he⟩, hit, hne⟩ := st
    have hi : i = x.cps.size := hg
    exact enum_done (strIt_draws (A := X.A.in1) (I.ok.hd hc) it x t) I hf he (by rw [← hi]; exact hit)
  self := fun A i s Q E st h => let ⟨⟨_, he⟩, _⟩ := st; wpAny_pyIter_enum he h

open PySem PySem.Spec PyProof.Rows L2

def itE (ds : List D) : ItD := ⟨ds.length, fun i _ => if i ≤ ds.length then some (ds[i]?.map fun d => .tup [.int i, d]) else none⟩
theorem itE_none {ds : List D} {i : Nat} {S : Store} (e : (itE ds).item i S = some none) : ds[i]? = none ∧ i = ds.length := by
  unfold itE at e
  dsimp only at e
  split at e
  · rename_i h
    have z : ds[i]? = none := by simpa using e
    have := List.getElem?_eq_none_iff.mp z
    exact ⟨z, by omega⟩
  · cases e
theorem itE_some {ds : List D} {i : Nat} {S : Store} {d : D} (e : (itE ds).item i S = some (some d)) : ∃ d', ds[i]? = some d' ∧ d = .tup [.int i, d'] := by
  unfold itE at e
  dsimp only at e
  split at e
  · simp only [Option.some.injEq, Option.map_eq_some_iff] at e
    obtain ⟨d', e, rfl⟩ := e
    exact ⟨d', e, rfl⟩
  · cases e
def itELoc (n l : Nat) : ItD := ⟨n, fun i S => match S[l]? with
  | some (.lst ds) => some (ds[i]?.map fun d => .tup [.int i, d])
  | _ => none⟩
def enumD (S : Store) : List D → Option ItD
  | [.tup ds] => some (itE ds)
  | [.str x] => some (itE (chars x))
  | [.loc l] => match S[l]? with
    | some (.lst ds) => some (itELoc ds.length l)
    | _ => none
  | [d] => match listOf S d with
    | some ds => some (itE ds)
    | none => none
  | _ => none
def mItS (g : Store → List D → Option ItD) (m : EM (List D)) : EM ItD := fun δ S => (m δ S).bind fun d S1 => out (g S1 d) S1

section
variable {X : Cx} {C : Cst}
def iEnumA (K : PySem.W.Frag) (ta : TA) : TI := fun σ H R => ta σ H fun vs H1 => (∃ a xs, vs = [.ref a] ∧ SqL K H1 a xs ∧ R (Ite K a) H1) ∨ (∃ a xs, vs = [.ref a] ∧ SqT K H1 a xs ∧ R (IteT K a) H1) ∨ ∃ x, vs = [.str x] ∧ R (IteS x) H1
theorem enum_fp {pins : List (Addr × Obj)} {σ : L2.St} {H : Hp} {s : Shared} (I : Inv X pins σ H s) : ∀ b ∈ [s.heap.objs.size + 1, s.heap.objs.size], FpOk X pins H b := fun b hb => by
  have e' : b = s.heap.objs.size + 1 ∨ b = s.heap.objs.size := by simpa using hb
  have hle : s.heap.objs.size ≤ b := by
    rcases e' with z | z
    · rw [z]; exact Nat.le_add_right _ _
    · rw [z]; exact Nat.le_refl _
  exact I.fpOk hle (I.hok.fresh hle)
theorem pi_enumA {e : Expr} {ta : TA} {p pos tpos : Pos} {elts : List Expr} {kk : Nat} (hg : Gl X "enumerate") (hm : X.mg "enumerate" = none) (ha : PA X [e] ta) (hs : starEach [e] X.env = [(false, eval e X.env)]) :
    PI X (.Tuple elts kk tpos) (.Call (.Name "enumerate" p) [e] [] pos) (iEnumA X.K ta) := by
  refine ⟨fun pins s σ H R I h => Call_ (ld_blt I hg hm boot_enumerate (PyProof.Rows.callWith_type1 (thn (ha.run pos pins s σ H _ I h) fun us s1 ⟨vs, H1, I1, r1, q1⟩ => ?_) hs rfl))⟩
  have fp := enum_fp I1
  rcases q1 with ⟨a, xs, rfl, hq, q⟩ | ⟨a, xs, rfl, hq, q⟩ | ⟨x, rfl, q⟩
  · obtain ⟨u, rfl, ru⟩ := r1.one
    cases (show u = Value.ref a from ru)
    obtain ⟨its, rv, p', hz⟩ := I1.list hq
    refine call_enumerate_list p'.isList fun h' he hit hsz hk => wpAny_pyIter_enum he ?_
    exact ⟨s1.heap.objs.size + 1, _, _, _, H1, rfl, I1.kept (t' := s1.toks) hk, turn_enum a (s1.heap.objs.size + 1) s1.heap.objs.size, ⟨⟨.none, he⟩, hit, Nat.succ_ne_self _⟩, fp, q⟩
  · obtain ⟨u, rfl, ru⟩ := r1.one
    cases (show u = Value.ref a from ru)
    obtain ⟨its, rv, p', hz⟩ := I1.tuple hq
    have hT : s1.heap.IsTuple a its.toArray := p'
    have ha : a < s1.heap.objs.size := by obtain ⟨o, ho, _⟩ := hT; exact Heap.lt_size ho
    refine EvLow.call_enum_tuple hT fun h' he hit hk => wpAny_pyIter_enum he ?_
    exact ⟨s1.heap.objs.size + 1, _, _, _, H1, rfl, I1.kept (t' := s1.toks) hk, turn_enumT a (s1.heap.objs.size + 1) s1.heap.objs.size, ⟨⟨.none, he⟩, hit, Nat.succ_ne_self _, Nat.ne_of_lt ha, Nat.ne_of_lt (Nat.lt_succ_of_lt ha)⟩, fp, q⟩
  · obtain ⟨u, rfl, ru⟩ := r1.one
    obtain ⟨t, rfl⟩ := (show ∃ t, u = Value.str x t from ru)
    refine call_enumerate_str fun h' he hit hsz hk => wpAny_pyIter_enum he ?_
    exact ⟨s1.heap.objs.size + 1, _, _, _, H1, rfl, I1.kept (t' := s1.toks) hk, turn_enumS x t (s1.heap.objs.size + 1) s1.heap.objs.size, ⟨⟨.none, he⟩, hit, Nat.succ_ne_self _⟩, fp, q⟩
variable {p : Pl} {S : Store} {H : Hp}
theorem pair_new {i : Nat} {d : D} {y : V} {T : Addr} (ok : Ok C p S H) (r : Rep C p H d y) (hT : H T = none) :
    Step p H p (upd H T (.tup [.int (i : Nat), y])) ∧ Ok C p S (upd H T (.tup [.int (i : Nat), y])) ∧ Rep C p (upd H T (.tup [.int (i : Nat), y])) (.tup [.int (i : Nat), d]) (.ref T) := by
  have st : Step p H p (upd H T (.tup [.int (i : Nat), y])) := Step.alloc hT
  have rl : RepL C p H [.int (i : Nat), d] [.int (i : Nat), y] := by simp only [RepL, Rep]; exact ⟨_, _, rfl, rfl, y, [], rfl, r, rfl⟩
  refine ⟨st, ok.alloc hT, ?_⟩
  simp only [Rep]
  exact ⟨T, _, rfl, .inl (.inl upd_same), RepL.keep (st.keep ok) _ _ rl⟩
theorem walk_enL {K : PySem.W.Frag} {a : Addr} {vs : List V} {ds : List D} (h : ∀ p' H', Keep C.K p H p' H' → SqL K H' a vs) (r : RepL C p H ds vs) : WalkOk C p H (itE ds) (Ite K a) where
  stop := fun i p' S' H' k o e => ⟨vs, h p' H' k, by
    rw [← r.length]
    exact Nat.le_of_eq (itE_none e).2.symm⟩
  go := fun i p' S' H' d k o e => by
    obtain ⟨d', e', rfl⟩ := itE_some e
    obtain ⟨v, ev, _⟩ := r.get e'
    exact ⟨vs, v, h p' H' k, ev⟩
  yields := fun i p' S' H' d x H2 k o e y => by
    obtain ⟨d', e', rfl⟩ := itE_some e
    obtain ⟨v, ev, rv⟩ := r.get e'
    obtain ⟨T, z, rfl, hT, rfl, q⟩ := y
    have e2 := q vs (h p' _ k)
    rw [ev] at e2; cases e2
    exact pair_new o (rv.keep k) hT
theorem walk_enT {K : PySem.W.Frag} {a : Addr} {vs : List V} {ds : List D} (h : ∀ p' H', Keep C.K p H p' H' → SqT K H' a vs) (r : RepL C p H ds vs) : WalkOk C p H (itE ds) (IteT K a) where
  stop := fun i p' S' H' k o e => ⟨vs, h p' H' k, by
    rw [← r.length]
    exact (itE_none e).2.symm⟩
  go := fun i p' S' H' d k o e => by
    obtain ⟨d', e', rfl⟩ := itE_some e
    obtain ⟨v, ev, _⟩ := r.get e'
    exact ⟨vs, v, h p' H' k, ev⟩
  yields := fun i p' S' H' d x H2 k o e y => by
    obtain ⟨d', e', rfl⟩ := itE_some e
    obtain ⟨v, ev, rv⟩ := r.get e'
    obtain ⟨T, z, rfl, hT, rfl, q⟩ := y
    have e2 := q vs (h p' _ k)
    rw [ev] at e2; cases e2
    exact pair_new o (rv.keep k) hT
theorem chars_get {x : Str} {i : Nat} {d : D} (e : (chars x)[i]? = some d) : ∃ c, x.cps[i]? = some c ∧ d = .str ⟨#[c]⟩ := by
  unfold chars at e
  rw [List.getElem?_map] at e
  obtain ⟨c, e, rfl⟩ := Option.map_eq_some_iff.mp e
  exact ⟨c, by simpa using e, rfl⟩
theorem walk_enS {x : Str} : WalkOk C p H (itE (chars x)) (IteS x) where
  stop := fun i p' S' H' k o e => by
    have z := (itE_none e).2
    show i = x.cps.size
    rw [z]
    simp [chars]
  go := fun i p' S' H' d k o e => by
    obtain ⟨d', e', rfl⟩ := itE_some e
    obtain ⟨c, e2, _⟩ := chars_get e'
    exact (Array.getElem?_eq_some_iff.mp e2).1
  yields := fun i p' S' H' d v H2 k o e y => by
    obtain ⟨d', e', rfl⟩ := itE_some e
    obtain ⟨c, e3, rfl⟩ := chars_get e'
    obtain ⟨T, z, rfl, hT, rfl, c2, e2, rfl⟩ := y
    rw [e3] at e2; cases e2
    exact pair_new o (by simp only [Rep]) hT
theorem walk_enLoc {K : PySem.W.Frag} {a : Addr} {l n : Nat} (h : p.ρ[l]? = some a) : WalkOk C p H (itELoc n l) (Ite K a) where
  stop := fun i p' S' H' k o e => by
    simp only [itELoc] at e
    split at e
    · rename_i ds hs
      simp only [Option.some.injEq, Option.map_eq_none_iff] at e
      obtain ⟨b, hb, vs, hv, r⟩ := o.cell l _ hs
      rw [k.get l a h] at hb; cases hb
      exact ⟨vs, .of hv, by rw [← r.length]; exact List.getElem?_eq_none_iff.mp e⟩
    · cases e
  go := fun i p' S' H' d k o e => by
    simp only [itELoc] at e
    split at e
    · rename_i ds hs
      simp only [Option.some.injEq, Option.map_eq_some_iff] at e
      obtain ⟨d', e, rfl⟩ := e
      obtain ⟨b, hb, vs, hv, r⟩ := o.cell l _ hs
      rw [k.get l a h] at hb; cases hb
      obtain ⟨v, ev, _⟩ := r.get e
      exact ⟨vs, v, .of hv, ev⟩
    · cases e
  yields := fun i p' S' H' d x H2 k o e y => by
    simp only [itELoc] at e
    split at e
    · rename_i ds hs
      simp only [Option.some.injEq, Option.map_eq_some_iff] at e
      obtain ⟨d', e, rfl⟩ := e
      obtain ⟨b, hb, vs, hv, r⟩ := o.cell l _ hs
      rw [k.get l a h] at hb; cases hb
      obtain ⟨v, ev, rv⟩ := r.get e
      obtain ⟨T, z, rfl, hT, rfl, q⟩ := y
      have e2 := q vs (.of hv)
      rw [ev] at e2; cases e2
      exact pair_new o rv hT
    · cases e
end
section
variable {X : Cx} {C : Cst} {π : Option (Addr × Obj)} {W : WX} {pos tpos q : Pos} {elts : List Expr} {kk : Nat} {e : Expr} {ms : EM (List D)}
theorem i_enum (hK : X.K = C.K) (hg : Gl X "enumerate") (hm : X.mg "enumerate" = none) (ha : PA X [e] (TAe C π W ms)) (hs : starEach [e] X.env = [(false, eval e X.env)] := by rfl) :
    PI X (.Tuple elts kk tpos) (.Call (.Name "enumerate" q) [e] [] pos) (TIe C π W (mItS enumD ms)) :=
  pi_mono (pi_enumA hg hm ha hs) fun σ H R ⟨p, S, δ, hp, ok, re, po⟩ => TIe.go hp ok re po fun ds S1 p1 H1 vs k1 ok1 r1 po1 => by
    match ds, r1, po1 with
    | [], _, po1 => exact po1.elim
    | d :: d2 :: ds, _, po1 => cases d <;> exact po1.elim
    | [d], r1, po1 =>
      obtain ⟨v, rfl, rv⟩ := r1.one
      cases d with
      | tup ds =>
        obtain ⟨a, vs, rfl, h, r⟩ := tup_rep rv
        exact .inr (.inl ⟨a, vs, rfl, by rw [hK]; exact h, po1 p1 H1 _ (Step.refl _ _) ok1 (walk_enT (fun p' H' k => by rw [hK]; exact sqT_keep k h) r)⟩)
      | str x =>
        simp only [Rep] at rv
        exact .inr (.inr ⟨x, by rw [rv], po1 p1 H1 _ (Step.refl _ _) ok1 walk_enS⟩)
      | lst ds =>
        have rv' := rv
        simp only [Rep] at rv'
        obtain ⟨a, vs, rfl, n1, n2, h, r⟩ := rv'
        exact .inl ⟨a, vs, rfl, .of h, po1 p1 H1 _ (Step.refl _ _) ok1 (walk_enL (fun p' H' k => .of (k.lst a vs h n1 n2).1) r)⟩
      | rol ds =>
        have rv' := rv
        simp only [Rep] at rv'
        obtain ⟨a, vs, rfl, h, r⟩ := rv'
        exact .inl ⟨a, vs, rfl, by rw [hK]; exact h.sq, po1 p1 H1 _ (Step.refl _ _) ok1 (walk_enL (fun p' H' k => by rw [hK]; exact (k.rol a vs h).sq) r)⟩
      | loc l =>
        simp only [enumD] at po1
        cases hs : S1[l]? with
        | none => rw [hs] at po1; exact po1.elim
        | some c =>
          rw [hs] at po1
          cases c with
          | dic kvs => exact po1.elim
          | lst ds =>
            obtain ⟨a, rfl, ha, vs, hv, r⟩ := locAt ok1 rv hs
            exact .inl ⟨a, vs, rfl, .of hv, po1 p1 H1 _ (Step.refl _ _) ok1 (walk_enLoc ha)⟩
      | _ => exact po1.elim
end

open PySem PySem.Spec PyProof.Rows L2

/-! ### o[i] = .. -/
def setD (S : Store) (o i d : D) : Option Store := match o, i with
  | .loc l, .int k => match S[l]? with
    | some (.lst xs) => (ixN xs.length k).map fun j => S.set l (.lst (xs.set j d))
    | _ => none
  | _, _ => none
def gmSub (mo mi : EM D) : GM := fun d δ S => (mo δ S).bind fun o S1 => (mi δ S1).bind fun i S2 => match setD S2 o i d with
  | some S3 => .ok δ S3
  | none => .stuck
section
variable {X : Cx} {C : Cst} {π : Option (Addr × Obj)} {W : WX} {pos tpos : Pos} {o i e : Expr} {mo mi me : EM D} {ts : List Nat}
theorem setD_rep {p : Pl} {S S' : Store} {H : Hp} {do_ di d : D} {vo vi v : V} (ok : Ok C p S H) (r1 : Rep C p H do_ vo) (r2 : Rep C p H di vi) (r3 : Rep C p H d v) (e : setD S do_ di d = some S') {Q : Hp → Prop} (w : ∀ H', Step p H p H' → Ok C p S' H' → Q H') : rSetL vo vi v H Q := by
  cases do_ <;> first | (simp [setD] at e; done) | skip
  cases di <;> first | (simp [setD] at e; done) | skip
  simp only [setD] at e
  split at e
  · rename_i xs hs
    obtain ⟨j, e1, rfl⟩ := Option.map_eq_some_iff.mp e
    obtain ⟨a, vs, rfl, h1, h2, h3⟩ := loc_lst ok r1 hs
    simp only [Rep] at r2
    obtain ⟨st, ok2⟩ := loc_put ok h1 (h3.set r3 j)
    exact ⟨a, vs, _, j, rfl, r2, h2, by rw [← h3.length]; exact e1, w _ st ok2⟩
  · cases e
theorem PostG.get {α β : Type} {p : Pl} {H : Hp} {σ : L2.St} {R : Pl → Hp → α → β → Prop} {Q1 : β → Hp → Prop} {Q : L2.St → Hp → Prop} {r : Res α} {f : α → M Env} (h : PostG C p H σ ts Q (r.bind f))
    (k : ∀ a S1 p' H' b, Step p H p' H' → Ok C p' S1 H' → R p' H' a b → PostG C p' H' σ ts Q (f a S1) → Q1 b H') : Post C WF p H σ R Q1 r := by
  cases r with
  | ok a S1 => exact fun p' H' b s o q => k a S1 p' H' b s o q (PostG.step s rfl h)
  | exc c d S1 => exact h.elim
  | stuck => exact h.elim
theorem g_sub (ho : PE X o (TEe C π WF mo)) (hi : PE X i (TEe C π WF mi))
    (ha : ∀ v, assign (.Subscript o i pos) X.env v = (do
      let ov ← holding [v] (eval o X.env)
      let iv ← holding [v, ov] (eval i X.env)
      standAt pos
      holding [v, ov, iv] (setItem ov iv v)
      release [v, ov, iv] []) := by intro _; rfl) : PG X (.Subscript o i pos) (TGe C π ts (gmSub mo mi)) :=
  pg_mono (pg_sub ho hi set_list ha) fun v σ H Q ⟨p, S, δ, d, hp, ok, re, r, po⟩ => by
    refine ⟨p, S, δ, hp, ok, re, PostG.get po fun x S1 p1 H1 vx s1 ok1 r1 po1 => ?_⟩
    have re1 := re.keep (s1.keep ok)
    refine ⟨p1, S1, δ, s1.err.trans hp, ok1, re1, PostG.get po1 fun y S2 p2 H2 vy s2 ok2 r2 po2 => ?_⟩
    have po3 : PostG C p2 H2 σ ts Q (match setD S2 x y d with
      | some S3 => .ok δ S3
      | none => .stuck) := po2
    cases e3 : setD S2 x y d with
    | none => rw [e3] at po3; exact po3.elim
    | some S3 =>
      rw [e3] at po3
      have k2 := s2.keep ok1
      exact setD_rep ok2 (r1.keep k2) r2 ((r.keep (s1.keep ok)).keep k2) e3 fun H3 s3 ok3 => po3 p2 H3 σ s3 ok3 ((re1.keep k2).keep (s3.keep ok2)) rfl

/-! ### op= -/
def iaddD (S : Store) (a b : D) : Option D := match a, b with
  | .int i, .int j => some (.int (i + j))
  | .str x, .str y => if x.length + y.length ≤ sizeLine then some (.str (x ++ y)) else none
  | _, _ => none
theorem iadd_ok : PIp X .Add (rV2 C iaddD) := by
  intro pins s σ H x y v u Q I rx ry h
  obtain ⟨p, S, dx, dy, d, ok, r1, r2, e, w⟩ := h
  cases dx <;> cases dy <;> first | (simp [iaddD] at e; done) | skip
  · cases e
    simp only [Rep] at r1 r2
    exact ip_add pins s σ H x y v u Q I rx ry ⟨_, _, r1, r2, w.here ok (by simp only [Rep])⟩
  · simp only [iaddD] at e
    split at e
    · rename_i hz
      cases e
      simp only [Rep] at r1 r2
      exact in_addS pins s σ H x y v u Q I rx ry ⟨_, _, r1, r2, hz, w.here ok (by simp only [Rep])⟩
    · cases e
theorem isub_ok : PIp X .Sub (rV2 C subD) := by
  intro pins s σ H x y v u Q I rx ry h
  obtain ⟨p, S, dx, dy, d, ok, r1, r2, e, w⟩ := h
  cases dx <;> cases dy <;> first | (simp [subD] at e; done) | skip
  cases e
  simp only [Rep] at r1 r2
  exact ip_sub pins s σ H x y v u Q I rx ry ⟨_, _, r1, r2, w.here ok (by simp only [Rep])⟩
end

open PySem PySem.Spec PyProof.Rows L2

/-! ### e[::-1] -/
def revS (x : Str) : Str := ⟨x.cps.toList.reverse.toArray⟩
theorem rev_ix (n : Nat) : Builtin.Str.strSliceIndices none none (-1) n = (List.range n).map fun k => n - 1 - k := by
  unfold Builtin.Str.strSliceIndices sliceRange
  have z1 : ¬ ((-1 : Int) > 0) := by decide
  have z2 : ¬ ((-1 : Int) == 0) = true := by decide
  simp only [z1, z2, if_false, decide_false, Bool.false_eq_true]
  cases n with
  | zero => rfl
  | succ n =>
    rw [if_pos (by omega)]
    have e : (((((n + 1 : Nat) : Int) - 1 - -1 - -1 - 1) / - -1).toNat) = n + 1 := by
      have h : ((((n + 1 : Nat) : Int) - 1 - -1 - -1 - 1) / - -1) = ((n + 1 : Nat) : Int) := by
        rw [show (- -1 : Int) = 1 from rfl, Int.ediv_one]
        omega
      rw [h]; rfl
    rw [e]
    apply List.map_congr_left
    intro k hk
    have := List.mem_range.mp hk
    omega
theorem rev_pick (xs : Array Nat) : (((List.range xs.size).map fun k => xs.size - 1 - k).filterMap (xs[·]?)) = xs.toList.reverse := by
  apply List.ext_getElem?
  intro i
  have all : ((List.range xs.size).map fun k => xs.size - 1 - k).filterMap (xs[·]?) = (List.range xs.size).pmap (fun k (h : k < xs.size) => xs[xs.size - 1 - k]'(by omega)) (fun k hk => List.mem_range.mp hk) := by
    rw [List.filterMap_map]
    have : ∀ (l : List Nat) (hl : ∀ k ∈ l, k < xs.size), l.filterMap ((xs[·]?) ∘ fun k => xs.size - 1 - k) = l.pmap (fun k (h : k < xs.size) => xs[xs.size - 1 - k]'(by omega)) hl := by
      intro l
      induction l with
      | nil => intro _; rfl
      | cons a l ih =>
        intro hl
        have ha := hl a List.mem_cons_self
        rw [List.filterMap_cons_some (b := xs[xs.size - 1 - a]'(by omega)) (by simp), List.pmap_cons, ih]
    exact this _ _
  rw [all]
  by_cases hi : i < xs.size
  · rw [List.getElem?_pmap, List.getElem?_reverse (by simpa using hi)]
    simp [hi]
  · rw [List.getElem?_eq_none (by simp; omega), List.getElem?_eq_none (by simp; omega)]
def revD (S : Store) (d : D) : Option D := match d with
  | .str x => if x.length ≤ sizeLine then some (.str (revS x)) else none
  | d => match listOf S d with
    | some ds => some (.lst ds.reverse)
    | none => none
def mRev (m : EM D) : EM D := mUn revD m
theorem RepL.rev {C : Cst} {p : Pl} {H : Hp} : ∀ {ds : List D} {vs : List V}, RepL C p H ds vs → RepL C p H ds.reverse vs.reverse
  | [], vs, r => by simp only [RepL] at r; subst r; simp [RepL]
  | d :: ds, vs, r => by
    simp only [RepL] at r
    obtain ⟨v, r', rfl, r1, r2⟩ := r
    rw [List.reverse_cons, List.reverse_cons]
    exact (RepL.rev r2).append (by simp only [RepL]; exact ⟨v, [], rfl, r1, rfl⟩)
section
variable {X : Cx} {C : Cst} {π : Option (Addr × Obj)} {W : WX} {e : Expr} {m : EM D} {k : Nat} {p1 p2 p3 pos : Pos} {te : TE}
def tRevS (te : TE) : TE := fun σ H Q => te σ H fun x H1 => ∃ z : Str, x = .str z ∧ z.length ≤ sizeLine ∧ Q (.str (revS z)) H1
theorem pe_revS (he : PE X e te) : PE X (.Subscript e (.Slice none none (some (.UnaryOp .USub (.Constant (.int 1) k p1) p2)) p3) pos) (tRevS te) := by
  refine ⟨fun pi s σ H Q I h => Subscript_ (thn (he.run pi s σ H _ I h) fun v s1 ⟨x, H1, I1, r1, z, ex, hz, q⟩ => ?_)⟩
  subst ex
  obtain ⟨t, rfl⟩ := r1
  have hst : PO X (some (.UnaryOp .USub (.Constant (.int 1) k p1) p2)) (tPart (tUn (rU fun i => .int (-i)) (tC (.int 1)))) := po_some (pe_un un_neg pe_int)
  refine wpAny_Slice (thn (po_none.run pi s1 σ H1 (fun o H2 => o = none ∧ H2 = H1) I1 ⟨rfl, rfl⟩) fun vl s2 ⟨l, H2, I2, pl, el, e2⟩ => ?_)
  subst el e2
  refine thn (po_none.run pi s2 σ H2 (fun o H3 => o = none ∧ H3 = H2) I2 ⟨rfl, rfl⟩) fun vu s3 ⟨u, H3, I3, pu, eu, e3⟩ => ?_
  subst eu e3
  refine thn (hst.run pi s3 σ H3 (fun o H4 => o = some (-1) ∧ H4 = H3) I3 ⟨1, rfl, -1, rfl, rfl, rfl⟩) fun vs s4 ⟨o, H4, I4, ps, eo, e4⟩ => ?_
  subst eo e4
  cases pl
  cases pu
  obtain ⟨o, rfl, ho⟩ := IsPart.raw ps
  obtain ⟨⟨i, ti⟩, rfl, hi⟩ := Option.map_eq_some_iff.mp ho
  simp only at hi
  subst hi
  have I5 : Inv X pi σ H4 { s4 with heap := s4.heap.push { cls := .type "slice", data := .fields #[.none, .none, partValue (some (-1, ti))] } } := I4.kept (t' := s4.toks) fun b ob q => Heap.get?_push_of_some _ q
  refine tail_any (ops := [.str z t, .ref s4.heap.objs.size]) (typeIs_str _ _ _) (F.slot_str_getitem.lookup) ?_ (by with_unfolding_all rfl)
  refine wpAny_getItem_str_slice (l := none) (u := none) (st := some (-1, ti)) ⟨_, Heap.get?_push_size _ rfl, rfl, rfl⟩ rfl ?_
  have er : (⟨((slicePicked z none none (some (-1, ti))).filterMap (z.cps[·]?)).toArray⟩ : Str) = revS z := by
    unfold slicePicked revS
    show (⟨((Builtin.Str.strSliceIndices none none (-1) z.cps.size).filterMap (z.cps[·]?)).toArray⟩ : Str) = _
    rw [rev_ix, rev_pick]
  show Made.post (if ((-1 : Int) == 1 && (slicePicked z none none (some (-1, ti))).length == z.length) = true then Made.val (.str z t) else Made.str ⟨((slicePicked z none none (some (-1, ti))).filterMap (z.cps[·]?)).toArray⟩) _ _
  rw [if_neg (by simp), er]
  refine ⟨?_, .str (revS z), H4, I5.tok _, ⟨_, rfl⟩, q⟩
  show (z.cps.toList.reverse.toArray).size ≤ sizeLine
  have e1 : z.cps.size ≤ sizeLine := hz
  simpa using e1
theorem pe_or {t t' : TE} (h : PE X e t) (h' : PE X e t') : PE X e (fun σ H Q => t σ H Q ∨ t' σ H Q) := ⟨fun pins s σ H Q I hw => hw.elim (h.run pins s σ H Q I) (h'.run pins s σ H Q I)⟩
theorem e_rev (hK : X.K = C.K) (he : PE X e (TEe C π W m)) : PE X (.Subscript e (.Slice none none (some (.UnaryOp .USub (.Constant (.int 1) k p1) p2)) p3) pos) (TEe C π W (mRev m)) :=
  pe_mono (pe_or (pe_revS he) (pe_revL he)) fun σ H Q ⟨p, S, δ, hp, ok, re, po⟩ => by
    have po' : Post C W p H σ (Rep C) Q ((m δ S).bind fun x S1 => out (revD S1 x) S1) := po
    cases e1 : m δ S with
    | stuck => rw [e1] at po'; exact po'.elim
    | exc c d S1 => exact .inl ⟨p, S, δ, hp, ok, re, by rw [e1] at po' ⊢; exact po'⟩
    | ok d S1 =>
      rw [e1] at po'
      have po2 : Post C W p H σ (Rep C) Q (out (revD S1 d) S1) := po'
      have lists : (∃ ds, listOf S1 d = some ds ∧ revD S1 d = some (.lst ds.reverse)) → tRevL X.K (TEe C π W m) σ H Q := fun ⟨ds, el, er⟩ => ⟨p, S, δ, hp, ok, re, by
        rw [e1]
        rw [er] at po2
        intro p1 H1 v s1 ok1 r1
        obtain ⟨a, vs, rfl, q1, q2⟩ := listOf_rep ok1 r1 el
        have w : Wants C p1 S1 H1 (.lst ds.reverse) Q := fun p' H' v s o r => po2 p' H' v (s1.trans s) o r
        exact ⟨a, vs, rfl, by rw [hK]; exact q1, fun q hq => w.lst ok1 q2.rev hq⟩⟩
      cases d with
      | str x =>
        refine .inl ⟨p, S, δ, hp, ok, re, ?_⟩
        rw [e1]
        simp only [revD] at po2
        split at po2
        · rename_i hz
          intro p1 H1 v s1 ok1 r1
          simp only [Rep] at r1
          exact ⟨x, r1, hz, po2 p1 H1 _ s1 ok1 (by simp only [Rep])⟩
        · exact po2.elim
      | lst ds => exact .inr (lists ⟨ds, rfl, rfl⟩)
      | rol ds => exact .inr (lists ⟨ds, rfl, rfl⟩)
      | loc l =>
        cases hl : listOf S1 (.loc l) with
        | none =>
          have : revD S1 (.loc l) = none := by simp only [revD, hl]
          rw [this] at po2
          exact po2.elim
        | some ds => exact .inr (lists ⟨ds, hl, by simp only [revD, hl]⟩)
      | _ => exact po2.elim
end

open PySem PySem.Spec PyProof.Rows L2

/-! ### a, b = a list or a tuple -/
def unpOf (S : Store) (d : D) : Option (List D) := match d with
  | .tup ds => some ds
  | d => listOf S d
def gmUnp (n : Nat) (g : GMs) : GM := fun d δ S => match unpOf S d with
  | some ds => if ds.length = n then g ds δ S else .stuck
  | none => .stuck
section
variable {X : Cx} {C : Cst} {π : Option (Addr × Obj)} {pos : Pos} {ts : List Nat} {es : List Expr} {gs : GMs}
theorem pg_or {e : Expr} {t t' : TG} (h : PG X e t) (h' : PG X e t') : PG X e (fun v σ H Q => t v σ H Q ∨ t' v σ H Q) := ⟨fun pins s σ H v u Q I r hw => hw.elim (h.run pins s σ H v u Q I r) (h'.run pins s σ H v u Q I r)⟩
theorem g_unp {k n : Nat} (hK : X.K = C.K) (hc : X.calm = true) (h : PGs X es (TGse C π ts gs)) (hn : (assignEach es X.env).length = n := by rfl) (hst : (assignEach es X.env).findIdx? (·.1) = none := by rfl) : PG X (.Tuple es k pos) (TGe C π ts (gmUnp n gs)) :=
  pg_mono (pg_or (pg_tup hc h hn hst) (pg_unl hc h hn hst)) fun v σ H Q ⟨p, S, δ, d, hp, ok, re, r, po⟩ => by
    unfold gmUnp at po
    cases e : unpOf S d with
    | none => rw [e] at po; exact po.elim
    | some ds =>
      rw [e] at po
      have po' : PostG C p H σ ts Q (if ds.length = n then gs ds δ S else .stuck) := po
      split at po'
      · rename_i z
        have lists : listOf S d = some ds → gUnl X.K n (TGse C π ts gs) v σ H Q := fun el => by
          obtain ⟨a, vs, rfl, q1, q2⟩ := listOf_rep ok r el
          exact ⟨a, vs, rfl, by rw [hK]; exact q1, by rw [← q2.length]; exact z, p, S, δ, ds, hp, ok, re, q2, po'⟩
        cases d with
        | tup xs =>
          simp only [unpOf, Option.some.injEq] at e
          subst e
          obtain ⟨a, vs, rfl, h1, h2⟩ := tup_rep r
          exact .inl ⟨a, vs, rfl, by rw [hK]; exact h1, by rw [← h2.length]; exact z, p, S, δ, xs, hp, ok, re, h2, po'⟩
        | _ => exact .inr (lists e)
      · exact po'.elim
end

open PySem PySem.Spec PyProof.Rows L2

/-! ### zip of two lists, of two tuples -/
def pairAt (xs ys : List D) (i : Nat) : Option D := match xs[i]?, ys[i]? with
  | some x, some y => some (.tup [x, y])
  | _, _ => none
def itZ (xs ys : List D) : ItD := ⟨min xs.length ys.length, fun i _ => some (pairAt xs ys i)⟩
def itZL (n : Nat) (a b : D) : ItD := ⟨n, fun i S => match listOf S a, listOf S b with
  | some xs, some ys => some (pairAt xs ys i)
  | _, _ => none⟩
def zipD (S : Store) : List D → Option ItD
  | [.tup xs, .tup ys] => some (itZ xs ys)
  | [a, b] => match listOf S a, listOf S b with
    | some xs, some ys => some (itZL (min xs.length ys.length) a b)
    | _, _ => none
  | _ => none
theorem pairAt_none {xs ys : List D} {i : Nat} (h : pairAt xs ys i = none) : xs.length ≤ i ∨ ys.length ≤ i := by
  unfold pairAt at h
  by_cases h1 : i < xs.length
  · by_cases h2 : i < ys.length
    · rw [List.getElem?_eq_getElem h1, List.getElem?_eq_getElem h2] at h; cases h
    · exact .inr (by omega)
  · exact .inl (by omega)
theorem pairAt_some {xs ys : List D} {i : Nat} {d : D} (h : pairAt xs ys i = some d) : ∃ x y, xs[i]? = some x ∧ ys[i]? = some y ∧ d = .tup [x, y] := by
  unfold pairAt at h
  split at h
  · rename_i x y h1 h2
    cases h
    exact ⟨x, y, h1, h2, rfl⟩
  · cases h
section
variable {C : Cst} {p : Pl} {S : Store} {H : Hp}
theorem pair2_new {d e : D} {x y : V} {T : Addr} (ok : Ok C p S H) (r : Rep C p H d x) (r2 : Rep C p H e y) (hT : H T = none) :
    Step p H p (upd H T (.tup [x, y])) ∧ Ok C p S (upd H T (.tup [x, y])) ∧ Rep C p (upd H T (.tup [x, y])) (.tup [d, e]) (.ref T) := by
  have st : Step p H p (upd H T (.tup [x, y])) := Step.alloc hT
  have rl : RepL C p H [d, e] [x, y] := by simp only [RepL]; exact ⟨x, [y], rfl, r, y, [], rfl, r2, rfl⟩
  refine ⟨st, ok.alloc hT, ?_⟩
  simp only [Rep]
  exact ⟨T, _, rfl, .inl (.inl upd_same), RepL.keep (st.keep ok) _ _ rl⟩
theorem walk_zipT {K : PySem.W.Frag} {a b : Addr} {vs ws : List V} {xs ys : List D} (h : ∀ p' H', Keep C.K p H p' H' → SqT K H' a vs) (h' : ∀ p' H', Keep C.K p H p' H' → SqT K H' b ws) (r : RepL C p H xs vs) (r' : RepL C p H ys ws) : WalkOk C p H (itZ xs ys) (RZ.ItzT K a b) where
  stop := fun i p' S' H' k o e => by
    have e : pairAt xs ys i = none := by simpa [itZ] using e
    exact ⟨vs, ws, h p' H' k, h' p' H' k, by rw [← r.length, ← r'.length]; exact pairAt_none e⟩
  go := fun i p' S' H' d k o e => by
    have e : pairAt xs ys i = some d := by simpa [itZ] using e
    obtain ⟨x, y, e1, e2, _⟩ := pairAt_some e
    obtain ⟨v, ev, _⟩ := r.get e1
    obtain ⟨w, ew, _⟩ := r'.get e2
    exact ⟨vs, ws, v, w, h p' H' k, h' p' H' k, ev, ew⟩
  yields := fun i p' S' H' d x H2 k o e y => by
    have e : pairAt xs ys i = some d := by simpa [itZ] using e
    obtain ⟨x1, y1, e1, e2, rfl⟩ := pairAt_some e
    obtain ⟨v, ev, rv⟩ := r.get e1
    obtain ⟨w, ew, rw'⟩ := r'.get e2
    obtain ⟨T, z1, z2, rfl, hT, rfl, q1, q2⟩ := y
    have f1 := q1 vs (h p' _ k)
    have f2 := q2 ws (h' p' _ k)
    rw [ev] at f1; cases f1
    rw [ew] at f2; cases f2
    exact pair2_new o (rv.keep k) (rw'.keep k) hT
theorem walk_zipL {a b : Addr} {n : Nat} {da db : D} (r : Rep C p H da (.ref a)) (r' : Rep C p H db (.ref b)) : WalkOk C p H (itZL n da db) (Itz C.K a b) where
  stop := fun i p' S' H' k o e => by
    simp only [itZL] at e
    split at e
    · rename_i xs ys h1 h2
      obtain ⟨a1, vs, ea, ha, ra⟩ := listOf_rep o (r.keep k) h1
      obtain ⟨b1, ws, eb, hb, rb⟩ := listOf_rep o (r'.keep k) h2
      cases ea; cases eb
      have e : pairAt xs ys i = none := by simpa using e
      exact ⟨vs, ws, ha, hb, by rw [← ra.length, ← rb.length]; exact pairAt_none e⟩
    · cases e
  go := fun i p' S' H' d k o e => by
    simp only [itZL] at e
    split at e
    · rename_i xs ys h1 h2
      obtain ⟨a1, vs, ea, ha, ra⟩ := listOf_rep o (r.keep k) h1
      obtain ⟨b1, ws, eb, hb, rb⟩ := listOf_rep o (r'.keep k) h2
      cases ea; cases eb
      have e : pairAt xs ys i = some d := by simpa using e
      obtain ⟨x, y, e1, e2, _⟩ := pairAt_some e
      obtain ⟨v, ev, _⟩ := ra.get e1
      obtain ⟨w, ew, _⟩ := rb.get e2
      exact ⟨vs, ws, v, w, ha, hb, ev, ew⟩
    · cases e
  yields := fun i p' S' H' d x H2 k o e y => by
    simp only [itZL] at e
    split at e
    · rename_i xs ys h1 h2
      obtain ⟨a1, vs, ea, ha, ra⟩ := listOf_rep o (r.keep k) h1
      obtain ⟨b1, ws, eb, hb, rb⟩ := listOf_rep o (r'.keep k) h2
      cases ea; cases eb
      have e : pairAt xs ys i = some d := by simpa using e
      obtain ⟨x1, y1, e1, e2, rfl⟩ := pairAt_some e
      obtain ⟨v, ev, rv⟩ := ra.get e1
      obtain ⟨w, ew, rw'⟩ := rb.get e2
      obtain ⟨T, z1, z2, rfl, hT, rfl, q1, q2⟩ := y
      have f1 := q1 vs ha
      have f2 := q2 ws hb
      rw [ev] at f1; cases f1
      rw [ew] at f2; cases f2
      exact pair2_new o rv rw' hT
    · cases e
end
section
variable {X : Cx} {C : Cst} {π : Option (Addr × Obj)} {W : WX} {pos tpos q : Pos} {elts : List Expr} {kk : Nat} {e e2 : Expr} {ms : EM (List D)}
theorem i_zip (hK : X.K = C.K) (hg : Gl X "zip") (hm : X.mg "zip" = none) (ha : PA X [e, e2] (TAe C π W ms)) (hs : starEach [e, e2] X.env = (false, eval e X.env) :: starEach [e2] X.env := by rfl) (hpl : (backTo pos (starEach [e2] X.env)).any (·.1) = false := by rfl) :
    PI X (.Tuple elts kk tpos) (.Call (.Name "zip" q) [e, e2] [] pos) (TIe C π W (mItS zipD ms)) :=
  pi_mono (RZ.pi_zipA hg hm ha hs hpl) fun σ H R ⟨p, S, δ, hp, ok, re, po⟩ => TIe.go hp ok re po fun ds S1 p1 H1 vs k1 ok1 r1 po1 => by
    match ds, r1, po1 with
    | [], _, po1 => exact po1.elim
    | [d], _, po1 => cases d <;> exact po1.elim
    | d1 :: d2 :: d3 :: ds, _, po1 => cases d1 <;> cases d2 <;> exact po1.elim
    | [a, b], r1, po1 =>
      simp only [RepL] at r1
      obtain ⟨u, r, rfl, ra, w, r', rfl, rb, rfl⟩ := r1
      have lists : (∃ xs ys, listOf S1 a = some xs ∧ listOf S1 b = some ys) → PostI C W p1 H1 σ R (out (match listOf S1 a, listOf S1 b with
        | some xs, some ys => some (itZL (min xs.length ys.length) a b)
        | _, _ => none) S1) → ∃ a' b' xs ys, [u, w] = [V.ref a', V.ref b'] ∧ ((SqL X.K H1 a' xs ∧ SqL X.K H1 b' ys ∧ R (Itz X.K a' b') H1) ∨ (SqT X.K H1 a' xs ∧ SqT X.K H1 b' ys ∧ R (RZ.ItzT X.K a' b') H1)) := fun ⟨xs, ys, h1, h2⟩ po => by
        rw [h1, h2] at po
        obtain ⟨a1, vs, rfl, qa, _⟩ := listOf_rep ok1 ra h1
        obtain ⟨b1, ws, rfl, qb, _⟩ := listOf_rep ok1 rb h2
        refine ⟨a1, b1, vs, ws, rfl, .inl ⟨by rw [hK]; exact qa, by rw [hK]; exact qb, ?_⟩⟩
        rw [hK]
        exact po p1 H1 _ (Step.refl _ _) ok1 (walk_zipL ra rb)
      have gen : PostI C W p1 H1 σ R (out (match listOf S1 a, listOf S1 b with
        | some xs, some ys => some (itZL (min xs.length ys.length) a b)
        | _, _ => none) S1) → ∃ a' b' xs ys, [u, w] = [V.ref a', V.ref b'] ∧ ((SqL X.K H1 a' xs ∧ SqL X.K H1 b' ys ∧ R (Itz X.K a' b') H1) ∨ (SqT X.K H1 a' xs ∧ SqT X.K H1 b' ys ∧ R (RZ.ItzT X.K a' b') H1)) := fun po => by
        refine lists ?_ po
        cases h1 : listOf S1 a with
        | none => rw [h1] at po; exact po.elim
        | some xs =>
          cases h2 : listOf S1 b with
          | none => rw [h1, h2] at po; exact po.elim
          | some ys => exact ⟨xs, ys, rfl, rfl⟩
      cases a with
      | tup xs =>
        cases b with
        | tup ys =>
          obtain ⟨a1, vs, rfl, qa, rx⟩ := tup_rep ra
          obtain ⟨b1, ws, rfl, qb, ry⟩ := tup_rep rb
          exact ⟨a1, b1, vs, ws, rfl, .inr ⟨by rw [hK]; exact qa, by rw [hK]; exact qb, po1 p1 H1 _ (Step.refl _ _) ok1 (walk_zipT (fun p' H' k => by rw [hK]; exact sqT_keep k qa) (fun p' H' k => by rw [hK]; exact sqT_keep k qb) rx ry)⟩⟩
        | _ => exact gen po1
      | _ => exact gen po1
end

open PySem PySem.Spec PyProof.Rows L2

/-! ### comprehensions with two fors -/
theorem Keep.trans {K : PySem.W.Frag} {p p' p2 : Pl} {H H' H2 : Hp} (a : Keep K p H p' H') (b : Keep K p' H' p2 H2) (hn : ∀ x vs, H x = some (.lst vs) → x ∉ p.ρ → x ∉ p.hid → x ∉ p'.hid) (ho : ∀ x o, H x = some o → x ∉ p.ρ → x ∉ p.hid → ∃ o', H' x = some o' ∧ x ∉ p'.ρ) : Keep K p H p2 H2 where
  get := fun l x e => b.get l x (a.get l x e)
  hid := fun x o e n1 n2 => by
    obtain ⟨o', e', n'⟩ := ho x o e n1 n2
    exact b.hid x o' e' n' (a.hid x o e n1 n2)
  err := b.err.trans a.err
  tup := fun x xs e => b.tup x xs (a.tup x xs e)
  ftup := fun x o xs e => b.ftup x o xs (a.ftup x o xs e)
  xd := fun x xs e => b.xd x xs (a.xd x xs e)
  lst := fun x vs e n1 n2 => by
    obtain ⟨q1, q2⟩ := a.lst x vs e n1 n2
    exact b.lst x vs q1 q2 (hn x vs e n1 n2)
  rol := fun x vs e => b.rol x vs (a.rol x vs e)
def comp2Go (it : ItD) (g : GM) (t : EM Bool) (f : Env → List D → M (List D)) (δ0 : Env) : Nat → Nat → List D → M (List D)
  | 0, i, acc => fun S => match it.item i S with
    | some none => .ok acc S
    | _ => .stuck
  | k + 1, i, acc => fun S => match it.item i S with
    | some none => .ok acc S
    | some (some d) => (match g d δ0 S with
      | .ok δ1 S1 => (match t δ1 S1 with
        | .ok b S2 => if b = true then (match f δ1 acc S2 with
          | .ok acc' S3 => comp2Go it g t f δ0 k (i + 1) acc' S3
          | _ => .stuck) else comp2Go it g t f δ0 k (i + 1) acc S2
        | _ => .stuck)
      | _ => .stuck)
    | none => .stuck
/-- the second for -/
def inGo (mi1 : EM ItD) (g1 : GM) (t1 : EM Bool) (e : EM D) (vs1 : List Nat) : Env → List D → M (List D) := fun δ1 acc S => (mi1 δ1 S).bind fun it1 S1 => compGo it1 g1 t1 e (wipeE δ1 vs1) it1.n 0 acc S1
def mLc2 (mi : EM ItD) (g : GM) (t : EM Bool) (mi1 : EM ItD) (g1 : GM) (t1 : EM Bool) (e : EM D) (vs vs1 : List Nat) : EM D := fun δ S => (mi δ S).bind fun it S1 => match comp2Go it g t (inGo mi1 g1 t1 e vs1) (wipeE δ vs) it.n 0 [] S1 with
  | .ok ds S2 => .ok (.lst ds) S2
  | _ => .stuck
section
variable {C : Cst} {π : Option (Addr × Obj)} {W : WX}
/-- what holds while the new list at Da is made -/
structure Mk (C : Cst) (π : Option (Addr × Obj)) (p0 : Pl) (H0 : Hp) (Da : Addr) (p : Pl) (S : Store) (H : Hp) (acc : List D) (xs : List V) : Prop where
  pi : p.π = π
  hid : p.hid = Da :: p0.hid
  st : Step p0 H0 (p.un p0) H
  ok : Ok C p S H
  at_ : H Da = some (.lst xs)
  rep : RepL C p H acc xs
theorem Mk.step {p0 p p' : Pl} {H0 H H' : Hp} {S S' : Store} {Da : Addr} {acc : List D} {xs : List V} (m : Mk C π p0 H0 Da p S H acc xs) (s : Step p H p' H') (ok' : Ok C p' S' H') : Mk C π p0 H0 Da p' S' H' acc xs :=
  have hm : Da ∈ p.hid := by rw [m.hid]; exact List.mem_cons_self
  ⟨s.err.trans m.pi, s.hid.trans m.hid, m.st.trans ⟨s.pre, rfl, s.err, s.frz, s.new⟩, ok', s.frz Da _ m.at_ (m.ok.hid Da hm).1, RepL.keep (s.keep m.ok) acc xs m.rep⟩
theorem Mk.put {p0 p : Pl} {H0 H : Hp} {S : Store} {Da : Addr} {acc : List D} {xs : List V} {dy : D} {v : V} (hD : H0 Da = none) (m : Mk C π p0 H0 Da p S H acc xs) (r : Rep C p H dy v) : Mk C π p0 H0 Da p S (upd H Da (.lst (xs ++ [v]))) (acc ++ [dy]) (xs ++ [v]) ∧ Keep C.K p H p (upd H Da (.lst (xs ++ [v]))) := by
  have hm : Da ∈ p.hid := by rw [m.hid]; exact List.mem_cons_self
  have k6 : Keep C.K p H p (upd H Da (.lst (xs ++ [v]))) := Keep.hidden hm m.at_
  refine ⟨⟨m.pi, m.hid, ?_, m.ok.hidden hm m.at_, upd_same, RepL.append (RepL.keep k6 acc xs m.rep) (by simp only [RepL]; exact ⟨v, [], rfl, r.keep k6, rfl⟩)⟩, k6⟩
  exact ⟨m.st.pre, m.st.hid, m.st.err, fun a o e n => by rw [upd_ne (ne_of_none e hD)]; exact m.st.frz a o e n, m.st.new⟩
/-- keeps, seen from a moment within -/
structure Kp (C : Cst) (p1 : Pl) (H1 : Hp) (p : Pl) (H : Hp) : Prop where
  k : Keep C.K p1 H1 p H
  hid : p.hid = p1.hid
  old : ∀ x o, H1 x = some o → x ∉ p1.ρ → ∃ o', H x = some o' ∧ x ∉ p.ρ
theorem Kp.refl {p : Pl} {S : Store} {H : Hp} (ok : Ok C p S H) : Kp C p H p H := ⟨(Step.refl p H).keep ok, rfl, fun x o e n => ⟨o, e, n⟩⟩
theorem Kp.step {p1 p p' : Pl} {S : Store} {H1 H H' : Hp} (q : Kp C p1 H1 p H) (ok : Ok C p S H) (s : Step p H p' H') : Kp C p1 H1 p' H' := by
  have old' : ∀ x o, H x = some o → x ∉ p.ρ → x ∉ p'.ρ := fun x o e n m => by
    have z := s.new x m n
    rw [e] at z; cases z
  refine ⟨Keep.trans q.k (s.keep ok) (fun x vs e n1 n2 => by rw [q.hid]; exact n2) (fun x o e n1 n2 => q.old x o e n1), s.hid.trans q.hid, fun x o e n => ?_⟩
  obtain ⟨o', e', n'⟩ := q.old x o e n
  exact ⟨o', s.frz x _ e' n', old' x o' e' n'⟩
theorem Kp.put {p1 p : Pl} {S : Store} {H1 H : Hp} {Da : Addr} {xs ys : List V} (q : Kp C p1 H1 p H) (ok : Ok C p S H) (hm : Da ∈ p.hid) (ha : H Da = some (.lst xs)) : Kp C p1 H1 p (upd H Da (.lst ys)) := by
  refine ⟨Keep.trans q.k (Keep.hidden hm ha) (fun x vs e n1 n2 => by rw [q.hid]; exact n2) (fun x o e n1 n2 => q.old x o e n1), q.hid, fun x o e n => ?_⟩
  obtain ⟨o', e', n'⟩ := q.old x o e n
  by_cases z : x = Da
  · subst z; exact ⟨_, upd_same, n'⟩
  · exact ⟨o', by rw [upd_ne z]; exact e', n'⟩
/-- the inner loop -/
theorem lc_in {g : GM} {t : EM Bool} {me : EM D} {vs : List Nat} {p0 p1 : Pl} {S1 : Store} {H0 H1 : Hp} {J : It} {it : ItD} {δ : Env} {σ : L2.St} {Da : Addr} {acc0 : List D} {xs0 : List V} {Nx : Hp → Prop} (Fin : List D → Store → Prop) (hD : H0 Da = none) (m1 : Mk C π p0 H0 Da p1 S1 H1 acc0 xs0) (re1 : REnv C p1 H1 δ σ) (w : WalkOk C p1 H1 it J)
    (hgo : ∃ ds S2, compGo it g t me (wipeE δ vs) it.n 0 acc0 S1 = .ok ds S2 ∧ Fin ds S2)
    (hfin : ∀ p S H acc xs, Mk C π p0 H0 Da p S H acc xs → Kp C p1 H1 p H → Fin acc S → Nx H) :
    ∃ W : Nat → Nat → Hp → Prop, (∃ m, W 0 m H1) ∧ ∀ i m H, W i m H →
      (J.stop i H ∧ Nx H) ∨ (J.go i H ∧ ∃ Nx1 : Hp → Prop, (∀ H', Nx1 H' → ∃ m', m' < m ∧ W (i + 1) m' H') ∧ ∀ x H', J.yld i H x H' → TGe C π vs g x (wipe σ vs) H' fun σ2 H2 => wipe σ2 vs = wipe σ vs ∧ TTe C π WF t σ2 H2 fun b H3 =>
        if b = true then TEe C π WF me σ2 H3 fun y H4 => ∃ acc, H4 Da = some (.lst acc) ∧ acc.length < sizeLine ∧ Nx1 (upd H4 Da (.lst (acc ++ [y]))) else Nx1 H3) := by
  refine ⟨fun i k H => ∃ p S acc xs, Mk C π p0 H0 Da p S H acc xs ∧ Kp C p1 H1 p H ∧ ∃ ds S2, compGo it g t me (wipeE δ vs) k i acc S = .ok ds S2 ∧ Fin ds S2, ⟨it.n, p1, S1, acc0, xs0, m1, Kp.refl m1.ok, hgo⟩, ?_⟩
  rintro i k H ⟨p, S, acc, xs, mk, kp, ds, S2, ego, hf⟩
  have hm : Da ∈ p.hid := by rw [mk.hid]; exact List.mem_cons_self
  have stopped : it.item i S = some none → acc = ds → S = S2 → J.stop i H ∧ Nx H := fun e e1 e2 => by
    subst e1; subst e2
    exact ⟨w.stop i p S H kp.k mk.ok e, hfin p S H acc xs mk kp hf⟩
  cases k with
  | zero =>
    unfold compGo at ego
    cases e2 : it.item i S with
    | none => rw [e2] at ego; cases ego
    | some o =>
      rw [e2] at ego
      cases o with
      | none => injection ego with q1 q2; exact .inl (stopped e2 q1 q2)
      | some d => cases ego
  | succ k =>
    unfold compGo at ego
    cases e2 : it.item i S with
    | none => rw [e2] at ego; cases ego
    | some o =>
      rw [e2] at ego
      cases o with
      | none => injection ego with q1 q2; exact .inl (stopped e2 q1 q2)
      | some d =>
        dsimp only at ego
        refine .inr ⟨w.go i p S H d kp.k mk.ok e2, fun H => ∃ p S acc xs, Mk C π p0 H0 Da p S H acc xs ∧ Kp C p1 H1 p H ∧ ∃ ds S2, compGo it g t me (wipeE δ vs) k (i + 1) acc S = .ok ds S2 ∧ Fin ds S2, fun H' h => ⟨k, Nat.lt_succ_self _, h⟩, fun x H' y => ?_⟩
        obtain ⟨s2, ok2, rx⟩ := w.yields i p S H d x H' kp.k mk.ok e2 y
        refine ⟨p, S, wipeE δ vs, d, mk.pi, ok2, (REnv.keep (s2.keep mk.ok) (REnv.keep kp.k re1)).wipe vs, rx, ?_⟩
        cases e3 : g d (wipeE δ vs) S with
        | stuck => rw [e3] at ego; cases ego
        | exc => rw [e3] at ego; cases ego
        | ok δ1 S3 =>
          rw [e3] at ego
          dsimp only at ego
          intro p3 H3 σ3 s3 ok3 re3 hw
          refine ⟨hw.trans wipe_wipe, p3, S3, δ1, s3.err.trans mk.pi, ok3, re3, ?_⟩
          cases e4 : t δ1 S3 with
          | stuck => rw [e4] at ego; cases ego
          | exc => rw [e4] at ego; cases ego
          | ok b S4 =>
            rw [e4] at ego
            dsimp only at ego
            intro p4 H4 b' s4 ok4 eb
            subst eb
            have s234 : Step p H p4 H4 := (s2.trans s3).trans s4
            have mk4 := mk.step s234 ok4
            have kp4 := kp.step mk.ok s234
            cases b with
            | false =>
              rw [if_neg Bool.false_ne_true] at ego ⊢
              exact ⟨p4, S4, acc, xs, mk4, kp4, ds, S2, ego, hf⟩
            | true =>
              rw [if_pos rfl] at ego ⊢
              refine ⟨p4, S4, δ1, mk4.pi, ok4, re3.keep (s4.keep ok3), ?_⟩
              cases e5 : me δ1 S4 with
              | stuck => rw [e5] at ego; cases ego
              | exc => rw [e5] at ego; cases ego
              | ok dy S5 =>
                rw [e5] at ego
                dsimp only at ego
                split at ego
                · rename_i hz
                  intro p5 H5 v s5 ok5 r5
                  have mk5 := mk4.step s5 ok5
                  have kp5 := kp4.step mk4.ok s5
                  have m5 : Da ∈ p5.hid := by rw [mk5.hid]; exact List.mem_cons_self
                  exact ⟨xs, mk5.at_, by rw [← mk5.rep.length]; exact hz, p5, S5, acc ++ [dy], xs ++ [v], (mk5.put hD r5).1, kp5.put ok5 m5 mk5.at_, ds, S2, ego, hf⟩
                · cases ego
/-- both loops -/
theorem lc2_walk {g g1 : GM} {t t1 : EM Bool} {me : EM D} {mi1 : EM ItD} {vs vs1 : List Nat} {p0 : Pl} {S1 : Store} {H0 : Hp} {J : It} {it : ItD} {δ : Env} {σ : L2.St} {Da : Addr} {Qd : Hp → Prop} (Fin : List D → Store → Prop) (hpi : p0.π = π) (ok0 : Ok C p0 S1 H0) (re0 : REnv C p0 H0 δ σ) (w : WalkOk C p0 H0 it J) (hD : H0 Da = none)
    (hgo : ∃ ds S2, comp2Go it g t (inGo mi1 g1 t1 me vs1) (wipeE δ vs) it.n 0 [] S1 = .ok ds S2 ∧ Fin ds S2)
    (hfin : ∀ p S H acc xs, Mk C π p0 H0 Da p S H acc xs → Fin acc S → Qd H) :
    ∃ W : Nat → Nat → Hp → Prop, (∃ m, W 0 m (upd H0 Da (.lst []))) ∧ ∀ i m H, W i m H →
      (J.stop i H ∧ Qd H) ∨ (J.go i H ∧ ∃ Nx : Hp → Prop, (∀ H', Nx H' → ∃ m', m' < m ∧ W (i + 1) m' H') ∧ ∀ x H', J.yld i H x H' → TGe C π vs g x (wipe σ vs) H' fun σ2 H2 => wipe σ2 vs = wipe σ vs ∧ TTe C π WF t σ2 H2 fun b H3 =>
        if b = true then TIe C π WF mi1 σ2 H3 fun J1 H4 => ∃ W1 : Nat → Nat → Hp → Prop, (∃ m, W1 0 m H4) ∧ ∀ j k H, W1 j k H →
          (J1.stop j H ∧ Nx H) ∨ (J1.go j H ∧ ∃ Nx1 : Hp → Prop, (∀ H', Nx1 H' → ∃ k', k' < k ∧ W1 (j + 1) k' H') ∧ ∀ x H', J1.yld j H x H' → TGe C π vs1 g1 x (wipe σ2 vs1) H' fun σ3 H5 => wipe σ3 vs1 = wipe σ2 vs1 ∧ TTe C π WF t1 σ3 H5 fun b H6 =>
            if b = true then TEe C π WF me σ3 H6 fun y H7 => ∃ acc, H7 Da = some (.lst acc) ∧ acc.length < sizeLine ∧ Nx1 (upd H7 Da (.lst (acc ++ [y]))) else Nx1 H6)
        else Nx H3) := by
  refine ⟨fun i k H => ∃ p S acc xs, Mk C π p0 H0 Da p S H acc xs ∧ ∃ ds S2, comp2Go it g t (inGo mi1 g1 t1 me vs1) (wipeE δ vs) k i acc S = .ok ds S2 ∧ Fin ds S2, ⟨it.n, { p0 with hid := Da :: p0.hid }, S1, [], [], ⟨hpi, rfl, Step.alloc hD, ok0.newHid hD, upd_same, by simp only [RepL]⟩, hgo⟩, ?_⟩
  rintro i k H ⟨p, S, acc, xs, mk, ds, S2, ego, hf⟩
  have kp : Keep C.K p0 H0 p H := Keep.hide mk.hid hD ok0 mk.st
  have stopped : it.item i S = some none → acc = ds → S = S2 → J.stop i H ∧ Qd H := fun e e1 e2 => by
    subst e1; subst e2
    exact ⟨w.stop i p S H kp mk.ok e, hfin p S H acc xs mk hf⟩
  cases k with
  | zero =>
    unfold comp2Go at ego
    cases e2 : it.item i S with
    | none => rw [e2] at ego; cases ego
    | some o =>
      rw [e2] at ego
      cases o with
      | none => injection ego with q1 q2; exact .inl (stopped e2 q1 q2)
      | some d => cases ego
  | succ k =>
    unfold comp2Go at ego
    cases e2 : it.item i S with
    | none => rw [e2] at ego; cases ego
    | some o =>
      rw [e2] at ego
      cases o with
      | none => injection ego with q1 q2; exact .inl (stopped e2 q1 q2)
      | some d =>
        dsimp only at ego
        refine .inr ⟨w.go i p S H d kp mk.ok e2, fun H => ∃ p S acc xs, Mk C π p0 H0 Da p S H acc xs ∧ ∃ ds S2, comp2Go it g t (inGo mi1 g1 t1 me vs1) (wipeE δ vs) k (i + 1) acc S = .ok ds S2 ∧ Fin ds S2, fun H' h => ⟨k, Nat.lt_succ_self _, h⟩, fun x H' y => ?_⟩
        obtain ⟨s2, ok2, rx⟩ := w.yields i p S H d x H' kp mk.ok e2 y
        refine ⟨p, S, wipeE δ vs, d, mk.pi, ok2, (REnv.keep (s2.keep mk.ok) (REnv.keep kp re0)).wipe vs, rx, ?_⟩
        cases e3 : g d (wipeE δ vs) S with
        | stuck => rw [e3] at ego; cases ego
        | exc => rw [e3] at ego; cases ego
        | ok δ1 S3 =>
          rw [e3] at ego
          dsimp only at ego
          intro p3 H3 σ3 s3 ok3 re3 hw
          refine ⟨hw.trans wipe_wipe, p3, S3, δ1, s3.err.trans mk.pi, ok3, re3, ?_⟩
          cases e4 : t δ1 S3 with
          | stuck => rw [e4] at ego; cases ego
          | exc => rw [e4] at ego; cases ego
          | ok b S4 =>
            rw [e4] at ego
            dsimp only at ego
            intro p4 H4 b' s4 ok4 eb
            subst eb
            have mk4 := mk.step ((s2.trans s3).trans s4) ok4
            cases b with
            | false =>
              rw [if_neg Bool.false_ne_true] at ego ⊢
              exact ⟨p4, S4, acc, xs, mk4, ds, S2, ego, hf⟩
            | true =>
              rw [if_pos rfl] at ego ⊢
              have re4 := re3.keep (s4.keep ok3)
              refine ⟨p4, S4, δ1, mk4.pi, ok4, re4, ?_⟩
              unfold inGo at ego
              cases e5 : mi1 δ1 S4 with
              | stuck => rw [e5] at ego; cases ego
              | exc => rw [e5] at ego; cases ego
              | ok it1 S5 =>
                rw [e5] at ego
                intro p5 H5 J1 s5 ok5 w5
                have mk5 := mk4.step s5 ok5
                have ego' : (match compGo it1 g1 t1 me (wipeE δ1 vs1) it1.n 0 acc S5 with
                  | .ok acc' S3 => comp2Go it g t (inGo mi1 g1 t1 me vs1) (wipeE δ vs) k (i + 1) acc' S3
                  | _ => .stuck) = .ok ds S2 := ego
                refine lc_in (Fin := fun acc' S' => ∃ ds S2, comp2Go it g t (inGo mi1 g1 t1 me vs1) (wipeE δ vs) k (i + 1) acc' S' = .ok ds S2 ∧ Fin ds S2) hD mk5 (re4.keep (s5.keep ok4)) w5 ?_ fun p6 S6 H6 acc6 xs6 mk6 _ hf6 => ⟨p6, S6, acc6, xs6, mk6, hf6⟩
                cases e6 : compGo it1 g1 t1 me (wipeE δ1 vs1) it1.n 0 acc S5 with
                | stuck => rw [e6] at ego'; cases ego'
                | exc => rw [e6] at ego'; cases ego'
                | ok acc' S7 =>
                  rw [e6] at ego'
                  exact ⟨acc', S7, rfl, ds, S2, ego', hf⟩
end
section
variable {X : Cx} {C : Cst} {π : Option (Addr × Obj)} {W : WX} {pos : Pos} {elt tg iter tg1 iter1 : Expr} {ifs ifs1 : List Expr} {scope : Scope} {own : List (Str × Nat)} {vs1 : List Nat} {mi mi1 : EM ItD} {g g1 : GM} {t t1 : EM Bool} {me : EM D}
theorem lc2_read {σ : L2.St} {H : Hp} {Q : VK} (h : TEe C π W (mLc2 mi g t mi1 g1 t1 me (own.map (·.2)) vs1) σ H Q) :
    tLc2 (TIe C π W mi) (TGe C π (own.map (·.2)) g) (TTe C π WF t) (TIe C π WF mi1) (TGe C π vs1 g1) (TTe C π WF t1) (TEe C π WF me) (own.map (·.2)) vs1 σ H Q := by
  obtain ⟨p, S, δ, hp, ok, re, po⟩ := h
  refine ⟨p, S, δ, hp, ok, re, ?_⟩
  unfold mLc2 at po
  cases e1 : mi δ S with
  | stuck => rw [e1] at po; exact po.elim
  | exc c d S1 => rw [e1] at po; exact po
  | ok it S1 =>
    rw [e1] at po
    have po' : Post C W p H σ (Rep C) Q (match comp2Go it g t (inGo mi1 g1 t1 me vs1) (wipeE δ (own.map (·.2))) it.n 0 [] S1 with
      | .ok ds S2 => .ok (.lst ds) S2
      | _ => .stuck) := po
    intro p0 H0 J s0 ok0 w Da hDa
    cases e2 : comp2Go it g t (inGo mi1 g1 t1 me vs1) (wipeE δ (own.map (·.2))) it.n 0 [] S1 with
    | stuck => rw [e2] at po'; exact po'.elim
    | exc => rw [e2] at po'; exact po'.elim
    | ok ds S2 =>
      rw [e2] at po'
      have po2 : Post C W p0 H0 σ (Rep C) Q (.ok (.lst ds) S2) := Post.step s0 po'
      exact lc2_walk (Fin := fun acc S => Post C W p0 H0 σ (Rep C) Q (.ok (.lst acc) S)) (s0.err.trans hp) ok0 (re.keep (s0.keep ok)) w hDa ⟨ds, S2, e2, po2⟩ fun p3 S3 H3 acc xs m hf => mk_val ok0 hDa m.hid m.st m.ok m.at_ m.rep hf
end

namespace EvLow2
open PySem PySem.Spec PyProof.Rows L2 HT
section
variable {prog : Program} {w : World} {A : Around} {E : Value → Shared → Prop} {s : Shared}
theorem fm_congr {α β : Type} {f g : α → Option β} : ∀ {l : List α}, (∀ k ∈ l, f k = g k) → l.filterMap f = l.filterMap g
  | [], _ => rfl
  | a :: l, h => by
    rw [List.filterMap_cons, List.filterMap_cons, h a List.mem_cons_self, fm_congr fun k hk => h k (List.mem_cons_of_mem _ hk)]
theorem pick_rev (xs : Array Value) : ((List.range xs.size).filterMap fun (k : Nat) => xs[(((xs.size : Int) - 1) + (k : Int) * (-1)).toNat]?).toArray = xs.toList.reverse.toArray := by
  have e : (List.range xs.size).filterMap (fun (k : Nat) => xs[(((xs.size : Int) - 1) + (k : Int) * (-1)).toNat]?) = (((List.range xs.size).map fun k => xs.size - 1 - k).filterMap (xs[·]?)) := by
    rw [List.filterMap_map]
    refine fm_congr fun k hk => ?_
    have hk := List.mem_range.mp hk
    show xs[(((xs.size : Int) - 1) + (k : Int) * (-1)).toNat]? = xs[xs.size - 1 - k]?
    have : (((xs.size : Int) - 1) + (k : Int) * (-1)).toNat = xs.size - 1 - k := by omega
    rw [this]
  rw [e]
  congr 1
  -- the same as for the signs of a text
  apply List.ext_getElem?
  intro i
  have all : ((List.range xs.size).map fun k => xs.size - 1 - k).filterMap (xs[·]?) = (List.range xs.size).pmap (fun k (h : k < xs.size) => xs[xs.size - 1 - k]'(by omega)) (fun k hk => List.mem_range.mp hk) := by
    rw [List.filterMap_map]
    have : ∀ (l : List Nat) (hl : ∀ k ∈ l, k < xs.size), l.filterMap ((xs[·]?) ∘ fun k => xs.size - 1 - k) = l.pmap (fun k (h : k < xs.size) => xs[xs.size - 1 - k]'(by omega)) hl := by
      intro l
      induction l with
      | nil => intro _; rfl
      | cons a l ih =>
        intro hl
        have ha := hl a List.mem_cons_self
        rw [List.filterMap_cons_some (b := xs[xs.size - 1 - a]'(by omega)) (by simp), List.pmap_cons, ih]
    exact this _ _
  rw [all]
  by_cases hi : i < xs.size
  · rw [List.getElem?_pmap, List.getElem?_reverse (by simpa using hi)]
    simp [hi]
  · rw [List.getElem?_eq_none (by simp; omega), List.getElem?_eq_none (by simp; omega)]
theorem slice_back {b : Addr} {v : Value} {n : Nat} {Q : Int × Int × Nat → Shared → Prop} (hb : s.heap.IsSliceOf b .none .none v) (hv : IsPart v (some (-1))) (q : Q ((n : Int) - 1, -1, n) s) :
    wpAny (model prog w) A (Builtin.Slice.sliceApplied (.ref b) (pure (n : Int))) Q E s := by
  obtain ⟨o, ho, _, hd⟩ := id hb
  unfold Builtin.Slice.sliceApplied Builtin.Slice.sliceFields
  refine wpAny_bind (wpAny_bind (wpAny_field ho hd (x := .none) rfl (wpAny_bind (wpAny_field ho hd (x := .none) rfl (wpAny_bind (wpAny_field ho hd (x := v) rfl (wpAny_pure ?_)))))))
  refine wpAny_bind (slicePart_ hv ?_)
  show wpAny _ _ (if ((-1 : Int) == 0) = true then _ else _) _ _ s
  rw [if_neg (by decide)]
  refine wpAny_bind (slicePart_ .none (wpAny_bind (slicePart_ .none (wpAny_bind (wpAny_pure ?_)))))
  show wpAny _ _ (match Builtin.Slice.sliceAdjust none none (-1) (n : Int) with | (lo, hi) => pure (lo, (-1 : Int), Builtin.Slice.slicePlaces lo hi (-1))) _ _ s
  have e1 : Builtin.Slice.sliceAdjust none none (-1) (n : Int) = ((n : Int) - 1, -1) := by
    unfold Builtin.Slice.sliceAdjust
    have z : ((-1 : Int) < 0) := by decide
    simp only [z, if_true]
  rw [e1]
  have e2 : Builtin.Slice.slicePlaces ((n : Int) - 1) (-1) (-1) = n := by
    unfold Builtin.Slice.slicePlaces
    have z : ¬ ((-1 : Int) > 0) := by decide
    simp only [z, if_false]
    rw [show (- -1 : Int) = 1 from rfl, Int.ediv_one]
    split <;> omega
  show wpAny _ _ (pure ((n : Int) - 1, (-1 : Int), Builtin.Slice.slicePlaces ((n : Int) - 1) (-1) (-1))) _ _ s
  rw [e2]
  exact wpAny_pure q
theorem tuple_back {a b : Addr} {xs : Array Value} {v : Value} {Q : Value → Shared → Prop} (ha : IsTup s.heap a xs) (hb : s.heap.IsSliceOf b .none .none v) (hv : IsPart v (some (-1)))
    (q : Q (.ref s.heap.objs.size) { s with heap := s.heap.push { cls := .type "tuple", data := .seq xs.toList.reverse.toArray } }) (hz : xs.size ≤ sizeLine) : wpAny (model prog w) A (getItem (.ref a) (.ref b)) Q E s := by
  have small : sizeOk (.seq xs.toList.reverse.toArray) := by
    show xs.toList.reverse.toArray.size ≤ sizeLine
    simpa using hz
  obtain ⟨o, ho, hc, _⟩ := id hb
  have tb : s.TypeIs (.ref b) "slice" := ⟨o, ho, hc⟩
  unfold getItem
  try with_reducible refine wpAny_holding ?_
  first | refine wpAny_bind (wpAny_pure ?_) | skip
  refine wpAny_bind (wpAny_sequenceKey ha.typeIs (by decide) (wpAny_bind (wpAny_callSpecial?_slot (name := Str.ofString "__getitem__") ha.typeIs PyProof.Rows.slot_tuple_getitem (wpAny_call_entry PyProof.Rows.slot_tuple_getitem ha.typeIs entry_tuple_getitem ?_ (args_tuple_getitem _ _)))))
  show wpAny _ _ (Builtin.Tuple.tupleItemsOf (.ref a) >>= _) _ _ s
  refine wpAny_bind (tupleItemsOf_ ha (wpAny_bind (wpAny_typeOf tb ?_)))
  rw [if_pos (by decide)]
  refine wpAny_bind (slice_back hb hv ?_)
  show wpAny _ _ (if (((xs.size : Int) - 1) == 0 && (-1 : Int) == 1 && xs.size == xs.size) = true then _ else _) _ _ s
  rw [if_neg (by simp), pick_rev]
  first
    | exact wpAny_bind (m := Builtin.Tuple.tupleExact _) (wpAny_newObj_type (wpAny_pure ⟨_, rfl, wpAny_pure q⟩) small)
    | exact wpAny_bind (m := Builtin.Tuple.tupleExact _) (wpAny_newObj_type (wpAny_bind (wpAny_pure (wpAny_pure ⟨_, rfl, wpAny_pure q⟩))) small)
    | exact wpAny_bind (wpAny_bind (m := Builtin.Tuple.tupleExact _) (wpAny_newObj_type (wpAny_pure (wpAny_pure ⟨_, rfl, wpAny_pure q⟩)) small))
    | exact wpAny_bind (wpAny_bind (m := Builtin.Tuple.tupleExact _) (wpAny_newObj_type (wpAny_pure ⟨_, rfl, wpAny_pure q⟩) small))
end
end EvLow2
open PySem PySem.Spec PyProof.Rows L2
/-! ### e[::-1], tuples too -/
def revD2 (S : Store) (d : D) : Option D := match d with
  | .tup ds => some (.tup ds.reverse)
  | d => revD S d
section
variable {X : Cx} {C : Cst} {π : Option (Addr × Obj)} {W : WX} {e : Expr} {m : EM D} {k : Nat} {p1 p2 p3 pos : Pos} {te : TE}
def tRevT (K : PySem.W.Frag) (te : TE) : TE := fun σ H Q => te σ H fun x H1 => ∃ (a : Addr) (xs : List V), x = .ref a ∧ SqT K H1 a xs ∧ ∀ q, H1 q = none → Q (.ref q) (upd H1 q (.tup xs.reverse))
theorem pe_revT (he : PE X e te) : PE X (.Subscript e (.Slice none none (some (.UnaryOp .USub (.Constant (.int 1) k p1) p2)) p3) pos) (tRevT X.K te) := by
  refine ⟨fun pi s σ H Q I h => Subscript_ (thn (he.run pi s σ H _ I h) fun v s1 ⟨x, H1, I1, r1, a, xs, ex, hx, q⟩ => ?_)⟩
  subst ex
  cases r1
  have hst : PO X (some (.UnaryOp .USub (.Constant (.int 1) k p1) p2)) (tPart (tUn (rU fun i => .int (-i)) (tC (.int 1)))) := po_some (pe_un un_neg pe_int)
  refine wpAny_Slice (thn (po_none.run pi s1 σ H1 (fun o H2 => o = none ∧ H2 = H1) I1 ⟨rfl, rfl⟩) fun vl s2 ⟨l, H2, I2, pl, el, e2⟩ => ?_)
  subst el e2
  refine thn (po_none.run pi s2 σ H2 (fun o H3 => o = none ∧ H3 = H2) I2 ⟨rfl, rfl⟩) fun vu s3 ⟨u, H3, I3, pu, eu, e3⟩ => ?_
  subst eu e3
  refine thn (hst.run pi s3 σ H3 (fun o H4 => o = some (-1) ∧ H4 = H3) I3 ⟨1, rfl, -1, rfl, rfl, rfl⟩) fun vs s4 ⟨o, H4, I4, ps, eo, e4⟩ => ?_
  subst eo e4
  cases pl
  cases pu
  have I5 : Inv X pi σ H4 { s4 with heap := s4.heap.push { cls := .type "slice", data := .fields #[.none, .none, vs] } } := I4.kept (t' := s4.toks) fun b ob q => Heap.get?_push_of_some _ q
  obtain ⟨its, r, ht, hz⟩ := I5.tuple hx
  have hl := r.length
  show wpAny (model X.prog X.w) X.A (subscriptTail e (.Slice none none (some (.UnaryOp .USub (.Constant (.int 1) k p1) p2)) p3) (.ref a) (.ref s4.heap.objs.size)) (EP X pi σ Q) X.xe { s4 with heap := s4.heap.push { cls := .type "slice", data := .fields #[.none, .none, vs] } }
  refine tail_any (ops := [.ref a, .ref s4.heap.objs.size]) (show IsTup _ a its.toArray from ht).typeIs (PyProof.Rows.slot_tuple_getitem.lookup) ?_ (by with_unfolding_all rfl)
  refine EvLow2.tuple_back ht (Heap.IsSliceOf.new _ .none .none vs) ps ?_ (by rw [List.size_toArray]; omega)
  refine ⟨.ref _, _, I5.laid (t' := s4.toks) (o := .tup xs.reverse) (fun b ob q => Heap.get?_push_of_some _ q) (Nat.le_refl _) ?_, rfl, q _ (I5.hok.fresh (Nat.le_refl _))⟩
  exact ⟨by rw [List.length_reverse]; exact hz, _, r.reverse, IsTup.new _ _⟩
def mRev2 (m : EM D) : EM D := mUn revD2 m
theorem e_rev2 (hK : X.K = C.K) (he : PE X e (TEe C π W m)) : PE X (.Subscript e (.Slice none none (some (.UnaryOp .USub (.Constant (.int 1) k p1) p2)) p3) pos) (TEe C π W (mRev2 m)) :=
  pe_mono (pe_or (pe_revT he) (e_rev hK he)) fun σ H Q ⟨p, S, δ, hp, ok, re, po⟩ => by
    have po' : Post C W p H σ (Rep C) Q ((m δ S).bind fun x S1 => out (revD2 S1 x) S1) := po
    cases e1 : m δ S with
    | stuck => rw [e1] at po'; exact po'.elim
    | exc c d S1 => exact .inl ⟨p, S, δ, hp, ok, re, by rw [e1] at po' ⊢; exact po'⟩
    | ok d S1 =>
      rw [e1] at po'
      have other : Post C W p H σ (Rep C) Q (out (revD S1 d) S1) → TEe C π W (mRev m) σ H Q := fun z => ⟨p, S, δ, hp, ok, re, by
        show Post C W p H σ (Rep C) Q ((m δ S).bind fun x S1 => out (revD S1 x) S1)
        rw [e1]
        exact z⟩
      cases d with
      | tup ds =>
        refine .inl ⟨p, S, δ, hp, ok, re, ?_⟩
        rw [e1]
        intro p1 H1 v s1 ok1 r1
        obtain ⟨a, vs, rfl, q1, q2⟩ := tup_rep r1
        have w : Wants C p1 S1 H1 (.tup ds.reverse) Q := fun p' H' v s o r => po' p' H' v (s1.trans s) o r
        exact ⟨a, vs, rfl, by rw [hK]; exact q1, fun q hq => w.tup ok1 q2.rev hq⟩
      | _ => exact .inr (other po')
end
open PySem PySem.Spec PyProof.Rows L2
/-! ### min, max of a list too -/
def bestL (lt : Int → Int → Bool) : List Int → Option Int
  | [] => none
  | i :: is => some (is.foldl (fun b j => if lt b j then j else b) i)
theorem fold_mem (lt : Int → Int → Bool) : ∀ (is : List Int) (i : Int), is.foldl (fun b j => if lt b j then j else b) i = i ∨ is.foldl (fun b j => if lt b j then j else b) i ∈ is
  | [], i => .inl rfl
  | j :: js, i => by
    rw [List.foldl_cons]
    rcases fold_mem lt js (if lt i j then j else i) with h | h
    · rw [h]
      split
      · exact .inr List.mem_cons_self
      · exact .inl rfl
    · exact .inr (List.mem_cons_of_mem _ h)
theorem fold_max : ∀ (is : List Int) (i : Int), i ≤ is.foldl (fun b j => if decide (b < j) then j else b) i ∧ ∀ j ∈ is, j ≤ is.foldl (fun b j => if decide (b < j) then j else b) i
  | [], i => ⟨Int.le_refl _, fun _ h => by cases h⟩
  | j :: js, i => by
    rw [List.foldl_cons]
    obtain ⟨h1, h2⟩ := fold_max js (if decide (i < j) then j else i)
    have e : i ≤ (if decide (i < j) then j else i) ∧ j ≤ (if decide (i < j) then j else i) := by
      by_cases h : i < j
      · rw [decide_eq_true h, if_pos rfl]; omega
      · rw [decide_eq_false h, if_neg (by simp)]; omega
    refine ⟨by omega, fun k hk => ?_⟩
    rcases List.mem_cons.mp hk with rfl | hk
    · omega
    · exact h2 k hk
theorem fold_min : ∀ (is : List Int) (i : Int), is.foldl (fun b j => if decide (j < b) then j else b) i ≤ i ∧ ∀ j ∈ is, is.foldl (fun b j => if decide (j < b) then j else b) i ≤ j
  | [], i => ⟨Int.le_refl _, fun _ h => by cases h⟩
  | j :: js, i => by
    rw [List.foldl_cons]
    obtain ⟨h1, h2⟩ := fold_min js (if decide (j < i) then j else i)
    have e : (if decide (j < i) then j else i) ≤ i ∧ (if decide (j < i) then j else i) ≤ j := by
      by_cases h : j < i
      · rw [decide_eq_true h, if_pos rfl]; omega
      · rw [decide_eq_false h, if_neg (by simp)]; omega
    refine ⟨by omega, fun k hk => ?_⟩
    rcases List.mem_cons.mp hk with rfl | hk
    · omega
    · exact h2 k hk
def maxL : List Int → Option Int := bestL fun b j => decide (b < j)
def minL : List Int → Option Int := bestL fun b j => decide (j < b)
theorem maxL_ok {is : List Int} {m : Int} (h : maxL is = some m) : m ∈ is ∧ ∀ j ∈ is, j ≤ m := by
  cases is with
  | nil => cases h
  | cons i is =>
    unfold maxL bestL at h
    cases h
    obtain ⟨h1, h2⟩ := fold_max is i
    refine ⟨?_, fun j hj => ?_⟩
    · rcases fold_mem (fun b j => decide (b < j)) is i with z | z
      · rw [z]; exact List.mem_cons_self
      · exact List.mem_cons_of_mem _ z
    · rcases List.mem_cons.mp hj with rfl | hj
      · exact h1
      · exact h2 j hj
theorem minL_ok {is : List Int} {m : Int} (h : minL is = some m) : m ∈ is ∧ ∀ j ∈ is, m ≤ j := by
  cases is with
  | nil => cases h
  | cons i is =>
    unfold minL bestL at h
    cases h
    obtain ⟨h1, h2⟩ := fold_min is i
    refine ⟨?_, fun j hj => ?_⟩
    · rcases fold_mem (fun b j => decide (j < b)) is i with z | z
      · rw [z]; exact List.mem_cons_self
      · exact List.mem_cons_of_mem _ z
    · rcases List.mem_cons.mp hj with rfl | hj
      · exact h1
      · exact h2 j hj
def maxLD := onL unI fun is => (maxL is).map D.int
def minLD := onL unI fun is => (minL is).map D.int
def maxD2 (S : Store) (ds : List D) : Option D := match ds with
  | [d] => maxLD S [d]
  | ds => maxD S ds
def minD2 (S : Store) (ds : List D) : Option D := match ds with
  | [d] => minLD S [d]
  | ds => minD S ds
section
variable {X : Cx} {C : Cst}
theorem maxL_call (hK : X.K = C.K) (hc : X.calm = true) : CallR X (.builtin "max") (rVs C maxLD) :=
  onL_ok (cr_max hc) (fun _ _ => unI_map) fun p S a vs q d H Q ok rl sq e w => by
    obtain ⟨m, hm, rfl⟩ := Option.map_eq_some_iff.mp e
    obtain ⟨h1, h2⟩ := maxL_ok hm
    refine ⟨q, a, rfl, by rw [← rl.ints, hK]; exact sq, List.length_pos_of_mem h1, fun m' h3 h4 => ?_⟩
    have z : m' = m := by
      have := h2 m' h3
      have := h4 m h1
      omega
    rw [z]
    exact w.here ok (by simp only [Rep])
theorem minL_call (hK : X.K = C.K) (hc : X.calm = true) : CallR X (.builtin "min") (rVs C minLD) :=
  onL_ok (cr_min hc) (fun _ _ => unI_map) fun p S a vs q d H Q ok rl sq e w => by
    obtain ⟨m, hm, rfl⟩ := Option.map_eq_some_iff.mp e
    obtain ⟨h1, h2⟩ := minL_ok hm
    refine ⟨q, a, rfl, by rw [← rl.ints, hK]; exact sq, List.length_pos_of_mem h1, fun m' h3 h4 => ?_⟩
    have z : m' = m := by
      have := h2 m' h3
      have := h4 m h1
      omega
    rw [z]
    exact w.here ok (by simp only [Rep])
theorem max_ok2 (hK : X.K = C.K) (hc : X.calm = true) : CallR X (.builtin "max") (rVs C maxD2) := by
  intro pins s σ H xs us Q I r hh
  obtain ⟨p, S, ds, e, ok, rl, eg, w⟩ := hh
  unfold maxD2 at eg
  split at eg
  · exact maxL_call hK hc pins s σ H xs us Q I r ⟨p, S, _, e, ok, rl, eg, w⟩
  · exact max_ok hc pins s σ H xs us Q I r ⟨p, S, _, e, ok, rl, eg, w⟩
theorem min_ok2 (hK : X.K = C.K) (hc : X.calm = true) : CallR X (.builtin "min") (rVs C minD2) := by
  intro pins s σ H xs us Q I r hh
  obtain ⟨p, S, ds, e, ok, rl, eg, w⟩ := hh
  unfold minD2 at eg
  split at eg
  · exact minL_call hK hc pins s σ H xs us Q I r ⟨p, S, _, e, ok, rl, eg, w⟩
  · exact min_ok hc pins s σ H xs us Q I r ⟨p, S, _, e, ok, rl, eg, w⟩
end

namespace EvLow3
open PySem PySem.Spec PyProof.Rows L2
/-- t * 1 is t -/
theorem tuple_once (l : Addr) (items : Array Value) (n : Nat) (dd : Option Addr) (sl : Array (Option Value)) (u : Tok) :
    Meets (Builtin.«tuple.__mul__» ⟨[.ref l, .int 1 u], []⟩) (fun _ R s => s.heap.get? l = some { cls := .type "tuple", dict := dd, data := .seq items n, slots := sl } ∧ R (.ok (.ret (Value.ref l))) s) :=
  .of_wp fun prog w A R s h => by
    obtain ⟨hp, g, d, tk, os⟩ := s
    obtain ⟨hl, h⟩ := h
    have f1 := AutoSeq1.idx_int
    wp_walk using wpAny_loadPart' hl
    exact ⟨_, rfl, h⟩
section
variable {X : Cx}
theorem op_once : OpR X (binaryOp .Mult) (fun x y H Q => ∃ l xs, x = .ref l ∧ y = .int 1 ∧ SqT X.K H l xs ∧ Q (.ref l) H) := by
  intro pins s σ H x y v u Q I rx ry h
  obtain ⟨l, xs, rfl, rfl, hT, q⟩ := h
  cases rx
  obtain ⟨t, rfl⟩ := ry
  obtain ⟨its, r, ⟨⟨cls, dd, data, sl⟩, ho, hc, n, hd⟩, hs⟩ := I.tuple hT
  simp only at hc hd
  subst hc hd
  refine wpAny_binaryOp_repeat_ref (T := "tuple") (U := "int") (by decide) ⟨_, ho, rfl⟩ (fun s' => typeIs_int s' 1 t) noFill_tuple_mul F.fills_int_mul F.slot_int_rmul repeat_tuple F.slot_int_index.lookup
    (call_meets F.slot_int_rmul (typeIs_int s 1 t) F.entry_int_rmul (F.args_int_rmul_2 _ _) (int_rmul_tuple 1 t l its.toArray n dd sl)
      ⟨ho, rfl, ⟨_, ho, rfl⟩, call_meets F.slot_tuple_mul ⟨_, ho, rfl⟩ F.entry_tuple_mul (F.args_tuple_mul_2 _ _) (tuple_once l its.toArray n dd sl t) ⟨ho, ?_⟩⟩)
  exact ⟨.ref l, H, I, rfl, q⟩
end
end EvLow3
open PySem PySem.Spec PyProof.Rows L2
/-- (..) * n, also once -/
def mulT (S : Store) (a b : D) : Option D := match a, b with
  | .tup xs, .int k => if k = 1 then some (.tup xs) else mulV S (.tup xs) (.int k)
  | a, b => mulV S a b
section
variable {X : Cx} {C : Cst}
theorem mulT_ok (hK : X.K = C.K) : OpR X (binaryOp .Mult) (rV2 C mulT) := by
  intro pins s σ H x y v u Q I rx ry h
  obtain ⟨p, S, dx, dy, d, ok, r1, r2, e, w⟩ := h
  have rest : mulV S dx dy = some d → wpAny (model X.prog X.w) X.A (binaryOp .Mult v u) (EP X pins σ Q) X.xe s := fun e => mul_ok hK pins s σ H x y v u Q I rx ry ⟨p, S, dx, dy, d, ok, r1, r2, e, w⟩
  cases dx with
  | tup xs =>
    cases dy with
    | int k =>
      unfold mulT at e
      dsimp only at e
      split at e
      · rename_i hk
        cases e
        subst hk
        obtain ⟨a, vs, e1, q1, q2⟩ := tup_rep r1
        simp only [Rep] at r2
        exact EvLow3.op_once pins s σ H x y v u Q I rx ry ⟨a, vs, e1, r2, by rw [hK]; exact q1, w.here ok (by rw [← e1]; exact r1)⟩
      · exact rest e
    | _ => exact rest e
  | _ => exact rest e
end
theorem mulT_1 {S : Store} {xs : List D} : mulT S (.tup xs) (.int 1) = some (.tup xs) := rfl
theorem mulT_n {S : Store} {x : D} {n : Nat} (h1 : 1 ≤ n) (h2 : n ≤ 1000) : mulT S (.tup [x]) (.int (n : Nat)) = some (.tup (List.replicate n x)) := by
  by_cases z : n = 1
  · subst z; rfl
  · have e : mulT S (.tup [x]) (.int (n : Nat)) = mulV S (.tup [x]) (.int (n : Nat)) := if_neg (by omega)
    rw [e]
    unfold mulV
    dsimp only
    rw [if_pos ⟨by simp, by omega, by omega, by simp⟩]
    have : (List.replicate ((n : Nat) : Int).toNat [x]).flatten = List.replicate n x := by
      rw [Int.toNat_natCast]
      clear e z h1 h2
      induction n with
      | zero => rfl
      | succ n ih => rw [List.replicate_succ, List.flatten_cons, ih, List.replicate_succ]; rfl
    rw [this]

open PySem PySem.Spec PyProof.Rows L2
open He (ga ma frG frG_in frG_at asD fnW eqO eqO_ok)

/-! ### an own error class: its __init__ as it stands -/
abbrev FnI : Type := Option (Str × Str × Arguments × FuncBody × Scope × Addr × List Str × Value × Addr)
def fnI (K : PySem.W.Frag) (x : Str) : FnI := match K.lookup (ma K (ga K x) "__init__") with
  | some ⟨_, _, .func fd, _⟩ => some (fd.name, fd.qualname, fd.params, fd.body, fd.scope, fd.globals, fd.closure.map (·.1), fd.defaults, fd.builtins)
  | _ => none
/-- an error class of the text: its name, its field, its __init__'s qualified name, parameters, body, scope -/
structure ErrD where
  name : Str
  fld : Str
  qual : Str
  params : Arguments
  body : List Stmt
  scope : Scope
def ErrD.val (d : ErrD) : FnI := some ("__init__", d.qual, d.params, .stmts d.body, d.scope, mainGlobals, ["__class__"], .none, builtinsNs)
/-- the cell, the code object -/
def errCell (K : PySem.W.Frag) (x : Str) : Addr := match K.lookup (ma K (ga K x) "__init__") with
  | some ⟨_, _, .func fd, _⟩ => (match fd.closure with
    | [(_, c)] => c
    | _ => 0)
  | _ => 0
def errCode (K : PySem.W.Frag) (x : Str) : Addr := match K.lookup (ma K (ga K x) "__init__") with
  | some ⟨_, _, .func fd, _⟩ => (match fd.code with
    | .ref c => c
    | _ => 0)
  | _ => 0
def oexB (K : PySem.W.Frag) (C : Addr) : Bool := (match K.lookup C with
  | some ⟨.type t, _, .cls cd, sl⟩ => decide (t = "type") && (match cd.mro, sl.toList with
    | .ref C' :: bm, [_, _, _, _, some (.builtin n), _] => decide (C' = C) && (decide (n = "ValueError.__new__") && (!cd.hasDel && (cd.hasDict && PySem.HandSPX.refsVE bm)))
    | _, _ => false)
  | _ => false) && (eqO (PySem.W.findIn K (.ref C) "__setattr__") (some (some (.builtin "object.__setattr__"))) && (decide (PySem.W.subIn K (.ref C) (.type "BaseException") = some true) && (decide (PySem.W.typeIn K (.ref C) = some (.type "type")) && PySem.W.keepIn K (.ref C))))
theorem band {a b : Bool} (h : (a && b) = true) : a = true ∧ b = true := Bool.and_eq_true_iff.mp h
theorem oexB_ok {K : PySem.W.Frag} {C : Addr} (h : oexB K C = true) : OexC K C := by
  obtain ⟨h1, h⟩ := band h
  obtain ⟨h2, h⟩ := band h
  obtain ⟨h3, h⟩ := band h
  obtain ⟨h4, h5⟩ := band h
  refine ⟨?_, eqO_ok h2, of_decide_eq_true h3, of_decide_eq_true h4, h5⟩
  split at h1
  · rename_i t dd cd sl ho
    obtain ⟨a1, g1⟩ := band h1
    clear h1
    have et : t = "type" := of_decide_eq_true a1
    clear a1
    subst et
    split at g1
    · rename_i C' bm k0 k1 k2 k3 n k5 hm hs
      obtain ⟨a2, g2⟩ := band g1
      obtain ⟨a3, g3⟩ := band g2
      obtain ⟨a4, g4⟩ := band g3
      obtain ⟨a5, a6⟩ := band g4
      have e2 : C' = C := of_decide_eq_true a2
      have e3 : n = "ValueError.__new__" := of_decide_eq_true a3
      subst e2; subst e3
      obtain ⟨nm, bs, mro, ns, qn, hd, sn, sub, ab, col, del⟩ := cd
      simp only at hm a4 a5
      subst hm; subst a5
      have e4 : del = false := by simpa using a4
      subst e4
      have hsl : sl = #[k0, k1, k2, k3, some (.builtin "ValueError.__new__"), k5] := by
        obtain ⟨l⟩ := sl
        simp only at hs
        rw [hs]
      subst hsl
      exact ⟨nm, qn, ns, bs, bm, sn, sub, ab, col, dd, k0, k1, k2, k3, k5, ho, a6⟩
    · cases g1
  · cases h1
def isCB (K : PySem.W.Frag) (D : Addr) (fl : Str) : Bool := (PySem.W.clsIn K D).isSome && (eqO (PySem.W.findIn K (.ref D) "__getattribute__") (some (some (.builtin "BaseException.__getattribute__"))) && (eqO (PySem.W.findIn K (.ref D) "__getattr__") (some none) && (decide (PySem.W.subIn K (.ref D) (.type "BaseException") = some true) &&
  (eqO (PySem.W.findIn K (.ref D) "__class__") (some (some (.builtin "object.__class__"))) && (eqO (PySem.W.specialIn K (.builtin "object.__class__") "__get__") (some (some (.builtin "getset_descriptor.__get__"))) && (decide (PySem.W.takesIn K (.builtin "object.__class__") = some true) &&
  (decide (PySem.W.mroIn K D (.type "object") = some true) && (PySem.W.hasDictIn K D && eqO (PySem.W.findIn K (.ref D) fl) (some none)))))))))
theorem isCB_ok {K : PySem.W.Frag} {D : Addr} {fl : Str} (h : isCB K D fl = true) : IsC K D fl := by
  obtain ⟨h1, h⟩ := band h
  obtain ⟨h2, h⟩ := band h
  obtain ⟨h3, h⟩ := band h
  obtain ⟨h4, h⟩ := band h
  obtain ⟨h5, h⟩ := band h
  obtain ⟨h6, h⟩ := band h
  obtain ⟨h7, h⟩ := band h
  obtain ⟨h8, h⟩ := band h
  obtain ⟨h9, h10⟩ := band h
  exact ⟨h1, eqO_ok h2, eqO_ok h3, of_decide_eq_true h4, eqO_ok h5, eqO_ok h6, of_decide_eq_true h7, of_decide_eq_true h8, h9, eqO_ok h10⟩
/-- all that is asked of an error class -/
def errB (P : Program) (K : PySem.W.Frag) (d : ErrD) : Bool := eqO (PySem.W.nsIn K mainGlobals d.name) (some (some (.ref (ga K d.name)))) && (oexB K (ga K d.name) && (isCB K (ga K d.name) d.fld && (eqO (PySem.W.findIn K (.ref (ga K d.name)) "__init__") (some (some (.ref (ma K (ga K d.name) "__init__")))) &&
  (decide (PySem.W.typeIn K (.ref (ma K (ga K d.name) "__init__")) = some (.type "function")) && ((match K.lookup (errCell K d.name) with
    | some ⟨_, _, .cell (some (.ref D)), _⟩ => decide (D = ga K d.name)
    | _ => false) && ((match K.lookup (errCode K d.name) with
    | some ⟨_, _, .fields vs, _⟩ => (match (vs[2]? : Option Value) with
      | some (.str file _) => ((P.main.file : Str) == file)
      | _ => false)
    | _ => false) && ((match K.lookup (ma K (ga K d.name) "__init__") with
    | some ⟨_, _, .func fd, _⟩ => (match fd.closure with
      | [(y, _)] => decide (y = ("__class__" : Str))
      | _ => false) && (match fd.code with
      | .ref _ => true
      | _ => false)
    | _ => false) && (PySem.W.codeIn K (.ref (errCode K d.name)) d.qual && (decide (PySem.W.mroIn K (ga K d.name) (.ref (ga K d.name)) = some true) && (decide (PySem.W.subIn K (.ref (ga K d.name)) (.type "ValueError") = some true) &&
  (eqO (PySem.W.ks_superIn K (ga K d.name) (ga K d.name) "__init__") (some (some (.builtin "ValueError.__init__"))) && eqO (PySem.W.nsIn K PySem.cStatics "thirdparty.any") (some none))))))))))))
structure ErrOk (P : Program) (K : PySem.W.Frag) (mg : Str → Option Value) (d : ErrD) : Prop where
  glo : mg d.name = some (.ref (ga K d.name))
  init : InitFacts P K mg (ga K d.name) (errCell K d.name) (errCode K d.name) d.fld
  isC : IsC K (ga K d.name) d.fld
  fI : PySem.W.findIn K (.ref (ga K d.name)) "__init__" = some (some (.ref (ma K (ga K d.name) "__init__")))
  tI : PySem.W.typeIn K (.ref (ma K (ga K d.name) "__init__")) = some (.type "function")
  lk : ∃ (oc : Value) (od : Option Addr) (osl : Array (Option Value)) (kV doc pm : Value) (an : Option Addr) (ct : Value), K.lookup (ma K (ga K d.name) "__init__") = some ⟨oc, od, .func (PySem.W.ksFn "__init__" d.qual d.params d.body d.scope .none kV doc pm an (.ref (errCode K d.name)) ct (errCell K d.name)), osl⟩
  cd : PySem.W.codeIn K (.ref (errCode K d.name)) d.qual = true
theorem errB_ok {P : Program} {K : PySem.W.Frag} {h : Heap} {mg : Str → Option Value} {d : ErrD} (X : K.In h) (G : h.Ns mainGlobals mg) (hs : mg "super" = none) (ht : (P.main.scope.names.lookup ("super" : Str)).isSome = false) (e : fnI K d.name = d.val) (hb : errB P K d = true) : ErrOk P K mg d := by
  obtain ⟨h1, hb⟩ := band hb
  obtain ⟨h2, hb⟩ := band hb
  obtain ⟨h3, hb⟩ := band hb
  obtain ⟨h4, hb⟩ := band hb
  obtain ⟨h5, hb⟩ := band hb
  obtain ⟨h6, hb⟩ := band hb
  obtain ⟨h7, hb⟩ := band hb
  obtain ⟨h8, hb⟩ := band hb
  obtain ⟨h9, hb⟩ := band hb
  obtain ⟨h10, hb⟩ := band hb
  obtain ⟨h11, hb⟩ := band hb
  obtain ⟨h12, h13⟩ := band hb
  have IC := isCB_ok h3
  refine ⟨PySem.W.mg_of X G (eqO_ok h1), ⟨oexB_ok h2, IC.no, ?_, ?_, of_decide_eq_true h10, of_decide_eq_true h11, eqO_ok h12, eqO_ok h13, hs, ht⟩, IC, eqO_ok h4, of_decide_eq_true h5, ?_, h9⟩
  · split at h6
    · rename_i cl cld D csl q
      have eD : D = ga K d.name := of_decide_eq_true h6
      subst eD
      exact ⟨cl, cld, csl, q⟩
    · cases h6
  · split at h7
    · rename_i cl cld vs csl q
      split at h7
      · rename_i file tf hv
        exact ⟨cl, cld, vs, csl, file, tf, q, hv, h7⟩
      · cases h7
    · cases h7
  · unfold fnI at e
    unfold errCode errCell
    split at h8
    · rename_i oc od fd osl q
      rw [q] at e ⊢
      obtain ⟨n1, n2, n3, n4, n5, n6, n7, n8, n9, n10, n11, n12, n13, n14, n15⟩ := fd
      simp only [ErrD.val, Option.some.injEq, Prod.mk.injEq] at e
      obtain ⟨e1, e2, e3, e4, e5, e6, e7, e9, e8⟩ := e
      subst e1 e2 e3 e4 e5 e6 e8 e9
      simp only at h8 ⊢
      obtain ⟨a1, a2⟩ := band h8
      match n7, n13, a1, a2 with
      | [(y, cc)], .ref c, a1, a2 =>
        have ey : y = ("__class__" : Str) := of_decide_eq_true a1
        rw [ey]
        exact ⟨oc, od, osl, n9, n10, n11, n12, n14, rfl⟩
    · cases h8

/-! ### the hook: defs, facts, error classes, one Bool -/
abbrev AlI : Type := He.AlD × List FnI × Bool
def asI (g : Addr → Option Obj) (n : Nat) : List Addr := PySem.cStatics :: asD g n
def obsI (fa : List He.Fa) (fn : List He.DefD) (es : List ErrD) (ex : PySem.W.Frag → Bool) (K : PySem.W.Frag) : AlI := (He.obsD fa fn K, es.map fun d => fnI K d.name, ex K)
def valI (fn : List He.DefD) (es : List ErrD) : AlI := (He.valD fn, es.map ErrD.val, true)
def obsIG (n : Nat) (fa : List He.Fa) (fn : List He.DefD) (es : List ErrD) (ex : PySem.W.Frag → Bool) (g : Addr → Option Obj) : AlI := obsI fa fn es ex (frG g (asI g n))
def SaysI (fa : List He.Fa) (fn : List He.DefD) (es : List ErrD) (ex : PySem.W.Frag → Bool) (K : PySem.W.Frag) : Prop := obsI fa fn es ex K = valI fn es
def hookI (n : Nat) (fa : List He.Fa) (fn : List He.DefD) (es : List ErrD) (ex : PySem.W.Frag → Bool) : PySem.W.Hook where
  α := AlI
  obs := fun s => obsIG n fa fn es ex s.heap.get?
  val := fun _ => valI fn es
  says := fun _ h => ∃ K : PySem.W.Frag, K.In h ∧ SaysI fa fn es ex K
  of := fun _ _ e => ⟨_, frG_in, e⟩
  keeps := fun _ _ _ ⟨K, hK, c⟩ k => ⟨K, PySem.W.Frag.In.keeps hK k, c⟩
theorem obsIG_eq {n : Nat} {fa : List He.Fa} {fn : List He.DefD} {es : List ErrD} {ex : PySem.W.Frag → Bool} {g : Addr → Option Obj} {s : Shared} (h : ∀ a, g a = s.heap.get? a) : obsIG n fa fn es ex g = (hookI n fa fn es ex).obs s := by
  have e : g = s.heap.get? := funext h
  rw [e] <;> rfl
section
variable {fa : List He.Fa} {fn : List He.DefD} {es : List ErrD} {ex : PySem.W.Frag → Bool} {K : PySem.W.Frag}
theorem SaysI.d (c : SaysI fa fn es ex K) : He.SaysD fa fn K := congrArg (fun z : AlI => z.1) c
theorem SaysI.more (c : SaysI fa fn es ex K) : ex K = true := congrArg (fun z : AlI => z.2.2) c
theorem SaysI.err (c : SaysI fa fn es ex K) (i : Nat) {d : ErrD} (h : es[i]? = some d) : fnI K d.name = d.val := by
  have e : (es.map fun d => fnI K d.name) = es.map ErrD.val := congrArg (fun z : AlI => z.2.1) c
  have e2 : (es.map fun d => fnI K d.name)[i]? = (es.map ErrD.val)[i]? := by rw [e]
  rw [List.getElem?_map, List.getElem?_map, h] at e2
  exact Option.some.inj e2
end

/-! ### the facts, for the walk -/
def fdOf (K : PySem.W.Frag) (x : Str) : FuncData := match K.lookup (ga K x) with
  | some ⟨_, _, .func fd, _⟩ => fd
  | _ => PySem.W.fnOf "" "" { posonlyargs := [], args := [], vararg := none, kwonlyargs := [], kw_defaults := [], kwarg := none, defaults := [] } [] { kind := .function, names := [], isGenerator := false, isCoroutine := false } .none .none .none .none none .none .none
/-- an own def that stands at the top -/
structure PlainD (d : He.DefD) : Prop where
  at_ : d.at_ = (d.name, none)
  kwd : d.kwd = []
structure Fct (P : Program) (K : PySem.W.Frag) (mg : Str → Option Value) (fa : List He.Fa) (fn : List He.DefD) (es : List ErrD) (ex : PySem.W.Frag → Bool) : Prop where
  more : ex K = true
  def_ : ∀ (i : Nat) (d : He.DefD), fn[i]? = some d → FunD K d.name d.qual d.params d.body d.scope (d.dvs K) [] (ga K d.name) (fdOf K d.name)
  glo : ∀ (i : Nat) (x : Str), fa[i]? = some (.glo x) → mg x = some (.ref (ga K x))
  free : ∀ (i : Nat) (x : Str), fa[i]? = some (.free x) → mg x = none
  int : ∀ (i : Nat) (x : Str) (n : Int), fa[i]? = some (.int x n) → ∃ t, mg x = some (.int n t)
  str : ∀ (i : Nat) (x y : Str), fa[i]? = some (.str x y) → ∃ t, mg x = some (.str y t)
  err : ∀ (i : Nat) (d : ErrD), es[i]? = some d → ErrOk P K mg d
theorem fct_of {P : Program} {K : PySem.W.Frag} {h : Heap} {mg : Str → Option Value} {fa : List He.Fa} {fn : List He.DefD} {es : List ErrD} {ex : PySem.W.Frag → Bool} (X : K.In h) (G : h.Ns mainGlobals mg) (hs : mg "super" = none) (ht : (P.main.scope.names.lookup ("super" : Str)).isSome = false)
    (hp : ∀ d ∈ fn, PlainD d) (he : ∀ d ∈ es, errB P K d = true) (c : SaysI fa fn es ex K) : Fct P K mg fa fn es ex where
  more := c.more
  def_ := fun i d e => by
    obtain ⟨fd, F⟩ := c.d.def_ i e
    have p := hp d (List.mem_of_getElem? e)
    have e1 : He.fAd K d.at_ = ga K d.name := by rw [p.at_]; rfl
    have e3 : d.kws K = [] := by unfold He.DefD.kws; rw [p.kwd]; rfl
    rw [e1, e3] at F
    have e4 : fdOf K d.name = fd := by
      obtain ⟨oc, od, dV, kV, doc, pm, an, cdv, ct, osl, _, lk, _⟩ := F.ex
      unfold fdOf
      rw [lk]
    rw [e4]
    exact F
  glo := fun i x e => He.glo_ok X G (c.d.fact i e)
  free := fun i x e => He.free_ok X G (c.d.fact i e)
  int := fun i x n e => He.int_ok X G (c.d.fact i e)
  str := fun i x y e => He.str_ok X G (c.d.fact i e)
  err := fun i d e => errB_ok X G hs ht (c.err i e) (he d (List.mem_of_getElem? e))

open PySem PySem.Spec PyProof.Rows L2
open He (ga ma)

def mkC (K : PySem.W.Frag) (fn : List He.DefD) (es : List ErrD) : Cst where
  K := K
  fa := fun i => ga K ((fn[i]?.map He.DefD.name).getD "")
  ca := fun c => ga K ((es[c]?.map ErrD.name).getD "")
  fld := fun c => (es[c]?.map ErrD.fld).getD ""
/-- how many a row of arguments gives -/
def ArgN (n : Nat) (ms : EM (List D)) : Prop := ∀ δ S xs S', ms δ S = .ok xs S' → xs.length = n
theorem argN_nil : ArgN 0 mNil := fun δ S xs S' h => by
  unfold mNil at h
  cases h
  rfl
theorem argN_cons {n : Nat} {m : EM D} {ms : EM (List D)} (h : ArgN n ms) : ArgN (n + 1) (mCons m ms) := fun δ S xs S' e => by
  unfold mCons at e
  cases e1 : m δ S with
  | ok x S1 =>
    rw [e1] at e
    have e' : ((ms δ S1).bind fun y S2 => Res.ok (x :: y) S2) = .ok xs S' := e
    cases e2 : ms δ S1 with
    | ok ys S2 =>
      rw [e2] at e'
      cases e'
      simp [h δ S1 ys _ e2]
    | exc => rw [e2] at e'; cases e'
    | stuck => rw [e2] at e'; cases e'
  | exc => rw [e1] at e; cases e
  | stuck => rw [e1] at e; cases e
/-- a def that is known -/
structure OkF (P : Program) (w : World) (K : PySem.W.Frag) (mg : Str → Option Value) (base : Heap) (C : Cst) (x : Str) (ps : List Str) (k : Nat) (F : FM) : Prop where
  ok : FnOk P w K mg base (L2.CX P w) k (ga K x) (fdOf K x) ps (spE C none ps.length F)
  glo : mg x = some (.ref (ga K x))
  kp : PySem.W.keepIn K (.ref (ga K x)) = true
  bd : Binds K (fdOf K x) ps []
/-- .. an error class that can be raised -/
structure OkR (P : Program) (w : World) (K : PySem.W.Frag) (mg : Str → Option Value) (base : Heap) (C : Cst) (x : Str) (c k : Nat) : Prop where
  ca : C.ca c = ga K x
  oex : OexC K (C.ca c)
  fI : PySem.W.findIn K (.ref (C.ca c)) "__init__" = some (some (.ref (ma K (ga K x) "__init__")))
  tI : PySem.W.typeIn K (.ref (ma K (ga K x) "__init__")) = some (.type "function")
  glo : mg x = some (.ref (C.ca c))
  ok : ∃ (fd : FuncData) (y : Str), FnOk P w K mg base (L2.CX P w) 1 (ma K (ga K x) "__init__") fd ["self", y] (spI (C.ca c) (C.fld c) (TX k)) ∧ Binds K fd ["self", y] []
section
variable {P : Program} {w : World} {K : PySem.W.Frag} {mg : Str → Option Value} {base : Heap}
/-- a def, by its body -/
theorem okE {C : Cst} {x qual : Str} {params : Arguments} {body : List Stmt} {scope : Scope} {f : Addr} {fd : FuncData} {N ps : List Str} {k : Nat} {b : SM} {dvs : List V} (F : FunD K x qual params body scope dvs [] f fd) (S : FnScope N ps scope) (hn : ps.length ≤ N.length)
    (hb : ∀ (cdv : Value) (A : Around) (outer : List PySem.Env) (s : Shared) (H : Hp) (E : XK), Room k (cxOf (L2.CX P w) P w K mg base N qual scope f cdv A outer s H E).A → Takes (cxOf (L2.CX P w) P w K mg base N qual scope f cdv A outer s H E) (fun cls dx _ H => E cls dx H) →
      PassesOwn (model P w) (cxOf (L2.CX P w) P w K mg base N qual scope f cdv A outer s H E).A (cxOf (L2.CX P w) P w K mg base N qual scope f cdv A outer s H E).env (cxOf (L2.CX P w) P w K mg base N qual scope f cdv A outer s H E).xe →
      PSs (cxOf (L2.CX P w) P w K mg base N qual scope f cdv A outer s H E) body (TSe C none (fun cls dx _ H => E cls dx H) b)) : FnOk P w K mg base (L2.CX P w) (k + 1) f fd ps (spE C none ps.length (mDef N.length b)) := by
  refine F.ok S (fun vs H Q E h => h.1) fun cdv A outer s H vs Q E hr h => ⟨_, hb cdv A outer s H E hr (takes_of rfl rfl rfl rfl) (passes_of rfl), ?_⟩
  obtain ⟨hl, p, S', ds, hp, ok, r, po⟩ := h
  exact def_ends hp ok r (by rw [hl]; exact hn) po
/-- an error class, by its __init__ -/
theorem okR {C : Cst} {d : ErrD} {c : Nat} {m x : Str} {fd : FuncData} (E : ErrOk P K mg d) (hca : C.ca c = ga K d.name) (hfl : C.fld c = d.fld)
    (F : FnOk P w K mg base (L2.CX P w) 1 (ma K (ga K d.name) "__init__") fd ["self", x] (spI (ga K d.name) d.fld (TX m.length))) (hb : Binds K fd ["self", x] []) : OkR P w K mg base C d.name c m.length :=
  ⟨hca, by rw [hca]; exact E.init.oex, by rw [hca]; exact E.fI, E.tI, by rw [hca]; exact E.glo, fd, x, by rw [hca, hfl]; exact F, hb⟩
end
section
variable {X : Cx} {C : Cst} {W : WX} {pos pos' q : Pos} {e a : Expr} {es : List Expr} {ms : EM (List D)} {m : EM D} {x : Str} {ps : List Str} {k c kk : Nat} {F : FM} {π : Option (Addr × Obj)}
theorem e_fn (O : OkF X.prog X.w X.K X.mg X.base C x ps k F) (hr : Room k X.A) (tk : Takes X W) (hg : Gl X x) (ha : PA X (e :: es) (TAe C none W ms)) (hn : ArgN ps.length ms) (hdb : (x == ("__debug__" : Str)) = false := by decide)
    (he : starEach (e :: es) X.env = (false, eval e X.env) :: starEach es X.env := by rfl) (hpl : (backTo pos (starEach es X.env)).any (·.1) = false := by rfl) : PE X (.Call (.Name x q) (e :: es) [] pos) (TEe C none W (mCall F ms)) :=
  e_call O.ok hr hg O.glo O.kp O.bd (fun σ => passAt tk σ) ha hn hdb he hpl
theorem z_rs (O : OkR X.prog X.w X.K X.mg X.base C x c k) (hr : Room 2 X.A) (hc : X.calm = true) (tk : Takes X W) (hg : Gl X x) (ha : PE X e (TEe C π W m)) (hdb : (x == ("__debug__" : Str)) = false := by decide) (hs : starEach [e] X.env = (false, eval e X.env) :: starEach [] X.env := by rfl) :
    PS X (.Raise (some (.Call (.Name x q) [e] [] pos)) none pos') (TSe C π W (sRaise c k m)) := by
  obtain ⟨fd, y, F, hb⟩ := O.ok
  have hx : Passes (L2.CX X.prog X.w) X (fun _ _ _ => False) := fun pins σ H s e s' I z => passAt (W := fun _ _ _ _ => False) (fun u s' h => by
    obtain ⟨_, _, _, _, _, _, _, _, _, _, _, _, _, _, _, _, z⟩ := h
    exact z.elim) σ pins H s e s' I z
  exact z_raise (kk := 1) hc tk O.oex O.fI O.tI F hr hb hx hg O.glo ha hdb hs
theorem tkF {u : Shared} {H : Hp} {scope : Scope} {cenv : PySem.Env} {fp : List Addr} : Takes (X.blk u H scope cenv fp) WF := fun v s' h => by
  obtain ⟨_, _, _, _, _, _, _, _, _, _, _, _, _, _, _, _, z⟩ := h
  exact z.elim
end

open PySem PySem.Spec PyProof.Rows L2
open He (ga ma)
local macro_rules | `(tactic| walk_at "vs") => `(tactic| first | exact Or.inl rfl | exact Or.inr (Or.inl rfl) | exact Or.inr (Or.inr rfl))
local macro_rules | `(tactic| walk_at "lc") => `(tactic| first | exact Or.inl rfl | exact Or.inr rfl)
local macro_rules | `(tactic| walk_at "fl") => `(tactic| first | exact Or.inl rfl | exact Or.inr rfl)
local macro_rules | `(tactic| walk_at "lcl") => `(tactic| rfl)
/-- a comprehension's block, by a Bool -/
def blkB (N : List Str) (sc scope : Scope) (own : List (Str × Nat)) : Bool := decide (scope.kind = .function) && (decide (∀ y ∈ scope.names, scope.names.lookup y.1 = some y.2) && (decide (∀ p ∈ own, N[p.2]? = some p.1) && (decide (∀ y ∈ scope.names, y.2 = .free → sc.names.lookup y.1 = some .cell ∨ sc.names.lookup y.1 = some .free) &&
  decide (∀ y ∈ scope.names, y.2 = .local ∨ y.2 = .cell → y.1 ∈ own.map (·.1) ∨ y.1 ∉ N))))
theorem blkB_ok {N : List Str} {sc scope : Scope} {own : List (Str × Nat)} (h : blkB N sc scope own = true) : BlkOk N sc scope own := by
  obtain ⟨h1, h⟩ := band h
  obtain ⟨h2, h⟩ := band h
  obtain ⟨h3, h⟩ := band h
  obtain ⟨h4, h5⟩ := band h
  exact ⟨of_decide_eq_true h1, of_decide_eq_true h2, of_decide_eq_true h3, of_decide_eq_true h4, of_decide_eq_true h5⟩
local macro_rules | `(tactic| walk_at "blk") => `(tactic| (refine blkB_ok ?_; kernel_rfl))
@[irreducible] def bigN : Nat := 2 ^ 4000
theorem bigN_eq : bigN = 2 ^ 4000 := by unfold bigN; rfl
theorem rm64 {k : Nat} {A : Around} (r : Room k A) : A.units + 64 < cLine := by have := r.un; omega
theorem rm65 {k : Nat} {A : Around} (r : Room k A) : A.units + 65 < cLine := by have := r.un; omega
section
variable {X : Cx} {C : Cst} {π : Option (Addr × Obj)} {W : WX} {pos : Pos} {x : Str}
theorem e_gi {n : Int} (h : ∃ t, X.mg x = some (.int n t)) (hg : Gl X x) (hd : (x == ("__debug__" : Str)) = false := by decide) : PE X (.Name x pos) (TEe C π W (mC (.int n))) := by
  obtain ⟨t, h⟩ := h
  exact e_c (pe_glob (v := .int n) hg h ⟨t, rfl⟩ hd) fun _ _ => by simp only [Rep]
theorem e_gs {n : Str} (h : ∃ t, X.mg x = some (.str n t)) (hg : Gl X x) (hd : (x == ("__debug__" : Str)) = false := by decide) : PE X (.Name x pos) (TEe C π W (mC (.str n))) := by
  obtain ⟨t, h⟩ := h
  exact e_c (pe_glob (v := .str n) hg h ⟨t, rfl⟩ hd) fun _ _ => by simp only [Rep]
end
/-! ### the error classes -/
def tbC (es : List ErrD) (i c : Nat) : Option Bool := match es[c]?, es[i]? with
  | some d, some e => some (decide (d.name = e.name))
  | _, _ => none
def tbV (es : List ErrD) (c : Nat) : Option Bool := (es[c]?).map fun _ => true
mutual
/-- a constant of the module: whole numbers, texts, tuples and lists of them -/
def conV (K : PySem.W.Frag) : Nat → D → Value → Bool
  | 0, _, _ => false
  | _ + 1, .non, .none => true
  | _ + 1, .bl b, .bool c => b == c
  | _ + 1, .int i, .int j _ => i == j
  | _ + 1, .str x, .str y _ => decide (x = y)
  | n + 1, .tup ds, .ref a => match K.lookup a with
    | some ⟨.type t, _, .seq its _, _⟩ => t == "tuple" && (decide (its.size ≤ sizeLine) && conL K n ds its.toList)
    | _ => false
  | n + 1, .rol ds, .ref a => match K.lookup a with
    | some ⟨.type t, none, .seq its _, _⟩ => t == "list" && (decide (its.size ≤ sizeLine) && conL K n ds its.toList)
    | _ => false
  | _, _, _ => false
def conL (K : PySem.W.Frag) : Nat → List D → List Value → Bool
  | 0, _, _ => false
  | _ + 1, [], [] => true
  | n + 1, d :: ds, v :: vs => conV K n d v && conL K n ds vs
  | _, _, _ => false
end
mutual
theorem conV_ok {C : Cst} {p : Pl} {H : Hp} : ∀ (n : Nat) (d : D) (v : Value), conV C.K n d v = true → ∃ x, RelV x v ∧ Rep C p H d x
  | 0, _, _, h => by simp [conV] at h
  | n + 1, d, v, h => by
    unfold conV at h
    split at h
    · cases h
    · exact ⟨.non, rfl, by simp only [Rep]⟩
    · rename_i b c _
      cases (beq_iff_eq.mp h)
      exact ⟨.bl b, rfl, by simp only [Rep]⟩
    · rename_i i j t _
      cases (beq_iff_eq.mp h)
      exact ⟨.int i, ⟨t, rfl⟩, by simp only [Rep]⟩
    · rename_i x y t _
      cases (of_decide_eq_true h)
      exact ⟨.str x, ⟨t, rfl⟩, by simp only [Rep]⟩
    · rename_i m ds a e
      split at h
      · rename_i t dd its sz sl hk
        obtain ⟨h1, h⟩ := band h
        obtain ⟨h2, h3⟩ := band h
        have e2 : m = n := by omega
        subst e2
        cases (beq_iff_eq.mp h1)
        obtain ⟨vs, rv, rl⟩ := conL_ok (C := C) (p := p) (H := H) m ds its.toList h3
        refine ⟨.ref a, rfl, ?_⟩
        simp only [Rep]
        exact ⟨a, vs, rfl, .inr ⟨_, its, sz, hk, rfl, rfl, of_decide_eq_true h2, rv⟩, rl⟩
      · cases h
    · rename_i m ds a e
      split at h
      · rename_i t its sz sl hk
        obtain ⟨h1, h⟩ := band h
        obtain ⟨h2, h3⟩ := band h
        have e2 : m = n := by omega
        subst e2
        cases (beq_iff_eq.mp h1)
        obtain ⟨vs, rv, rl⟩ := conL_ok (C := C) (p := p) (H := H) m ds its.toList h3
        refine ⟨.ref a, rfl, ?_⟩
        simp only [Rep]
        exact ⟨a, vs, rfl, .inr (.inr ⟨_, its, sz, hk, rfl, rfl, rfl, of_decide_eq_true h2, rv⟩), rl⟩
      · cases h
    · cases h
theorem conL_ok {C : Cst} {p : Pl} {H : Hp} : ∀ (n : Nat) (ds : List D) (vs : List Value), conL C.K n ds vs = true → ∃ xs, Vals xs vs ∧ RepL C p H ds xs
  | 0, _, _, h => by simp [conL] at h
  | n + 1, ds, vs, h => by
    unfold conL at h
    split at h
    · cases h
    · exact ⟨[], .nil, by simp only [RepL]⟩
    · rename_i m d ds v vs e
      obtain ⟨h1, h2⟩ := band h
      have e2 : m = n := by omega
      subst e2
      obtain ⟨x, r1, r2⟩ := conV_ok (C := C) (p := p) (H := H) m d v h1
      obtain ⟨xs, s1, s2⟩ := conL_ok (C := C) (p := p) (H := H) m ds vs h2
      exact ⟨x :: xs, .cons r1 s1, by simp only [RepL]; exact ⟨x, xs, rfl, r2, s2⟩⟩
    · cases h
end
def conAll (K : PySem.W.Frag) (cs : List (Str × D)) : Bool := cs.all fun c => conV K 12 c.2 (.ref (ga K c.1))
def exT (P : Program) (es : List ErrD) (cs : List (Str × D)) (K : PySem.W.Frag) : Bool := conAll K cs && es.all fun d => errB P K d && (decide (PySem.W.exmOne K (.ref (ga K d.name)) (.ref (ga K "MeasureError")) = some true) && (decide (PySem.W.kitOne K (.ref (ga K d.name)) (.type "ValueError") = some true) &&
  (decide (PySem.W.kitOne K (.ref (ga K d.name)) (.ref (ga K "MeasureError")) = some true) && es.all fun e => decide (PySem.W.kitOne K (.ref (ga K d.name)) (.ref (ga K e.name)) = some (decide (d.name = e.name))))))
section
variable {P Q : Program} {K : PySem.W.Frag} {mg : Str → Option Value} {fa : List He.Fa} {fn : List He.DefD} {es : List ErrD} {cs : List (Str × D)}
theorem exT_at (h : exT P es cs K = true) {c : Nat} {d : ErrD} (e : es[c]? = some d) : errB P K d = true ∧ PySem.W.exmOne K (.ref (ga K d.name)) (.ref (ga K "MeasureError")) = some true ∧ PySem.W.kitOne K (.ref (ga K d.name)) (.type "ValueError") = some true ∧
    PySem.W.kitOne K (.ref (ga K d.name)) (.ref (ga K "MeasureError")) = some true ∧ ∀ e ∈ es, PySem.W.kitOne K (.ref (ga K d.name)) (.ref (ga K e.name)) = some (decide (d.name = e.name)) := by
  obtain ⟨_, h⟩ := band h
  have h1 := List.all_eq_true.mp h d (List.mem_of_getElem? e)
  obtain ⟨a1, h2⟩ := band h1
  obtain ⟨a2, h3⟩ := band h2
  obtain ⟨a3, h4⟩ := band h3
  obtain ⟨a4, a5⟩ := band h4
  exact ⟨a1, of_decide_eq_true a2, of_decide_eq_true a3, of_decide_eq_true a4, fun e he => of_decide_eq_true (List.all_eq_true.mp a5 e he)⟩
theorem ca_at {c : Nat} {d : ErrD} (e : es[c]? = some d) : (mkC K fn es).ca c = ga K d.name ∧ (mkC K fn es).fld c = d.fld := by
  unfold mkC
  simp [e]
theorem tbC_ok (G : Fct P K mg fa fn es (exT P es cs)) (i : Nat) {e : ErrD} (he : es[i]? = some e) : ∀ c b, tbC es i c = some b → IsC K ((mkC K fn es).ca c) ((mkC K fn es).fld c) ∧ PySem.W.kitOne K (.ref ((mkC K fn es).ca c)) (.ref (ga K e.name)) = some b := fun c b h => by
  unfold tbC at h
  cases hd : es[c]? with
  | none => rw [hd] at h; cases h
  | some d =>
    rw [hd, he] at h
    obtain ⟨q1, q2⟩ := ca_at (K := K) (fn := fn) hd
    rw [q1, q2]
    refine ⟨(G.err c d hd).isC, ?_⟩
    rw [(exT_at G.more hd).2.2.2.2 e (List.mem_of_getElem? he)]
    exact h
theorem tbV_ok (G : Fct P K mg fa fn es (exT P es cs)) : ∀ c b, tbV es c = some b → IsC K ((mkC K fn es).ca c) ((mkC K fn es).fld c) ∧ PySem.W.kitOne K (.ref ((mkC K fn es).ca c)) (.type "ValueError") = some b := fun c b h => by
  unfold tbV at h
  obtain ⟨d, hd, rfl⟩ := Option.map_eq_some_iff.mp h
  obtain ⟨q1, q2⟩ := ca_at (K := K) (fn := fn) hd
  rw [q1, q2]
  exact ⟨(G.err c d hd).isC, (exT_at G.more hd).2.2.1⟩
theorem yes_ok (G : Fct P K mg fa fn es (exT P es cs)) : ∀ c b, tbV es c = some b → PySem.W.exmOne K (.ref ((mkC K fn es).ca c)) (.ref (ga K "MeasureError")) = some b := fun c b h => by
  unfold tbV at h
  obtain ⟨d, hd, rfl⟩ := Option.map_eq_some_iff.mp h
  obtain ⟨q1, q2⟩ := ca_at (K := K) (fn := fn) hd
  rw [q1]
  exact (exT_at G.more hd).2.1
theorem con_ok (G : Fct P K mg fa fn es (exT P es cs)) {x : Str} {d : D} (j : Nat) (h : cs[j]? = some (x, d)) : conV K 12 d (.ref (ga K x)) = true := List.all_eq_true.mp (band G.more).1 _ (List.mem_of_getElem? h)
theorem e_con {X : Cx} {C : Cst} {π : Option (Addr × Obj)} {W : WX} {pos : Pos} {x : Str} {d : D} {n : Nat} (hK : X.K = C.K) (h : conV C.K n d (.ref (ga X.K x)) = true) (hm : X.mg x = some (.ref (ga X.K x))) (hg : Gl X x) (hd : (x == ("__debug__" : Str)) = false := by decide) : PE X (.Name x pos) (TEe C π W (mC d)) :=
  e_c (pe_glob (v := .ref (ga X.K x)) hg hm rfl hd) fun p H => by
    obtain ⟨y, r, q⟩ := conV_ok (p := p) (H := H) n d _ h
    have e : y = .ref (ga X.K x) := by
      cases y <;> simp only [L2.RelV] at r <;> first | (cases r; rfl) | (obtain ⟨_, r⟩ := r; cases r) | cases r
    rw [← e]
    exact q
def xfB (es : List ErrD) (fl : Str) (cs : List Nat) : Bool := cs.all fun c => match es[c]? with
  | some d => decide (d.fld = fl)
  | none => false
theorem xfC (G : Fct P K mg fa fn es (exT P es cs)) {cs' : List Nat} {fl : Str} (h : xfB es fl cs' = true) : ∀ c ∈ cs', IsC K ((mkC K fn es).ca c) fl ∧ (mkC K fn es).fld c = fl := fun c hc => by
  have h1 := List.all_eq_true.mp h c hc
  split at h1
  · rename_i d hd
    obtain ⟨q1, q2⟩ := ca_at (K := K) (fn := fn) hd
    have e : d.fld = fl := of_decide_eq_true h1
    rw [q1, q2]
    exact ⟨by rw [← e]; exact (G.err c d hd).isC, e⟩
  · cases h1
end

/-! ### a op1 b op2 c as a test -/
def mChainT (g g' : Store → D → D → Option D) (a b c : EM D) : EM Bool := fun δ S => (mChain g g' a b c δ S).bind fun x S1 => match x with
  | .bl k => .ok k S1
  | _ => .stuck
section
variable {X : Cx} {C : Cst} {π : Option (Addr × Obj)} {W : WX} {pos : Pos} {a b c : Expr} {ma mb mc : EM D}
theorem t_chain {op op' : CmpOp} {g g' : Store → D → D → Option D} (ho : OpR X (compareOp op) (rV2 C g)) (ho' : OpR X (compareOp op') (rV2 C g')) (ha : PE X a (TEe C π W ma)) (hb : PE X b (TEe C π W mb)) (hc : PE X c (TEe C π W mc))
    (hm : lastMarks [op, op'] [b, c] = false := by with_unfolding_all rfl) : PT X (.Compare a [op, op'] [b, c] pos) (TTe C π W (mChainT g g' ma mb mc)) :=
  pt_mono (pt_chain ho ho' ha hb hc hm) fun σ H Q ⟨p, S, δ, hp, ok, re, po⟩ => by
    have po0 : Post C W p H σ (fun _ _ a b => a = b) Q ((ma δ S).bind fun x S1 => (mb δ S1).bind fun y S2 => (out (g S2 x y) S2).bind fun z S3 => (match z with
      | .bl k => if k = true then (mc δ S3).bind fun w S4 => out (g' S4 y w) S4 else .ok (.bl false) S3
      | _ => .stuck : Res D).bind fun x S1 => match x with
      | .bl k => Res.ok k S1
      | _ => .stuck) := by
      have e : mChainT g g' ma mb mc δ S = (ma δ S).bind fun x S1 => (mb δ S1).bind fun y S2 => (out (g S2 x y) S2).bind fun z S3 => (match z with
        | .bl k => if k = true then (mc δ S3).bind fun w S4 => out (g' S4 y w) S4 else .ok (.bl false) S3
        | _ => .stuck : Res D).bind fun x S1 => match x with
        | .bl k => Res.ok k S1
        | _ => .stuck := by
        unfold mChainT mChain
        cases ma δ S with
        | ok x S1 =>
          simp only [Res.bind]
          cases mb δ S1 with
          | ok y S2 =>
            simp only [Res.bind]
            cases out (g S2 x y) S2 <;> rfl
          | exc => rfl
          | stuck => rfl
        | exc => rfl
        | stuck => rfl
      rw [← e]; exact po
    exact TRe.go hp ok re po0 fun x S1 p1 H1 v k1 ok1 hp1 re1 r1 po1 => TRe.go hp1 ok1 re1 po1 fun y S2 p2 H2 w k2 ok2 hp2 re2 r2 po2 => by
      cases e : g S2 x y with
      | none => rw [e] at po2; exact po2.elim
      | some z =>
        rw [e] at po2
        refine ⟨p2, S2, x, y, z, ok2, r1.keep k2, r2, e, fun p3 H3 zv s3 ok3 r3 => ?_⟩
        have k3 := s3.keep ok2
        have po3 := Post.step s3 po2
        cases z with
        | bl k =>
          simp only [Rep] at r3
          refine ⟨k, r3, ?_⟩
          cases k with
          | false => exact ⟨false, rfl, po3 p3 H3 false (Step.refl _ _) ok3 rfl⟩
          | true =>
            have po4 : Post C W p3 H3 σ (fun _ _ a b => a = b) Q ((mc δ S2).bind fun w S4 => (out (g' S4 y w) S4).bind fun x S1 => match x with
              | .bl k => Res.ok k S1
              | _ => .stuck) := by
              have e4 : (((mc δ S2).bind fun w S4 => out (g' S4 y w) S4).bind fun x S1 => match x with
                | .bl k => Res.ok k S1
                | _ => .stuck) = (mc δ S2).bind fun w S4 => (out (g' S4 y w) S4).bind fun x S1 => match x with
                | .bl k => Res.ok k S1
                | _ => .stuck := by cases mc δ S2 <;> rfl
              rw [← e4]; exact po3
            show TEe C π W mc σ H3 _
            exact TRe.go (s3.err.trans hp2) ok3 (re2.keep k3) po4 fun w' S4 p4 H4 v4 k4 ok4 hp4 re4 r4 po5 => by
              cases e5 : g' S4 y w' with
              | none => rw [e5] at po5; exact po5.elim
              | some z =>
                rw [e5] at po5
                refine ⟨p4, S4, y, w', z, ok4, (r2.keep k3).keep k4, r4, e5, fun p5 H5 zv s5 ok5 r5 => ?_⟩
                have po6 := Post.step s5 po5
                cases z with
                | bl k => simp only [Rep] at r5; exact ⟨k, r5, po6 p5 H5 k (Step.refl _ _) ok5 rfl⟩
                | _ => exact po6.elim
        | _ => exact po3.elim
end

open PySem PySem.Spec PyProof.Rows L2
open He (ga ma)
/-- a comprehension's parts, read -/
structure LcOk (X : Cx) (C : Cst) (π : Option (Addr × Obj)) (W : WX) (elt tg iter : Expr) (ifs : List Expr) (scope : Scope) (own : List (Str × Nat)) (mi : EM ItD) (g : GM) (t : EM Bool) (me : EM D) : Prop where
  calm : X.calm = true
  nd : X.N.Nodup
  it : PI X tg iter (TIe C π W mi)
  ok : BlkOk X.N X.env.scope scope own
  tg : ∀ (s : Shared) (H : Hp) (Cc : Addr) (cl : List (Str × Addr)) (fp : List Addr), PG (X.blk s H scope (compEnvC scope cl Cc X.env) fp) tg (TGe C π (own.map (·.2)) g)
  tt : ∀ (s : Shared) (H : Hp) (Cc : Addr) (cl : List (Str × Addr)) (fp : List Addr), PTs (X.blk s H scope (compEnvC scope cl Cc X.env) fp) ifs (TTe C π WF t)
  el : ∀ (s : Shared) (H : Hp) (Cc : Addr) (cl : List (Str × Addr)) (fp : List Addr), PE (X.blk s H scope (compEnvC scope cl Cc X.env) fp) elt (TEe C π WF me)
  fs : ∀ x, foldedSetIterable iter X.env x = pure x
section
variable {X : Cx} {C : Cst} {π : Option (Addr × Obj)} {W : WX} {elt tg iter : Expr} {ifs : List Expr} {scope : Scope} {own : List (Str × Nat)} {mi : EM ItD} {g : GM} {t : EM Bool} {me : EM D} {pos spos py : Pos} {y : Str} {i : Nat}
theorem e_LC (own : List (Str × Nat)) (L : LcOk X C π W elt tg iter ifs scope own mi g t me) : PE X (.ListComp elt [⟨tg, iter, ifs, 0⟩] scope pos) (TEe C π W (mLc mi g t me (own.map (·.2)))) := e_lc L.calm L.nd L.it L.ok L.tg L.tt L.el L.fs
theorem e_LCN (own : List (Str × Nat)) (L : LcOk X C π W elt tg iter ifs scope own mi g t me) : PE X (.ListComp elt [⟨tg, iter, ifs, 0⟩] scope pos) (TEe C π W (mLcN mi g t me (own.map (·.2)))) := e_lcN L.calm L.nd L.it L.ok L.tg L.tt L.el L.fs
theorem z_LC (own : List (Str × Nat)) (L : LcOk X C π W elt tg iter ifs scope own mi g t me) (hy : X.N[i]? = some y) (hyl : X.env.scope.names.lookup y = some .local) (hsw : swapsWith (.ListComp elt [⟨tg, iter, ifs, 0⟩] scope pos) (some (.Name y py)) spos.line X.env = pure true) :
    PS X (.Assign [.Name y py] (.ListComp elt [⟨tg, iter, ifs, 0⟩] scope pos) spos) (TSe C π W (sAsg (mLc mi g t me (own.map (·.2))) (gmName i))) := z_setLc L.calm L.nd L.it L.ok L.tg L.tt L.el L.fs hy hyl hsw
theorem z_LCN (own : List (Str × Nat)) (L : LcOk X C π W elt tg iter ifs scope own mi g t me) (hy : X.N[i]? = some y) (hyl : X.env.scope.names.lookup y = some .local) (hsw : swapsWith (.ListComp elt [⟨tg, iter, ifs, 0⟩] scope pos) (some (.Name y py)) spos.line X.env = pure true) :
    PS X (.Assign [.Name y py] (.ListComp elt [⟨tg, iter, ifs, 0⟩] scope pos) spos) (TSe C π W (sAsg (mLcN mi g t me (own.map (·.2))) (gmName i))) := z_setLcN L.calm L.nd L.it L.ok L.tg L.tt L.el L.fs hy hyl hsw
end

open PySem PySem.Spec PyProof.Rows L2
open He (ga ma)
theorem repL_ints {C : Cst} {p : Pl} {H : Hp} : ∀ ns : List Int, RepL C p H (ns.map D.int) (ns.map V.int)
  | [] => by simp [RepL]
  | n :: ns => by
    simp only [List.map_cons, RepL]
    exact ⟨_, _, rfl, by simp only [Rep], repL_ints ns⟩
theorem ok_nil {C : Cst} {H : Hp} : Ok C ⟨[], [], none⟩ [] H := ⟨rfl, List.nodup_nil, fun l c h => by simp at h, fun a h => by simp at h⟩
/-- a law, by its def's evaluation -/
theorem walk_ev {l : PySem.W.OpenLaw} {n k i : Nat} {q : Program} {loose : List Str} {XP : (Str → Option Value) → Heap → Prop} {d : DefRec} {fa : List He.Fa} {fn : List He.DefD} {es : List ErrD} {cs : List (Str × D)} {F : FM}
    (hn : l.most = some n) (hn2 : n ≤ sizeLine) (hdf : d.params.defaults = []) (hr : Room k callerA) (hd : d.name = ("law" : Str)) (hp : ∀ d ∈ fn, PlainD d)
    (hs : fa[i]? = some (.free "super")) (ht : (l.prog.main.scope.names.lookup ("super" : Str)).isSome = false)
    (O : ∀ (w : World) (K : PySem.W.Frag) (mg : Str → Option Value) (base : Heap), Fct l.prog K mg fa fn es (exT l.prog es cs) → OkF l.prog w K mg base (mkC K fn es) "law" ["script"] k F)
    (hB : ∀ (K : PySem.W.Frag) (mg : Str → Option Value), Fct l.prog K mg fa fn es (exT l.prog es cs) → ∀ (s : Shared) (u : Value), BindsTo s (fdOf K "law") ⟨[u], []⟩ [(("script" : Str), u)])
    (hF : ∀ ns : List Int, ns.length ≤ n → ∃ S', F [.rol (ns.map D.int)] [] = .ok (.bl true) S') :
    PySem.W.WalkO q loose XP (hookI 5 fa fn es (exT l.prog es cs)).says l.row.toRowW d [] (fun f vs => PySem.call f vs) := by
  refine Att.attach_call hn hdf fun w s₀ s₁ mg mb f o pm cd doc a vs ns G Y ho hd' hcd hmg hobj hints hlen hg => ?_
  obtain ⟨K, KX, c⟩ := Y
  have ms : mg "super" = none := He.free_ok KX G.T.g (c.d.fact i hs)
  have Fc : Fct l.prog K mg fa fn es (exT l.prog es cs) := fct_of KX G.T.g ms ht hp (fun e he => by
    obtain ⟨j, hj⟩ := List.mem_iff_getElem?.mp he
    exact (exT_at c.more hj).1) c
  have O1 := O w K mg s₁.heap Fc
  have ef : f = ga K "law" := by
    have e1 := O1.glo
    rw [← hd, hmg] at e1
    cases e1
    rw [hd]
  subst ef
  obtain ⟨S', hS'⟩ := hF ns hlen
  refine law_call (CX := L2.CX l.prog w) (sp := spE (mkC K fn es) none 1 F) KX G.T.g G.T.b G.T.builtins G.T.nolimit hg hobj hints (Nat.le_trans hlen hn2) hr (fun base _ _ => (O w K mg base Fc).ok) (hB K mg Fc) (fun H hO hS => ?_) fun H e s' h => ?_
  · refine ⟨rfl, ⟨[], [], none⟩, [], [.rol (ns.map D.int)], rfl, ok_nil, ?_, ?_⟩
    · simp only [RepL]
      refine ⟨_, _, rfl, ?_, rfl⟩
      simp only [Rep]
      refine ⟨a, ns.map V.int, rfl, ?_, repL_ints ns⟩
      rcases hS with (h | ⟨o, h⟩) | h
      · exact .inl ⟨h, by simp, by simp⟩
      · exact .inr (.inl ⟨o, h⟩)
      · exact .inr (.inr h)
    · rw [hS']
      intro p' H' v s o r
      simpa only [Rep] using r
  · obtain ⟨_, _, _, _, _, _, _, _, _, _, _, _, _, z⟩ := h

open PySem PySem.Spec PyProof.Rows L2
open He (ga ma)

/-! ### a def that is called while an error is handled -/
structure FnJ (P : Program) (w : World) (K : PySem.W.Frag) (mg : Str → Option Value) (base : Heap) (CX : CXT) (k : Nat) (f : Addr) (fd : FuncData) (ps : List Str) (sp : Addr × Obj → Sp) : Prop where
  len : ∀ q vs H Q E, sp q vs H Q E → vs.length = ps.length
  go : ∀ (q : Addr × Obj) (B : Around) (out : List PySem.Env) (t : Shared) (H : Hp) (as : Args) (us : List Value) (vs : List V) (Q : VK) (E : XK), L2H.RoomH k B → L2H.PinOk out H t q → Env0 P w K mg base B out t H → BindsTo t fd as (ps.zip us) → Vals vs us → sp q vs H Q E →
    codeAny (model P w) B (.call (.ref f) as) (CR CX out P w H t Q E) t
theorem fnJ {CX : CXT} {P : Program} {w : World} {K : PySem.W.Frag} {mg : Str → Option Value} {base : Heap} {k : Nat} {f : Addr} {fd : FuncData} {x qual : Str} {params : Arguments} {body : List Stmt} {scope : Scope} {N ps : List Str} {sp : Addr × Obj → Sp}
    {dvs : List V} (F : FunD K x qual params body scope dvs [] f fd) (S : FnScope N ps scope) (hl : ∀ q vs H Q E, sp q vs H Q E → vs.length = ps.length)
    (hb : ∀ (cdv : Value) (q : Addr × Obj) (A : Around) (out : List PySem.Env) (t : Shared) (H : Hp) (vs : List V) (Q : VK) (E : XK), L2H.RoomH k (A.deeper (envOfC qual scope t.heap.objs.size f cdv)) → sp q vs H Q E →
      ∃ w', PSs (L2H.cxH CX P w K mg base N qual scope f cdv A out t H E q) body w' ∧ w' { nx := fun _ H' => Q .non H', rt := Q } (L2.start N vs) H) : FnJ P w K mg base CX (k + 1) f fd ps sp := by
  obtain ⟨oc, od, dV, kV, doc, pm, an, cdv, ct, osl, rfl, lk, hcd, _, _⟩ := F.ex
  refine ⟨hl, fun q A out t H as us vs Q E room pin e0 bnd r want => ?_⟩
  have inK : K.In t.heap := e0.mod.kin.keeps fun b o e => (e0.bs b o e).1
  have few : t.heap.NoLimit := e0.mod.nolimit.keeps fun b o e => (e0.bs b o e).1
  refine codeAny_call_function room.depth (inK _ _ lk) rfl S.co S.gen rfl (PySem.W.codeRec_of inK hcd) (bnd _ _ _ _ ?_)
  refine wpAny_newFunctionEnv_cells S.kind (fun ⟨y, v⟩ hy => ?_) fun env he t1 x => ?_
  · rcases S.par y (List.of_mem_zip hy).1 with z | z
    · exact .inl z
    · exact .inr ⟨z, PySem.W.cellsFrom_some _ _ _ (.inl z)⟩
  subst he
  refine ⟨few.keeps x.toInCall.keep, codeAny_func ?_⟩
  obtain ⟨w', ht, hq⟩ := hb cdv q A out t H vs Q E (room.deeper _) want
  have start := L2H.inv_startH (CX := CX) (P := P) (w := w) (E := E) S pin e0 (hl _ _ _ _ _ want) r x
  refine wpAny_mono (ht.run [] t1 (L2.start N vs) H _ start hq) (fun fl t' hs => ?_) fun e t' hs => hs
  cases fl with
  | ret u =>
    obtain ⟨v, _, H', J, rv, z⟩ := hs
    exact ⟨v, H', J.os, J.bare, J.base, J.hok, rv, z⟩
  | next =>
    obtain ⟨_, H', J, z⟩ := hs
    exact ⟨.non, H', J.os, J.bare, J.base, J.hok, rfl, z⟩
  | brk =>
    obtain ⟨_, _, _, z⟩ := hs
    exact False.elim z
  | cont =>
    obtain ⟨_, _, _, z⟩ := hs
    exact False.elim z
theorem FnJ.mono {CX : CXT} {P : Program} {w : World} {K : PySem.W.Frag} {mg : Str → Option Value} {base : Heap} {j k : Nat} {f : Addr} {fd : FuncData} {ps : List Str} {sp : Addr × Obj → Sp} (F : FnJ P w K mg base CX j f fd ps sp) (h : j ≤ k) : FnJ P w K mg base CX k f fd ps sp :=
  ⟨F.len, fun q A out t H as us vs Q E room => F.go q A out t H as us vs Q E (room.mono h)⟩
section
variable {X : Cx} {CX : CXT} {k : Nat} {f : Addr} {fd : FuncData} {ps : List Str} {sp : Addr × Obj → Sp} {q : Addr × Obj} {x : Str} {p pos : Pos} {e : Expr} {es : List Expr} {t : TA}
def tJ (sp : Sp) (t : TA) : TE := fun σ H Q => t σ H fun vs H1 => sp vs H1 Q fun _ _ _ => False
/-- its call -/
theorem pe_J (F : FnJ X.prog X.w X.K X.mg X.base CX k f fd ps sp) (hCX : ∀ out H t e t', CX out H t (fun _ _ _ => False) e t' → False) (hr : L2H.RoomH k X.A) (hq : q ∈ X.pn) (hg : Gl X x) (hm : X.mg x = some (.ref f)) (hk : PySem.W.keepIn X.K (.ref f) = true) (hb : Binds X.K fd ps []) (ha : PA X (e :: es) t)
    (hdb : (x == ("__debug__" : Str)) = false := by decide) (he : starEach (e :: es) X.env = (false, eval e X.env) :: starEach es X.env := by rfl) (hpl : (backTo pos (starEach es X.env)).any (·.1) = false := by rfl) :
    PE X (.Call (.Name x p) (e :: es) [] pos) (tJ (sp q) t) := by
  refine ⟨fun pins s σ H Q I h => wpAny_Call_Name_kw (ld_glob I hg hm ?_ hdb)⟩
  refine PySem.W.callWith_K (h₀ := X.base) I.ok.mod.kin hk (thn (ha.run pos pins s σ H _ I h) fun us t1 ⟨vs, H1, J, r, z⟩ => ⟨J.kIn, ?_⟩) he hpl
  have b := hb t1 us J.kIn (by rw [List.append_nil, ← r.length]; exact F.len _ _ _ _ _ z)
  rw [List.append_nil] at b
  obtain ⟨a1, a2, a3, a4, a5⟩ := J.pin q (List.mem_append_left _ hq)
  have pin : L2H.PinOk X.stack H1 t1 q := ⟨a1, a2, fun m => by
    rcases List.mem_cons.mp (J.stkSub q.1 m) with m | m
    · exact a3 m
    · exact a4 m, a5⟩
  refine wpAny_call (codeAny_mono (F.go q X.A X.stack t1 H1 ⟨us, []⟩ us vs Q _ hr pin J.env0 b r z) fun res t2 got => ?_)
  cases res with
  | error e => exact (hCX _ _ _ _ _ got).elim
  | ok fl =>
    cases fl with
    | ret u => exact J.after got
    | _ => exact False.elim got
end
/-- a def that is known, to be called so -/
structure OkJ (P : Program) (w : World) (K : PySem.W.Frag) (mg : Str → Option Value) (base : Heap) (C : Cst) (x : Str) (ps : List Str) (k : Nat) (F : FM) : Prop where
  ok : FnJ P w K mg base (L2.CX P w) k (ga K x) (fdOf K x) ps (fun q => spE C (some q) ps.length F)
  glo : mg x = some (.ref (ga K x))
  kp : PySem.W.keepIn K (.ref (ga K x)) = true
  bd : Binds K (fdOf K x) ps []
section
variable {P : Program} {w : World} {K : PySem.W.Frag} {mg : Str → Option Value} {base : Heap}
theorem okJ {C : Cst} {x qual : Str} {params : Arguments} {body : List Stmt} {scope : Scope} {f : Addr} {fd : FuncData} {N ps : List Str} {k : Nat} {b : SM} {dvs : List V} (F : FunD K x qual params body scope dvs [] f fd) (S : FnScope N ps scope) (hn : ps.length ≤ N.length)
    (hb : ∀ (cdv : Value) (a : Addr) (oe : Obj) (A : Around) (outer : List PySem.Env) (s : Shared) (H : Hp) (E : XK), L2H.RoomH k (A.deeper (envOfC qual scope s.heap.objs.size f cdv)) →
      PSs (L2H.cxH (L2.CX P w) P w K mg base N qual scope f cdv A outer s H E (a, oe)) body (TSe C (some (a, oe)) (fun cls dx _ H => E cls dx H) b)) : FnJ P w K mg base (L2.CX P w) (k + 1) f fd ps (fun q => spE C (some q) ps.length (mDef N.length b)) := by
  refine fnJ F S (fun q vs H Q E h => h.1) fun cdv q A out t H vs Q E hr h => ⟨_, hb cdv q.1 q.2 A out t H E hr, ?_⟩
  obtain ⟨hl, p, S', ds, hp, ok, r, po⟩ := h
  exact def_ends hp ok r (by rw [hl]; exact hn) po
end
theorem cx_no {P : Program} {w : World} : ∀ out H t e t', L2.CX P w out H t (fun _ _ _ => False) e t' → False := fun _ _ _ _ _ h => by
  obtain ⟨_, _, _, _, _, _, _, _, _, _, _, _, _, z⟩ := h
section
variable {X : Cx} {C : Cst} {W : WX} {pos q : Pos} {e : Expr} {es : List Expr} {ms : EM (List D)} {x : Str} {ps : List Str} {k : Nat} {F : FM} {a : Addr} {oe : Obj}
def mCallJ (F : FM) (ms : EM (List D)) : EM D := fun δ S => (ms δ S).bind fun xs S1 => match F xs S1 with
  | .ok d S2 => .ok d S2
  | _ => .stuck
theorem e_fnJ (O : OkJ X.prog X.w X.K X.mg X.base C x ps k F) (hr : L2H.RoomH k X.A) (hq : (a, oe) ∈ X.pn) (hg : Gl X x) (ha : PA X (e :: es) (TAe C (some (a, oe)) W ms)) (hn : ArgN ps.length ms) (hdb : (x == ("__debug__" : Str)) = false := by decide)
    (he : starEach (e :: es) X.env = (false, eval e X.env) :: starEach es X.env := by rfl) (hpl : (backTo pos (starEach es X.env)).any (·.1) = false := by rfl) : PE X (.Call (.Name x q) (e :: es) [] pos) (TEe C (some (a, oe)) W (mCallJ F ms)) :=
  pe_mono (pe_J O.ok cx_no hr hq hg O.glo O.kp O.bd ha hdb he hpl) fun σ H Q ⟨p, S, δ, hp, ok, re, po⟩ => by
    have po' : Post C W p H σ (Rep C) Q ((ms δ S).bind fun xs S1 => match F xs S1 with
      | .ok d S2 => .ok d S2
      | _ => .stuck) := po
    refine ⟨p, S, δ, hp, ok, re, ?_⟩
    cases e1 : ms δ S with
    | stuck => rw [e1] at po'; exact po'.elim
    | exc c d S1 => rw [e1] at po'; exact po'
    | ok xs S1 =>
      rw [e1] at po'
      have po2 : Post C W p H σ (Rep C) Q (match F xs S1 with
        | .ok d S2 => .ok d S2
        | _ => .stuck) := po'
      intro p' H' vs s o r
      refine ⟨by rw [← r.length]; exact hn δ S xs S1 e1, p', S1, xs, s.err.trans hp, o, r, ?_⟩
      have po3 := Post.step s po2
      cases e2 : F xs S1 with
      | ok d S2 => rw [e2] at po3; exact po3
      | exc c d S2 => rw [e2] at po3; exact po3.elim
      | stuck => rw [e2] at po3; exact po3.elim
end

/-! ### defs as values -/
section
variable {X : Cx} {C : Cst} {π : Option (Addr × Obj)} {W : WX} {pos q : Pos} {e : Expr} {es : List Expr} {ms : EM (List D)} {x : Str} {ps : List Str} {k i : Nat} {F : FM}
theorem e_fnv {f : Nat} (hm : X.mg x = some (.ref (C.fa f))) (hg : Gl X x) (hd : (x == ("__debug__" : Str)) = false := by decide) : PE X (.Name x pos) (TEe C π W (mC (.fn f))) :=
  e_c (pe_glob (v := .ref (C.fa f)) hg hm rfl hd) fun _ _ => by simp only [Rep]
def mCallV (tbl : Nat → Option (Nat × FM)) (i : Nat) (ms : EM (List D)) : EM D := fun δ S => match δ[i]? with
  | some (some (.fn f)) => (match tbl f with
    | some (n, F) => (ms δ S).bind fun xs S1 => if xs.length = n then F xs S1 else .stuck
    | none => .stuck)
  | _ => .stuck
theorem e_callV {tbl : Nat → Option (Nat × FM)} (A : ∀ f n F, tbl f = some (n, F) → ∃ (y : Str) (ps : List Str) (j : Nat), j ≤ k ∧ ps.length = n ∧ C.fa f = ga X.K y ∧ OkF X.prog X.w X.K X.mg X.base C y ps j F) (hr : Room k X.A) (tk : Takes X W) (hN : X.N[i]? = some x) (hv : Vis X.env.scope x) (ha : PA X (e :: es) (TAe C none W ms))
    (hdb : (x == ("__debug__" : Str)) = false := by decide) (hcd : (x == ("__classdict__" : Str)) = false := by decide)
    (he : starEach (e :: es) X.env = (false, eval e X.env) :: starEach es X.env := by rfl) (hpl : (backTo pos (starEach es X.env)).any (·.1) = false := by rfl) : PE X (.Call (.Name x q) (e :: es) [] pos) (TEe C none W (mCallV tbl i ms)) := by
  refine ⟨fun pins s σ H Q I h => ?_⟩
  obtain ⟨p, S, δ, hp, ok, re, po⟩ := h
  unfold mCallV at po
  split at po
  · rename_i f hd
    split at po
    · rename_i n F ht
      obtain ⟨y, ps, j, hj, hn, ca, O⟩ := A f n F ht
      obtain ⟨v, hv1, hv2⟩ := re.2 i _ hd
      simp only [Rep] at hv2
      subst hv2
      refine wpAny_Call_Name_kw (thn ((pe_var (pos := q) hN hv hdb hcd).run pins s σ H (fun v H1 => v = .ref (C.fa f) ∧ H1 = H) I ⟨_, hv1, rfl, rfl⟩) fun u s1 ⟨v, H1, I1, r1, q1⟩ => ?_)
      obtain ⟨rfl, rfl⟩ := q1
      cases r1
      rw [ca]
      have want : TAe C none W ms σ H1 fun vs H2 => spE C none ps.length F vs H2 Q (WE W σ) := by
        refine ⟨p, S, δ, hp, ok, re, ?_⟩
        cases e1 : ms δ S with
        | stuck => rw [e1] at po; exact po.elim
        | exc c d S1 => rw [e1] at po; exact po
        | ok xs S1 =>
          rw [e1] at po
          have po2 : Post C W p H1 σ (Rep C) Q (if xs.length = n then F xs S1 else .stuck) := po
          split at po2
          · rename_i hx
            intro p' H' vs s2 o r
            refine ⟨by rw [← r.length, hn]; exact hx, p', S1, xs, s2.err.trans hp, o, r, ?_⟩
            have po3 := Post.step s2 po2
            cases e2 : F xs S1 with
            | ok d S2 => rw [e2] at po3; exact po3
            | exc c d S2 => rw [e2] at po3; exact fun p2 H2 dx s3 o2 x2 => po3 p2 H2 dx s3 o2 x2
            | stuck => rw [e2] at po3; exact po3.elim
          · exact po2.elim
      refine PySem.W.callWith_K (h₀ := X.base) I1.ok.mod.kin O.kp (thn (ha.run pos pins s1 σ _ _ I1 want) fun us s2 ⟨vs, H2, I2, r, z⟩ => ⟨I2.kIn, ?_⟩) he hpl
      exact run_fnS O.ok (hr.mono hj) O.bd (passAt tk σ) I2 r z
    · exact po.elim
  · exact po.elim
end
/-! ### two fors -/
section
variable {X : Cx} {C : Cst} {π : Option (Addr × Obj)} {W : WX} {elt tg iter tg1 iter1 : Expr} {ifs ifs1 : List Expr} {scope : Scope} {own : List (Str × Nat)} {vs1 : List Nat} {mi mi1 : EM ItD} {g g1 : GM} {t t1 : EM Bool} {me : EM D} {pos spos py : Pos} {y : Str} {i : Nat}
structure Lc2Ok (X : Cx) (C : Cst) (π : Option (Addr × Obj)) (W : WX) (elt tg iter tg1 iter1 : Expr) (ifs ifs1 : List Expr) (scope : Scope) (own : List (Str × Nat)) (vs1 : List Nat) (mi : EM ItD) (g : GM) (t : EM Bool) (mi1 : EM ItD) (g1 : GM) (t1 : EM Bool) (me : EM D) : Prop where
  L : LcOk X C π W elt tg iter ifs scope own mi g t me
  hv : ∀ i ∈ vs1, i ∈ own.map (·.2)
  it1 : ∀ (s : Shared) (H : Hp) (Cc : Addr) (cl : List (Str × Addr)) (fp : List Addr), PI (X.blk s H scope (compEnvC scope cl Cc X.env) fp) tg1 iter1 (TIe C π WF mi1)
  tg1 : ∀ (s : Shared) (H : Hp) (Cc : Addr) (cl : List (Str × Addr)) (fp : List Addr), PG (X.blk s H scope (compEnvC scope cl Cc X.env) fp) tg1 (TGe C π vs1 g1)
  tt1 : ∀ (s : Shared) (H : Hp) (Cc : Addr) (cl : List (Str × Addr)) (fp : List Addr), PTs (X.blk s H scope (compEnvC scope cl Cc X.env) fp) ifs1 (TTe C π WF t1)
  fs1 : ∀ env x, foldedSetIterable iter1 env x = pure x
theorem e_LC2 (own : List (Str × Nat)) (vs1 : List Nat) (L2 : Lc2Ok X C π W elt tg iter tg1 iter1 ifs ifs1 scope own vs1 mi g t mi1 g1 t1 me) : PE X (.ListComp elt [⟨tg, iter, ifs, 0⟩, ⟨tg1, iter1, ifs1, 0⟩] scope pos) (TEe C π W (mLc2 mi g t mi1 g1 t1 me (own.map (·.2)) vs1)) :=
  pe_mono (pe_lc2 L2.L.calm L2.L.nd L2.L.it L2.L.ok L2.hv L2.L.tg L2.L.tt L2.it1 L2.tg1 L2.tt1 L2.L.el L2.L.fs L2.fs1) fun σ H Q h => lc2_read h
theorem z_LC2 (own : List (Str × Nat)) (vs1 : List Nat) (L2 : Lc2Ok X C π W elt tg iter tg1 iter1 ifs ifs1 scope own vs1 mi g t mi1 g1 t1 me) (hy : X.N[i]? = some y) (hyl : X.env.scope.names.lookup y = some .local) (hsw : swapsWith (.ListComp elt [⟨tg, iter, ifs, 0⟩, ⟨tg1, iter1, ifs1, 0⟩] scope pos) (some (.Name y py)) spos.line X.env = pure true) :
    PS X (.Assign [.Name y py] (.ListComp elt [⟨tg, iter, ifs, 0⟩, ⟨tg1, iter1, ifs1, 0⟩] scope pos) spos) (TSe C π W (sAsg (mLc2 mi g t mi1 g1 t1 me (own.map (·.2)) vs1) (gmName i))) :=
  ps_mono (ps_setLc2 L2.L.calm L2.L.nd hy hyl hsw L2.L.it L2.L.ok L2.hv L2.L.tg L2.L.tt L2.it1 L2.tg1 L2.tt1 L2.L.el L2.L.fs L2.fs1) fun DE σ H ⟨p, S, δ, hp, ok, re, po⟩ => by
    have h : TEe C π W (mLc2 mi g t mi1 g1 t1 me (own.map (·.2)) vs1) σ H (fun x H1 => gName i x σ H1 DE.nx) := TRe.st hp ok re po fun d S1 p1 H1 v s1 k1 ok1 hp1 re1 r1 po1 => po1 p1 H1 _ (Step.refl _ _) ok1 (re1.set r1)
    exact lc2_read h
end
/-! ### room in a hot def -/
theorem rm64J {k : Nat} {A : Around} (r : L2H.RoomH k A) : A.units + 64 < cLine := by have := r.un; omega
theorem rm65J {k : Nat} {A : Around} (r : L2H.RoomH k A) : A.units + 65 < cLine := by have := r.un; omega
/-! ### a call that leaves the last argument to its default -/
structure OkD (K : PySem.W.Frag) (x : Str) (ps : List Str) (dvs : List V) : Prop where
  ex : ∃ ds, Vals dvs ds ∧ Binds K (fdOf K x) ps ds
section
variable {X : Cx} {C : Cst} {W : WX} {pos q : Pos} {e : Expr} {es : List Expr} {ms : EM (List D)} {x : Str} {ps : List Str} {k n : Nat} {F : FM} {dd : List D} {dvs : List V}
theorem e_fnD (O : OkF X.prog X.w X.K X.mg X.base C x ps k F) (O2 : OkD X.K x ps dvs) (hd : ∀ p H, RepL C p H dd dvs) (hr : Room k X.A) (tk : Takes X W) (hg : Gl X x) (ha : PA X (e :: es) (TAe C none W ms)) (hn : ArgN n ms) (hl : n + dd.length = ps.length) (hdb : (x == ("__debug__" : Str)) = false := by decide)
    (he : starEach (e :: es) X.env = (false, eval e X.env) :: starEach es X.env := by rfl) (hpl : (backTo pos (starEach es X.env)).any (·.1) = false := by rfl) : PE X (.Call (.Name x q) (e :: es) [] pos) (TEe C none W (mCallD F dd ms)) := by
  obtain ⟨ds, hv, hb⟩ := O2.ex
  refine pe_mono (pe_callSD (E := WE W) O.ok hr hg O.glo O.kp hb hv (fun σ => passAt tk σ) ha hdb he hpl) fun σ H Q ⟨p, S, δ, hp, ok, re, po⟩ => ?_
  have po' : Post C W p H σ (Rep C) Q ((ms δ S).bind fun xs S1 => F (xs ++ dd) S1) := po
  refine ⟨p, S, δ, hp, ok, re, ?_⟩
  cases e1 : ms δ S with
  | stuck => rw [e1] at po'; exact po'.elim
  | exc c d S1 => rw [e1] at po'; exact po'
  | ok xs S1 =>
    rw [e1] at po'
    have po2 : Post C W p H σ (Rep C) Q (F (xs ++ dd) S1) := po'
    intro p' H' vs s o r
    have rr := RepL.append r (hd p' H')
    refine ⟨?_, p', S1, xs ++ dd, s.err.trans hp, o, rr, ?_⟩
    · rw [← rr.length, List.length_append, hn δ S xs S1 e1]; exact hl
    · have po3 := Post.step s po2
      cases e2 : F (xs ++ dd) S1 with
      | ok d S2 => rw [e2] at po3; exact po3
      | exc c d S2 => rw [e2] at po3; exact fun p2 H2 dx s2 o2 x2 => po3 p2 H2 dx s2 o2 x2
      | stuck => rw [e2] at po3; exact po3.elim
end
/-! ### a test that is a choice; three names at once -/
def mIfT (c a b : EM Bool) : EM Bool := fun δ S => (c δ S).bind fun k S1 => if k = true then a δ S1 else b δ S1
section
variable {X : Cx} {C : Cst} {π : Option (Addr × Obj)} {W : WX} {pos : Pos} {c a b : Expr} {tc ta tb : EM Bool}
theorem t_ifx (hc : PT X c (TTe C π W tc)) (ha : PT X a (TTe C π W ta)) (hb : PT X b (TTe C π W tb)) : PT X (.IfExp c a b pos) (TTe C π W (mIfT tc ta tb)) := by
  refine ⟨fun pins s σ H Q I h => isTrue_IfExp (thn (hc.run pins s σ H (fun k H1 => if k = true then TTe C π W ta σ H1 Q else TTe C π W tb σ H1 Q) I ?_) fun k s1 ⟨H1, I1, q⟩ => ?_)⟩
  · obtain ⟨p, S, δ, hp, ok, re, po⟩ := h
    refine TRe.go hp ok re po fun x S1 p1 H1 v k1 ok1 hp1 re1 r1 po1 => ?_
    subst r1
    cases x with
    | true => exact ⟨p1, S1, δ, hp1, ok1, re1, po1⟩
    | false => exact ⟨p1, S1, δ, hp1, ok1, re1, po1⟩
  · cases k with
    | true => exact ha.run pins s1 σ H1 Q I1 q
    | false => exact hb.run pins s1 σ H1 Q I1 q
def sPar3 (i j l : Nat) (ms : EM (List D)) : SM := fun δ S => SR.of (ms δ S) δ fun ds S1 => match ds with
  | [d, e, f] => .nx (((δ.set i (some d)).set j (some e)).set l (some f)) S1
  | _ => .stuck
theorem RepL.three {p : Pl} {H : Hp} {d e f : D} {vs : List V} (r : RepL C p H [d, e, f] vs) : ∃ v w u, vs = [v, w, u] ∧ Rep C p H d v ∧ Rep C p H e w ∧ Rep C p H f u := by
  simp only [RepL] at r
  obtain ⟨v, _, rfl, q1, w, _, rfl, q2, u, _, rfl, q3, rfl⟩ := r
  exact ⟨v, w, u, rfl, q1, q2, q3⟩
theorem z_par3 {i j l : Nat} {x y z : Str} {e1 e2 e3 : Expr} {ms : EM (List D)} {px py pz pt : Pos} {kt k2 pt2} (hc : X.calm = true) (hN : X.N.Nodup) (hi : X.N[i]? = some x) (hj : X.N[j]? = some y) (hl : X.N[l]? = some z) (hij : i ≠ j) (hil : i ≠ l) (hjl : j ≠ l)
    (hx : X.env.scope.names.lookup x = some .local) (hy : X.env.scope.names.lookup y = some .local) (hz : X.env.scope.names.lookup z = some .local) (ha : PA X [e1, e2, e3] (TAe C π W ms))
    (hw : swappedStores [.Tuple [.Name x px, .Name y py, .Name z pz] kt pt] (.Tuple [e1, e2, e3] k2 pt2) X.env = pure (some [x, y, z]))
    (hs : swapsWithSole [.Tuple [.Name x px, .Name y py, .Name z pz] kt pt] (.Tuple [e1, e2, e3] k2 pt2) pos.line X.env = pure false := by rfl) :
    PS X (.Assign [.Tuple [.Name x px, .Name y py, .Name z pz] kt pt] (.Tuple [e1, e2, e3] k2 pt2) pos) (TSe C π W (sPar3 i j l ms)) :=
  ps_mono (ps_par3 hc hN hi hj hl hij hil hjl hx hy hz ha hw hs) fun D σ H ⟨p, S, δ, hp, ok, re, po⟩ => TRe.st hp ok re po fun ds S1 p1 H1 vs s1 k1 ok1 hp1 re1 r1 po1 => by
    split at po1
    · rename_i d d2 d3
      obtain ⟨v, w, u, rfl, q1, q2, q3⟩ := RepL.three r1
      exact ⟨v, w, u, rfl, po1 p1 H1 _ (Step.refl _ _) ok1 (((re1.set q1).set q2).set q3)⟩
    · exact po1.elim
end

open PySem

/-! ### plain evaluation: what must hold so that a part ends well -/
abbrev EK : Type := Nat → D → Store → Prop
def Wr {α : Type} (r : Res α) (Q : α → Store → Prop) (E : EK) : Prop := match r with
  | .ok a S => Q a S
  | .exc c d S => E c d S
  | .stuck => False
structure Ko where
  nx : Env → Store → Prop
  rt : D → Store → Prop
  bk : Env → Store → Prop
  ct : Env → Store → Prop
  ex : EK
/-- .. with another way on -/
abbrev Ko.sq (K : Ko) (f : Env → Store → Prop) : Ko := { K with nx := f }
abbrev Ko.rd (K : Ko) (f : Env → Store → Prop) : Ko := { K with nx := f, ct := f, bk := K.nx }
/-- the ends of a def -/
abbrev kE (QD : D → Store → Prop) (E : EK) : Ko := { nx := fun _ S' => QD .non S', rt := QD, bk := fun _ _ => False, ct := fun _ _ => False, ex := E }
def Ws (r : SR) (K : Ko) : Prop := match r with
  | .nx δ S => K.nx δ S
  | .rt d S => K.rt d S
  | .bk δ S => K.bk δ S
  | .ct δ S => K.ct δ S
  | .exc c d _ S => K.ex c d S
  | .stuck => False
section
variable {α β : Type} {Q : α → Store → Prop} {E : EK} {K : Ko} {δ : Env} {S : Store} {QD : D → Store → Prop} {QL : List D → Store → Prop} {QB : Bool → Store → Prop}
theorem Wr.bind {r : Res α} {f : α → M β} {Q : β → Store → Prop} (h : Wr r (fun a S1 => Wr (f a S1) Q E) E) : Wr (r.bind f) Q E := by
  cases r <;> exact h
theorem Wr.mono {r : Res α} {Q' : α → Store → Prop} {E' : EK} (h : Wr r Q' E') (hq : ∀ a S, Q' a S → Q a S) (he : ∀ c d S, E' c d S → E c d S) : Wr r Q E := by
  cases r
  · exact hq _ _ h
  · exact he _ _ _ h
  · exact h
theorem Wr.eq {r : Res α} {a : α} (e : r = .ok a S) (h : Q a S) : Wr r Q E := by rw [e]; exact h
theorem Wr.out {o : Option α} {a : α} (e : o = some a) (h : Q a S) : Wr (out o S) Q E := by rw [e]; exact h
theorem Wr.ok {r : Res α} (h : Wr r Q fun _ _ _ => False) : ∃ a S', r = .ok a S' ∧ Q a S' := by
  cases r
  · exact ⟨_, _, rfl, h⟩
  · exact h.elim
  · exact h.elim
theorem w_var {i : Nat} {d : D} (h : δ[i]? = some (some d)) (q : QD d S) : Wr (mVar i δ S) QD E := by
  unfold mVar; rw [h]; exact q
theorem w_c {d : D} (q : QD d S) : Wr (mC d δ S) QD E := q
theorem w_nil (q : QL [] S) : Wr (mNil δ S) QL E := q
theorem w_cons {a : EM D} {b : EM (List D)} (h : Wr (a δ S) (fun x S1 => Wr (b δ S1) (fun y S2 => QL (x :: y) S2) E) E) : Wr (mCons a b δ S) QL E := Wr.bind (h.mono (fun _ _ h => Wr.bind h) fun _ _ _ h => h)
theorem w_op {g : Store → D → D → Option D} {a b : EM D} (h : Wr (a δ S) (fun x S1 => Wr (b δ S1) (fun y S2 => Wr (out (g S2 x y) S2) QD E) E) E) : Wr (mOp g a b δ S) QD E := Wr.bind (h.mono (fun _ _ h => Wr.bind h) fun _ _ _ h => h)
theorem w_un {g : Store → D → Option D} {a : EM D} (h : Wr (a δ S) (fun x S1 => Wr (out (g S1 x) S1) QD E) E) : Wr (mUn g a δ S) QD E := Wr.bind h
theorem w_cb {g : Store → List D → Option D} {a : EM (List D)} (h : Wr (a δ S) (fun x S1 => Wr (out (g S1 x) S1) QD E) E) : Wr (mCB g a δ S) QD E := Wr.bind h
theorem w_call {F : FM} {a : EM (List D)} (h : Wr (a δ S) (fun x S1 => Wr (F x S1) QD E) E) : Wr (mCall F a δ S) QD E := Wr.bind h
theorem w_tup {a : EM (List D)} (h : Wr (a δ S) (fun x S1 => small x = true ∧ QD (.tup x) S1) E) : Wr (mTup a δ S) QD E := Wr.bind (h.mono (fun x S1 ⟨h1, h2⟩ => by rw [if_pos h1]; exact h2) fun _ _ _ h => h)
theorem w_lst {a : EM (List D)} (h : Wr (a δ S) (fun x S1 => small x = true ∧ QD (.lst x) S1) E) : Wr (mLst a δ S) QD E := Wr.bind (h.mono (fun x S1 ⟨h1, h2⟩ => by rw [if_pos h1]; exact h2) fun _ _ _ h => h)
theorem w_loc {a : EM (List D)} (h : Wr (a δ S) (fun x S1 => small x = true ∧ QD (.loc S1.length) (S1 ++ [.lst x])) E) : Wr (mLoc a δ S) QD E := Wr.bind (h.mono (fun x S1 ⟨h1, h2⟩ => by rw [if_pos h1]; exact h2) fun _ _ _ h => h)
theorem w_test {a : EM D} (h : Wr (a δ S) (fun x S1 => ∃ k, x = .bl k ∧ QB k S1) E) : Wr (mTest a δ S) QB E := Wr.bind (h.mono (fun x S1 ⟨k, e, h⟩ => by subst e; exact h) fun _ _ _ h => h)
theorem w_not {t : EM Bool} (h : Wr (t δ S) (fun k S1 => QB (!k) S1) E) : Wr (mNot t δ S) QB E := Wr.bind h
theorem w_andB {t u : EM Bool} (h : Wr (t δ S) (fun k S1 => (k = true → Wr (u δ S1) QB E) ∧ (k = false → QB false S1)) E) : Wr (mAnd t u δ S) QB E := Wr.bind (h.mono (fun k S1 h => by cases k; exact h.2 rfl; exact h.1 rfl) fun _ _ _ h => h)
theorem w_orB {t u : EM Bool} (h : Wr (t δ S) (fun k S1 => (k = true → QB true S1) ∧ (k = false → Wr (u δ S1) QB E)) E) : Wr (mOr t u δ S) QB E := Wr.bind (h.mono (fun k S1 h => by cases k; exact h.2 rfl; exact h.1 rfl) fun _ _ _ h => h)
theorem w_if {t : EM Bool} {a b : EM D} (h : Wr (t δ S) (fun k S1 => (k = true → Wr (a δ S1) QD E) ∧ (k = false → Wr (b δ S1) QD E)) E) : Wr (mIf t a b δ S) QD E := Wr.bind (h.mono (fun k S1 h => by cases k; exact h.2 rfl; exact h.1 rfl) fun _ _ _ h => h)
theorem w_tru {a : EM D} (h : Wr (a δ S) (fun x S1 => Wr (out (truD S1 x) S1) QB E) E) : Wr (mTru a δ S) QB E := Wr.bind h
theorem w_andV {a b : EM D} (h : Wr (a δ S) (fun x S1 => Wr (out (truD S1 x) S1) (fun k S2 => (k = true → Wr (b δ S2) QD E) ∧ (k = false → QD x S2)) E) E) : Wr (mAndV a b δ S) QD E :=
  Wr.bind (h.mono (fun x S1 h => Wr.bind (h.mono (fun k S1 h => by cases k; exact h.2 rfl; exact h.1 rfl) fun _ _ _ h => h)) fun _ _ _ h => h)
theorem w_orV {a b : EM D} (h : Wr (a δ S) (fun x S1 => Wr (out (truD S1 x) S1) (fun k S2 => (k = true → QD x S2) ∧ (k = false → Wr (b δ S2) QD E)) E) E) : Wr (mOrV a b δ S) QD E :=
  Wr.bind (h.mono (fun x S1 h => Wr.bind (h.mono (fun k S1 h => by cases k; exact h.2 rfl; exact h.1 rfl) fun _ _ _ h => h)) fun _ _ _ h => h)
theorem w_notV {a : EM D} (h : Wr (a δ S) (fun x S1 => Wr (out (truD S1 x) S1) (fun k S2 => QD (.bl (!k)) S2) E) E) : Wr (mNotV a δ S) QD E := Wr.bind (h.mono (fun x S1 h => Wr.bind h) fun _ _ _ h => h)
/-! statements -/
theorem Ws.of {r : Res α} {k : α → Store → SR} (h : Wr r (fun a S1 => Ws (k a S1) K) K.ex) : Ws (SR.of r δ k) K := by
  cases r <;> exact h
theorem s_next (h : K.nx δ S) : Ws (sNext δ S) K := h
theorem s_seq {a b : SM} (h : Ws (a δ S) (K.sq fun δ' S' => Ws (b δ' S') K)) : Ws (sSeq a b δ S) K := by
  unfold sSeq
  cases e : a δ S <;> (rw [e] at h; exact h)
theorem s_ret {m : EM D} (h : Wr (m δ S) K.rt K.ex) : Ws (sRet m δ S) K := Ws.of h
theorem s_retN (h : K.rt .non S) : Ws (sRetN δ S) K := h
theorem s_drop {m : EM D} (h : Wr (m δ S) (fun _ S1 => K.nx δ S1) K.ex) : Ws (sDrop m δ S) K := Ws.of h
theorem s_if {t : EM Bool} {a b : SM} (h : Wr (t δ S) (fun k S1 => (k = true → Ws (a δ S1) K) ∧ (k = false → Ws (b δ S1) K)) K.ex) : Ws (sIf t a b δ S) K :=
  Ws.of (h.mono (fun k S1 h => by cases k; exact h.2 rfl; exact h.1 rfl) fun _ _ _ h => h)
theorem s_brk (h : K.bk δ S) : Ws (sBrk δ S) K := h
theorem s_ct (h : K.ct δ S) : Ws (sCt δ S) K := h
theorem s_set {m : EM D} {i : Nat} (h : Wr (m δ S) (fun d S1 => K.nx (δ.set i (some d)) S1) K.ex) : Ws (sAsg m (gmName i) δ S) K := Ws.of h
theorem s_sub {m mo mi : EM D} (h : Wr (m δ S) (fun d S1 => Wr (mo δ S1) (fun o S2 => Wr (mi δ S2) (fun i S3 => ∃ S4, setD S3 o i d = some S4 ∧ K.nx δ S4) fun _ _ _ => False) fun _ _ _ => False) K.ex) : Ws (sAsg m (gmSub mo mi) δ S) K :=
  Ws.of (h.mono (fun d S1 h => by
    obtain ⟨o, S2, e2, h⟩ := h.ok
    obtain ⟨i, S3, e3, S4, e4, h⟩ := h.ok
    have : gmSub mo mi d δ S1 = .ok δ S4 := by
      unfold gmSub
      rw [e2]
      show (mi δ S2).bind _ = _
      rw [e3]
      show (match setD S3 o i d with | some S3 => .ok δ S3 | none => .stuck : Res Env) = _
      rw [e4]
    rw [this]
    exact h) fun _ _ _ h => h)
theorem s_aug {i : Nat} {g : Store → D → D → Option D} {m : EM D} {x : D} (hx : δ[i]? = some (some x)) (h : Wr (m δ S) (fun y S1 => ∃ z, g S1 x y = some z ∧ K.nx (δ.set i (some z)) S1) K.ex) : Ws (sAug i g m δ S) K := by
  unfold sAug
  rw [hx]
  exact Ws.of (h.mono (fun y S1 ⟨z, e, h⟩ => by rw [e]; exact h) fun _ _ _ h => h)
theorem s_raise {c k : Nat} {m : EM D} (h : Wr (m δ S) (fun d S1 => rsnOk k d = true ∧ K.ex c d S1) K.ex) : Ws (sRaise c k m δ S) K :=
  Ws.of (h.mono (fun d S1 ⟨e, h⟩ => by rw [if_pos e]; exact h) fun _ _ _ h => h)
theorem s_par {i j : Nat} {ms : EM (List D)} (h : Wr (ms δ S) (fun ds S1 => ∃ d e, ds = [d, e] ∧ K.nx ((δ.set i (some d)).set j (some e)) S1) K.ex) : Ws (sPar i j ms δ S) K :=
  Ws.of (h.mono (fun y S1 ⟨d, e, z, h⟩ => by subst z; exact h) fun _ _ _ h => h)
/-- a def -/
theorem w_def {n : Nat} {b : SM} {ds : List D} (h : Ws (b (envOf n ds) S) (kE QD E)) : Wr (mDef n b ds S) QD E := by
  unfold mDef
  cases e : b (envOf n ds) S <;> (rw [e] at h; exact h)
/-- a for, by an invariant -/
theorem forGo_inv {it : ItD} {g : GM} {b : SM} (I : Nat → Env → Store → Prop) (hend : ∀ i δ S, I i δ S → i ≤ it.n ∧ ((i = it.n → it.item i S = some none) ∧ (i < it.n → ∃ d, it.item i S = some (some d) ∧ ∃ δ1 S1, g d δ S = .ok δ1 S1 ∧ Ws (b δ1 S1) (K.rd (I (i + 1))))))
    (hq : ∀ δ S, I it.n δ S → K.nx δ S) : ∀ (k i : Nat) (δ : Env) (S : Store), i + k = it.n → I i δ S → Ws (forGo it g b k i δ S) K := by
  intro k
  induction k with
  | zero =>
    intro i δ S hi h
    have hi' : i = it.n := by omega
    have h1 := (hend i δ S h).2.1 hi'
    unfold forGo
    rw [h1]
    subst hi'
    exact hq δ S h
  | succ k ih =>
    intro i δ S hi h
    obtain ⟨d, e1, δ1, S1, e2, w⟩ := (hend i δ S h).2.2 (by omega)
    unfold forGo
    rw [e1]
    simp only
    rw [e2]
    simp only
    cases e : b δ1 S1 with
    | nx δ2 S2 => rw [e] at w; exact ih (i + 1) δ2 S2 (by omega) w
    | ct δ2 S2 => rw [e] at w; exact ih (i + 1) δ2 S2 (by omega) w
    | bk δ2 S2 => rw [e] at w; exact w
    | rt d S2 => rw [e] at w; exact w
    | exc c d δ2 S2 => rw [e] at w; exact w
    | stuck => rw [e] at w; exact w
/-- a comprehension whose body ends well, by an invariant of what is gathered -/
theorem compGo_inv {it : ItD} {g : GM} {t : EM Bool} {e : EM D} {δ0 : Env} {Q : List D → Store → Prop} (I : Nat → List D → Store → Prop)
    (hend : ∀ i acc S, I i acc S → i = it.n → it.item i S = some none ∧ Q acc S)
    (hgo : ∀ i acc S, I i acc S → i < it.n → ∃ d, it.item i S = some (some d) ∧ ∃ δ1 S1, g d δ0 S = .ok δ1 S1 ∧ Wr (t δ1 S1) (fun b S2 => (b = true → acc.length < sizeLine ∧ Wr (e δ1 S2) (fun y S3 => I (i + 1) (acc ++ [y]) S3) fun _ _ _ => False) ∧ (b = false → I (i + 1) acc S2)) fun _ _ _ => False) :
    ∀ (k i : Nat) (acc : List D) (S : Store), i + k = it.n → I i acc S → ∃ ds S', compGo it g t e δ0 k i acc S = .ok ds S' ∧ Q ds S' := by
  intro k
  induction k with
  | zero =>
    intro i acc S hi h
    obtain ⟨h1, h2⟩ := hend i acc S h (by omega)
    unfold compGo
    rw [h1]
    exact ⟨acc, S, rfl, h2⟩
  | succ k ih =>
    intro i acc S hi h
    obtain ⟨d, e1, δ1, S1, e2, w⟩ := hgo i acc S h (by omega)
    unfold compGo
    rw [e1]
    simp only
    rw [e2]
    simp only
    obtain ⟨b, S2, e3, hb⟩ := w.ok
    rw [e3]
    simp only
    cases b with
    | true =>
      obtain ⟨hl, w2⟩ := hb.1 rfl
      obtain ⟨y, S3, e4, h4⟩ := w2.ok
      rw [if_pos rfl, e4]
      simp only
      rw [if_pos hl]
      exact ih (i + 1) _ S3 (by omega) h4
    | false =>
      rw [if_neg (by simp)]
      exact ih (i + 1) acc S2 (by omega) (hb.2 rfl)
theorem w_lc {mi : EM ItD} {g : GM} {t : EM Bool} {e : EM D} {vs : List Nat} (h : Wr (mi δ S) (fun it S1 => ∃ ds S2, compGo it g t e (wipeE δ vs) it.n 0 [] S1 = .ok ds S2 ∧ QD (.lst ds) S2) E) : Wr (mLc mi g t e vs δ S) QD E :=
  Wr.bind (h.mono (fun it S1 ⟨ds, S2, e1, q⟩ => by rw [e1]; exact q) fun _ _ _ h => h)
theorem w_yes (h : QB true S) : Wr (mYes δ S) QB E := h
theorem w_itA {g : List D → Option ItD} {m : EM (List D)} {QI : ItD → Store → Prop} (h : Wr (m δ S) (fun x S1 => Wr (out (g x) S1) QI E) E) : Wr (mItA g m δ S) QI E := Wr.bind h
theorem w_itS {g : Store → List D → Option ItD} {m : EM (List D)} {QI : ItD → Store → Prop} (h : Wr (m δ S) (fun x S1 => Wr (out (g S1 x) S1) QI E) E) : Wr (mItS g m δ S) QI E := Wr.bind h
theorem w_it {m : EM D} {QI : ItD → Store → Prop} (h : Wr (m δ S) (fun x S1 => Wr (out (iterD S1 x) S1) QI E) E) : Wr (mIt m δ S) QI E := Wr.bind h
theorem s_for {mi : EM ItD} {g : GM} {b : SM} (h : Wr (mi δ S) (fun it S1 => Ws (forGo it g b it.n 0 δ S1) K) K.ex) : Ws (sFor mi g b δ S) K := Ws.of h
theorem w_part {m : EM D} {QP : Option Int → Store → Prop} (h : Wr (m δ S) (fun d S1 => ∃ i, d = .int i ∧ QP (some i) S1) E) : Wr (mPart m δ S) QP E := Wr.bind (h.mono (fun d S1 ⟨i, e, q⟩ => by subst e; exact q) fun _ _ _ h => h)
theorem w_noPart {QP : Option Int → Store → Prop} (h : QP none S) : Wr (mNoPart δ S) QP E := h
theorem w_sl {m : EM D} {lo hi : EM (Option Int)} (h : Wr (m δ S) (fun d S1 => Wr (lo δ S1) (fun l S2 => Wr (hi δ S2) (fun u S3 => Wr (out (slD S3 d l u) S3) QD E) E) E) E) : Wr (mSl m lo hi δ S) QD E :=
  Wr.bind (h.mono (fun _ _ h => Wr.bind (h.mono (fun _ _ h => Wr.bind h) fun _ _ _ h => h)) fun _ _ _ h => h)
end
/-! ### the operators at plain values -/
section
variable {S : Store} {i j : Int}
theorem add_ii : addD S (.int i) (.int j) = some (.int (i + j)) := rfl
theorem sub_ii : subD S (.int i) (.int j) = some (.int (i - j)) := rfl
theorem mod_ii (h : 0 < j) : modD S (.int i) (.int j) = some (.int (i % j)) := if_pos h
theorem fdiv_ii (h : 0 < j) (h2 : j.natAbs.log2 < 9000) : fdivD S (.int i) (.int j) = some (.int (i / j)) := if_pos ⟨h, h2⟩
theorem mul_ii (h : i.natAbs.log2 + j.natAbs.log2 < 1000000) : mulV S (.int i) (.int j) = some (.int (i * j)) := if_pos h
theorem beq_dec : (i == j) = decide (i = j) := by rw [Bool.eq_iff_iff]; simp
theorem eq_ii : eqD S (.int i) (.int j) = some (.bl (decide (i = j))) := by
  show some (D.bl (i == j)) = _
  rw [beq_dec]
theorem ne_ii : neD S (.int i) (.int j) = some (.bl (!decide (i = j))) := by
  show some (D.bl (!(i == j))) = _
  rw [beq_dec]
theorem lt_ii : ltD S (.int i) (.int j) = some (.bl (decide (i < j))) := rfl
theorem le_ii : leD S (.int i) (.int j) = some (.bl (decide (i ≤ j))) := rfl
theorem gt_ii : gtD S (.int i) (.int j) = some (.bl (decide (j < i))) := rfl
theorem ge_ii : geD S (.int i) (.int j) = some (.bl (decide (j ≤ i))) := rfl
theorem int_i : intD S [.int i] = some (.int i) := rfl
theorem abs_i : absD S [.int i] = some (.int (if i < 0 then -i else i)) := rfl
theorem neg_i : negD S (.int i) = some (.int (-i)) := rfl
theorem len_lst {ds : List D} : lenD S [.lst ds] = some (.int ds.length) := rfl
theorem len_tup {ds : List D} : lenD S [.tup ds] = some (.int ds.length) := rfl
theorem len_str {x : Str} (h : x.length ≤ sizeLine) : lenD S [.str x] = some (.int x.length) := if_pos h
theorem log_le {k : Nat} (h : i.natAbs < 2 ^ k) : i.natAbs.log2 ≤ k := by
  by_cases z : i.natAbs = 0
  · rw [z]; simp
  · exact Nat.le_of_lt ((Nat.log2_lt z).mpr h)
end
theorem ex_bl {k : Bool} {P : Bool → Prop} (h : P k) : ∃ k', D.bl k = .bl k' ∧ P k' := ⟨k, rfl, h⟩
theorem ex_int {k : Int} {P : Int → Prop} (h : P k) : ∃ k', D.int k = .int k' ∧ P k' := ⟨k, rfl, h⟩
theorem ex_two {a b : D} {P : D → D → Prop} (h : P a b) : ∃ d e, [a, b] = [d, e] ∧ P d e := ⟨a, b, rfl, h⟩
/-- one step on -/
local macro_rules | `(tactic| walk_at "wp1") => `(tactic| first
  | with_reducible refine s_seq ?_
  | with_reducible refine s_set ?_
  | with_reducible refine s_sub ?_
  | with_reducible refine s_if ?_
  | with_reducible refine s_ret ?_
  | with_reducible refine s_retN ?_
  | with_reducible refine s_drop ?_
  | with_reducible refine s_next ?_
  | with_reducible refine s_raise ?_
  | with_reducible refine s_par ?_
  | with_reducible refine w_op ?_
  | with_reducible refine w_var (by with_unfolding_all rfl) ?_
  | with_reducible refine w_c ?_
  | with_reducible refine w_cons ?_
  | with_reducible refine w_nil ?_
  | with_reducible refine w_cb ?_
  | with_reducible refine w_un ?_
  | with_reducible refine w_call ?_
  | with_reducible refine w_test ?_
  | with_reducible refine w_andB ?_
  | with_reducible refine w_orB ?_
  | with_reducible refine w_not ?_
  | with_reducible refine w_tru ?_
  | with_reducible refine w_tup ?_
  | with_reducible refine w_lst ?_
  | with_reducible refine w_sl ?_
  | with_reducible refine w_part ?_
  | with_reducible refine w_noPart ?_
  | with_reducible refine w_andV ?_
  | with_reducible refine w_orV ?_
  | with_reducible refine w_notV ?_
  | with_reducible refine w_if ?_
  | with_reducible refine w_itA ?_
  | with_reducible refine w_itS ?_
  | with_reducible refine w_it ?_
  | with_reducible refine w_yes ?_
  | with_reducible refine s_for ?_
  | with_reducible refine Wr.out eq_ii ?_
  | with_reducible refine Wr.out ne_ii ?_
  | with_reducible refine Wr.out add_ii ?_
  | with_reducible refine Wr.out sub_ii ?_
  | with_reducible refine Wr.out lt_ii ?_
  | with_reducible refine Wr.out le_ii ?_
  | with_reducible refine Wr.out gt_ii ?_
  | with_reducible refine Wr.out ge_ii ?_
  | with_reducible refine Wr.out int_i ?_
  | with_reducible refine Wr.out abs_i ?_
  | with_reducible refine Wr.out neg_i ?_
  | with_reducible refine Wr.out len_lst ?_
  | with_reducible refine Wr.out len_tup ?_
  | (with_reducible refine Wr.out (mod_ii ?_) ?_; (first | assumption | decide | omega); skip)
  | (with_reducible refine Wr.out (fdiv_ii ?_ ?_) ?_; (first | assumption | decide | omega); (first | assumption | decide); skip)
  | with_reducible refine ex_bl ?_
  | with_reducible refine ex_int ?_
  | with_reducible refine ex_two ?_)
local macro_rules | `(tactic| walk_at "wps") => `(tactic| repeat walk_at "wp1")

open PySem L2
/-- the laws' state: the script, the draw under way, the next place, the last seed -/
structure St (S : Store) (r : Store) : Prop where
  ex : ∃ (ns : List Int) (a b c : Int), S = .lst [.lst (ns.map D.int), .int a, .int b, .int c] :: r ∧ 0 ≤ a ∧ 0 ≤ b ∧ 0 ≤ c ∧ c < 2147483630
def drawA : SM := (sSeq (sIf (mAnd (mTest (mOp eqD (mOp ixD (mVar 0) (mC (.int 1))) (mC (.int 0)))) (mTest (mOp geD (mOp ixD (mVar 0) (mC (.int 2))) (mCB lenD (mCons (mOp ixD (mVar 0) (mC (.int 0))) mNil))))) (sSeq (sAsg (mOp modD (mCB intD (mCons (mOp addD (mOp mulV (mOp ixD (mVar 0) (mC (.int 3))) (mC (.int 48271))) (mC (.int 69621))) mNil)) (mC (.int 2147483629))) (gmSub (mVar 0) (mC (.int 3)))) (sRet (mOp modD (mCB intD (mCons (mOp fdivD (mOp ixD (mVar 0) (mC (.int 3))) (mC (.int 13))) mNil)) (mVar 1)))) sNext) (sSeq (sIf (mTest (mOp eqD (mOp ixD (mVar 0) (mC (.int 1))) (mC (.int 0)))) (sSeq (sAsg (mCB absD (mCons (mOp ixD (mOp ixD (mVar 0) (mC (.int 0))) (mOp ixD (mVar 0) (mC (.int 2)))) mNil)) (gmSub (mVar 0) (mC (.int 1)))) (sAsg (mOp addD (mOp ixD (mVar 0) (mC (.int 2))) (mC (.int 1))) (gmSub (mVar 0) (mC (.int 2))))) sNext) (sSeq (sAsg (mOp modD (mCB intD (mCons (mOp ixD (mVar 0) (mC (.int 1))) mNil)) (mVar 1)) (gmName 2)) (sSeq (sAsg (mOp fdivD (mOp ixD (mVar 0) (mC (.int 1))) (mVar 1)) (gmSub (mVar 0) (mC (.int 1)))) (sRet (mVar 2))))))
section
variable {ns d n a b c : D} {r : Store}
theorem ix3 : ixD (.lst [n, a, b, c] :: r) (.loc 0) (.int 3) = some c := rfl
theorem ix2 : ixD (.lst [n, a, b, c] :: r) (.loc 0) (.int 2) = some b := rfl
theorem ix1 : ixD (.lst [n, a, b, c] :: r) (.loc 0) (.int 1) = some a := rfl
theorem ix0 : ixD (.lst [n, a, b, c] :: r) (.loc 0) (.int 0) = some n := rfl
theorem set3 : setD (.lst [n, a, b, c] :: r) (.loc 0) (.int 3) d = some (.lst [n, a, b, d] :: r) := rfl
theorem set2 : setD (.lst [n, a, b, c] :: r) (.loc 0) (.int 2) d = some (.lst [n, a, d, c] :: r) := rfl
theorem set1 : setD (.lst [n, a, b, c] :: r) (.loc 0) (.int 1) d = some (.lst [n, d, b, c] :: r) := rfl
end
local macro_rules | `(tactic| walk_at "wd1") => `(tactic| first
  | walk_at "wp1"
  | with_reducible refine Wr.out ix0 ?_ | with_reducible refine Wr.out ix1 ?_ | with_reducible refine Wr.out ix2 ?_ | with_reducible refine Wr.out ix3 ?_
  | with_reducible refine ⟨_, set1, ?_⟩ | with_reducible refine ⟨_, set2, ?_⟩ | with_reducible refine ⟨_, set3, ?_⟩)
theorem draw_ok {S r : Store} (h : St S r) {m : Int} (hm : 0 < m) (hm2 : m.natAbs.log2 < 9000) {Q : D → Store → Prop} {E : EK} (q : ∀ v S', 0 ≤ v → v < m → St S' r → Q (.int v) S') : Wr (mDef 3 drawA [.loc 0, .int m] S) Q E := by
  obtain ⟨ns, a, b, c, rfl, ha, hb, hc, hc2⟩ := h.ex
  have l1 : c.natAbs.log2 + (48271 : Int).natAbs.log2 < 1000000 := by
    have := log_le (i := c) (k := 40) (by omega)
    have e : (48271 : Int).natAbs.log2 = 15 := by decide
    omega
  refine w_def ?_
  show Ws (drawA [some (.loc 0), some (.int m), none] _) _
  unfold drawA
  have hl : ((ns.map D.int).length : Int) = ns.length := by simp
  repeat walk_at "wd1"
  refine ⟨fun h1 => ?_, fun h1 => ?_⟩
  · have h1 := of_decide_eq_true h1
    subst h1
    repeat walk_at "wd1"
    refine ⟨fun h2 => ?_, fun h2 => ?_⟩
    · repeat walk_at "wd1"
      refine Wr.out (mul_ii l1) ?_
      repeat walk_at "wd1"
      refine q _ _ (Int.emod_nonneg _ (by omega)) (Int.emod_lt_of_pos _ hm) ⟨⟨ns, 0, b, _, rfl, ha, hb, ?_, ?_⟩⟩ <;> omega
    · have h2 := of_decide_eq_false h2
      repeat walk_at "wd1"
      refine ⟨fun _ => ?_, fun z => by simp at z⟩
      have hb2 : b.toNat < ns.length := by omega
      have hx : ixD (.lst [.lst (ns.map D.int), .int 0, .int b, .int c] :: r) (.lst (ns.map D.int)) (.int b) = some (.int ns[b.toNat]) := by
        show atI (ns.map D.int) b = _
        unfold atI ixN
        rw [if_pos hb, if_pos (by simp; omega)]
        show (ns.map D.int)[b.toNat]? = _
        rw [List.getElem?_map, List.getElem?_eq_getElem hb2]
        rfl
      repeat walk_at "wd1"
      refine Wr.out hx ?_
      repeat walk_at "wd1"
      refine q _ _ (Int.emod_nonneg _ (by omega)) (Int.emod_lt_of_pos _ hm) ⟨⟨ns, _, b + 1, c, rfl, ?_, by omega, hc, hc2⟩⟩
      exact Int.ediv_nonneg (by split <;> omega) (by omega)
  · have h1 := of_decide_eq_false h1
    repeat walk_at "wd1"
    refine ⟨fun z => by simp at z, fun _ => ?_⟩
    repeat walk_at "wd1"
    refine ⟨fun z => absurd (of_decide_eq_true z) h1, fun _ => ?_⟩
    repeat walk_at "wd1"
    exact q _ _ (Int.emod_nonneg _ (by omega)) (Int.emod_lt_of_pos _ hm) ⟨⟨ns, _, b, c, rfl, Int.ediv_nonneg ha (by omega), hb, hc, hc2⟩⟩
def startA : SM := (sSeq (sAsg (mC (.int 7)) (gmName 1)) (sSeq (sFor (mIt (mVar 0)) (gmName 2) (sAsg (mOp addD (mOp modD (mCB intD (mCons (mOp addD (mOp mulV (mVar 1) (mC (.int 48271))) (mVar 2)) mNil)) (mC (.int 2147483629))) (mC (.int 1))) (gmName 1))) (sRet (mLoc (mCons (mCB lstD (mCons (mVar 0) mNil)) (mCons (mC (.int 0)) (mCons (mC (.int 0)) (mCons (mVar 1) mNil))))))))
theorem start_ok (ns : List Int) {Q : D → Store → Prop} {E : EK} (q : ∀ S', St S' [] → Q (.loc 0) S') : Wr (mDef 3 startA [.rol (ns.map D.int)] []) Q E := by
  refine w_def ?_
  show Ws (startA [some (.rol (ns.map D.int)), none, none] _) _
  unfold startA
  repeat walk_at "wd1"
  have hi : iterD [] (.rol (ns.map D.int)) = some (itL (ns.map D.int)) := rfl
  refine Wr.out hi ?_
  refine forGo_inv (I := fun i δ S => S = [] ∧ i ≤ ns.length ∧ ∃ (s : Int) (o : Option D), δ = [some (.rol (ns.map D.int)), some (.int s), o] ∧ 0 ≤ s ∧ s < 2147483630) ?_ ?_ _ 0 _ _ (by simp) ⟨rfl, by omega, 7, none, rfl, by omega, by omega⟩
  · rintro i δ S ⟨rfl, hi, s, o, rfl, h0, h1⟩
    have hn : (itL (ns.map D.int)).n = ns.length := by simp [itL]
    rw [hn]
    refine ⟨hi, fun e => ?_, fun e => ?_⟩
    · show some (ns.map D.int)[i]? = some none
      rw [List.getElem?_eq_none (by simp; omega)]
    · refine ⟨.int ns[i], ?_, _, _, rfl, ?_⟩
      · show some (ns.map D.int)[i]? = _
        rw [List.getElem?_map, List.getElem?_eq_getElem e]
        rfl
      · have l1 : s.natAbs.log2 + (48271 : Int).natAbs.log2 < 1000000 := by
          have := log_le (i := s) (k := 40) (by omega)
          have e : (48271 : Int).natAbs.log2 = 15 := by decide
          omega
        show Ws (sAsg _ _ [some (.rol (ns.map D.int)), some (.int s), some (.int ns[i])] _) _
        repeat walk_at "wd1"
        refine Wr.out (mul_ii l1) ?_
        repeat walk_at "wd1"
        refine ⟨rfl, by omega, _, _, rfl, ?_, ?_⟩
        · have := Int.emod_nonneg (s * 48271 + ns[i]) (show (2147483629 : Int) ≠ 0 by omega)
          omega
        · have := Int.emod_lt_of_pos (s * 48271 + ns[i]) (show (0 : Int) < 2147483629 by omega)
          omega
  · rintro δ S ⟨rfl, -, s, o, rfl, h0, h1⟩
    repeat walk_at "wd1"
    refine w_loc ?_
    repeat walk_at "wd1"
    have hl : lstD [] [.rol (ns.map D.int)] = some (.lst (ns.map D.int)) := rfl
    refine Wr.out hl ?_
    repeat walk_at "wd1"
    exact ⟨rfl, q _ ⟨⟨ns, 0, 0, s, rfl, by omega, by omega, h0, h1⟩⟩⟩

open PySem
/-! ### comprehensions that only read -/
theorem comp_pure {α : Type} {it : ItD} {g : GM} {t : EM Bool} {e : EM D} {δ0 : Ev.Env} {xs : List α} {w : α → D} {p : α → Bool} {f : α → D} {S : Store} (hn : it.n = xs.length) (hi : ∀ i, i ≤ xs.length → it.item i S = some (xs[i]?.map w))
    (hg : ∀ d ∈ xs, ∃ δ1, g (w d) δ0 S = .ok δ1 S ∧ t δ1 S = .ok (p d) S ∧ (p d = true → e δ1 S = .ok (f d) S)) (hl : xs.length ≤ sizeLine) : compGo it g t e δ0 it.n 0 [] S = .ok ((xs.filter p).map f) S := by
  have go : ∀ (k i : Nat) (acc : List D), i + k = xs.length → acc.length ≤ i → compGo it g t e δ0 k i acc S = .ok (acc ++ ((xs.drop i).filter p).map f) S := by
    intro k
    induction k with
    | zero =>
      intro i acc h _
      unfold compGo
      rw [hi i (by omega), List.getElem?_eq_none (by omega), List.drop_eq_nil_of_le (by omega)]
      simp
    | succ k ih =>
      intro i acc h ha
      have hlt : i < xs.length := by omega
      obtain ⟨δ1, e1, e2, e3⟩ := hg xs[i] (List.getElem_mem hlt)
      unfold compGo
      rw [hi i (by omega), List.getElem?_eq_getElem hlt]
      simp only [Option.map_some]
      rw [e1]
      simp only
      rw [e2]
      simp only
      rw [List.drop_eq_getElem_cons hlt]
      cases hp : p xs[i] with
      | true =>
        rw [if_pos rfl, e3 hp]
        simp only
        rw [if_pos (by omega), ih (i + 1) _ (by omega) (by simp; omega), List.filter_cons_of_pos hp]
        simp
      | false =>
        rw [if_neg (by simp), ih (i + 1) _ (by omega) (by omega), List.filter_cons_of_neg (by simp [hp])]
  rw [hn, go xs.length 0 [] (by omega) (by simp)]
  simp
/-- what an iterable gives: the values w of xs -/
def Its {α : Type} (it : ItD) (S : Store) (xs : List α) (w : α → D) : Prop := it.n = xs.length ∧ ∀ i, i ≤ xs.length → it.item i S = some (xs[i]?.map w)
theorem its_L {ds : List D} {S : Store} : Its (itL ds) S ds id := ⟨rfl, fun i _ => by
  show some ds[i]? = _
  simp⟩
theorem its_map {α : Type} {xs : List α} {w : α → D} {S : Store} : Its (itL (xs.map w)) S xs w := ⟨by simp [itL], fun i _ => by
  show some (xs.map w)[i]? = _
  rw [List.getElem?_map]⟩
theorem its_chars {x : Str} {S : Store} : Its (itL (chars x)) S x.cps.toList (fun c => .str ⟨#[c]⟩) := its_map
theorem its_R {lo : Int} {n : Nat} {S : Store} : Its (itR lo n) S (List.range n) (fun k => .int (lo + (k : Nat))) := ⟨by simp [itR], fun i _ => by
  show some (if i < n then some (D.int (lo + i)) else none) = _
  by_cases h : i < n
  · rw [if_pos h, List.getElem?_range h]; rfl
  · rw [if_neg h, List.getElem?_eq_none (by simp; omega)]; rfl⟩
theorem w_lcp {mi : EM ItD} {g : GM} {t : EM Bool} {e : EM D} {vs : List Nat} {δ : Ev.Env} {S : Store} {QD : D → Store → Prop} {E : EK}
    (h : Wr (mi δ S) (fun it S1 => ∃ (α : Type) (xs : List α) (w : α → D) (p : α → Bool) (f : α → D), Its it S1 xs w ∧ xs.length ≤ sizeLine ∧ (∀ d ∈ xs, ∃ δ1, g (w d) (wipeE δ vs) S1 = .ok δ1 S1 ∧ t δ1 S1 = .ok (p d) S1 ∧ (p d = true → e δ1 S1 = .ok (f d) S1)) ∧ QD (.lst ((xs.filter p).map f)) S1) E) : Wr (mLc mi g t e vs δ S) QD E :=
  w_lc (h.mono (fun it S1 ⟨_, ds, w, p, f, ⟨hn, hi⟩, hl, hg, q⟩ => ⟨_, S1, comp_pure hn hi hg hl, q⟩) fun _ _ _ h => h)
/-- .. no test -/
theorem w_lcm {mi : EM ItD} {g : GM} {e : EM D} {vs : List Nat} {δ : Ev.Env} {S : Store} {QD : D → Store → Prop} {E : EK}
    (h : Wr (mi δ S) (fun it S1 => ∃ (α : Type) (xs : List α) (w : α → D) (f : α → D), Its it S1 xs w ∧ xs.length ≤ sizeLine ∧ (∀ d ∈ xs, ∃ δ1, g (w d) (wipeE δ vs) S1 = .ok δ1 S1 ∧ e δ1 S1 = .ok (f d) S1) ∧ QD (.lst (xs.map f)) S1) E) : Wr (mLc mi g mYes e vs δ S) QD E :=
  w_lcp (h.mono (fun it S1 ⟨α, ds, w, f, hi, hl, hg, q⟩ => ⟨α, ds, w, fun _ => true, f, hi, hl, fun d hd => by obtain ⟨δ1, h1, h2⟩ := hg d hd; exact ⟨δ1, h1, rfl, fun _ => h2⟩, by rw [List.filter_eq_self.mpr (fun _ _ => rfl)]; exact q⟩) fun _ _ _ h => h)
/-- from a post-condition to the equation -/
theorem Wr.eqn {α : Type} {r : Res α} {a : α} {S : Store} (h : Wr r (fun x S1 => x = a ∧ S1 = S) fun _ _ _ => False) : r = .ok a S := by
  obtain ⟨x, S1, e, rfl, rfl⟩ := h.ok
  exact e
theorem w_isT {T : String} {m : EM D} {δ : Ev.Env} {S : Store} {QD : D → Store → Prop} {E : EK} (h : Wr (m δ S) (fun d S1 => ∃ b, isT T S1 d = some b ∧ QD (.bl b) S1) E) : Wr (mIsT T m δ S) QD E := Wr.bind (h.mono (fun d S1 ⟨b, e, q⟩ => by rw [e]; exact q) fun _ _ _ h => h)
theorem w_chain {g g' : Store → D → D → Option D} {a b c : EM D} {δ : Ev.Env} {S : Store} {QD : D → Store → Prop} {E : EK}
    (h : Wr (a δ S) (fun x S1 => Wr (b δ S1) (fun y S2 => ∃ k, g S2 x y = some (.bl k) ∧ (k = true → Wr (c δ S2) (fun z S3 => Wr (out (g' S3 y z) S3) QD E) E) ∧ (k = false → QD (.bl false) S2)) E) E) : Wr (mChain g g' a b c δ S) QD E :=
  Wr.bind (h.mono (fun x S1 h => Wr.bind (h.mono (fun y S2 ⟨k, e, h1, h2⟩ => by
    rw [e]
    show Wr (if k = true then (c δ S2).bind _ else _) _ _
    cases k with
    | true => rw [if_pos rfl]; exact Wr.bind (h1 rfl)
    | false => rw [if_neg (by simp)]; exact h2 rfl) fun _ _ _ h => h)) fun _ _ _ h => h)
theorem w_chainT {g g' : Store → D → D → Option D} {a b c : EM D} {δ : Ev.Env} {S : Store} {QB : Bool → Store → Prop} {E : EK}
    (h : Wr (mChain g g' a b c δ S) (fun x S1 => ∃ k, x = .bl k ∧ QB k S1) E) : Wr (mChainT g g' a b c δ S) QB E := Wr.bind (h.mono (fun x S1 ⟨k, e, h⟩ => by subst e; exact h) fun _ _ _ h => h)
theorem ex_le {S : Store} {i j : Int} {P : Bool → Prop} (h : P (decide (i ≤ j))) : ∃ k, leD S (.int i) (.int j) = some (.bl k) ∧ P k := ⟨_, rfl, h⟩
theorem ex_lt {S : Store} {i j : Int} {P : Bool → Prop} (h : P (decide (i < j))) : ∃ k, ltD S (.int i) (.int j) = some (.bl k) ∧ P k := ⟨_, rfl, h⟩
theorem tr_bl {S : Store} {k : Bool} : truD S (.bl k) = some k := rfl
theorem tr_int {S : Store} {i : Int} : truD S (.int i) = some (i != 0) := rfl
theorem unB_mapf {α : Type} {p : α → Bool} : ∀ ds : List α, unB (ds.map fun d => D.bl (p d)) = some (ds.map p)
  | [] => rfl
  | d :: ds => by
    rw [List.map_cons, unB, unB_mapf ds]
    rfl
theorem all_map {α : Type} {p : α → Bool} {ds : List α} {S : Store} : allD S [.lst (ds.map fun d => D.bl (p d))] = some (.bl (ds.all p)) := by
  show ((unB (ds.map fun d => D.bl (p d))).bind fun bs => some (D.bl (bs.all id))) = _
  rw [unB_mapf]
  show some (D.bl ((ds.map p).all id)) = _
  rw [List.all_map]
  rfl
theorem unI_mapf {α : Type} {p : α → Int} : ∀ ds : List α, unI (ds.map fun d => D.int (p d)) = some (ds.map p)
  | [] => rfl
  | d :: ds => by
    rw [List.map_cons, unI, unI_mapf ds]
    rfl
theorem sum_map {α : Type} {p : α → Int} {ds : List α} {S : Store} : sumD S [.lst (ds.map fun d => D.int (p d))] = some (.int (ds.map p).sum) := by
  show ((unI (ds.map fun d => D.int (p d))).bind fun bs => some (D.int bs.sum)) = _
  rw [unI_mapf]
  rfl
theorem atI_nat {α : Type} {xs : List α} {j : Nat} : L2.atI xs (j : Int) = xs[j]? := by
  unfold L2.atI L2.ixN
  rw [if_pos (by omega)]
  by_cases h : (j : Int) < xs.length
  · rw [if_pos h]
    show xs[(j : Int).toNat]? = _
    rw [Int.toNat_natCast]
  · rw [if_neg h, List.getElem?_eq_none (by omega)]
    rfl
theorem ix_tup {S : Store} {ds : List D} {j : Nat} {d : D} (h : ds[j]? = some d) : ixD S (.tup ds) (.int (j : Int)) = some d := by
  show L2.atI ds (j : Int) = _
  rw [atI_nat, h]
theorem ix_lst {S : Store} {ds : List D} {j : Nat} {d : D} (h : ds[j]? = some d) : ixD S (.lst ds) (.int (j : Int)) = some d := by
  show L2.atI ds (j : Int) = _
  rw [atI_nat, h]
theorem ix_str {S : Store} {x : Str} {j c : Nat} (hz : x.length ≤ sizeLine) (h : x.cps.toList[j]? = some c) : ixD S (.str x) (.int (j : Int)) = some (.str ⟨#[c]⟩) := by
  show (if x.length ≤ sizeLine then (L2.atI x.cps.toList (j : Int)).map (fun c => D.str ⟨#[c]⟩) else none) = _
  rw [if_pos hz, atI_nat, h]
  rfl
theorem its_E {ds : List D} {S : Store} : Its (itE ds) S ((List.range ds.length).map fun i => (i, ds.getD i .non)) (fun p => .tup [.int (p.1 : Nat), p.2]) := ⟨by simp [itE], fun i h => by
  show (if i ≤ ds.length then some (ds[i]?.map fun d => D.tup [.int i, d]) else none) = _
  have h' : i ≤ ds.length := by simpa using h
  rw [if_pos h', List.getElem?_map]
  by_cases z : i < ds.length
  · rw [List.getElem?_eq_getElem z, List.getElem?_range z]
    simp [List.getD, z]
  · rw [List.getElem?_eq_none (by omega), List.getElem?_eq_none (by simp; omega)]
    rfl⟩
local macro_rules | `(tactic| walk_at "wq1") => `(tactic| first
  | walk_at "wp1"
  | with_reducible refine w_chainT ?_
  | with_reducible refine w_chain ?_
  | with_reducible refine w_isT ?_
  | with_reducible refine ex_le ?_
  | with_reducible refine ex_lt ?_
  | with_reducible refine Wr.out tr_bl ?_
  | with_reducible refine Wr.out tr_int ?_)
local macro_rules | `(tactic| walk_at "wqs") => `(tactic| repeat walk_at "wq1")

open PySem
/-! ### loops over what never changes -/
def ItsA {α : Type} (it : ItD) (xs : List α) (w : α → D) : Prop := it.n = xs.length ∧ ∀ S i, i ≤ xs.length → it.item i S = some (xs[i]?.map w)
theorem ItsA.its {α : Type} {it : ItD} {xs : List α} {w : α → D} (h : ItsA it xs w) {S : Store} : Its it S xs w := ⟨h.1, h.2 S⟩
theorem itsA_L {ds : List D} : ItsA (itL ds) ds id := ⟨rfl, fun S => its_L.2⟩
theorem itsA_map {α : Type} {xs : List α} {w : α → D} : ItsA (itL (xs.map w)) xs w := ⟨by simp [itL], fun S => its_map.2⟩
theorem itsA_chars {x : Str} : ItsA (itL (chars x)) x.cps.toList (fun c => .str ⟨#[c]⟩) := itsA_map
theorem itsA_R {n : Nat} : ItsA (itR 0 n) (List.range n) (fun k => .int (k : Nat)) := ⟨by simp [itR], fun S i h => by
  rw [its_R.2 i h]
  simp⟩
theorem itsA_E {ds : List D} : ItsA (itE ds) ((List.range ds.length).map fun i => (i, ds.getD i .non)) (fun p => .tup [.int (p.1 : Nat), p.2]) := ⟨by simp [itE], fun S => its_E.2⟩
theorem rangeD1_n {n : Nat} (h : n ≤ sizeLine) : rangeD1 [.int (n : Nat)] = some (itR 0 n) := by
  have h' : n ≤ 16777216 := h
  simp only [rangeD1]
  rw [if_pos (by omega)]
  simp
theorem forGo_its {α : Type} {it : ItD} {g : GM} {b : SM} {K : Ko} {xs : List α} {w : α → D} {δ : Ev.Env} {S : Store} (h : ItsA it xs w) (I : Nat → Ev.Env → Store → Prop) (h0 : I 0 δ S)
    (hs : ∀ i (hi : i < xs.length) δ S, I i δ S → ∃ δ1 S1, g (w xs[i]) δ S = .ok δ1 S1 ∧ Ws (b δ1 S1) (K.rd (I (i + 1))))
    (hq : ∀ δ S, I xs.length δ S → K.nx δ S) : Ws (forGo it g b it.n 0 δ S) K := by
  refine forGo_inv (I := fun i δ S => i ≤ xs.length ∧ I i δ S) (fun i δ S ⟨hi, hI⟩ => ?_) (fun δ S z => hq δ S (h.1 ▸ z.2)) _ 0 _ _ (by omega) ⟨Nat.zero_le _, h0⟩
  rw [h.1]
  refine ⟨hi, fun e => ?_, fun e => ?_⟩
  · rw [h.2 S i hi, List.getElem?_eq_none (by omega)]; rfl
  · obtain ⟨δ1, S1, e1, w1⟩ := hs i e δ S hI
    refine ⟨w xs[i], by rw [h.2 S i hi, List.getElem?_eq_getElem e]; rfl, δ1, S1, e1, ?_⟩
    cases eb : b δ1 S1 with
    | nx δ2 S2 => rw [eb] at w1; exact ⟨e, w1⟩
    | ct δ2 S2 => rw [eb] at w1; exact ⟨e, w1⟩
    | bk δ2 S2 => rw [eb] at w1; exact w1
    | rt d S2 => rw [eb] at w1; exact w1
    | exc c d δ2 S2 => rw [eb] at w1; exact w1
    | stuck => rw [eb] at w1; exact w1
/-- one round by hand -/
theorem forGo_1 {it : ItD} {g : GM} {b : SM} {K : Ko} {k i : Nat} {δ δ1 : Ev.Env} {S S1 : Store} {d : D} (hi : it.item i S = some (some d)) (hg : g d δ S = .ok δ1 S1)
    (h : Ws (b δ1 S1) (K.rd fun δ' S' => Ws (forGo it g b k (i + 1) δ' S') K)) : Ws (forGo it g b (k + 1) i δ S) K := by
  unfold forGo
  rw [hi]
  simp only
  rw [hg]
  simp only
  cases e : b δ1 S1 <;> (rw [e] at h; exact h)
theorem forGo_0 {it : ItD} {g : GM} {b : SM} {K : Ko} {i : Nat} {δ : Ev.Env} {S : Store} (hi : it.item i S = some none) (h : K.nx δ S) : Ws (forGo it g b 0 i δ S) K := by
  unfold forGo
  rw [hi]
  exact h
/-- a comprehension whose body changes the store -/
theorem w_lcS {mi : EM ItD} {g : GM} {e : EM D} {vs : List Nat} {δ : Ev.Env} {S : Store} {QD : D → Store → Prop} {E : EK} (P : D → Prop) (J : Store → Prop)
    (h : Wr (mi δ S) (fun it S1 => ∃ (α : Type) (xs : List α) (w : α → D), ItsA it xs w ∧ xs.length ≤ sizeLine ∧ J S1 ∧
      (∀ i (hi : i < xs.length) S, J S → ∃ δ1, g (w xs[i]) (wipeE δ vs) S = .ok δ1 S ∧ Wr (e δ1 S) (fun y S' => P y ∧ J S') fun _ _ _ => False) ∧
      (∀ ds S', ds.length = xs.length → (∀ d ∈ ds, P d) → J S' → QD (.lst ds) S')) E) : Wr (mLc mi g mYes e vs δ S) QD E :=
  w_lc (h.mono (fun it S1 ⟨α, xs, w, hA, hl, hJ, hg, hq⟩ => by
    obtain ⟨ds, S2, e1, q1, q2, q3⟩ := compGo_inv (it := it) (g := g) (t := mYes) (e := e) (δ0 := wipeE δ vs) (Q := fun ds S' => ds.length = xs.length ∧ (∀ d ∈ ds, P d) ∧ J S') (I := fun i acc S => i ≤ xs.length ∧ acc.length = i ∧ (∀ d ∈ acc, P d) ∧ J S)
      (fun i acc S ⟨hi, ha, hp, hJ⟩ en => by
        have hn := hA.1
        refine ⟨?_, by omega, hp, hJ⟩
        rw [hA.2 S i hi, List.getElem?_eq_none (by omega)]; rfl)
      (fun i acc S ⟨hi, ha, hp, hJ⟩ hlt => by
        have hn := hA.1
        have hlt' : i < xs.length := by omega
        obtain ⟨δ1, e2, w2⟩ := hg i hlt' S hJ
        refine ⟨w xs[i], by rw [hA.2 S i hi, List.getElem?_eq_getElem hlt']; rfl, δ1, S, e2, ?_⟩
        refine w_yes ⟨fun _ => ⟨by omega, ?_⟩, fun z => by cases z⟩
        refine w2.mono (fun y S' ⟨hy, hJ'⟩ => ⟨by omega, by simp [ha], fun d hd => ?_, hJ'⟩) fun _ _ _ h => h
        rcases List.mem_append.mp hd with z | z
        · exact hp d z
        · rw [List.mem_singleton.mp z]; exact hy)
      it.n 0 [] S1 (by omega) ⟨by omega, rfl, fun _ z => (by cases z), hJ⟩
    exact ⟨ds, S2, e1, hq ds S2 q1 q2 q3⟩) fun _ _ _ h => h)
/-! ### how long the slots stay -/
def LP (m : SM) : Prop := ∀ δ S, match m δ S with
  | .nx δ' _ => δ'.length = δ.length
  | .bk δ' _ => δ'.length = δ.length
  | .ct δ' _ => δ'.length = δ.length
  | .exc _ _ δ' _ => δ'.length = δ.length
  | _ => True
theorem lp_of {α : Type} {r : Res α} {δ : Ev.Env} {k : α → Store → SR} {n : Nat} (hn : δ.length = n) (h : ∀ a S, match k a S with
  | .nx δ' _ => δ'.length = n
  | .bk δ' _ => δ'.length = n
  | .ct δ' _ => δ'.length = n
  | .exc _ _ δ' _ => δ'.length = n
  | _ => True) : match SR.of r δ k with
  | .nx δ' _ => δ'.length = n
  | .bk δ' _ => δ'.length = n
  | .ct δ' _ => δ'.length = n
  | .exc _ _ δ' _ => δ'.length = n
  | _ => True := by
  cases r with
  | ok a S => exact h a S
  | exc c d S => exact hn
  | stuck => trivial
theorem lp_next : LP sNext := fun _ _ => rfl
theorem lp_ret {m : EM D} : LP (sRet m) := fun δ S => lp_of rfl fun _ _ => trivial
theorem lp_retN : LP sRetN := fun δ S => trivial
theorem lp_drop {m : EM D} : LP (sDrop m) := fun δ S => lp_of rfl fun _ _ => rfl
theorem lp_raise {c k : Nat} {m : EM D} : LP (sRaise c k m) := fun δ S => lp_of rfl fun d S => by
  cases rsnOk k d
  · trivial
  · exact rfl
theorem lp_set {m : EM D} {i : Nat} : LP (sAsg m (gmName i)) := fun δ S => lp_of rfl fun d S => by
  show (δ.set i (some d)).length = δ.length
  simp
theorem lp_if {t : EM Bool} {a b : SM} (ha : LP a) (hb : LP b) : LP (sIf t a b) := fun δ S => lp_of rfl fun k S => by
  by_cases h : k = true
  · rw [if_pos h]; exact ha δ S
  · rw [if_neg h]; exact hb δ S
theorem lp_seq {a b : SM} (ha : LP a) (hb : LP b) : LP (sSeq a b) := fun δ S => by
  have h1 := ha δ S
  unfold sSeq
  cases e : a δ S with
  | nx δ' S' =>
    rw [e] at h1
    have h2 := hb δ' S'
    have h1 : δ'.length = δ.length := h1
    rw [h1] at h2
    exact h2
  | rt d S' => trivial
  | bk δ' S' => rw [e] at h1; exact h1
  | ct δ' S' => rw [e] at h1; exact h1
  | exc c d δ' S' => rw [e] at h1; exact h1
  | stuck => trivial
theorem none_rep {δ : Ev.Env} {n : Nat} (h : δ.length = n) : δ.map (fun _ => (none : Option D)) = List.replicate n none := by
  rw [List.map_const', h]
/-- try -/
theorem s_try {mb ms : SM} {yes : Nat → Option Bool} {i : Nat} {δ : Ev.Env} {S : Store} {K : Ko} (hl : LP mb)
    (h : Ws (mb δ S) { K with ex := fun c d S' => (yes c = some true ∧ plainD d = true ∧ Ws (ms ((List.replicate δ.length none).set i (some (.err c d))) []) { nx := fun _ _ => False, rt := fun r _ => plainD r = true ∧ K.rt r S', bk := fun _ _ => False, ct := fun _ _ => False, ex := fun _ _ _ => False }) ∨ (yes c = some false ∧ K.ex c d S') }) : Ws (sTry mb yes i ms δ S) K := by
  have hl' := hl δ S
  unfold sTry
  cases e : mb δ S with
  | nx δ' S' => rw [e] at h; exact h
  | rt d S' => rw [e] at h; exact h
  | bk δ' S' => rw [e] at h; exact h
  | ct δ' S' => rw [e] at h; exact h
  | stuck => rw [e] at h; exact h
  | exc c d δ' S' =>
    rw [e] at h hl'
    rcases h with ⟨h1, h2, h3⟩ | ⟨h1, h2⟩
    · simp only [h1, h2, if_pos]
      rw [none_rep hl']
      cases em : ms ((List.replicate δ.length none).set i (some (.err c d))) [] with
      | rt r S3 =>
        rw [em] at h3
        obtain ⟨h4, h5⟩ := h3
        simp only [h4, if_pos]
        exact h5
      | nx => rw [em] at h3; exact h3.elim
      | bk => rw [em] at h3; exact h3.elim
      | ct => rw [em] at h3; exact h3.elim
      | exc => rw [em] at h3; exact h3.elim
      | stuck => rw [em] at h3; exact h3.elim
    · simp only [h1]
      exact h2
theorem w_mt {T : String} {g : Store → D → List D → Option (D × Store)} {mo : EM D} {ms : EM (List D)} {δ : Ev.Env} {S : Store} {QD : D → Store → Prop} {E : EK}
    (h : Wr (mo δ S) (fun d S1 => mtTy T S1 d = true ∧ Wr (ms δ S1) (fun ds S2 => ∃ r S3, g S2 d ds = some (r, S3) ∧ QD r S3) E) E) : Wr (mMt T g mo ms δ S) QD E :=
  Wr.bind (h.mono (fun d S1 ⟨h1, h2⟩ => by
    rw [if_pos h1]
    refine Wr.bind (h2.mono (fun ds S2 ⟨r, S3, e, q⟩ => ?_) fun _ _ _ h => h)
    rw [e]
    exact q) fun _ _ _ h => h)
theorem w_isE {tb : Nat → Option Bool} {m : EM D} {δ : Ev.Env} {S : Store} {QD : D → Store → Prop} {E : EK} (h : Wr (m δ S) (fun d S1 => ∃ c e b, d = .err c e ∧ tb c = some b ∧ QD (.bl b) S1) E) : Wr (mIsE tb m δ S) QD E :=
  Wr.bind (h.mono (fun d S1 ⟨c, e, b, h1, h2, q⟩ => by
    subst h1
    show Wr (out ((tb c).map D.bl) S1) _ _
    rw [h2]
    exact q) fun _ _ _ h => h)
theorem w_xf {cs : List Nat} {m : EM D} {δ : Ev.Env} {S : Store} {QD : D → Store → Prop} {E : EK} (h : Wr (m δ S) (fun d S1 => ∃ c e, d = .err c e ∧ c ∈ cs ∧ QD e S1) E) : Wr (mXf cs m δ S) QD E :=
  Wr.bind (h.mono (fun d S1 ⟨c, e, h1, h2, q⟩ => by
    subst h1
    show Wr (if c ∈ cs then Res.ok e S1 else .stuck) _ _
    rw [if_pos h2]
    exact q) fun _ _ _ h => h)
theorem s_asg {m : EM D} {g : GM} {δ : Ev.Env} {S : Store} {K : Ko} (h : Wr (m δ S) (fun d S1 => ∃ δ1 S2, g d δ S1 = .ok δ1 S2 ∧ K.nx δ1 S2) K.ex) : Ws (sAsg m g δ S) K :=
  Ws.of (h.mono (fun d S1 ⟨δ1, S2, e, q⟩ => by rw [e]; exact q) fun _ _ _ h => h)
theorem w_def' {n : Nat} {b : SM} {ds : List D} {δ : Ev.Env} {S : Store} {QD : D → Store → Prop} {E : EK} (e : envOf n ds = δ) (h : Ws (b δ S) (kE QD E)) : Wr (mDef n b ds S) QD E := by
  subst e
  exact w_def h
/-! ### texts -/
theorem add_ss {S : Store} {x y : Str} (h : x.length + y.length ≤ sizeLine) : addD S (.str x) (.str y) = some (.str (x ++ y)) := if_pos h
theorem sl_s {S : Store} {x : Str} {lo hi : Option Int} (h : x.length ≤ sizeLine) : slD S (.str x) lo hi = some (.str (L2.cutS x lo hi)) := if_pos h
theorem len_app {x y : Str} : (x ++ y).length = x.length + y.length := by
  show (x.cps ++ y.cps).size = _
  simp [Str.length]
theorem len_cut {x : Str} {lo hi : Option Int} : (L2.cutS x lo hi).length ≤ x.length := by
  show (((x.cps.toList.drop _).take _).toArray).size ≤ x.cps.size
  simp only [List.size_toArray, List.length_take, List.length_drop, Array.length_toList]
  omega
theorem cut_mem {x : Str} {lo hi : Option Int} {c : Nat} (h : c ∈ (L2.cutS x lo hi).cps.toList) : c ∈ x.cps.toList := List.mem_of_mem_drop (List.mem_of_mem_take h)
theorem len_rev {x : Str} : (revS x).length = x.length := by
  show (x.cps.toList.reverse.toArray).size = x.cps.size
  simp
/-- one of a row, by a draw -/
theorem ix_mem {S : Store} {ds : List D} {v : Int} (h0 : 0 ≤ v) (h1 : v < ds.length) : ∃ d, d ∈ ds ∧ ixD S (.lst ds) (.int v) = some d := by
  have hn : v.toNat < ds.length := by omega
  refine ⟨ds[v.toNat], List.getElem_mem hn, ?_⟩
  have := ix_lst (S := S) (List.getElem?_eq_getElem hn)
  rw [Int.toNat_of_nonneg h0] at this
  exact this
theorem ix_memT {S : Store} {ds : List D} {v : Int} (h0 : 0 ≤ v) (h1 : v < ds.length) : ∃ d, d ∈ ds ∧ ixD S (.tup ds) (.int v) = some d := by
  have hn : v.toNat < ds.length := by omega
  refine ⟨ds[v.toNat], List.getElem_mem hn, ?_⟩
  have := ix_tup (S := S) (List.getElem?_eq_getElem hn)
  rw [Int.toNat_of_nonneg h0] at this
  exact this
theorem w_pick {S : Store} {ds : List D} {v : Int} {QD : D → Store → Prop} {E : EK} (h0 : 0 ≤ v) (h1 : v < ds.length) (h : ∀ d ∈ ds, QD d S) : Wr (out (ixD S (.lst ds) (.int v)) S) QD E := by
  obtain ⟨d, hd, e⟩ := ix_mem (S := S) h0 h1
  exact Wr.out e (h d hd)
theorem Wr.eqx {α : Type} {r : Res α} {Q : α → Store → Prop} {E : EK} {c : Nat} {d : D} {S : Store} (e : r = .exc c d S) (h : E c d S) : Wr r Q E := by rw [e]; exact h
theorem Wr.exn {α : Type} {r : Res α} {c : Nat} {d : D} {S : Store} (h : Wr r (fun _ _ => False) (fun c' d' S' => c' = c ∧ d' = d ∧ S' = S)) : r = .exc c d S := by
  cases r with
  | ok a S1 => exact h.elim
  | exc c' d' S' => obtain ⟨rfl, rfl, rfl⟩ := h; rfl
  | stuck => exact h.elim
theorem no_of {k : Bool} {A B : Prop} (h : k = false) (hb : B) : (k = true → A) ∧ (k = false → B) := ⟨fun z => (by rw [h] at z; cases z), fun _ => hb⟩
theorem ya_of {k : Bool} {A B : Prop} (h : k = true) (ha : A) : (k = true → A) ∧ (k = false → B) := ⟨fun _ => ha, fun z => (by rw [h] at z; cases z)⟩
local macro_rules | `(tactic| walk_at "wno") => `(tactic| ((with_reducible refine no_of ?_ ?_); exact Eq.refl false))
local macro_rules | `(tactic| walk_at "wya") => `(tactic| ((with_reducible refine ya_of ?_ ?_); exact Eq.refl true))
local macro_rules | `(tactic| walk_at "wz1") => `(tactic| first | walk_at "wq1" | walk_at "wno" | walk_at "wya" | fail "wz")
local macro_rules | `(tactic| walk_at "wz") => `(tactic| repeat walk_at "wz1")

open PySem L2
theorem rangeD1_i {i : Int} (h0 : 0 ≤ i) (h : i ≤ 16777216) : rangeD1 [.int i] = some (itR 0 i.toNat) := by
  have := rangeD1_n (n := i.toNat) (by show _ ≤ 16777216; omega)
  rw [Int.toNat_of_nonneg h0] at this
  exact this
/-- one sign -/
abbrev ch (c : Nat) : D := .str ⟨#[c]⟩
theorem ints_of {P : Int → Prop} : ∀ {ds : List D}, (∀ d ∈ ds, ∃ w, d = .int w ∧ P w) → ∃ ws : List Int, ds = ws.map D.int ∧ ws.length = ds.length ∧ ∀ w ∈ ws, P w
  | [], _ => ⟨[], rfl, rfl, fun _ h => by cases h⟩
  | d :: ds, h => by
    obtain ⟨ws, e, hl, hp⟩ := ints_of (ds := ds) fun d hd => h d (List.mem_cons_of_mem _ hd)
    obtain ⟨w, rfl, hw⟩ := h d List.mem_cons_self
    refine ⟨w :: ws, by rw [e]; rfl, by simp [hl], fun x hx => ?_⟩
    rcases List.mem_cons.mp hx with rfl | hx
    · exact hw
    · exact hp x hx
theorem chs_of {P : Nat → Prop} : ∀ {ds : List D}, (∀ d ∈ ds, ∃ w, d = ch w ∧ P w) → ∃ ws : List Nat, ds = ws.map ch ∧ ws.length = ds.length ∧ ∀ w ∈ ws, P w
  | [], _ => ⟨[], rfl, rfl, fun _ h => by cases h⟩
  | d :: ds, h => by
    obtain ⟨ws, e, hl, hp⟩ := chs_of (ds := ds) fun d hd => h d (List.mem_cons_of_mem _ hd)
    obtain ⟨w, rfl, hw⟩ := h d List.mem_cons_self
    refine ⟨w :: ws, by rw [e]; rfl, by simp [hl], fun x hx => ?_⟩
    rcases List.mem_cons.mp hx with rfl | hx
    · exact hw
    · exact hp x hx
theorem unS_ch : ∀ cs : List Nat, unS (cs.map ch) = some (cs.map fun c => (⟨#[c]⟩ : Str))
  | [] => rfl
  | c :: cs => by
    rw [List.map_cons, unS, unS_ch cs]
    rfl
theorem joinL_ch : ∀ cs : List Nat, TL.joinL [] (cs.map fun c => [c]) = cs
  | [] => rfl
  | [c] => rfl
  | c :: d :: cs => by
    have := joinL_ch (d :: cs)
    simp only [List.map_cons, TL.joinL, List.nil_append] at this ⊢
    rw [this]
    rfl
theorem join_chars {S : Store} {cs : List Nat} (h : cs.length ≤ 1000000) : joinD S (.str "") [.lst (cs.map ch)] = some (.str ⟨cs.toArray⟩, S) := by
  unfold joinD seqOf listOf
  simp only [Option.bind_some, unS_ch]
  rw [if_pos]
  · congr 3
    rw [TL.join_eq]
    refine TL.ext_tl ?_
    rw [TL.tl_join]
    have : (cs.map fun c => (⟨#[c]⟩ : Str)).map TL.tl = cs.map fun c => [c] := by
      rw [List.map_map]
      rfl
    rw [this]
    exact joinL_ch cs
  · have hz : (("" : Str).length) = 0 := by decide +kernel
    rw [hz]
    have : ((cs.map fun c => (⟨#[c]⟩ : Str)).map (·.length)).sum = cs.length := by
      induction cs with
      | nil => rfl
      | cons c cs ih =>
        simp only [List.map_cons, List.sum_cons, List.length_cons]
        rw [ih (by simp at h; omega)]
        show 1 + cs.length = _
        omega
    rw [this]
    omega
/-- a text, many times -/
theorem rep_list (x : Str) (k : Nat) : (repS x k).cps.toList = (List.replicate k x.cps.toList).flatten := by
  have : ∀ (k : Nat) (a : Array Nat), ((List.replicate k x.cps).foldl (· ++ ·) a).toList = a.toList ++ (List.replicate k x.cps.toList).flatten := by
    intro k
    induction k with
    | zero => intro a; simp
    | succ k ih =>
      intro a
      rw [List.replicate_succ, List.foldl_cons, ih, List.replicate_succ, List.flatten_cons]
      simp
  show ((List.replicate k x.cps).foldl (· ++ ·) #[]).toList = _
  rw [this]
  simp
theorem rep_len (x : Str) (k : Nat) : (repS x k).length = k * x.length := by
  show (repS x k).cps.size = _
  have : (repS x k).cps.toList.length = k * x.cps.toList.length := by
    rw [rep_list]
    simp
  simpa [Str.length] using this
theorem rep_mem {x : Str} {k c : Nat} (h : c ∈ (repS x k).cps.toList) : c ∈ x.cps.toList := by
  rw [rep_list] at h
  obtain ⟨l, hl, hc⟩ := List.mem_flatten.mp h
  rw [(List.mem_replicate.mp hl).2] at hc
  exact hc
theorem ixs_pick {S : Store} {x : Str} {v : Int} {QD : D → Store → Prop} {E : EK} (hz : x.length ≤ sizeLine) (h0 : 0 ≤ v) (h1 : v < x.length) (h : ∀ c ∈ x.cps.toList, QD (ch c) S) : Wr (out (ixD S (.str x) (.int v)) S) QD E := by
  have hn : v.toNat < x.cps.toList.length := by
    have : x.cps.toList.length = x.length := by simp [Str.length]
    omega
  have := ix_str (S := S) hz (List.getElem?_eq_getElem hn)
  rw [Int.toNat_of_nonneg h0] at this
  exact Wr.out this (h _ (List.getElem_mem hn))
/-! ### equal data -/
theorem okq_all {n : Nat} {ds : List D} (h : okq (n + 1) (.lst ds) = true) : ∀ d ∈ ds, okq n d = true := by
  intro d hd
  have h' : ds.all (okq n) = true := by simpa only [okq] using h
  exact List.all_eq_true.mp h' d hd
theorem eqqL_self : ∀ ds : List D, (∀ d ∈ ds, eqq d d = true) → eqqL ds ds = true
  | [], _ => by simp only [eqqL]
  | d :: ds, h => by
    simp only [eqqL, Bool.and_eq_true]
    exact ⟨h d List.mem_cons_self, eqqL_self ds fun e he => h e (List.mem_cons_of_mem _ he)⟩
theorem eqq_self : ∀ (n : Nat) (d : D), okq n d = true → eqq d d = true := by
  intro n
  induction n with
  | zero => intro d h; cases d <;> simp [okq, eqq] at h ⊢
  | succ n ih =>
    intro d h
    cases d with
    | tup ds => simp only [okq, eqq] at h ⊢; exact eqqL_self ds fun d hd => ih d (List.all_eq_true.mp h d hd)
    | lst ds => simp only [okq, eqq] at h ⊢; exact eqqL_self ds fun d hd => ih d (List.all_eq_true.mp h d hd)
    | rol ds => simp only [okq, eqq] at h ⊢; exact eqqL_self ds fun d hd => ih d (List.all_eq_true.mp h d hd)
    | _ => simp [okq, eqq] at h ⊢
theorem eqB_self {S : Store} {d : D} (h : okq 40 d = true) : eqB S d d = some true := by
  have hr : rs S d = some d := by cases d <;> first | rfl | simp [okq] at h
  unfold eqB
  rw [hr]
  simp only
  rw [eqq_self 40 d h]
  split
  · rfl
  · rw [if_pos ⟨h, h⟩]
theorem ne_self {S : Store} {d : D} (h : okq 40 d = true) : neD S d d = some (.bl false) := by
  unfold neD; rw [eqB_self h]; rfl
theorem eq_self {S : Store} {d : D} (h : okq 40 d = true) : eqD S d d = some (.bl true) := by
  unfold eqD; rw [eqB_self h]; rfl
theorem ne_same {S : Store} {d e : D} (h : okq 40 d = true) (z : d = e) : neD S d e = some (.bl false) := by rw [← z]; exact ne_self h
theorem eq_same {S : Store} {d e : D} (h : okq 40 d = true) (z : d = e) : eqD S d e = some (.bl true) := by rw [← z]; exact eq_self h
theorem const_flat {α : Type} {xs : List α} {d : D} {n : Nat} (h : xs.length = n) : D.lst (xs.map fun _ => d) = .lst (List.replicate n [d]).flatten := by
  rw [List.map_const', h]
  congr 1
  clear h
  induction n with
  | zero => rfl
  | succ n ih => rw [List.replicate_succ, List.replicate_succ, List.flatten_cons, ← ih]; rfl
/-! ### texts of which only the length is wanted -/
theorem w_cut {S : Store} {x : Str} {lo hi : Option Int} {QD : D → Store → Prop} {E : EK} (hz : x.length ≤ 16777216) (h : ∀ y, y.length ≤ x.length → QD (.str y) S) : Wr (out (slD S (.str x) lo hi) S) QD E := Wr.out (sl_s hz) (h _ len_cut)
theorem w_app {S : Store} {x y : Str} {QD : D → Store → Prop} {E : EK} (hz : x.length + y.length ≤ 16777216) (h : ∀ z, z.length = x.length + y.length → QD (.str z) S) : Wr (out (addD S (.str x) (.str y)) S) QD E := Wr.out (add_ss hz) (h _ len_app)
theorem w_revS {S : Store} {x : Str} {QD : D → Store → Prop} {E : EK} (hz : x.length ≤ 16777216) (h : ∀ z, z.length = x.length → QD (.str z) S) : Wr (out (revD S (.str x)) S) QD E := by
  have e : revD S (.str x) = some (.str (revS x)) := if_pos hz
  exact Wr.out e (h _ len_rev)
theorem w_rev {S : Store} {m : EM D} {δ : Ev.Env} {QD : D → Store → Prop} {E : EK} (h : Wr (mUn revD m δ S) QD E) : Wr (mRev m δ S) QD E := h

open PySem
section
variable {δ : Ev.Env} {S : Store} {QD : D → Store → Prop} {QB : Bool → Store → Prop} {E : EK} {K : Ko}
theorem w_ifT {c a b : EM Bool} (h : Wr (c δ S) (fun k S1 => (k = true → Wr (a δ S1) QB E) ∧ (k = false → Wr (b δ S1) QB E)) E) : Wr (mIfT c a b δ S) QB E := Wr.bind (h.mono (fun k S1 h => by cases k; exact h.2 rfl; exact h.1 rfl) fun _ _ _ h => h)
theorem s_par3 {i j l : Nat} {ms : EM (List D)} (h : Wr (ms δ S) (fun ds S1 => ∃ d e f, ds = [d, e, f] ∧ K.nx (((δ.set i (some d)).set j (some e)).set l (some f)) S1) K.ex) : Ws (sPar3 i j l ms δ S) K :=
  Ws.of (h.mono (fun y S1 ⟨d, e, f, z, h⟩ => by subst z; exact h) fun _ _ _ h => h)
theorem ex_three {a b c : D} {P : D → D → D → Prop} (h : P a b c) : ∃ d e f, [a, b, c] = [d, e, f] ∧ P d e f := ⟨a, b, c, rfl, h⟩
theorem w_callD {F : FM} {dd : List D} {a : EM (List D)} (h : Wr (a δ S) (fun x S1 => Wr (F (x ++ dd) S1) QD E) E) : Wr (mCallD F dd a δ S) QD E := Wr.bind h
theorem w_callJ {F : FM} {a : EM (List D)} (h : Wr (a δ S) (fun x S1 => Wr (F x S1) QD fun _ _ _ => False) E) : Wr (mCallJ F a δ S) QD E := Wr.bind (h.mono (fun x S1 h => by
  obtain ⟨d, S2, e, q⟩ := h.ok
  rw [e]
  exact q) fun _ _ _ h => h)
theorem w_callV {tbl : Nat → Option (Nat × FM)} {i f n : Nat} {F : FM} {a : EM (List D)} (h1 : δ[i]? = some (some (.fn f))) (h2 : tbl f = some (n, F)) (h : Wr (a δ S) (fun x S1 => x.length = n ∧ Wr (F x S1) QD E) E) : Wr (mCallV tbl i a δ S) QD E := by
  unfold mCallV
  rw [h1]
  simp only [h2]
  exact Wr.bind (h.mono (fun x S1 ⟨hx, q⟩ => by rw [if_pos hx]; exact q) fun _ _ _ h => h)
end
/-! ### while -/
theorem s_while {c : EM Bool} {b : SM} {K : Ko} (I : Nat → Ev.Env → Store → Prop) (hs : ∀ m δ S, I m δ S → Wr (c δ S) (fun k S1 => (k = true → Ws (b δ S1) (K.rd fun δ' S' => ∃ m', m' < m ∧ I m' δ' S')) ∧ (k = false → K.nx δ S1)) K.ex) :
    ∀ (n m : Nat) (δ : Ev.Env) (S : Store), m < n → I m δ S → Ws (sWhile c b n δ S) K := by
  intro n
  induction n with
  | zero => intro m δ S h; omega
  | succ n ih =>
    intro m δ S hm hI
    have w := hs m δ S hI
    unfold sWhile
    refine Ws.of (w.mono (fun k S1 h => ?_) fun _ _ _ h => h)
    cases k with
    | false => exact h.2 rfl
    | true =>
      have h := h.1 rfl
      rw [if_pos rfl]
      cases e : b δ S1 with
      | nx δ' S' => rw [e] at h; obtain ⟨m', h1, h2⟩ := h; exact ih m' δ' S' (by omega) h2
      | ct δ' S' => rw [e] at h; obtain ⟨m', h1, h2⟩ := h; exact ih m' δ' S' (by omega) h2
      | bk δ' S' => rw [e] at h; exact h
      | rt d S' => rw [e] at h; exact h
      | exc c d δ' S' => rw [e] at h; exact h
      | stuck => rw [e] at h; exact h
local macro_rules | `(tactic| walk_at "wv1") => `(tactic| first
  | walk_at "wz1"
  | with_reducible refine w_ifT ?_
  | with_reducible refine s_par3 ?_
  | with_reducible refine ex_three ?_
  | with_reducible refine w_callD ?_
  | with_reducible refine w_callJ ?_
  | fail "wv")
local macro_rules | `(tactic| walk_at "wv") => `(tactic| repeat walk_at "wv1")

namespace Lw
open PySem PySem.Spec PyProof.Rows L2 Ev
abbrev PR : Program := PySem.Challenge.pw_sameunits_k43_papers_and_arguments_of_bu
def top (i : Nat) : Stmt := PR.main.body.getD i (.Pass ⟨0, 0, 0, 0⟩)
def inn (s : Stmt) : Stmt := match s with
  | .ClassDef _ _ _ body _ _ _ _ _ _ _ => body.headD (.Pass ⟨0, 0, 0, 0⟩)
  | _ => .Pass ⟨0, 0, 0, 0⟩
abbrev s_is_integer : Stmt := top 5
abbrev s_greatest_divisor : Stmt := top 11
abbrev s_quotient : Stmt := top 12
abbrev s_plus : Stmt := top 13
abbrev s_minus : Stmt := top 14
abbrev s_times : Stmt := top 15
abbrev s_over : Stmt := top 16
abbrev s_is_less : Stmt := top 17
abbrev s_sum_of : Stmt := top 18
abbrev s_is_quotient : Stmt := top 19
abbrev s_is_number : Stmt := top 20
abbrev s_check_measures : Stmt := top 23
abbrev s_size_of : Stmt := top 24
abbrev s_sum_with_error : Stmt := top 25
abbrev s_product_with_error : Stmt := top 26
abbrev s_shares_of_error : Stmt := top 27
abbrev s_worst : Stmt := top 28
abbrev s_check_parts : Stmt := top 29
abbrev s_check_bound : Stmt := top 30
abbrev s_tables_of : Stmt := top 31
abbrev s_judge_plan : Stmt := top 32
abbrev s_costs_by : Stmt := top 33
abbrev s_accept_plan : Stmt := top 34
abbrev s_accept_least : Stmt := top 35
abbrev s_needless_options : Stmt := top 36
abbrev s_next_saving : Stmt := top 37
abbrev s__law_start : Stmt := top 39
abbrev s__law_draw : Stmt := top 40
abbrev s__law_pick : Stmt := top 41
abbrev s__law_word : Stmt := top 42
abbrev s__law_asked : Stmt := top 43
abbrev s__law_heard : Stmt := top 44
abbrev s__law_whole : Stmt := top 45
abbrev s__law_rows : Stmt := top 46
abbrev s__law_plan_due : Stmt := top 47
abbrev s__law_least_due : Stmt := top 48
abbrev s__law_put : Stmt := top 49
abbrev s__law_papers_hold : Stmt := top 50
abbrev s__law_arguments_hold : Stmt := top 51
abbrev s_law : Stmt := top 52
abbrev i_ArgumentError : Stmt := inn (top 2)
abbrev i_PaperError : Stmt := inn (top 3)
def d_is_integer : He.DefD := ⟨("is_integer", none), "is_integer", "is_integer", defArgs s_is_integer, defBody s_is_integer, defScope s_is_integer, [], []⟩
def d_greatest_divisor : He.DefD := ⟨("greatest_divisor", none), "greatest_divisor", "greatest_divisor", defArgs s_greatest_divisor, defBody s_greatest_divisor, defScope s_greatest_divisor, [], []⟩
def d_quotient : He.DefD := ⟨("quotient", none), "quotient", "quotient", defArgs s_quotient, defBody s_quotient, defScope s_quotient, [], []⟩
def d_plus : He.DefD := ⟨("plus", none), "plus", "plus", defArgs s_plus, defBody s_plus, defScope s_plus, [], []⟩
def d_minus : He.DefD := ⟨("minus", none), "minus", "minus", defArgs s_minus, defBody s_minus, defScope s_minus, [], []⟩
def d_times : He.DefD := ⟨("times", none), "times", "times", defArgs s_times, defBody s_times, defScope s_times, [], []⟩
def d_over : He.DefD := ⟨("over", none), "over", "over", defArgs s_over, defBody s_over, defScope s_over, [], []⟩
def d_is_less : He.DefD := ⟨("is_less", none), "is_less", "is_less", defArgs s_is_less, defBody s_is_less, defScope s_is_less, [], []⟩
def d_sum_of : He.DefD := ⟨("sum_of", none), "sum_of", "sum_of", defArgs s_sum_of, defBody s_sum_of, defScope s_sum_of, [], []⟩
def d_is_quotient : He.DefD := ⟨("is_quotient", none), "is_quotient", "is_quotient", defArgs s_is_quotient, defBody s_is_quotient, defScope s_is_quotient, [], []⟩
def d_is_number : He.DefD := ⟨("is_number", none), "is_number", "is_number", defArgs s_is_number, defBody s_is_number, defScope s_is_number, [], []⟩
def d_check_measures : He.DefD := ⟨("check_measures", none), "check_measures", "check_measures", defArgs s_check_measures, defBody s_check_measures, defScope s_check_measures, [], []⟩
def d_size_of : He.DefD := ⟨("size_of", none), "size_of", "size_of", defArgs s_size_of, defBody s_size_of, defScope s_size_of, [], []⟩
def d_sum_with_error : He.DefD := ⟨("sum_with_error", none), "sum_with_error", "sum_with_error", defArgs s_sum_with_error, defBody s_sum_with_error, defScope s_sum_with_error, [], []⟩
def d_product_with_error : He.DefD := ⟨("product_with_error", none), "product_with_error", "product_with_error", defArgs s_product_with_error, defBody s_product_with_error, defScope s_product_with_error, [], []⟩
def d_shares_of_error : He.DefD := ⟨("shares_of_error", none), "shares_of_error", "shares_of_error", defArgs s_shares_of_error, defBody s_shares_of_error, defScope s_shares_of_error, [], []⟩
def d_worst : He.DefD := ⟨("worst", none), "worst", "worst", defArgs s_worst, defBody s_worst, defScope s_worst, [], []⟩
def d_check_parts : He.DefD := ⟨("check_parts", none), "check_parts", "check_parts", defArgs s_check_parts, defBody s_check_parts, defScope s_check_parts, [], []⟩
def d_check_bound : He.DefD := ⟨("check_bound", none), "check_bound", "check_bound", defArgs s_check_bound, defBody s_check_bound, defScope s_check_bound, [], []⟩
def d_tables_of : He.DefD := ⟨("tables_of", none), "tables_of", "tables_of", defArgs s_tables_of, defBody s_tables_of, defScope s_tables_of, [], []⟩
def d_judge_plan : He.DefD := ⟨("judge_plan", none), "judge_plan", "judge_plan", defArgs s_judge_plan, defBody s_judge_plan, defScope s_judge_plan, [], []⟩
def d_costs_by : He.DefD := ⟨("costs_by", none), "costs_by", "costs_by", defArgs s_costs_by, defBody s_costs_by, defScope s_costs_by, [], []⟩
def d_accept_plan : He.DefD := ⟨("accept_plan", none), "accept_plan", "accept_plan", defArgs s_accept_plan, defBody s_accept_plan, defScope s_accept_plan, [], []⟩
def d_accept_least : He.DefD := ⟨("accept_least", none), "accept_least", "accept_least", defArgs s_accept_least, defBody s_accept_least, defScope s_accept_least, [], []⟩
def d_needless_options : He.DefD := ⟨("needless_options", none), "needless_options", "needless_options", defArgs s_needless_options, defBody s_needless_options, defScope s_needless_options, [], []⟩
def d_next_saving : He.DefD := ⟨("next_saving", none), "next_saving", "next_saving", defArgs s_next_saving, defBody s_next_saving, defScope s_next_saving, [], []⟩
def d__law_start : He.DefD := ⟨("_law_start", none), "_law_start", "_law_start", defArgs s__law_start, defBody s__law_start, defScope s__law_start, [], []⟩
def d__law_draw : He.DefD := ⟨("_law_draw", none), "_law_draw", "_law_draw", defArgs s__law_draw, defBody s__law_draw, defScope s__law_draw, [], []⟩
def d__law_pick : He.DefD := ⟨("_law_pick", none), "_law_pick", "_law_pick", defArgs s__law_pick, defBody s__law_pick, defScope s__law_pick, [], []⟩
def d__law_word : He.DefD := ⟨("_law_word", none), "_law_word", "_law_word", defArgs s__law_word, defBody s__law_word, defScope s__law_word, [], []⟩
def d__law_asked : He.DefD := ⟨("_law_asked", none), "_law_asked", "_law_asked", defArgs s__law_asked, defBody s__law_asked, defScope s__law_asked, [], []⟩
def d__law_heard : He.DefD := ⟨("_law_heard", none), "_law_heard", "_law_heard", defArgs s__law_heard, defBody s__law_heard, defScope s__law_heard, [], []⟩
def d__law_whole : He.DefD := ⟨("_law_whole", none), "_law_whole", "_law_whole", defArgs s__law_whole, defBody s__law_whole, defScope s__law_whole, [], []⟩
def d__law_rows : He.DefD := ⟨("_law_rows", none), "_law_rows", "_law_rows", defArgs s__law_rows, defBody s__law_rows, defScope s__law_rows, [], []⟩
def d__law_plan_due : He.DefD := ⟨("_law_plan_due", none), "_law_plan_due", "_law_plan_due", defArgs s__law_plan_due, defBody s__law_plan_due, defScope s__law_plan_due, [], []⟩
def d__law_least_due : He.DefD := ⟨("_law_least_due", none), "_law_least_due", "_law_least_due", defArgs s__law_least_due, defBody s__law_least_due, defScope s__law_least_due, [], []⟩
def d__law_put : He.DefD := ⟨("_law_put", none), "_law_put", "_law_put", defArgs s__law_put, defBody s__law_put, defScope s__law_put, [], []⟩
def d__law_papers_hold : He.DefD := ⟨("_law_papers_hold", none), "_law_papers_hold", "_law_papers_hold", defArgs s__law_papers_hold, defBody s__law_papers_hold, defScope s__law_papers_hold, [], []⟩
def d__law_arguments_hold : He.DefD := ⟨("_law_arguments_hold", none), "_law_arguments_hold", "_law_arguments_hold", defArgs s__law_arguments_hold, defBody s__law_arguments_hold, defScope s__law_arguments_hold, [], []⟩
def d_law : He.DefD := ⟨("law", none), "law", "law", defArgs s_law, defBody s_law, defScope s_law, [], []⟩
def e_ArgumentError : ErrD := ⟨"ArgumentError", "reason", "ArgumentError.__init__", defArgs i_ArgumentError, defBody i_ArgumentError, defScope i_ArgumentError⟩
def e_PaperError : ErrD := ⟨"PaperError", "reason", "PaperError.__init__", defArgs i_PaperError, defBody i_PaperError, defScope i_PaperError⟩
def fn : List He.DefD := [d_is_integer, d_greatest_divisor, d_quotient, d_plus, d_minus, d_times, d_over, d_is_less, d_sum_of, d_is_quotient, d_is_number, d_check_measures, d_size_of, d_sum_with_error, d_product_with_error, d_shares_of_error, d_worst, d_check_parts, d_check_bound, d_tables_of, d_judge_plan, d_costs_by, d_accept_plan, d_accept_least, d_needless_options, d_next_saving, d__law_start, d__law_draw, d__law_pick, d__law_word, d__law_asked, d__law_heard, d__law_whole, d__law_rows, d__law_plan_due, d__law_least_due, d__law_put, d__law_papers_hold, d__law_arguments_hold, d_law]
def es : List ErrD := [e_ArgumentError, e_PaperError]
def cs : List (Str × D) := []
def fa0 : List He.Fa := [.glo "is_integer", .glo "greatest_divisor", .glo "quotient", .glo "plus", .glo "minus", .glo "times", .glo "over", .glo "is_less", .glo "sum_of", .glo "is_quotient", .glo "is_number", .glo "check_measures", .glo "size_of", .glo "sum_with_error", .glo "product_with_error"]
def fa1 : List He.Fa := [.glo "shares_of_error", .glo "worst", .glo "check_parts", .glo "check_bound", .glo "tables_of", .glo "judge_plan", .glo "costs_by", .glo "accept_plan", .glo "accept_least", .glo "needless_options", .glo "next_saving", .glo "_law_start", .glo "_law_draw", .glo "_law_pick", .glo "_law_word"]
def fa2 : List He.Fa := [.glo "_law_asked", .glo "_law_heard", .glo "_law_whole", .glo "_law_rows", .glo "_law_plan_due", .glo "_law_least_due", .glo "_law_put", .glo "_law_papers_hold", .glo "_law_arguments_hold", .glo "law", .glo "MeasureError", .int "MAX_NUMBER" 1000000000000, .int "MAX_STOCKS" 20, .int "MAX_ERROR" 2000, .int "MAX_OPTIONS" 8]
def fa3 : List He.Fa := [.int "MAX_COST" 1000000, .free "ValueError", .free "abs", .free "all", .free "bool", .free "enumerate", .free "int", .free "isinstance", .free "len", .free "list", .free "min", .free "range", .free "str", .free "sum", .free "super"]
def fa4 : List He.Fa := [.free "tuple", .free "zip"]
def fa : List He.Fa := fa0 ++ fa1 ++ fa2 ++ fa3 ++ fa4
abbrev R : PySem.W.OpenRow := PySem.W.OpenLaw.row PySem.Challenge.rw_sameunits_k43_papers_and_arguments_of_bu
abbrev hk : PySem.W.Hook := hookI 5 fa fn es (exT PR es cs)
def ob (s : PySem.W.SharedT) : AlI := obsIG 5 fa fn es (exT PR es cs) (HandSHeadRun.getT s)
theorem ob_eq (s : PySem.W.SharedT) : ob s = hk.obs s.abs := obsIG_eq (HandSHeadRun.getT_eq s)
def names0 : List Str := ["is_integer", "greatest_divisor", "quotient", "plus", "minus", "times", "over", "is_less", "sum_of", "is_quotient", "is_number", "check_measures", "size_of", "sum_with_error", "product_with_error"]
def names1 : List Str := ["shares_of_error", "worst", "check_parts", "check_bound", "tables_of", "judge_plan", "costs_by", "accept_plan", "accept_least", "needless_options", "next_saving", "_law_start", "_law_draw", "_law_pick", "_law_word"]
def names2 : List Str := ["_law_asked", "_law_heard", "_law_whole", "_law_rows", "_law_plan_due", "_law_least_due", "_law_put", "_law_papers_hold", "_law_arguments_hold", "ArgumentError", "PaperError", "MeasureError", "MAX_NUMBER", "MAX_STOCKS", "MAX_ERROR"]
def names3 : List Str := ["MAX_OPTIONS", "MAX_COST"]
def names : List Str := names0 ++ names1 ++ names2 ++ names3
def m_is_integer : SM := (sRet (mAndV (mIsT "int" (mVar 0)) (mNotV (mIsT "bool" (mVar 0)))))
def F_is_integer : FM := mDef 1 m_is_integer
def m_greatest_divisor : SM := (sSeq (sWhile (mTest (mOp gtD (mVar 1) (mC (.int 0)))) (sPar 0 1 (mCons (mVar 1) (mCons (mOp modD (mVar 0) (mVar 1)) mNil))) bigN) (sRet (mVar 0)))
def F_greatest_divisor : FM := mDef 2 m_greatest_divisor
def m_quotient : SM := (sSeq (sIf (mTest (mOp ltD (mVar 1) (mC (.int 0)))) (sPar 0 1 (mCons (mUn negD (mVar 0)) (mCons (mUn negD (mVar 1)) mNil))) sNext) (sSeq (sAsg (mCall F_greatest_divisor (mCons (mCB absD (mCons (mVar 0) mNil)) (mCons (mVar 1) mNil))) (gmName 2)) (sRet (mTup (mCons (mOp fdivD (mVar 0) (mVar 2)) (mCons (mOp fdivD (mVar 1) (mVar 2)) mNil))))))
def F_quotient : FM := mDef 3 m_quotient
def m_plus : SM := (sRet (mCall F_quotient (mCons (mOp addD (mOp mulV (mOp ixD (mVar 0) (mC (.int 0))) (mOp ixD (mVar 1) (mC (.int 1)))) (mOp mulV (mOp ixD (mVar 1) (mC (.int 0))) (mOp ixD (mVar 0) (mC (.int 1))))) (mCons (mOp mulV (mOp ixD (mVar 0) (mC (.int 1))) (mOp ixD (mVar 1) (mC (.int 1)))) mNil))))
def F_plus : FM := mDef 2 m_plus
def m_minus : SM := (sRet (mCall F_quotient (mCons (mOp subD (mOp mulV (mOp ixD (mVar 0) (mC (.int 0))) (mOp ixD (mVar 1) (mC (.int 1)))) (mOp mulV (mOp ixD (mVar 1) (mC (.int 0))) (mOp ixD (mVar 0) (mC (.int 1))))) (mCons (mOp mulV (mOp ixD (mVar 0) (mC (.int 1))) (mOp ixD (mVar 1) (mC (.int 1)))) mNil))))
def F_minus : FM := mDef 2 m_minus
def m_times : SM := (sRet (mCall F_quotient (mCons (mOp mulV (mOp ixD (mVar 0) (mC (.int 0))) (mOp ixD (mVar 1) (mC (.int 0)))) (mCons (mOp mulV (mOp ixD (mVar 0) (mC (.int 1))) (mOp ixD (mVar 1) (mC (.int 1)))) mNil))))
def F_times : FM := mDef 2 m_times
def m_over : SM := (sRet (mCall F_quotient (mCons (mOp mulV (mOp ixD (mVar 0) (mC (.int 0))) (mOp ixD (mVar 1) (mC (.int 1)))) (mCons (mOp mulV (mOp ixD (mVar 0) (mC (.int 1))) (mOp ixD (mVar 1) (mC (.int 0)))) mNil))))
def F_over : FM := mDef 2 m_over
def m_is_less : SM := (sRet (mOp ltD (mOp mulV (mOp ixD (mVar 0) (mC (.int 0))) (mOp ixD (mVar 1) (mC (.int 1)))) (mOp mulV (mOp ixD (mVar 1) (mC (.int 0))) (mOp ixD (mVar 0) (mC (.int 1))))))
def F_is_less : FM := mDef 2 m_is_less
def m_sum_of : SM := (sSeq (sAsg (mTup (mCons (mC (.int 0)) (mCons (mC (.int 1)) mNil))) (gmName 1)) (sSeq (sFor (mIt (mVar 0)) (gmName 2) (sAsg (mCall F_plus (mCons (mVar 1) (mCons (mVar 2) mNil))) (gmName 1))) (sRet (mVar 1))))
def F_sum_of : FM := mDef 3 m_sum_of
def m_is_quotient : SM := (sSeq (sIf (mOr (mNot (mTru (mIsT "tuple" (mVar 0)))) (mOr (mTest (mOp neD (mCB lenD (mCons (mVar 0) mNil)) (mC (.int 2)))) (mNot (mTru (mCB allD (mCons (mLc (mIt (mVar 0)) (gmName 1) mYes (mCall F_is_integer (mCons (mVar 1) mNil)) [1]) mNil)))))) (sRet (mC (.bl false))) sNext) (sRet (mAndV (mOp geD (mOp ixD (mVar 0) (mC (.int 1))) (mC (.int 1))) (mOp eqD (mCall F_greatest_divisor (mCons (mCB absD (mCons (mOp ixD (mVar 0) (mC (.int 0))) mNil)) (mCons (mOp ixD (mVar 0) (mC (.int 1))) mNil))) (mC (.int 1))))))
def F_is_quotient : FM := mDef 2 m_is_quotient
def m_is_number : SM := (sRet (mAndV (mCall F_is_quotient (mCons (mVar 0) mNil)) (mAndV (mOp leD (mCB absD (mCons (mOp ixD (mVar 0) (mC (.int 0))) mNil)) (mC (.int 1000000000000))) (mOp leD (mOp ixD (mVar 0) (mC (.int 1))) (mC (.int 1000000000000))))))
def F_is_number : FM := mDef 1 m_is_number
def m_check_measures : SM := (sSeq (sIf (mOr (mNot (mTru (mIsT "tuple" (mVar 0)))) (mNot (mChainT leD leD (mC (.int 1)) (mCB lenD (mCons (mVar 0) mNil)) (mC (.int 20))))) (sRaise 0 24 (mC (.str "measures"))) sNext) (sFor (mIt (mVar 0)) (gmName 1) (sSeq (sIf (mOr (mNot (mTru (mIsT "tuple" (mVar 1)))) (mOr (mTest (mOp neD (mCB lenD (mCons (mVar 1) mNil)) (mC (.int 3)))) (mNot (mTru (mCB allD (mCons (mLc (mIt (mVar 1)) (gmName 2) mYes (mCall F_is_number (mCons (mVar 2) mNil)) [2]) mNil)))))) (sRaise 0 24 (mC (.str "measures"))) sNext) (sIf (mTest (mOp ltD (mOp ixD (mOp ixD (mVar 1) (mC (.int 2))) (mC (.int 0))) (mC (.int 0)))) (sRaise 0 24 (mC (.str "measures"))) sNext))))
def F_check_measures : FM := mDef 3 m_check_measures
def m_size_of : SM := (sRet (mTup (mCons (mCB absD (mCons (mOp ixD (mVar 0) (mC (.int 0))) mNil)) (mCons (mOp ixD (mVar 0) (mC (.int 1))) mNil))))
def F_size_of : FM := mDef 1 m_size_of
def m_sum_with_error : SM := (sSeq (sDrop (mCall F_check_measures (mCons (mVar 0) mNil))) (sSeq (sAsg (mCall F_sum_of (mCons (mLc (mIt (mVar 0)) (gmName 2) mYes (mCall F_times (mCons (mOp ixD (mVar 2) (mC (.int 0))) (mCons (mOp ixD (mVar 2) (mC (.int 1))) mNil))) [2]) mNil)) (gmName 1)) (sRet (mTup (mCons (mVar 1) (mCons (mCall F_sum_of (mCons (mLc (mIt (mVar 0)) (gmName 2) mYes (mCall F_times (mCons (mCall F_size_of (mCons (mOp ixD (mVar 2) (mC (.int 0))) mNil)) (mCons (mOp ixD (mVar 2) (mC (.int 2))) mNil))) [2]) mNil)) mNil))))))
def F_sum_with_error : FM := mDef 3 m_sum_with_error
def m_product_with_error : SM := (sSeq (sDrop (mCall F_check_measures (mCons (mVar 0) mNil))) (sSeq (sAsg (mTup (mCons (mTup (mCons (mC (.int 1)) (mCons (mC (.int 1)) mNil))) (mCons (mTup (mCons (mC (.int 1)) (mCons (mC (.int 1)) mNil))) mNil))) (gmUnp 2 (gmCons (gmName 1) (gmCons (gmName 2) gmNil)))) (sSeq (sFor (mIt (mVar 0)) (gmTup 3 (gmCons (gmName 3) (gmCons (gmName 4) (gmCons (gmName 5) gmNil)))) (sSeq (sAsg (mTup (mCons (mCall F_minus (mCons (mVar 4) (mCons (mVar 5) mNil))) (mCons (mCall F_plus (mCons (mVar 4) (mCons (mVar 5) mNil))) mNil))) (gmName 6)) (sSeq (sAsg (mLc2 (mIt (mTup (mCons (mVar 1) (mCons (mVar 2) mNil)))) (gmName 9) mYes (mIt (mVar 6)) (gmName 10) mYes (mCall F_times (mCons (mVar 9) (mCons (mVar 10) mNil))) [9, 10] [10]) (gmName 7)) (sSeq (sPar 1 2 (mCons (mOp ixD (mVar 7) (mC (.int 0))) (mCons (mOp ixD (mVar 7) (mC (.int 0))) mNil))) (sFor (mIt (mVar 7)) (gmName 8) (sSeq (sAsg (mIf (mTru (mCall F_is_less (mCons (mVar 8) (mCons (mVar 1) mNil)))) (mVar 8) (mVar 1)) (gmName 1)) (sAsg (mIf (mTru (mCall F_is_less (mCons (mVar 2) (mCons (mVar 8) mNil)))) (mVar 8) (mVar 2)) (gmName 2)))))))) (sRet (mTup (mCons (mVar 1) (mCons (mVar 2) mNil)))))))
def F_product_with_error : FM := mDef 11 m_product_with_error
def m_shares_of_error : SM := (sSeq (sDrop (mCall F_check_measures (mCons (mVar 0) mNil))) (sSeq (sAsg (mLc (mIt (mVar 0)) (gmName 3) mYes (mCall F_times (mCons (mCall F_size_of (mCons (mOp ixD (mVar 3) (mC (.int 0))) mNil)) (mCons (mOp ixD (mVar 3) (mC (.int 2))) mNil))) [3]) (gmName 1)) (sSeq (sAsg (mCall F_sum_of (mCons (mVar 1) mNil)) (gmName 2)) (sRet (mIf (mTru (mOp ixD (mVar 2) (mC (.int 0)))) (mCB tupD (mCons (mLc (mIt (mVar 1)) (gmName 4) mYes (mCall F_over (mCons (mVar 4) (mCons (mVar 2) mNil))) [4]) mNil)) (mC .non))))))
def F_shares_of_error : FM := mDef 5 m_shares_of_error
def m_worst : SM := (sSeq (sDrop (mCall F_check_measures (mCons (mVar 0) mNil))) (sSeq (sAsg (mLc (mIt (mVar 0)) (gmName 5) mYes (mCall F_times (mCons (mCall F_size_of (mCons (mOp ixD (mVar 5) (mC (.int 0))) mNil)) (mCons (mOp ixD (mVar 5) (mC (.int 2))) mNil))) [5]) (gmName 1)) (sSeq (sAsg (mC (.int 0)) (gmName 2)) (sSeq (sFor (mItS enumD (mCons (mVar 1) mNil)) (gmTup 2 (gmCons (gmName 3) (gmCons (gmName 4) gmNil))) (sAsg (mIf (mTru (mCall F_is_less (mCons (mOp ixD (mVar 1) (mVar 2)) (mCons (mVar 4) mNil)))) (mVar 3) (mVar 2)) (gmName 2))) (sRet (mVar 2))))))
def F_worst : FM := mDef 6 m_worst
def m_check_parts : SM := (sSeq (sIf (mOr (mNot (mTru (mIsT "tuple" (mVar 0)))) (mNot (mChainT leD leD (mC (.int 1)) (mCB lenD (mCons (mVar 0) mNil)) (mC (.int 20))))) (sRaise 0 24 (mC (.str "parts"))) sNext) (sFor (mIt (mVar 0)) (gmName 1) (sSeq (sIf (mOr (mNot (mTru (mIsT "tuple" (mVar 1)))) (mNot (mChainT leD leD (mC (.int 1)) (mCB lenD (mCons (mVar 1) mNil)) (mC (.int 8))))) (sRaise 0 24 (mC (.str "parts"))) sNext) (sFor (mIt (mVar 1)) (gmName 2) (sSeq (sIf (mOr (mNot (mTru (mIsT "tuple" (mVar 2)))) (mOr (mTest (mOp neD (mCB lenD (mCons (mVar 2) mNil)) (mC (.int 2)))) (mNot (mTru (mCB allD (mCons (mLc (mIt (mVar 2)) (gmName 3) mYes (mCall F_is_integer (mCons (mVar 3) mNil)) [3]) mNil)))))) (sRaise 0 24 (mC (.str "parts"))) sNext) (sIf (mOr (mNot (mChainT leD leD (mC (.int 0)) (mOp ixD (mVar 2) (mC (.int 0))) (mC (.int 2000)))) (mNot (mChainT leD leD (mC (.int 0)) (mOp ixD (mVar 2) (mC (.int 1))) (mC (.int 1000000))))) (sRaise 0 24 (mC (.str "parts"))) sNext))))))
def F_check_parts : FM := mDef 4 m_check_parts
def m_check_bound : SM := (sIf (mOr (mNot (mTru (mCall F_is_integer (mCons (mVar 0) mNil)))) (mNot (mChainT leD leD (mC (.int 0)) (mVar 0) (mC (.int 2000))))) (sRaise 0 24 (mC (.str "bound"))) sNext)
def F_check_bound : FM := mDef 1 m_check_bound
def m_tables_of : SM := (sSeq (sAsg (mLoc (mCons (mOp mulV (mLst (mCons (mC (.int 0)) mNil)) (mOp addD (mVar 1) (mC (.int 1)))) mNil)) (gmName 2)) (sSeq (sFor (mIt (mRev2 (mVar 0))) (gmName 3) (sSeq (sAsg (mOp ixD (mVar 2) (mUn negD (mC (.int 1)))) (gmName 4)) (sSeq (sAsg (mLoc mNil) (gmName 5)) (sSeq (sFor (mItA rangeD1 (mCons (mOp addD (mVar 1) (mC (.int 1))) mNil)) (gmName 6) (sSeq (sAsg (mLc (mIt (mVar 3)) (gmTup 2 (gmCons (gmName 8) (gmCons (gmName 9) gmNil))) (mAnd (mTest (mOp leD (mVar 8) (mVar 6))) (mTest (mOp nisD (mOp ixD (mVar 4) (mOp subD (mVar 6) (mVar 8))) (mC .non)))) (mTup (mCons (mVar 8) (mCons (mVar 9) mNil))) [8, 9]) (gmName 7)) (sDrop (mMt "list" appendD (mVar 5) (mCons (mIf (mTru (mVar 7)) (mCB minD2 (mCons (mLc (mIt (mVar 7)) (gmTup 2 (gmCons (gmName 8) (gmCons (gmName 9) gmNil))) mYes (mOp addD (mVar 9) (mOp ixD (mVar 4) (mOp subD (mVar 6) (mVar 8)))) [8, 9]) mNil)) (mC .non)) mNil))))) (sDrop (mMt "list" appendD (mVar 2) (mCons (mVar 5) mNil))))))) (sRet (mRev2 (mVar 2)))))
def F_tables_of : FM := mDef 10 m_tables_of
def m_judge_plan : SM := (sSeq (sDrop (mCall F_check_parts (mCons (mVar 0) mNil))) (sSeq (sDrop (mCall F_check_bound (mCons (mVar 1) mNil))) (sSeq (sAsg (mCB sumD (mCons (mLc (mIt (mVar 0)) (gmName 7) mYes (mCB minD2 (mCons (mLc (mIt (mVar 7)) (gmTup 2 (gmCons (gmName 10) (gmCons (gmName 11) gmNil))) mYes (mVar 10) [10, 11]) mNil)) [7]) mNil)) (gmName 2)) (sSeq (sIf (mTest (mOp gtD (mVar 2) (mVar 1))) (sRet (mTup (mCons (mC (.str "none")) (mCons (mVar 2) mNil)))) sNext) (sSeq (sAsg (mCall F_tables_of (mCons (mVar 0) (mCons (mVar 1) mNil))) (gmName 3)) (sSeq (sAsg (mLoc mNil) (gmName 4)) (sSeq (sAsg (mVar 1) (gmName 5)) (sSeq (sFor (mItS enumD (mCons (mVar 0) mNil)) (gmTup 2 (gmCons (gmName 6) (gmCons (gmName 7) gmNil))) (sFor (mItS enumD (mCons (mVar 7) mNil)) (gmTup 2 (gmCons (gmName 8) (gmCons (gmTup 2 (gmCons (gmName 10) (gmCons (gmName 11) gmNil))) gmNil))) (sSeq (sAsg (mIf (mTest (mOp leD (mVar 10) (mVar 5))) (mOp ixD (mOp ixD (mVar 3) (mOp addD (mVar 6) (mC (.int 1)))) (mOp subD (mVar 5) (mVar 10))) (mC .non)) (gmName 9)) (sIf (mAnd (mTest (mOp nisD (mVar 9) (mC .non))) (mTest (mOp eqD (mOp addD (mVar 11) (mVar 9)) (mOp ixD (mOp ixD (mVar 3) (mVar 6)) (mVar 5))))) (sSeq (sDrop (mMt "list" appendD (mVar 4) (mCons (mVar 8) mNil))) (sSeq (sAug 5 subD (mVar 10)) sBrk)) sNext)))) (sRet (mTup (mCons (mC (.str "plan")) (mCons (mOp ixD (mOp ixD (mVar 3) (mC (.int 0))) (mVar 1)) (mCons (mCB tupD (mCons (mVar 4) mNil)) mNil)))))))))))))
def F_judge_plan : FM := mDef 12 m_judge_plan
def m_costs_by : SM := (sSeq (sDrop (mCall F_check_parts (mCons (mVar 0) mNil))) (sSeq (sDrop (mCall F_check_bound (mCons (mVar 1) mNil))) (sRet (mCB tupD (mCons (mOp ixD (mCall F_tables_of (mCons (mVar 0) (mCons (mVar 1) mNil))) (mC (.int 0))) mNil)))))
def F_costs_by : FM := mDef 2 m_costs_by
def m_accept_plan : SM := (sSeq (sDrop (mCall F_check_parts (mCons (mVar 0) mNil))) (sSeq (sDrop (mCall F_check_bound (mCons (mVar 1) mNil))) (sSeq (sIf (mOr (mNot (mTru (mCall F_is_integer (mCons (mVar 2) mNil)))) (mOr (mNot (mTru (mIsT "tuple" (mVar 3)))) (mTest (mOp neD (mCB lenD (mCons (mVar 3) mNil)) (mCB lenD (mCons (mVar 0) mNil)))))) (sRaise 1 22 (mC (.str "form"))) sNext) (sSeq (sIf (mNot (mTru (mCB allD (mCons (mLc (mItS zipD (mCons (mVar 3) (mCons (mVar 0) mNil))) (gmTup 2 (gmCons (gmName 5) (gmCons (gmName 6) gmNil))) mYes (mAndV (mCall F_is_integer (mCons (mVar 5) mNil)) (mChain leD ltD (mC (.int 0)) (mVar 5) (mCB lenD (mCons (mVar 6) mNil)))) [5, 6]) mNil)))) (sRaise 1 22 (mC (.str "form"))) sNext) (sSeq (sAsg (mLc (mItS zipD (mCons (mVar 3) (mCons (mVar 0) mNil))) (gmTup 2 (gmCons (gmName 5) (gmCons (gmName 6) gmNil))) mYes (mOp ixD (mVar 6) (mVar 5)) [5, 6]) (gmName 4)) (sSeq (sIf (mTest (mOp gtD (mCB sumD (mCons (mLc (mIt (mVar 4)) (gmTup 2 (gmCons (gmName 7) (gmCons (gmName 5) gmNil))) mYes (mVar 7) [7, 5]) mNil)) (mVar 1))) (sRaise 1 22 (mC (.str "bound"))) sNext) (sIf (mTest (mOp gtD (mCB sumD (mCons (mLc (mIt (mVar 4)) (gmTup 2 (gmCons (gmName 7) (gmCons (gmName 5) gmNil))) mYes (mVar 5) [7, 5]) mNil)) (mVar 2))) (sRaise 1 22 (mC (.str "cost"))) sNext)))))))
def F_accept_plan : FM := mDef 8 m_accept_plan
def m_accept_least : SM := (sSeq (sDrop (mCall F_check_parts (mCons (mVar 0) mNil))) (sSeq (sDrop (mCall F_check_bound (mCons (mVar 1) mNil))) (sSeq (sIf (mOr (mNot (mTru (mCall F_is_integer (mCons (mVar 2) mNil)))) (mOr (mNot (mTru (mIsT "tuple" (mVar 3)))) (mTest (mOp neD (mCB lenD (mCons (mVar 3) mNil)) (mOp addD (mCB lenD (mCons (mVar 0) mNil)) (mC (.int 1))))))) (sRaise 1 22 (mC (.str "form"))) sNext) (sSeq (sFor (mIt (mVar 3)) (gmName 4) (sSeq (sIf (mOr (mNot (mTru (mIsT "tuple" (mVar 4)))) (mTest (mOp neD (mCB lenD (mCons (mVar 4) mNil)) (mOp addD (mVar 1) (mC (.int 1)))))) (sRaise 1 22 (mC (.str "form"))) sNext) (sIf (mNot (mTru (mCB allD (mCons (mLc (mIt (mVar 4)) (gmName 9) mYes (mOrV (mOp isD (mVar 9) (mC .non)) (mCall F_is_integer (mCons (mVar 9) mNil))) [9]) mNil)))) (sRaise 1 22 (mC (.str "form"))) sNext))) (sSeq (sIf (mNot (mTru (mCB allD (mCons (mLc (mIt (mOp ixD (mVar 3) (mUn negD (mC (.int 1))))) (gmName 9) mYes (mAndV (mOp nisD (mVar 9) (mC .non)) (mOp leD (mVar 9) (mC (.int 0)))) [9]) mNil)))) (sRaise 1 22 (mC (.str "end"))) sNext) (sSeq (sFor (mItS enumD (mCons (mVar 0) mNil)) (gmTup 2 (gmCons (gmName 5) (gmCons (gmName 6) gmNil))) (sFor (mItA rangeD1 (mCons (mOp addD (mVar 1) (mC (.int 1))) mNil)) (gmName 7) (sFor (mIt (mVar 6)) (gmTup 2 (gmCons (gmName 8) (gmCons (gmName 9) gmNil))) (sSeq (sAsg (mIf (mTest (mOp leD (mVar 8) (mVar 7))) (mOp ixD (mOp ixD (mVar 3) (mOp addD (mVar 5) (mC (.int 1)))) (mOp subD (mVar 7) (mVar 8))) (mC .non)) (gmName 10)) (sIf (mAnd (mTest (mOp nisD (mVar 10) (mC .non))) (mOr (mTest (mOp isD (mOp ixD (mOp ixD (mVar 3) (mVar 5)) (mVar 7)) (mC .non))) (mTest (mOp gtD (mOp ixD (mOp ixD (mVar 3) (mVar 5)) (mVar 7)) (mOp addD (mVar 9) (mVar 10)))))) (sRaise 1 22 (mC (.str "row"))) sNext))))) (sIf (mAnd (mTest (mOp nisD (mOp ixD (mOp ixD (mVar 3) (mC (.int 0))) (mVar 1)) (mC .non))) (mTest (mOp ltD (mOp ixD (mOp ixD (mVar 3) (mC (.int 0))) (mVar 1)) (mVar 2)))) (sRaise 1 22 (mC (.str "cost"))) sNext)))))))
def F_accept_least : FM := mDef 11 m_accept_least
def m_needless_options : SM := (sSeq (sDrop (mCall F_check_parts (mCons (mVar 0) mNil))) (sSeq (sAsg (mLoc mNil) (gmName 1)) (sSeq (sFor (mIt (mVar 0)) (gmName 2) (sSeq (sAsg (mLoc mNil) (gmName 3)) (sSeq (sFor (mItS enumD (mCons (mVar 2) mNil)) (gmTup 2 (gmCons (gmName 4) (gmCons (gmTup 2 (gmCons (gmName 6) (gmCons (gmName 7) gmNil))) gmNil))) (sSeq (sAsg (mLc (mItS enumD (mCons (mVar 2) mNil)) (gmTup 2 (gmCons (gmName 8) (gmCons (gmName 9) gmNil))) (mAnd (mTest (mOp leD (mOp ixD (mVar 9) (mC (.int 0))) (mVar 6))) (mAnd (mTest (mOp leD (mOp ixD (mVar 9) (mC (.int 1))) (mVar 7))) (mTest (mOp neD (mVar 9) (mOp ixD (mVar 2) (mVar 4)))))) (mVar 8) [8, 9]) (gmName 5)) (sIf (mOr (mTru (mVar 5)) (mTest (mOp inD (mTup (mCons (mVar 6) (mCons (mVar 7) mNil))) (mSl (mVar 2) mNoPart (mPart (mVar 4)))))) (sDrop (mMt "list" appendD (mVar 3) (mCons (mVar 4) mNil))) sNext))) (sDrop (mMt "list" appendD (mVar 1) (mCons (mCB tupD (mCons (mVar 3) mNil)) mNil)))))) (sRet (mCB tupD (mCons (mVar 1) mNil))))))
def F_needless_options : FM := mDef 10 m_needless_options
def m_next_saving : SM := (sSeq (sAsg (mCall F_judge_plan (mCons (mVar 0) (mCons (mVar 1) mNil))) (gmName 2)) (sSeq (sAsg (mOp ixD (mCall F_tables_of (mCons (mVar 0) (mCons (mC (.int 2000)) mNil))) (mC (.int 0))) (gmName 3)) (sSeq (sFor (mItA rangeD2 (mCons (mOp addD (mVar 1) (mC (.int 1))) (mCons (mOp addD (mC (.int 2000)) (mC (.int 1))) mNil))) (gmName 4) (sIf (mAnd (mTest (mOp nisD (mOp ixD (mVar 3) (mVar 4)) (mC .non))) (mOr (mTest (mOp eqD (mOp ixD (mVar 2) (mC (.int 0))) (mC (.str "none")))) (mTest (mOp ltD (mOp ixD (mVar 3) (mVar 4)) (mOp ixD (mVar 2) (mC (.int 1))))))) (sRet (mTup (mCons (mVar 4) (mCons (mOp ixD (mVar 3) (mVar 4)) mNil)))) sNext)) (sRet (mC .non)))))
def F_next_saving : FM := mDef 5 m_next_saving
def m__law_start : SM := (sSeq (sAsg (mC (.int 7)) (gmName 1)) (sSeq (sFor (mIt (mVar 0)) (gmName 2) (sAsg (mOp addD (mOp modD (mCB intD (mCons (mOp addD (mOp mulV (mVar 1) (mC (.int 48271))) (mVar 2)) mNil)) (mC (.int 2147483629))) (mC (.int 1))) (gmName 1))) (sRet (mLoc (mCons (mCB lstD (mCons (mVar 0) mNil)) (mCons (mC (.int 0)) (mCons (mC (.int 0)) (mCons (mVar 1) mNil))))))))
def F__law_start : FM := mDef 3 m__law_start
def m__law_draw : SM := (sSeq (sIf (mAnd (mTest (mOp eqD (mOp ixD (mVar 0) (mC (.int 1))) (mC (.int 0)))) (mTest (mOp geD (mOp ixD (mVar 0) (mC (.int 2))) (mCB lenD (mCons (mOp ixD (mVar 0) (mC (.int 0))) mNil))))) (sSeq (sAsg (mOp modD (mCB intD (mCons (mOp addD (mOp mulV (mOp ixD (mVar 0) (mC (.int 3))) (mC (.int 48271))) (mC (.int 69621))) mNil)) (mC (.int 2147483629))) (gmSub (mVar 0) (mC (.int 3)))) (sRet (mOp modD (mCB intD (mCons (mOp fdivD (mOp ixD (mVar 0) (mC (.int 3))) (mC (.int 13))) mNil)) (mVar 1)))) sNext) (sSeq (sIf (mTest (mOp eqD (mOp ixD (mVar 0) (mC (.int 1))) (mC (.int 0)))) (sSeq (sAsg (mCB absD (mCons (mOp ixD (mOp ixD (mVar 0) (mC (.int 0))) (mOp ixD (mVar 0) (mC (.int 2)))) mNil)) (gmSub (mVar 0) (mC (.int 1)))) (sAsg (mOp addD (mOp ixD (mVar 0) (mC (.int 2))) (mC (.int 1))) (gmSub (mVar 0) (mC (.int 2))))) sNext) (sSeq (sAsg (mOp modD (mCB intD (mCons (mOp ixD (mVar 0) (mC (.int 1))) mNil)) (mVar 1)) (gmName 2)) (sSeq (sAsg (mOp fdivD (mOp ixD (mVar 0) (mC (.int 1))) (mVar 1)) (gmSub (mVar 0) (mC (.int 1)))) (sRet (mVar 2))))))
def F__law_draw : FM := mDef 3 m__law_draw
def m__law_pick : SM := (sRet (mOp ixD (mVar 1) (mCall F__law_draw (mCons (mVar 0) (mCons (mCB lenD (mCons (mVar 1) mNil)) mNil)))))
def F__law_pick : FM := mDef 2 m__law_pick
def m__law_word : SM := (sSeq (sIf (mTru (mIsE (tbC es 1) (mVar 0))) (sRet (mOp addD (mC (.str "paper ")) (mXf [0, 1] (mVar 0)))) sNext) (sRet (mOp addD (mC (.str "argument ")) (mXf [0, 1] (mVar 0)))))
def F__law_word : FM := mDef 1 m__law_word
def tblV : Nat → Option (Nat × FM)
  | 23 => some (4, F_accept_least)
  | 22 => some (4, F_accept_plan)
  | 13 => some (1, F_sum_with_error)
  | 14 => some (1, F_product_with_error)
  | 15 => some (1, F_shares_of_error)
  | 16 => some (1, F_worst)
  | 20 => some (2, F_judge_plan)
  | 21 => some (2, F_costs_by)
  | 25 => some (2, F_next_saving)
  | 24 => some (1, F_needless_options)
  | _ => none
def m__law_asked : SM := (sSeq (sIf (mTest (mOp eqD (mCB lenD (mCons (mVar 1) mNil)) (mC (.int 1)))) (sRet (mCallV tblV 0 (mCons (mOp ixD (mVar 1) (mC (.int 0))) mNil))) sNext) (sSeq (sIf (mTest (mOp eqD (mCB lenD (mCons (mVar 1) mNil)) (mC (.int 2)))) (sRet (mCallV tblV 0 (mCons (mOp ixD (mVar 1) (mC (.int 0))) (mCons (mOp ixD (mVar 1) (mC (.int 1))) mNil)))) sNext) (sSeq (sIf (mTest (mOp eqD (mCB lenD (mCons (mVar 1) mNil)) (mC (.int 3)))) (sRet (mCallV tblV 0 (mCons (mOp ixD (mVar 1) (mC (.int 0))) (mCons (mOp ixD (mVar 1) (mC (.int 1))) (mCons (mOp ixD (mVar 1) (mC (.int 2))) mNil))))) sNext) (sRet (mCallV tblV 0 (mCons (mOp ixD (mVar 1) (mC (.int 0))) (mCons (mOp ixD (mVar 1) (mC (.int 1))) (mCons (mOp ixD (mVar 1) (mC (.int 2))) (mCons (mOp ixD (mVar 1) (mC (.int 3))) mNil)))))))))
def F__law_asked : FM := mDef 2 m__law_asked
def m__law_heard : SM := (sTry (sRet (mCall F__law_asked (mCons (mVar 0) (mCons (mVar 1) mNil)))) (tbV es) 2 (sRet (mCallJ F__law_word (mCons (mVar 2) mNil))))
def F__law_heard : FM := mDef 3 m__law_heard
def m__law_whole : SM := (sRet (mAndV (mIsT "int" (mVar 0)) (mNotV (mIsT "bool" (mVar 0)))))
def F__law_whole : FM := mDef 1 m__law_whole
def m__law_rows : SM := (sSeq (sAsg (mLst (mCons (mOp mulV (mLst (mCons (mC (.int 0)) mNil)) (mOp addD (mVar 1) (mC (.int 1)))) mNil)) (gmName 2)) (sSeq (sFor (mIt (mRev2 (mVar 0))) (gmName 3) (sSeq (sAsg (mLoc mNil) (gmName 4)) (sSeq (sFor (mItA rangeD1 (mCons (mOp addD (mVar 1) (mC (.int 1))) mNil)) (gmName 5) (sSeq (sAsg (mLc (mIt (mVar 3)) (gmTup 2 (gmCons (gmName 7) (gmCons (gmName 8) gmNil))) (mAnd (mTest (mOp leD (mVar 7) (mVar 5))) (mTest (mOp nisD (mOp ixD (mOp ixD (mVar 2) (mC (.int 0))) (mOp subD (mVar 5) (mVar 7))) (mC .non)))) (mOp addD (mVar 8) (mOp ixD (mOp ixD (mVar 2) (mC (.int 0))) (mOp subD (mVar 5) (mVar 7)))) [7, 8]) (gmName 6)) (sDrop (mMt "list" appendD (mVar 4) (mCons (mIf (mTru (mVar 6)) (mCB minD2 (mCons (mVar 6) mNil)) (mC .non)) mNil))))) (sAsg (mOp addD (mLst (mCons (mVar 4) mNil)) (mVar 2)) (gmName 2))))) (sRet (mCB tupD (mCons (mLc (mIt (mVar 2)) (gmName 4) mYes (mCB tupD (mCons (mVar 4) mNil)) [4]) mNil)))))
def F__law_rows : FM := mDef 9 m__law_rows
def m__law_plan_due : SM := (sSeq (sIf (mOr (mNot (mTru (mCall F__law_whole (mCons (mVar 2) mNil)))) (mOr (mNot (mTru (mIsT "tuple" (mVar 3)))) (mTest (mOp neD (mCB lenD (mCons (mVar 3) mNil)) (mCB lenD (mCons (mVar 0) mNil)))))) (sRet (mC (.str "paper form"))) sNext) (sSeq (sIf (mTru (mLc (mItA rangeD1 (mCons (mCB lenD (mCons (mVar 0) mNil)) mNil)) (gmName 5) (mOr (mNot (mTru (mCall F__law_whole (mCons (mOp ixD (mVar 3) (mVar 5)) mNil)))) (mNot (mChainT leD ltD (mC (.int 0)) (mOp ixD (mVar 3) (mVar 5)) (mCB lenD (mCons (mOp ixD (mVar 0) (mVar 5)) mNil))))) (mVar 5) [5])) (sRet (mC (.str "paper form"))) sNext) (sSeq (sAsg (mLc (mItA rangeD1 (mCons (mCB lenD (mCons (mVar 0) mNil)) mNil)) (gmName 5) mYes (mOp ixD (mOp ixD (mVar 0) (mVar 5)) (mOp ixD (mVar 3) (mVar 5))) [5]) (gmName 4)) (sSeq (sIf (mTest (mOp gtD (mCB sumD (mCons (mLc (mIt (mVar 4)) (gmTup 2 (gmCons (gmName 6) (gmCons (gmName 7) gmNil))) mYes (mVar 6) [6, 7]) mNil)) (mVar 1))) (sRet (mC (.str "paper bound"))) sNext) (sRet (mIf (mTest (mOp gtD (mCB sumD (mCons (mLc (mIt (mVar 4)) (gmTup 2 (gmCons (gmName 6) (gmCons (gmName 7) gmNil))) mYes (mVar 7) [6, 7]) mNil)) (mVar 2))) (mC (.str "paper cost")) (mC .non)))))))
def F__law_plan_due : FM := mDef 8 m__law_plan_due
def m__law_least_due : SM := (sSeq (sIf (mOr (mNot (mTru (mCall F__law_whole (mCons (mVar 2) mNil)))) (mOr (mNot (mTru (mIsT "tuple" (mVar 3)))) (mTest (mOp neD (mCB lenD (mCons (mVar 3) mNil)) (mOp addD (mCB lenD (mCons (mVar 0) mNil)) (mC (.int 1))))))) (sRet (mC (.str "paper form"))) sNext) (sSeq (sFor (mIt (mVar 3)) (gmName 4) (sIf (mOr (mNot (mTru (mIsT "tuple" (mVar 4)))) (mOr (mTest (mOp neD (mCB lenD (mCons (mVar 4) mNil)) (mOp addD (mVar 1) (mC (.int 1))))) (mTru (mLc (mIt (mVar 4)) (gmName 7) (mAnd (mTest (mOp nisD (mVar 7) (mC .non))) (mNot (mTru (mCall F__law_whole (mCons (mVar 7) mNil))))) (mVar 7) [7])))) (sRet (mC (.str "paper form"))) sNext)) (sSeq (sIf (mTru (mLc (mIt (mOp ixD (mVar 3) (mUn negD (mC (.int 1))))) (gmName 7) (mOr (mTest (mOp isD (mVar 7) (mC .non))) (mTest (mOp gtD (mVar 7) (mC (.int 0))))) (mVar 7) [7])) (sRet (mC (.str "paper end"))) sNext) (sSeq (sFor (mItA rangeD1 (mCons (mCB lenD (mCons (mVar 0) mNil)) mNil)) (gmName 5) (sFor (mItA rangeD1 (mCons (mOp addD (mVar 1) (mC (.int 1))) mNil)) (gmName 6) (sFor (mIt (mOp ixD (mVar 0) (mVar 5))) (gmTup 2 (gmCons (gmName 8) (gmCons (gmName 7) gmNil))) (sSeq (sAsg (mIf (mTest (mOp leD (mVar 8) (mVar 6))) (mOp ixD (mOp ixD (mVar 3) (mOp addD (mVar 5) (mC (.int 1)))) (mOp subD (mVar 6) (mVar 8))) (mC .non)) (gmName 9)) (sIf (mAnd (mTest (mOp nisD (mVar 9) (mC .non))) (mOr (mTest (mOp isD (mOp ixD (mOp ixD (mVar 3) (mVar 5)) (mVar 6)) (mC .non))) (mTest (mOp gtD (mOp ixD (mOp ixD (mVar 3) (mVar 5)) (mVar 6)) (mOp addD (mVar 7) (mVar 9)))))) (sRet (mC (.str "paper row"))) sNext))))) (sRet (mIf (mAnd (mTest (mOp nisD (mOp ixD (mOp ixD (mVar 3) (mC (.int 0))) (mVar 1)) (mC .non))) (mTest (mOp ltD (mOp ixD (mOp ixD (mVar 3) (mC (.int 0))) (mVar 1)) (mVar 2)))) (mC (.str "paper cost")) (mC .non)))))))
def F__law_least_due : FM := mDef 10 m__law_least_due
def m__law_put : SM := (sRet (mOp addD (mOp addD (mSl (mVar 0) mNoPart (mPart (mVar 1))) (mTup (mCons (mOp addD (mOp addD (mSl (mOp ixD (mVar 0) (mVar 1)) mNoPart (mPart (mVar 2))) (mTup (mCons (mVar 3) mNil))) (mSl (mOp ixD (mVar 0) (mVar 1)) (mPart (mOp addD (mVar 2) (mC (.int 1)))) mNoPart)) mNil))) (mSl (mVar 0) (mPart (mOp addD (mVar 1) (mC (.int 1)))) mNoPart)))
def F__law_put : FM := mDef 4 m__law_put
def m__law_papers_hold : SM := (sSeq (sAsg (mCB tupD (mCons (mLc (mItA rangeD1 (mCons (mOp addD (mC (.int 1)) (mCall F__law_draw (mCons (mVar 0) (mCons (mC (.int 4)) mNil)))) mNil)) (gmName 9) mYes (mCB tupD (mCons (mLc (mItA rangeD1 (mCons (mOp addD (mC (.int 1)) (mCall F__law_draw (mCons (mVar 0) (mCons (mC (.int 4)) mNil)))) mNil)) (gmName 13) mYes (mTup (mCons (mCall F__law_draw (mCons (mVar 0) (mCons (mC (.int 6)) mNil))) (mCons (mCall F__law_draw (mCons (mVar 0) (mCons (mC (.int 9)) mNil))) mNil))) [13]) mNil)) [9]) mNil)) (gmName 1)) (sSeq (sPar 8 2 (mCons (mCall F__law_draw (mCons (mVar 0) (mCons (mC (.int 12)) mNil))) (mCons (mTup mNil) mNil))) (sSeq (sAsg (mCall F__law_rows (mCons (mVar 1) (mCons (mVar 8) mNil))) (gmName 2)) (sSeq (sAsg (mIf (mTest (mOp nisD (mOp ixD (mOp ixD (mVar 2) (mC (.int 0))) (mVar 8)) (mC .non))) (mOp ixD (mOp ixD (mVar 2) (mC (.int 0))) (mVar 8)) (mCall F__law_draw (mCons (mVar 0) (mCons (mC (.int 20)) mNil)))) (gmName 3)) (sSeq (sFor (mItA rangeD1 (mCons (mC (.int 4)) mNil)) (gmName 4) (sSeq (sAsg (mCB tupD (mCons (mLc (mIt (mVar 1)) (gmName 12) mYes (mCall F__law_draw (mCons (mVar 0) (mCons (mCB lenD (mCons (mVar 12) mNil)) mNil))) [12]) mNil)) (gmName 7)) (sFor (mIt (mLst (mCons (mVar 7) (mCons (mSl (mVar 7) (mPart (mC (.int 1))) mNoPart) (mCons (mOp addD (mVar 7) (mTup (mCons (mC (.int 0)) mNil))) (mCons (mOp mulT (mTup (mCons (mC .non) mNil)) (mCB lenD (mCons (mVar 1) mNil))) (mCons (mC .non) (mCons (mC (.str "a")) (mCons (mOp addD (mSl (mVar 7) mNoPart (mPart (mUn negD (mC (.int 1))))) (mTup (mCons (mCB lenD (mCons (mOp ixD (mVar 1) (mUn negD (mC (.int 1)))) mNil)) mNil))) (mCons (mOp addD (mTup (mCons (mUn negD (mC (.int 1))) mNil)) (mSl (mVar 7) (mPart (mC (.int 1))) mNoPart)) (mCons (mOp mulT (mTup (mCons (mC (.bl true)) mNil)) (mCB lenD (mCons (mVar 1) mNil))) mNil))))))))))) (gmName 5) (sFor (mIt (mLst (mCons (mVar 3) (mCons (mOp addD (mVar 3) (mC (.int 3))) (mCons (mOp subD (mVar 3) (mC (.int 1))) (mCons (mC (.int 0)) (mCons (mC .non) (mCons (mC (.str "1")) mNil)))))))) (gmName 11) (sIf (mTest (mOp neD (mCall F__law_heard (mCons (mC (.fn 22)) (mCons (mLst (mCons (mVar 1) (mCons (mVar 8) (mCons (mVar 11) (mCons (mVar 5) mNil))))) mNil))) (mCall F__law_plan_due (mCons (mVar 1) (mCons (mVar 8) (mCons (mVar 11) (mCons (mVar 5) mNil))))))) (sRet (mC (.bl false))) sNext))))) (sSeq (sPar 9 10 (mCons (mCall F__law_draw (mCons (mVar 0) (mCons (mCB lenD (mCons (mVar 2) mNil)) mNil))) (mCons (mCall F__law_draw (mCons (mVar 0) (mCons (mOp addD (mVar 8) (mC (.int 1))) mNil))) mNil))) (sSeq (sAsg (mOp ixD (mOp ixD (mVar 2) (mVar 9)) (mVar 10)) (gmName 5)) (sSeq (sAsg (mLst (mCons (mVar 2) (mCons (mCall F__law_put (mCons (mVar 2) (mCons (mVar 9) (mCons (mVar 10) (mCons (mC .non) mNil))))) (mCons (mCall F__law_put (mCons (mVar 2) (mCons (mVar 9) (mCons (mVar 10) (mCons (mIf (mTest (mOp isD (mVar 5) (mC .non))) (mC (.int 0)) (mOp addD (mVar 5) (mC (.int 1)))) mNil))))) (mCons (mCall F__law_put (mCons (mVar 2) (mCons (mVar 9) (mCons (mVar 10) (mCons (mIf (mTest (mOp isD (mVar 5) (mC .non))) (mUn negD (mC (.int 1))) (mOp subD (mVar 5) (mC (.int 1)))) mNil))))) mNil))))) (gmName 6)) (sSeq (sAsg (mOp addD (mVar 6) (mLst (mCons (mCall F__law_put (mCons (mVar 2) (mCons (mVar 9) (mCons (mVar 10) (mCons (mC (.str "a")) mNil))))) (mCons (mCall F__law_put (mCons (mVar 2) (mCons (mVar 9) (mCons (mVar 10) (mCons (mC (.bl true)) mNil))))) (mCons (mSl (mVar 2) (mPart (mC (.int 1))) mNoPart) (mCons (mOp addD (mVar 2) (mSl (mVar 2) (mPart (mUn negD (mC (.int 1)))) mNoPart)) (mCons (mC .non) (mCons (mC (.str "a")) (mCons (mOp addD (mSl (mVar 2) mNoPart (mPart (mUn negD (mC (.int 1))))) (mTup (mCons (mSl (mOp ixD (mVar 2) (mUn negD (mC (.int 1)))) (mPart (mC (.int 1))) mNoPart) mNil))) mNil))))))))) (gmName 6)) (sSeq (sAsg (mOp addD (mVar 6) (mLst (mCons (mCB tupD (mCons (mLc (mIt (mVar 2)) (gmName 14) mYes (mSl (mVar 14) mNoPart (mPart (mUn negD (mC (.int 1))))) [14]) mNil)) (mCons (mOp mulT (mTup (mCons (mC .non) mNil)) (mCB lenD (mCons (mVar 2) mNil))) (mCons (mOp addD (mSl (mVar 2) mNoPart (mPart (mUn negD (mC (.int 1))))) (mTup (mCons (mOp mulT (mTup (mCons (mOp subD (mC (.int 0)) (mC (.int 5))) mNil)) (mOp addD (mVar 8) (mC (.int 1)))) mNil))) (mCons (mOp addD (mSl (mVar 2) mNoPart (mPart (mUn negD (mC (.int 1))))) (mTup (mCons (mOp mulT (mTup (mCons (mC (.int 1)) mNil)) (mOp addD (mVar 8) (mC (.int 1)))) mNil))) mNil)))))) (gmName 6)) (sSeq (sFor (mIt (mVar 6)) (gmName 7) (sFor (mIt (mLst (mCons (mVar 3) (mCons (mOp subD (mVar 3) (mC (.int 1))) (mCons (mOp addD (mVar 3) (mC (.int 1))) (mCons (mC .non) (mCons (mC (.bl true)) mNil))))))) (gmName 11) (sIf (mTest (mOp neD (mCall F__law_heard (mCons (mC (.fn 23)) (mCons (mLst (mCons (mVar 1) (mCons (mVar 8) (mCons (mVar 11) (mCons (mVar 7) mNil))))) mNil))) (mCall F__law_least_due (mCons (mVar 1) (mCons (mVar 8) (mCons (mVar 11) (mCons (mVar 7) mNil))))))) (sRet (mC (.bl false))) sNext))) (sRet (mC (.bl true))))))))))))))
def F__law_papers_hold : FM := mDef 15 m__law_papers_hold
def m__law_arguments_hold : SM := (sSeq (sAsg (mTup (mCons (mTup (mCons (mTup (mCons (mC (.int 1)) (mCons (mC (.int 1)) mNil))) (mCons (mTup (mCons (mC (.int 2)) (mCons (mC (.int 1)) mNil))) (mCons (mTup (mCons (mC (.int 1)) (mCons (mC (.int 2)) mNil))) mNil)))) (mCons (mTup (mCons (mTup (mCons (mTup (mCons (mC (.int 5)) (mCons (mC (.int 0)) mNil))) (mCons (mTup (mCons (mC (.int 2)) (mCons (mC (.int 30)) mNil))) mNil))) (mCons (mTup (mCons (mTup (mCons (mC (.int 4)) (mCons (mC (.int 0)) mNil))) (mCons (mTup (mCons (mC (.int 1)) (mCons (mC (.int 50)) mNil))) mNil))) mNil))) mNil))) (gmUnp 2 (gmCons (gmName 8) (gmCons (gmName 9) gmNil)))) (sSeq (sAsg (mLst (mCons (mC .non) (mCons (mTup mNil) (mCons (mOp mulT (mTup (mCons (mVar 8) mNil)) (mC (.int 21))) (mCons (mC (.str "ab")) (mCons (mTup (mCons (mVar 8) (mCons (mC .non) mNil))) (mCons (mTup (mCons (mVar 8) (mCons (mTup (mCons (mTup (mCons (mC (.int 1)) (mCons (mC (.int 1)) mNil))) (mCons (mTup (mCons (mC (.int 2)) (mCons (mC (.int 1)) mNil))) mNil))) mNil))) (mCons (mTup (mCons (mTup (mCons (mTup (mCons (mC (.int 1)) (mCons (mC (.int 1)) mNil))) (mCons (mTup (mCons (mC (.int 2)) (mCons (mC (.int 1)) mNil))) (mCons (mTup (mCons (mUn negD (mC (.int 1))) (mCons (mC (.int 2)) mNil))) mNil)))) mNil)) (mCons (mTup (mCons (mTup (mCons (mTup (mCons (mC (.int 1)) (mCons (mC (.int 1)) mNil))) (mCons (mTup (mCons (mC (.int 2)) (mCons (mC (.int 2)) mNil))) (mCons (mTup (mCons (mC (.int 1)) (mCons (mC (.int 1)) mNil))) mNil)))) mNil)) (mCons (mTup (mCons (mVar 8) (mCons (mTup (mCons (mTup (mCons (mC (.int 1)) (mCons (mC (.int 0)) mNil))) (mCons (mTup (mCons (mC (.int 1)) (mCons (mC (.int 1)) mNil))) (mCons (mTup (mCons (mC (.int 1)) (mCons (mC (.int 1)) mNil))) mNil)))) mNil))) mNil)))))))))) (gmName 1)) (sSeq (sAsg (mOp addD (mVar 1) (mLst (mCons (mTup (mCons (mTup (mCons (mTup (mCons (mC (.bl true)) (mCons (mC (.int 1)) mNil))) (mCons (mTup (mCons (mC (.int 1)) (mCons (mC (.int 1)) mNil))) (mCons (mTup (mCons (mC (.int 1)) (mCons (mC (.int 1)) mNil))) mNil)))) mNil)) (mCons (mTup (mCons (mTup (mCons (mTup (mCons (mC (.int 1)) (mCons (mC (.int 1)) mNil))) (mCons (mTup (mCons (mOp addD (mOp powD (mC (.int 10)) (mC (.int 12))) (mC (.int 1))) (mCons (mC (.int 1)) mNil))) (mCons (mTup (mCons (mC (.int 1)) (mCons (mC (.int 1)) mNil))) mNil)))) mNil)) (mCons (mTup (mCons (mTup (mCons (mTup (mCons (mC (.int 1)) (mCons (mC (.int 1)) mNil))) (mCons (mTup (mCons (mC (.int 1)) (mCons (mC (.int 1)) mNil))) (mCons (mC (.int 1)) mNil)))) mNil)) (mCons (mC (.int 7)) mNil)))))) (gmName 1)) (sSeq (sAsg (mCall F__law_pick (mCons (mVar 0) (mCons (mVar 1) mNil))) (gmName 2)) (sSeq (sFor (mIt (mLst (mCons (mC (.fn 13)) (mCons (mC (.fn 14)) (mCons (mC (.fn 15)) (mCons (mC (.fn 16)) mNil)))))) (gmName 3) (sIf (mTest (mOp neD (mCall F__law_heard (mCons (mVar 3) (mCons (mLst (mCons (mVar 2) mNil)) mNil))) (mC (.str "argument measures")))) (sRet (mC (.bl false))) sNext)) (sSeq (sAsg (mLst (mCons (mC .non) (mCons (mTup mNil) (mCons (mTup (mCons (mTup mNil) mNil)) (mCons (mOp mulT (mTup (mCons (mTup (mCons (mTup (mCons (mC (.int 1)) (mCons (mC (.int 1)) mNil))) mNil)) mNil)) (mC (.int 21))) (mCons (mTup (mCons (mOp mulT (mTup (mCons (mTup (mCons (mC (.int 1)) (mCons (mC (.int 1)) mNil))) mNil)) (mC (.int 9))) mNil)) (mCons (mC (.str "ab")) (mCons (mTup (mCons (mTup (mCons (mC .non) mNil)) mNil)) (mCons (mTup (mCons (mTup (mCons (mTup (mCons (mC (.int 1)) mNil)) mNil)) mNil)) (mCons (mTup (mCons (mTup (mCons (mTup (mCons (mC (.int 1)) (mCons (mC (.int 2)) (mCons (mC (.int 3)) mNil)))) mNil)) mNil)) (mCons (mTup (mCons (mTup (mCons (mTup (mCons (mUn negD (mC (.int 1))) (mCons (mC (.int 1)) mNil))) mNil)) mNil)) (mCons (mTup (mCons (mTup (mCons (mTup (mCons (mC (.int 2001)) (mCons (mC (.int 1)) mNil))) mNil)) mNil)) (mCons (mTup (mCons (mTup (mCons (mTup (mCons (mC (.int 1)) (mCons (mUn negD (mC (.int 1))) mNil))) mNil)) mNil)) (mCons (mTup (mCons (mTup (mCons (mTup (mCons (mC (.int 1)) (mCons (mC (.int 1000001)) mNil))) mNil)) mNil)) mNil)))))))))))))) (gmName 4)) (sSeq (sAsg (mOp addD (mVar 4) (mLst (mCons (mTup (mCons (mTup (mCons (mTup (mCons (mC (.bl true)) (mCons (mC (.int 1)) mNil))) mNil)) mNil)) (mCons (mTup (mCons (mTup (mCons (mTup (mCons (mC (.str "1")) (mCons (mC (.int 1)) mNil))) mNil)) mNil)) (mCons (mTup (mCons (mTup (mCons (mTup (mCons (mC (.int 1)) (mCons (mC (.int 1)) mNil))) mNil)) (mCons (mC .non) mNil))) (mCons (mTup (mCons (mTup (mCons (mTup (mCons (mC (.int 1)) (mCons (mC .non) mNil))) mNil)) mNil)) (mCons (mC (.int 5)) mNil))))))) (gmName 4)) (sSeq (sAsg (mCall F__law_pick (mCons (mVar 0) (mCons (mVar 4) mNil))) (gmName 5)) (sSeq (sFor (mIt (mLst (mCons (mLst (mCons (mC (.fn 20)) (mCons (mVar 5) (mCons (mC .non) mNil)))) (mCons (mLst (mCons (mC (.fn 21)) (mCons (mVar 5) (mCons (mC .non) mNil)))) (mCons (mLst (mCons (mC (.fn 25)) (mCons (mVar 5) (mCons (mC .non) mNil)))) (mCons (mLst (mCons (mC (.fn 24)) (mCons (mVar 5) mNil))) (mCons (mLst (mCons (mC (.fn 22)) (mCons (mVar 5) (mCons (mC .non) (mCons (mC .non) (mCons (mC .non) mNil)))))) (mCons (mLst (mCons (mC (.fn 23)) (mCons (mVar 5) (mCons (mC .non) (mCons (mC .non) (mCons (mC .non) mNil)))))) mNil)))))))) (gmName 6) (sIf (mTest (mOp neD (mCall F__law_heard (mCons (mOp ixD (mVar 6) (mC (.int 0))) (mCons (mSl (mVar 6) (mPart (mC (.int 1))) mNoPart) mNil))) (mC (.str "argument parts")))) (sRet (mC (.bl false))) sNext)) (sSeq (sFor (mIt (mLst (mCons (mC .non) (mCons (mUn negD (mC (.int 1))) (mCons (mC (.int 2001)) (mCons (mC (.bl true)) (mCons (mC (.str "3")) (mCons (mTup (mCons (mC (.int 3)) mNil)) mNil)))))))) (gmName 7) (sFor (mIt (mLst (mCons (mLst (mCons (mC (.fn 20)) (mCons (mVar 9) (mCons (mVar 7) mNil)))) (mCons (mLst (mCons (mC (.fn 21)) (mCons (mVar 9) (mCons (mVar 7) mNil)))) (mCons (mLst (mCons (mC (.fn 25)) (mCons (mVar 9) (mCons (mVar 7) mNil)))) (mCons (mLst (mCons (mC (.fn 22)) (mCons (mVar 9) (mCons (mVar 7) (mCons (mC .non) (mCons (mC .non) mNil)))))) (mCons (mLst (mCons (mC (.fn 23)) (mCons (mVar 9) (mCons (mVar 7) (mCons (mC .non) (mCons (mC .non) mNil)))))) mNil))))))) (gmName 6) (sIf (mTest (mOp neD (mCall F__law_heard (mCons (mOp ixD (mVar 6) (mC (.int 0))) (mCons (mSl (mVar 6) (mPart (mC (.int 1))) mNoPart) mNil))) (mC (.str "argument bound")))) (sRet (mC (.bl false))) sNext))) (sRet (mAndV (mOp eqD (mCall F_judge_plan (mCons (mTup (mCons (mTup (mCons (mTup (mCons (mC (.int 2000)) (mCons (mC (.int 1000000)) mNil))) mNil)) mNil)) (mCons (mC (.int 2000)) mNil))) (mTup (mCons (mC (.str "plan")) (mCons (mC (.int 1000000)) (mCons (mTup (mCons (mC (.int 0)) mNil)) mNil))))) (mOp isD (mCall F_next_saving (mCons (mVar 9) (mCons (mC (.int 2000)) mNil))) (mC .non))))))))))))))
def F__law_arguments_hold : FM := mDef 10 m__law_arguments_hold
def m_law : SM := (sSeq (sAsg (mCall F__law_start (mCons (mVar 0) mNil)) (gmName 1)) (sRet (mAndV (mCall F__law_papers_hold (mCons (mVar 1) mNil)) (mCall F__law_arguments_hold (mCons (mVar 1) mNil)))))
def F_law : FM := mDef 2 m_law
end Lw

namespace Lw
open PySem PySem.Spec PyProof.Rows L2 Ev
theorem run (w : World) : HandSHeadRun.RunEq R (PySem.W.view R.prog [52]) hk ob 3000 names w := by
  intro os
  kernel_rfl
section
variable {w : World} {K : PySem.W.Frag} {mg : Str → Option Value} {base : Heap}
theorem okr_ArgumentError (G : Fct PR K mg fa fn es (exT PR es cs)) : OkR PR w K mg base (mkC K fn es) "ArgumentError" 0 24 := by
  have E := G.err 0 _ rfl
  obtain ⟨oc, od, osl, kV, doc, pm, an, ct, lk⟩ := E.lk
  have S : InitScope (defScope i_ArgumentError) "reason" := ⟨rfl, rfl, rfl, by decide +kernel, by decide +kernel, rfl, rfl, rfl, rfl, by decide⟩
  have z := okR (w := w) (base := base) (C := mkC K fn es) (c := 0) (m := "an argument is refused: ") E rfl rfl (init_fn E.init S lk E.cd rfl rfl (fun _ => rfl) (fun _ => rfl) (fun _ => rfl) rfl rfl (pe_text S rfl (G.free 57 _ rfl) rfl rfl)) (Binds.all fun us hl => match us, hl with | [_, _], _ => rfl)
  have hl : ("an argument is refused: " : Str).length = 24 := by decide +kernel
  rw [hl] at z
  exact z
theorem okr_PaperError (G : Fct PR K mg fa fn es (exT PR es cs)) : OkR PR w K mg base (mkC K fn es) "PaperError" 1 22 := by
  have E := G.err 1 _ rfl
  obtain ⟨oc, od, osl, kV, doc, pm, an, ct, lk⟩ := E.lk
  have S : InitScope (defScope i_PaperError) "reason" := ⟨rfl, rfl, rfl, by decide +kernel, by decide +kernel, rfl, rfl, rfl, rfl, by decide⟩
  have z := okR (w := w) (base := base) (C := mkC K fn es) (c := 1) (m := "the paper is refused: ") E rfl rfl (init_fn E.init S lk E.cd rfl rfl (fun _ => rfl) (fun _ => rfl) (fun _ => rfl) rfl rfl (pe_text S rfl (G.free 57 _ rfl) rfl rfl)) (Binds.all fun us hl => match us, hl with | [_, _], _ => rfl)
  have hl : ("the paper is refused: " : Str).length = 22 := by decide +kernel
  rw [hl] at z
  exact z
abbrev N_is_integer : List Str := ["value"]
theorem nd_is_integer : N_is_integer.Nodup := by decide +kernel
theorem sc_is_integer : FnScope N_is_integer ["value"] (defScope s_is_integer) := ⟨rfl, rfl, rfl, nd_is_integer, rfl, by decide +kernel, by decide +kernel⟩
theorem ok_is_integer (G : Fct PR K mg fa fn es (exT PR es cs)) : OkF PR w K mg base (mkC K fn es) "is_integer" ["value"] 1 F_is_integer := by
  refine ⟨okE (G.def_ 0 _ rfl) sc_is_integer (by decide) ?_, G.glo 0 _ rfl, (G.def_ 0 _ rfl).kp, (G.def_ 0 _ rfl).bindsN fun _ _ _ _ _ _ us hl => match us, hl with | [_], _ => rfl⟩
  intro cdv A outer s H E hr tk po
  unfold m_is_integer
  exact (z_one (z_ret (e_and rfl (e_isT rfl rfl (G.free 52 _ rfl) (e_var rfl (by walk_at "vs")) (pe_bltn (v := .ty _) rfl (G.free 51 _ rfl) rfl rfl (by decide))) (pe_one (e_not rfl (e_isT rfl rfl (G.free 52 _ rfl) (e_var rfl (by walk_at "vs")) (pe_bltn (v := .ty _) rfl (G.free 49 _ rfl) rfl rfl (by decide))))))))
abbrev N_greatest_divisor : List Str := ["first", "second"]
theorem nd_greatest_divisor : N_greatest_divisor.Nodup := by decide +kernel
theorem sc_greatest_divisor : FnScope N_greatest_divisor ["first", "second"] (defScope s_greatest_divisor) := ⟨rfl, rfl, rfl, nd_greatest_divisor, rfl, by decide +kernel, by decide +kernel⟩
theorem ok_greatest_divisor (G : Fct PR K mg fa fn es (exT PR es cs)) : OkF PR w K mg base (mkC K fn es) "greatest_divisor" ["first", "second"] 1 F_greatest_divisor := by
  refine ⟨okE (G.def_ 1 _ rfl) sc_greatest_divisor (by decide) ?_, G.glo 1 _ rfl, (G.def_ 1 _ rfl).kp, (G.def_ 1 _ rfl).bindsN fun _ _ _ _ _ _ us hl => match us, hl with | [_, _], _ => rfl⟩
  intro cdv A outer s H E hr tk po
  unfold m_greatest_divisor
  exact (z_cons (z_while bigN po (t_cmp gt_ok (e_var rfl (by walk_at "vs")) e_int rfl) (z_one (z_par rfl nd_greatest_divisor rfl rfl (by decide) rfl rfl (a_cons (e_var rfl (by walk_at "vs")) (a_cons (e_op mod_ok (e_var rfl (by walk_at "vs")) (e_var rfl (by walk_at "vs"))) a_nil)) rfl))) (z_one (z_ret (e_var rfl (by walk_at "vs")))))
abbrev N_quotient : List Str := ["up", "down", "divisor"]
theorem nd_quotient : N_quotient.Nodup := by decide +kernel
theorem sc_quotient : FnScope N_quotient ["up", "down"] (defScope s_quotient) := ⟨rfl, rfl, rfl, nd_quotient, rfl, by decide +kernel, by decide +kernel⟩
theorem ok_quotient (G : Fct PR K mg fa fn es (exT PR es cs)) : OkF PR w K mg base (mkC K fn es) "quotient" ["up", "down"] 2 F_quotient := by
  refine ⟨okE (G.def_ 2 _ rfl) sc_quotient (by decide) ?_, G.glo 2 _ rfl, (G.def_ 2 _ rfl).kp, (G.def_ 2 _ rfl).bindsN fun _ _ _ _ _ _ us hl => match us, hl with | [_, _], _ => rfl⟩
  intro cdv A outer s H E hr tk po
  unfold m_quotient
  exact (z_cons (z_if (t_cmp lt_ok (e_var rfl (by walk_at "vs")) e_int rfl) (z_one (z_par rfl nd_quotient rfl rfl (by decide) rfl rfl (a_cons (e_un neg_ok (e_var rfl (by walk_at "vs"))) (a_cons (e_un neg_ok (e_var rfl (by walk_at "vs"))) a_nil)) rfl)) z_nil) (z_cons (z_set nd_quotient rfl (by walk_at "lc") (e_fn (ok_greatest_divisor G) (hr.mono (by decide)) tk rfl (a_cons (e_cb abs_ok rfl (G.free 47 _ rfl) rfl (a_cons (e_var rfl (by walk_at "vs")) a_nil)) (a_cons (e_var rfl (by walk_at "vs")) a_nil)) (argN_cons (argN_cons argN_nil))) rfl (by walk_at "fl")) (z_one (z_ret (e_tup (a_cons (e_op fdiv_ok (e_var rfl (by walk_at "vs")) (e_var rfl (by walk_at "vs"))) (a_cons (e_op fdiv_ok (e_var rfl (by walk_at "vs")) (e_var rfl (by walk_at "vs"))) a_nil)))))))
abbrev N_plus : List Str := ["first", "second"]
theorem nd_plus : N_plus.Nodup := by decide +kernel
theorem sc_plus : FnScope N_plus ["first", "second"] (defScope s_plus) := ⟨rfl, rfl, rfl, nd_plus, rfl, by decide +kernel, by decide +kernel⟩
theorem ok_plus (G : Fct PR K mg fa fn es (exT PR es cs)) : OkF PR w K mg base (mkC K fn es) "plus" ["first", "second"] 3 F_plus := by
  refine ⟨okE (G.def_ 3 _ rfl) sc_plus (by decide) ?_, G.glo 3 _ rfl, (G.def_ 3 _ rfl).kp, (G.def_ 3 _ rfl).bindsN fun _ _ _ _ _ _ us hl => match us, hl with | [_, _], _ => rfl⟩
  intro cdv A outer s H E hr tk po
  unfold m_plus
  exact (z_one (z_ret (e_fn (ok_quotient G) (hr.mono (by decide)) tk rfl (a_cons (e_op (add_ok rfl) (e_op (mul_ok rfl) (e_ix (ix_ok rfl) (e_var rfl (by walk_at "vs")) e_int (fun _ _ => rfl)) (e_ix (ix_ok rfl) (e_var rfl (by walk_at "vs")) e_int (fun _ _ => rfl))) (e_op (mul_ok rfl) (e_ix (ix_ok rfl) (e_var rfl (by walk_at "vs")) e_int (fun _ _ => rfl)) (e_ix (ix_ok rfl) (e_var rfl (by walk_at "vs")) e_int (fun _ _ => rfl)))) (a_cons (e_op (mul_ok rfl) (e_ix (ix_ok rfl) (e_var rfl (by walk_at "vs")) e_int (fun _ _ => rfl)) (e_ix (ix_ok rfl) (e_var rfl (by walk_at "vs")) e_int (fun _ _ => rfl))) a_nil)) (argN_cons (argN_cons argN_nil)))))
abbrev N_minus : List Str := ["first", "second"]
theorem nd_minus : N_minus.Nodup := by decide +kernel
theorem sc_minus : FnScope N_minus ["first", "second"] (defScope s_minus) := ⟨rfl, rfl, rfl, nd_minus, rfl, by decide +kernel, by decide +kernel⟩
theorem ok_minus (G : Fct PR K mg fa fn es (exT PR es cs)) : OkF PR w K mg base (mkC K fn es) "minus" ["first", "second"] 3 F_minus := by
  refine ⟨okE (G.def_ 4 _ rfl) sc_minus (by decide) ?_, G.glo 4 _ rfl, (G.def_ 4 _ rfl).kp, (G.def_ 4 _ rfl).bindsN fun _ _ _ _ _ _ us hl => match us, hl with | [_, _], _ => rfl⟩
  intro cdv A outer s H E hr tk po
  unfold m_minus
  exact (z_one (z_ret (e_fn (ok_quotient G) (hr.mono (by decide)) tk rfl (a_cons (e_op sub_ok (e_op (mul_ok rfl) (e_ix (ix_ok rfl) (e_var rfl (by walk_at "vs")) e_int (fun _ _ => rfl)) (e_ix (ix_ok rfl) (e_var rfl (by walk_at "vs")) e_int (fun _ _ => rfl))) (e_op (mul_ok rfl) (e_ix (ix_ok rfl) (e_var rfl (by walk_at "vs")) e_int (fun _ _ => rfl)) (e_ix (ix_ok rfl) (e_var rfl (by walk_at "vs")) e_int (fun _ _ => rfl)))) (a_cons (e_op (mul_ok rfl) (e_ix (ix_ok rfl) (e_var rfl (by walk_at "vs")) e_int (fun _ _ => rfl)) (e_ix (ix_ok rfl) (e_var rfl (by walk_at "vs")) e_int (fun _ _ => rfl))) a_nil)) (argN_cons (argN_cons argN_nil)))))
abbrev N_times : List Str := ["first", "second"]
theorem nd_times : N_times.Nodup := by decide +kernel
theorem sc_times : FnScope N_times ["first", "second"] (defScope s_times) := ⟨rfl, rfl, rfl, nd_times, rfl, by decide +kernel, by decide +kernel⟩
theorem ok_times (G : Fct PR K mg fa fn es (exT PR es cs)) : OkF PR w K mg base (mkC K fn es) "times" ["first", "second"] 3 F_times := by
  refine ⟨okE (G.def_ 5 _ rfl) sc_times (by decide) ?_, G.glo 5 _ rfl, (G.def_ 5 _ rfl).kp, (G.def_ 5 _ rfl).bindsN fun _ _ _ _ _ _ us hl => match us, hl with | [_, _], _ => rfl⟩
  intro cdv A outer s H E hr tk po
  unfold m_times
  exact (z_one (z_ret (e_fn (ok_quotient G) (hr.mono (by decide)) tk rfl (a_cons (e_op (mul_ok rfl) (e_ix (ix_ok rfl) (e_var rfl (by walk_at "vs")) e_int (fun _ _ => rfl)) (e_ix (ix_ok rfl) (e_var rfl (by walk_at "vs")) e_int (fun _ _ => rfl))) (a_cons (e_op (mul_ok rfl) (e_ix (ix_ok rfl) (e_var rfl (by walk_at "vs")) e_int (fun _ _ => rfl)) (e_ix (ix_ok rfl) (e_var rfl (by walk_at "vs")) e_int (fun _ _ => rfl))) a_nil)) (argN_cons (argN_cons argN_nil)))))
abbrev N_over : List Str := ["first", "second"]
theorem nd_over : N_over.Nodup := by decide +kernel
theorem sc_over : FnScope N_over ["first", "second"] (defScope s_over) := ⟨rfl, rfl, rfl, nd_over, rfl, by decide +kernel, by decide +kernel⟩
theorem ok_over (G : Fct PR K mg fa fn es (exT PR es cs)) : OkF PR w K mg base (mkC K fn es) "over" ["first", "second"] 3 F_over := by
  refine ⟨okE (G.def_ 6 _ rfl) sc_over (by decide) ?_, G.glo 6 _ rfl, (G.def_ 6 _ rfl).kp, (G.def_ 6 _ rfl).bindsN fun _ _ _ _ _ _ us hl => match us, hl with | [_, _], _ => rfl⟩
  intro cdv A outer s H E hr tk po
  unfold m_over
  exact (z_one (z_ret (e_fn (ok_quotient G) (hr.mono (by decide)) tk rfl (a_cons (e_op (mul_ok rfl) (e_ix (ix_ok rfl) (e_var rfl (by walk_at "vs")) e_int (fun _ _ => rfl)) (e_ix (ix_ok rfl) (e_var rfl (by walk_at "vs")) e_int (fun _ _ => rfl))) (a_cons (e_op (mul_ok rfl) (e_ix (ix_ok rfl) (e_var rfl (by walk_at "vs")) e_int (fun _ _ => rfl)) (e_ix (ix_ok rfl) (e_var rfl (by walk_at "vs")) e_int (fun _ _ => rfl))) a_nil)) (argN_cons (argN_cons argN_nil)))))
abbrev N_is_less : List Str := ["first", "second"]
theorem nd_is_less : N_is_less.Nodup := by decide +kernel
theorem sc_is_less : FnScope N_is_less ["first", "second"] (defScope s_is_less) := ⟨rfl, rfl, rfl, nd_is_less, rfl, by decide +kernel, by decide +kernel⟩
theorem ok_is_less (G : Fct PR K mg fa fn es (exT PR es cs)) : OkF PR w K mg base (mkC K fn es) "is_less" ["first", "second"] 1 F_is_less := by
  refine ⟨okE (G.def_ 7 _ rfl) sc_is_less (by decide) ?_, G.glo 7 _ rfl, (G.def_ 7 _ rfl).kp, (G.def_ 7 _ rfl).bindsN fun _ _ _ _ _ _ us hl => match us, hl with | [_, _], _ => rfl⟩
  intro cdv A outer s H E hr tk po
  unfold m_is_less
  exact (z_one (z_ret (e_cmp lt_ok (e_op (mul_ok rfl) (e_ix (ix_ok rfl) (e_var rfl (by walk_at "vs")) e_int (fun _ _ => rfl)) (e_ix (ix_ok rfl) (e_var rfl (by walk_at "vs")) e_int (fun _ _ => rfl))) (e_op (mul_ok rfl) (e_ix (ix_ok rfl) (e_var rfl (by walk_at "vs")) e_int (fun _ _ => rfl)) (e_ix (ix_ok rfl) (e_var rfl (by walk_at "vs")) e_int (fun _ _ => rfl))) rfl)))
abbrev N_sum_of : List Str := ["rows", "total", "row"]
theorem nd_sum_of : N_sum_of.Nodup := by decide +kernel
theorem sc_sum_of : FnScope N_sum_of ["rows"] (defScope s_sum_of) := ⟨rfl, rfl, rfl, nd_sum_of, rfl, by decide +kernel, by decide +kernel⟩
theorem ok_sum_of (G : Fct PR K mg fa fn es (exT PR es cs)) : OkF PR w K mg base (mkC K fn es) "sum_of" ["rows"] 4 F_sum_of := by
  refine ⟨okE (G.def_ 8 _ rfl) sc_sum_of (by decide) ?_, G.glo 8 _ rfl, (G.def_ 8 _ rfl).kp, (G.def_ 8 _ rfl).bindsN fun _ _ _ _ _ _ us hl => match us, hl with | [_], _ => rfl⟩
  intro cdv A outer s H E hr tk po
  unfold m_sum_of
  exact (z_cons (z_set nd_sum_of rfl (by walk_at "lc") (e_tup (a_cons e_int (a_cons e_int a_nil))) rfl (by walk_at "fl")) (z_cons (z_for (ts := [2]) po rfl (i_seq rfl (e_var rfl (by walk_at "vs"))) (g_name nd_sum_of rfl (by walk_at "lc") (by walk_at "fl") (by decide)) (z_one (z_set nd_sum_of rfl (by walk_at "lc") (e_fn (ok_plus G) (hr.mono (by decide)) tk rfl (a_cons (e_var rfl (by walk_at "vs")) (a_cons (e_var rfl (by walk_at "vs")) a_nil)) (argN_cons (argN_cons argN_nil))) rfl (by walk_at "fl"))) (fun _ => rfl)) (z_one (z_ret (e_var rfl (by walk_at "vs"))))))
abbrev N_is_quotient : List Str := ["value", "part"]
theorem nd_is_quotient : N_is_quotient.Nodup := by decide +kernel
theorem sc_is_quotient : FnScope N_is_quotient ["value"] (defScope s_is_quotient) := ⟨rfl, rfl, rfl, nd_is_quotient, rfl, by decide +kernel, by decide +kernel⟩
theorem ok_is_quotient (G : Fct PR K mg fa fn es (exT PR es cs)) : OkF PR w K mg base (mkC K fn es) "is_quotient" ["value"] 2 F_is_quotient := by
  refine ⟨okE (G.def_ 9 _ rfl) sc_is_quotient (by decide) ?_, G.glo 9 _ rfl, (G.def_ 9 _ rfl).kp, (G.def_ 9 _ rfl).bindsN fun _ _ _ _ _ _ us hl => match us, hl with | [_], _ => rfl⟩
  intro cdv A outer s H E hr tk po
  unfold m_is_quotient
  exact (z_cons (z_if (PW.pt (w_or (t_not (t_tru rfl (e_isT rfl rfl (G.free 52 _ rfl) (e_var rfl (by walk_at "vs")) (pe_bltn (v := .ty _) rfl (G.free 60 _ rfl) rfl rfl (by decide))) (fun _ => rfl))) (w_or (t_cmp (ne_ok rfl (rm64 hr)) (e_cb (len_ok rfl) rfl (G.free 53 _ rfl) rfl (a_cons (e_var rfl (by walk_at "vs")) a_nil)) e_int rfl) (pw_or1 (t_not (t_tru rfl (e_cb (all_ok rfl rfl) rfl (G.free 48 _ rfl) rfl (a_cons (e_LC [("part", 1)] ⟨rfl, nd_is_quotient, (i_seq rfl (e_var rfl (by walk_at "vs"))), by walk_at "blk", fun _ _ _ _ _ => (g_name nd_is_quotient rfl (by walk_at "lc") (by walk_at "fl") (by decide)), fun _ _ _ _ _ => ts_nil, fun _ _ _ _ _ => (e_fn (ok_is_integer G) (hr.mono (by decide)) tkF rfl (a_cons (e_var rfl (by walk_at "vs")) a_nil) (argN_cons argN_nil)), fun _ => rfl⟩) a_nil)) (fun _ => rfl))))))) (z_one (z_ret e_bl)) z_nil) (z_one (z_ret (e_and rfl (e_cmp ge_ok (e_ix (ix_ok rfl) (e_var rfl (by walk_at "vs")) e_int (fun _ _ => rfl)) e_int rfl) (pe_one (e_cmp (eq_ok rfl (rm64 hr)) (e_fn (ok_greatest_divisor G) (hr.mono (by decide)) tk rfl (a_cons (e_cb abs_ok rfl (G.free 47 _ rfl) rfl (a_cons (e_ix (ix_ok rfl) (e_var rfl (by walk_at "vs")) e_int (fun _ _ => rfl)) a_nil)) (a_cons (e_ix (ix_ok rfl) (e_var rfl (by walk_at "vs")) e_int (fun _ _ => rfl)) a_nil)) (argN_cons (argN_cons argN_nil))) e_int rfl))))))
abbrev N_is_number : List Str := ["value"]
theorem nd_is_number : N_is_number.Nodup := by decide +kernel
theorem sc_is_number : FnScope N_is_number ["value"] (defScope s_is_number) := ⟨rfl, rfl, rfl, nd_is_number, rfl, by decide +kernel, by decide +kernel⟩
theorem ok_is_number (G : Fct PR K mg fa fn es (exT PR es cs)) : OkF PR w K mg base (mkC K fn es) "is_number" ["value"] 3 F_is_number := by
  refine ⟨okE (G.def_ 10 _ rfl) sc_is_number (by decide) ?_, G.glo 10 _ rfl, (G.def_ 10 _ rfl).kp, (G.def_ 10 _ rfl).bindsN fun _ _ _ _ _ _ us hl => match us, hl with | [_], _ => rfl⟩
  intro cdv A outer s H E hr tk po
  unfold m_is_number
  exact (z_one (z_ret (e_and rfl (e_fn (ok_is_quotient G) (hr.mono (by decide)) tk rfl (a_cons (e_var rfl (by walk_at "vs")) a_nil) (argN_cons argN_nil)) (e_and rfl (e_cmp le_ok (e_cb abs_ok rfl (G.free 47 _ rfl) rfl (a_cons (e_ix (ix_ok rfl) (e_var rfl (by walk_at "vs")) e_int (fun _ _ => rfl)) a_nil)) (e_gi (G.int 41 _ _ rfl) rfl) rfl) (pe_one (e_cmp le_ok (e_ix (ix_ok rfl) (e_var rfl (by walk_at "vs")) e_int (fun _ _ => rfl)) (e_gi (G.int 41 _ _ rfl) rfl) rfl))))))
abbrev N_check_measures : List Str := ["measures", "row", "part"]
theorem nd_check_measures : N_check_measures.Nodup := by decide +kernel
theorem sc_check_measures : FnScope N_check_measures ["measures"] (defScope s_check_measures) := ⟨rfl, rfl, rfl, nd_check_measures, rfl, by decide +kernel, by decide +kernel⟩
theorem ok_check_measures (G : Fct PR K mg fa fn es (exT PR es cs)) : OkF PR w K mg base (mkC K fn es) "check_measures" ["measures"] 4 F_check_measures := by
  refine ⟨okE (G.def_ 11 _ rfl) sc_check_measures (by decide) ?_, G.glo 11 _ rfl, (G.def_ 11 _ rfl).kp, (G.def_ 11 _ rfl).bindsN fun _ _ _ _ _ _ us hl => match us, hl with | [_], _ => rfl⟩
  intro cdv A outer s H E hr tk po
  unfold m_check_measures
  exact (z_cons (z_if (PW.pt (w_or (t_not (t_tru rfl (e_isT rfl rfl (G.free 52 _ rfl) (e_var rfl (by walk_at "vs")) (pe_bltn (v := .ty _) rfl (G.free 60 _ rfl) rfl rfl (by decide))) (fun _ => rfl))) (pw_or1 (t_not (t_chain le_ok le_ok e_int (e_cb (len_ok rfl) rfl (G.free 53 _ rfl) rfl (a_cons (e_var rfl (by walk_at "vs")) a_nil)) (e_gi (G.int 42 _ _ rfl) rfl)))))) (z_one (z_rs (okr_ArgumentError G) (hr.mono (by decide)) rfl tk rfl e_str)) z_nil) (z_one (z_for (ts := [1]) po rfl (i_seq rfl (e_var rfl (by walk_at "vs"))) (g_name nd_check_measures rfl (by walk_at "lc") (by walk_at "fl") (by decide)) (z_cons (z_if (PW.pt (w_or (t_not (t_tru rfl (e_isT rfl rfl (G.free 52 _ rfl) (e_var rfl (by walk_at "vs")) (pe_bltn (v := .ty _) rfl (G.free 60 _ rfl) rfl rfl (by decide))) (fun _ => rfl))) (w_or (t_cmp (ne_ok rfl (rm64 hr)) (e_cb (len_ok rfl) rfl (G.free 53 _ rfl) rfl (a_cons (e_var rfl (by walk_at "vs")) a_nil)) e_int rfl) (pw_or1 (t_not (t_tru rfl (e_cb (all_ok rfl rfl) rfl (G.free 48 _ rfl) rfl (a_cons (e_LC [("part", 2)] ⟨rfl, nd_check_measures, (i_seq rfl (e_var rfl (by walk_at "vs"))), by walk_at "blk", fun _ _ _ _ _ => (g_name nd_check_measures rfl (by walk_at "lc") (by walk_at "fl") (by decide)), fun _ _ _ _ _ => ts_nil, fun _ _ _ _ _ => (e_fn (ok_is_number G) (hr.mono (by decide)) tkF rfl (a_cons (e_var rfl (by walk_at "vs")) a_nil) (argN_cons argN_nil)), fun _ => rfl⟩) a_nil)) (fun _ => rfl))))))) (z_one (z_rs (okr_ArgumentError G) (hr.mono (by decide)) rfl tk rfl e_str)) z_nil) (z_one (z_if (t_cmp lt_ok (e_ix (ix_ok rfl) (e_ix (ix_ok rfl) (e_var rfl (by walk_at "vs")) e_int (fun _ _ => rfl)) e_int (fun _ _ => rfl)) e_int rfl) (z_one (z_rs (okr_ArgumentError G) (hr.mono (by decide)) rfl tk rfl e_str)) z_nil))) (fun _ => rfl))))
abbrev N_size_of : List Str := ["number"]
theorem nd_size_of : N_size_of.Nodup := by decide +kernel
theorem sc_size_of : FnScope N_size_of ["number"] (defScope s_size_of) := ⟨rfl, rfl, rfl, nd_size_of, rfl, by decide +kernel, by decide +kernel⟩
theorem ok_size_of (G : Fct PR K mg fa fn es (exT PR es cs)) : OkF PR w K mg base (mkC K fn es) "size_of" ["number"] 1 F_size_of := by
  refine ⟨okE (G.def_ 12 _ rfl) sc_size_of (by decide) ?_, G.glo 12 _ rfl, (G.def_ 12 _ rfl).kp, (G.def_ 12 _ rfl).bindsN fun _ _ _ _ _ _ us hl => match us, hl with | [_], _ => rfl⟩
  intro cdv A outer s H E hr tk po
  unfold m_size_of
  exact (z_one (z_ret (e_tup (a_cons (e_cb abs_ok rfl (G.free 47 _ rfl) rfl (a_cons (e_ix (ix_ok rfl) (e_var rfl (by walk_at "vs")) e_int (fun _ _ => rfl)) a_nil)) (a_cons (e_ix (ix_ok rfl) (e_var rfl (by walk_at "vs")) e_int (fun _ _ => rfl)) a_nil)))))
abbrev N_sum_with_error : List Str := ["measures", "number", "row"]
theorem nd_sum_with_error : N_sum_with_error.Nodup := by decide +kernel
theorem sc_sum_with_error : FnScope N_sum_with_error ["measures"] (defScope s_sum_with_error) := ⟨rfl, rfl, rfl, nd_sum_with_error, rfl, by decide +kernel, by decide +kernel⟩
theorem ok_sum_with_error (G : Fct PR K mg fa fn es (exT PR es cs)) : OkF PR w K mg base (mkC K fn es) "sum_with_error" ["measures"] 5 F_sum_with_error := by
  refine ⟨okE (G.def_ 13 _ rfl) sc_sum_with_error (by decide) ?_, G.glo 13 _ rfl, (G.def_ 13 _ rfl).kp, (G.def_ 13 _ rfl).bindsN fun _ _ _ _ _ _ us hl => match us, hl with | [_], _ => rfl⟩
  intro cdv A outer s H E hr tk po
  unfold m_sum_with_error
  exact (z_cons (z_expr (e_fn (ok_check_measures G) (hr.mono (by decide)) tk rfl (a_cons (e_var rfl (by walk_at "vs")) a_nil) (argN_cons argN_nil))) (z_cons (z_set nd_sum_with_error rfl (by walk_at "lc") (e_fn (ok_sum_of G) (hr.mono (by decide)) tk rfl (a_cons (e_LC [("row", 2)] ⟨rfl, nd_sum_with_error, (i_seq rfl (e_var rfl (by walk_at "vs"))), by walk_at "blk", fun _ _ _ _ _ => (g_name nd_sum_with_error rfl (by walk_at "lc") (by walk_at "fl") (by decide)), fun _ _ _ _ _ => ts_nil, fun _ _ _ _ _ => (e_fn (ok_times G) (hr.mono (by decide)) tkF rfl (a_cons (e_ix (ix_ok rfl) (e_var rfl (by walk_at "vs")) e_int (fun _ _ => rfl)) (a_cons (e_ix (ix_ok rfl) (e_var rfl (by walk_at "vs")) e_int (fun _ _ => rfl)) a_nil)) (argN_cons (argN_cons argN_nil))), fun _ => rfl⟩) a_nil) (argN_cons argN_nil)) rfl (by walk_at "fl")) (z_one (z_ret (e_tup (a_cons (e_var rfl (by walk_at "vs")) (a_cons (e_fn (ok_sum_of G) (hr.mono (by decide)) tk rfl (a_cons (e_LC [("row", 2)] ⟨rfl, nd_sum_with_error, (i_seq rfl (e_var rfl (by walk_at "vs"))), by walk_at "blk", fun _ _ _ _ _ => (g_name nd_sum_with_error rfl (by walk_at "lc") (by walk_at "fl") (by decide)), fun _ _ _ _ _ => ts_nil, fun _ _ _ _ _ => (e_fn (ok_times G) (hr.mono (by decide)) tkF rfl (a_cons (e_fn (ok_size_of G) (hr.mono (by decide)) tkF rfl (a_cons (e_ix (ix_ok rfl) (e_var rfl (by walk_at "vs")) e_int (fun _ _ => rfl)) a_nil) (argN_cons argN_nil)) (a_cons (e_ix (ix_ok rfl) (e_var rfl (by walk_at "vs")) e_int (fun _ _ => rfl)) a_nil)) (argN_cons (argN_cons argN_nil))), fun _ => rfl⟩) a_nil) (argN_cons argN_nil)) a_nil)))))))
abbrev N_product_with_error : List Str := ["measures", "low", "high", "factor", "number", "error", "ends", "rows", "row", "one", "other"]
theorem nd_product_with_error : N_product_with_error.Nodup := by decide +kernel
theorem sc_product_with_error : FnScope N_product_with_error ["measures"] (defScope s_product_with_error) := ⟨rfl, rfl, rfl, nd_product_with_error, rfl, by decide +kernel, by decide +kernel⟩
theorem ok_product_with_error (G : Fct PR K mg fa fn es (exT PR es cs)) : OkF PR w K mg base (mkC K fn es) "product_with_error" ["measures"] 5 F_product_with_error := by
  refine ⟨okE (G.def_ 14 _ rfl) sc_product_with_error (by decide) ?_, G.glo 14 _ rfl, (G.def_ 14 _ rfl).kp, (G.def_ 14 _ rfl).bindsN fun _ _ _ _ _ _ us hl => match us, hl with | [_], _ => rfl⟩
  intro cdv A outer s H E hr tk po
  unfold m_product_with_error
  exact (z_cons (z_expr (e_fn (ok_check_measures G) (hr.mono (by decide)) tk rfl (a_cons (e_var rfl (by walk_at "vs")) a_nil) (argN_cons argN_nil))) (z_cons (z_asg (ts := [1, 2]) (e_tup (a_cons (e_tup (a_cons e_int (a_cons e_int a_nil))) (a_cons (e_tup (a_cons e_int (a_cons e_int a_nil))) a_nil))) (g_unp rfl rfl (gs_cons (g_name nd_product_with_error rfl (by walk_at "lc") (by walk_at "fl") (by decide)) (gs_cons (g_name nd_product_with_error rfl (by walk_at "lc") (by walk_at "fl") (by decide)) gs_nil)))) (z_cons (z_for (ts := [3, 4, 5]) po rfl (i_seq rfl (e_var rfl (by walk_at "vs"))) (g_tup rfl rfl (gs_cons (g_name nd_product_with_error rfl (by walk_at "lc") (by walk_at "fl") (by decide)) (gs_cons (g_name nd_product_with_error rfl (by walk_at "lc") (by walk_at "fl") (by decide)) (gs_cons (g_name nd_product_with_error rfl (by walk_at "lc") (by walk_at "fl") (by decide)) gs_nil)))) (z_cons (z_set nd_product_with_error rfl (by walk_at "lc") (e_tup (a_cons (e_fn (ok_minus G) (hr.mono (by decide)) tk rfl (a_cons (e_var rfl (by walk_at "vs")) (a_cons (e_var rfl (by walk_at "vs")) a_nil)) (argN_cons (argN_cons argN_nil))) (a_cons (e_fn (ok_plus G) (hr.mono (by decide)) tk rfl (a_cons (e_var rfl (by walk_at "vs")) (a_cons (e_var rfl (by walk_at "vs")) a_nil)) (argN_cons (argN_cons argN_nil))) a_nil))) rfl (by walk_at "fl")) (z_cons (z_LC2 [("one", 9), ("other", 10)] [10] ⟨⟨rfl, nd_product_with_error, (i_seq rfl (e_tup (a_cons (e_var rfl (by walk_at "vs")) (a_cons (e_var rfl (by walk_at "vs")) a_nil)))), by walk_at "blk", fun _ _ _ _ _ => (g_name nd_product_with_error rfl (by walk_at "lc") (by walk_at "fl") (by decide)), fun _ _ _ _ _ => ts_nil, fun _ _ _ _ _ => (e_fn (ok_times G) (hr.mono (by decide)) tkF rfl (a_cons (e_var rfl (by walk_at "vs")) (a_cons (e_var rfl (by walk_at "vs")) a_nil)) (argN_cons (argN_cons argN_nil))), fun _ => rfl⟩, by decide, fun _ _ _ _ _ => (i_seq rfl (e_var rfl (by walk_at "vs"))), fun _ _ _ _ _ => (g_name nd_product_with_error rfl (by walk_at "lc") (by walk_at "fl") (by decide)), fun _ _ _ _ _ => ts_nil, fun _ _ => rfl⟩ rfl (by walk_at "lcl") rfl) (z_cons (z_par rfl nd_product_with_error rfl rfl (by decide) rfl rfl (a_cons (e_ix (ix_ok rfl) (e_var rfl (by walk_at "vs")) e_int (fun _ _ => rfl)) (a_cons (e_ix (ix_ok rfl) (e_var rfl (by walk_at "vs")) e_int (fun _ _ => rfl)) a_nil)) rfl) (z_one (z_for (ts := [8]) po rfl (i_seq rfl (e_var rfl (by walk_at "vs"))) (g_name nd_product_with_error rfl (by walk_at "lc") (by walk_at "fl") (by decide)) (z_cons (z_set nd_product_with_error rfl (by walk_at "lc") (e_if (t_tru rfl (e_fn (ok_is_less G) (hr.mono (by decide)) tk rfl (a_cons (e_var rfl (by walk_at "vs")) (a_cons (e_var rfl (by walk_at "vs")) a_nil)) (argN_cons (argN_cons argN_nil))) (fun _ => rfl)) (e_var rfl (by walk_at "vs")) (e_var rfl (by walk_at "vs"))) rfl (by walk_at "fl")) (z_one (z_set nd_product_with_error rfl (by walk_at "lc") (e_if (t_tru rfl (e_fn (ok_is_less G) (hr.mono (by decide)) tk rfl (a_cons (e_var rfl (by walk_at "vs")) (a_cons (e_var rfl (by walk_at "vs")) a_nil)) (argN_cons (argN_cons argN_nil))) (fun _ => rfl)) (e_var rfl (by walk_at "vs")) (e_var rfl (by walk_at "vs"))) rfl (by walk_at "fl")))) (fun _ => rfl)))))) (fun _ => rfl)) (z_one (z_ret (e_tup (a_cons (e_var rfl (by walk_at "vs")) (a_cons (e_var rfl (by walk_at "vs")) a_nil))))))))
abbrev N_shares_of_error : List Str := ["measures", "errors", "whole", "row", "own"]
theorem nd_shares_of_error : N_shares_of_error.Nodup := by decide +kernel
theorem sc_shares_of_error : FnScope N_shares_of_error ["measures"] (defScope s_shares_of_error) := ⟨rfl, rfl, rfl, nd_shares_of_error, rfl, by decide +kernel, by decide +kernel⟩
theorem ok_shares_of_error (G : Fct PR K mg fa fn es (exT PR es cs)) : OkF PR w K mg base (mkC K fn es) "shares_of_error" ["measures"] 5 F_shares_of_error := by
  refine ⟨okE (G.def_ 15 _ rfl) sc_shares_of_error (by decide) ?_, G.glo 15 _ rfl, (G.def_ 15 _ rfl).kp, (G.def_ 15 _ rfl).bindsN fun _ _ _ _ _ _ us hl => match us, hl with | [_], _ => rfl⟩
  intro cdv A outer s H E hr tk po
  unfold m_shares_of_error
  exact (z_cons (z_expr (e_fn (ok_check_measures G) (hr.mono (by decide)) tk rfl (a_cons (e_var rfl (by walk_at "vs")) a_nil) (argN_cons argN_nil))) (z_cons (z_LC [("row", 3)] ⟨rfl, nd_shares_of_error, (i_seq rfl (e_var rfl (by walk_at "vs"))), by walk_at "blk", fun _ _ _ _ _ => (g_name nd_shares_of_error rfl (by walk_at "lc") (by walk_at "fl") (by decide)), fun _ _ _ _ _ => ts_nil, fun _ _ _ _ _ => (e_fn (ok_times G) (hr.mono (by decide)) tkF rfl (a_cons (e_fn (ok_size_of G) (hr.mono (by decide)) tkF rfl (a_cons (e_ix (ix_ok rfl) (e_var rfl (by walk_at "vs")) e_int (fun _ _ => rfl)) a_nil) (argN_cons argN_nil)) (a_cons (e_ix (ix_ok rfl) (e_var rfl (by walk_at "vs")) e_int (fun _ _ => rfl)) a_nil)) (argN_cons (argN_cons argN_nil))), fun _ => rfl⟩ rfl (by walk_at "lcl") rfl) (z_cons (z_set nd_shares_of_error rfl (by walk_at "lc") (e_fn (ok_sum_of G) (hr.mono (by decide)) tk rfl (a_cons (e_var rfl (by walk_at "vs")) a_nil) (argN_cons argN_nil)) rfl (by walk_at "fl")) (z_one (z_ret (e_if (t_tru rfl (e_ix (ix_ok rfl) (e_var rfl (by walk_at "vs")) e_int (fun _ _ => rfl)) (fun _ => rfl)) (e_ct (tuple_ok rfl) rfl (G.free 60 _ rfl) rfl (a_cons (e_LC [("own", 4)] ⟨rfl, nd_shares_of_error, (i_seq rfl (e_var rfl (by walk_at "vs"))), by walk_at "blk", fun _ _ _ _ _ => (g_name nd_shares_of_error rfl (by walk_at "lc") (by walk_at "fl") (by decide)), fun _ _ _ _ _ => ts_nil, fun _ _ _ _ _ => (e_fn (ok_over G) (hr.mono (by decide)) tkF rfl (a_cons (e_var rfl (by walk_at "vs")) (a_cons (e_var rfl (by walk_at "vs")) a_nil)) (argN_cons (argN_cons argN_nil))), fun _ => rfl⟩) a_nil)) e_non))))))
abbrev N_worst : List Str := ["measures", "errors", "best", "at", "own", "row"]
theorem nd_worst : N_worst.Nodup := by decide +kernel
theorem sc_worst : FnScope N_worst ["measures"] (defScope s_worst) := ⟨rfl, rfl, rfl, nd_worst, rfl, by decide +kernel, by decide +kernel⟩
theorem ok_worst (G : Fct PR K mg fa fn es (exT PR es cs)) : OkF PR w K mg base (mkC K fn es) "worst" ["measures"] 5 F_worst := by
  refine ⟨okE (G.def_ 16 _ rfl) sc_worst (by decide) ?_, G.glo 16 _ rfl, (G.def_ 16 _ rfl).kp, (G.def_ 16 _ rfl).bindsN fun _ _ _ _ _ _ us hl => match us, hl with | [_], _ => rfl⟩
  intro cdv A outer s H E hr tk po
  unfold m_worst
  exact (z_cons (z_expr (e_fn (ok_check_measures G) (hr.mono (by decide)) tk rfl (a_cons (e_var rfl (by walk_at "vs")) a_nil) (argN_cons argN_nil))) (z_cons (z_LC [("row", 5)] ⟨rfl, nd_worst, (i_seq rfl (e_var rfl (by walk_at "vs"))), by walk_at "blk", fun _ _ _ _ _ => (g_name nd_worst rfl (by walk_at "lc") (by walk_at "fl") (by decide)), fun _ _ _ _ _ => ts_nil, fun _ _ _ _ _ => (e_fn (ok_times G) (hr.mono (by decide)) tkF rfl (a_cons (e_fn (ok_size_of G) (hr.mono (by decide)) tkF rfl (a_cons (e_ix (ix_ok rfl) (e_var rfl (by walk_at "vs")) e_int (fun _ _ => rfl)) a_nil) (argN_cons argN_nil)) (a_cons (e_ix (ix_ok rfl) (e_var rfl (by walk_at "vs")) e_int (fun _ _ => rfl)) a_nil)) (argN_cons (argN_cons argN_nil))), fun _ => rfl⟩ rfl (by walk_at "lcl") rfl) (z_cons (z_set nd_worst rfl (by walk_at "lc") e_int rfl (by walk_at "fl")) (z_cons (z_for (ts := [3, 4]) po rfl (i_enum rfl rfl (G.free 50 _ rfl) (a_cons (e_var rfl (by walk_at "vs")) a_nil)) (g_tup rfl rfl (gs_cons (g_name nd_worst rfl (by walk_at "lc") (by walk_at "fl") (by decide)) (gs_cons (g_name nd_worst rfl (by walk_at "lc") (by walk_at "fl") (by decide)) gs_nil))) (z_one (z_set nd_worst rfl (by walk_at "lc") (e_if (t_tru rfl (e_fn (ok_is_less G) (hr.mono (by decide)) tk rfl (a_cons (e_ix (ix_ok rfl) (e_var rfl (by walk_at "vs")) (e_var rfl (by walk_at "vs")) (fun _ _ => rfl)) (a_cons (e_var rfl (by walk_at "vs")) a_nil)) (argN_cons (argN_cons argN_nil))) (fun _ => rfl)) (e_var rfl (by walk_at "vs")) (e_var rfl (by walk_at "vs"))) rfl (by walk_at "fl"))) (fun _ => rfl)) (z_one (z_ret (e_var rfl (by walk_at "vs"))))))))
abbrev N_check_parts : List Str := ["parts", "part", "option", "own"]
theorem nd_check_parts : N_check_parts.Nodup := by decide +kernel
theorem sc_check_parts : FnScope N_check_parts ["parts"] (defScope s_check_parts) := ⟨rfl, rfl, rfl, nd_check_parts, rfl, by decide +kernel, by decide +kernel⟩
theorem ok_check_parts (G : Fct PR K mg fa fn es (exT PR es cs)) : OkF PR w K mg base (mkC K fn es) "check_parts" ["parts"] 3 F_check_parts := by
  refine ⟨okE (G.def_ 17 _ rfl) sc_check_parts (by decide) ?_, G.glo 17 _ rfl, (G.def_ 17 _ rfl).kp, (G.def_ 17 _ rfl).bindsN fun _ _ _ _ _ _ us hl => match us, hl with | [_], _ => rfl⟩
  intro cdv A outer s H E hr tk po
  unfold m_check_parts
  exact (z_cons (z_if (PW.pt (w_or (t_not (t_tru rfl (e_isT rfl rfl (G.free 52 _ rfl) (e_var rfl (by walk_at "vs")) (pe_bltn (v := .ty _) rfl (G.free 60 _ rfl) rfl rfl (by decide))) (fun _ => rfl))) (pw_or1 (t_not (t_chain le_ok le_ok e_int (e_cb (len_ok rfl) rfl (G.free 53 _ rfl) rfl (a_cons (e_var rfl (by walk_at "vs")) a_nil)) (e_gi (G.int 42 _ _ rfl) rfl)))))) (z_one (z_rs (okr_ArgumentError G) (hr.mono (by decide)) rfl tk rfl e_str)) z_nil) (z_one (z_for (ts := [1]) po rfl (i_seq rfl (e_var rfl (by walk_at "vs"))) (g_name nd_check_parts rfl (by walk_at "lc") (by walk_at "fl") (by decide)) (z_cons (z_if (PW.pt (w_or (t_not (t_tru rfl (e_isT rfl rfl (G.free 52 _ rfl) (e_var rfl (by walk_at "vs")) (pe_bltn (v := .ty _) rfl (G.free 60 _ rfl) rfl rfl (by decide))) (fun _ => rfl))) (pw_or1 (t_not (t_chain le_ok le_ok e_int (e_cb (len_ok rfl) rfl (G.free 53 _ rfl) rfl (a_cons (e_var rfl (by walk_at "vs")) a_nil)) (e_gi (G.int 44 _ _ rfl) rfl)))))) (z_one (z_rs (okr_ArgumentError G) (hr.mono (by decide)) rfl tk rfl e_str)) z_nil) (z_one (z_for (ts := [2]) po rfl (i_seq rfl (e_var rfl (by walk_at "vs"))) (g_name nd_check_parts rfl (by walk_at "lc") (by walk_at "fl") (by decide)) (z_cons (z_if (PW.pt (w_or (t_not (t_tru rfl (e_isT rfl rfl (G.free 52 _ rfl) (e_var rfl (by walk_at "vs")) (pe_bltn (v := .ty _) rfl (G.free 60 _ rfl) rfl rfl (by decide))) (fun _ => rfl))) (w_or (t_cmp (ne_ok rfl (rm64 hr)) (e_cb (len_ok rfl) rfl (G.free 53 _ rfl) rfl (a_cons (e_var rfl (by walk_at "vs")) a_nil)) e_int rfl) (pw_or1 (t_not (t_tru rfl (e_cb (all_ok rfl rfl) rfl (G.free 48 _ rfl) rfl (a_cons (e_LC [("own", 3)] ⟨rfl, nd_check_parts, (i_seq rfl (e_var rfl (by walk_at "vs"))), by walk_at "blk", fun _ _ _ _ _ => (g_name nd_check_parts rfl (by walk_at "lc") (by walk_at "fl") (by decide)), fun _ _ _ _ _ => ts_nil, fun _ _ _ _ _ => (e_fn (ok_is_integer G) (hr.mono (by decide)) tkF rfl (a_cons (e_var rfl (by walk_at "vs")) a_nil) (argN_cons argN_nil)), fun _ => rfl⟩) a_nil)) (fun _ => rfl))))))) (z_one (z_rs (okr_ArgumentError G) (hr.mono (by decide)) rfl tk rfl e_str)) z_nil) (z_one (z_if (PW.pt (w_or (t_not (t_chain le_ok le_ok e_int (e_ix (ix_ok rfl) (e_var rfl (by walk_at "vs")) e_int (fun _ _ => rfl)) (e_gi (G.int 43 _ _ rfl) rfl))) (pw_or1 (t_not (t_chain le_ok le_ok e_int (e_ix (ix_ok rfl) (e_var rfl (by walk_at "vs")) e_int (fun _ _ => rfl)) (e_gi (G.int 45 _ _ rfl) rfl)))))) (z_one (z_rs (okr_ArgumentError G) (hr.mono (by decide)) rfl tk rfl e_str)) z_nil))) (fun _ => rfl)))) (fun _ => rfl))))
abbrev N_check_bound : List Str := ["bound"]
theorem nd_check_bound : N_check_bound.Nodup := by decide +kernel
theorem sc_check_bound : FnScope N_check_bound ["bound"] (defScope s_check_bound) := ⟨rfl, rfl, rfl, nd_check_bound, rfl, by decide +kernel, by decide +kernel⟩
theorem ok_check_bound (G : Fct PR K mg fa fn es (exT PR es cs)) : OkF PR w K mg base (mkC K fn es) "check_bound" ["bound"] 3 F_check_bound := by
  refine ⟨okE (G.def_ 18 _ rfl) sc_check_bound (by decide) ?_, G.glo 18 _ rfl, (G.def_ 18 _ rfl).kp, (G.def_ 18 _ rfl).bindsN fun _ _ _ _ _ _ us hl => match us, hl with | [_], _ => rfl⟩
  intro cdv A outer s H E hr tk po
  unfold m_check_bound
  exact (z_one (z_if (PW.pt (w_or (t_not (t_tru rfl (e_fn (ok_is_integer G) (hr.mono (by decide)) tk rfl (a_cons (e_var rfl (by walk_at "vs")) a_nil) (argN_cons argN_nil)) (fun _ => rfl))) (pw_or1 (t_not (t_chain le_ok le_ok e_int (e_var rfl (by walk_at "vs")) (e_gi (G.int 43 _ _ rfl) rfl)))))) (z_one (z_rs (okr_ArgumentError G) (hr.mono (by decide)) rfl tk rfl e_str)) z_nil))
abbrev N_tables_of : List Str := ["parts", "bound", "rows", "part", "last", "row", "room", "fits", "error", "cost"]
theorem nd_tables_of : N_tables_of.Nodup := by decide +kernel
theorem sc_tables_of : FnScope N_tables_of ["parts", "bound"] (defScope s_tables_of) := ⟨rfl, rfl, rfl, nd_tables_of, rfl, by decide +kernel, by decide +kernel⟩
theorem ok_tables_of (G : Fct PR K mg fa fn es (exT PR es cs)) : OkF PR w K mg base (mkC K fn es) "tables_of" ["parts", "bound"] 1 F_tables_of := by
  refine ⟨okE (G.def_ 19 _ rfl) sc_tables_of (by decide) ?_, G.glo 19 _ rfl, (G.def_ 19 _ rfl).kp, (G.def_ 19 _ rfl).bindsN fun _ _ _ _ _ _ us hl => match us, hl with | [_, _], _ => rfl⟩
  intro cdv A outer s H E hr tk po
  unfold m_tables_of
  exact (z_cons (z_set nd_tables_of rfl (by walk_at "lc") (e_loc (a_cons (e_op (mul_ok rfl) (e_lst (a_cons e_int a_nil)) (e_op (add_ok rfl) (e_var rfl (by walk_at "vs")) e_int)) a_nil)) rfl (by walk_at "fl")) (z_cons (z_for (ts := [3]) po rfl (i_seq rfl (e_rev2 rfl (e_var rfl (by walk_at "vs")))) (g_name nd_tables_of rfl (by walk_at "lc") (by walk_at "fl") (by decide)) (z_cons (z_set nd_tables_of rfl (by walk_at "lc") (e_ix (ix_ok rfl) (e_var rfl (by walk_at "vs")) (e_un neg_ok e_int) (fun _ _ => rfl)) rfl (by walk_at "fl")) (z_cons (z_set nd_tables_of rfl (by walk_at "lc") (e_loc a_nil) rfl (by walk_at "fl")) (z_cons (z_for (ts := [6]) po rfl (i_rng1 rfl (G.free 56 _ rfl) (a_cons (e_op (add_ok rfl) (e_var rfl (by walk_at "vs")) e_int) a_nil)) (g_name nd_tables_of rfl (by walk_at "lc") (by walk_at "fl") (by decide)) (z_cons (z_LC [("error", 8), ("cost", 9)] ⟨rfl, nd_tables_of, (i_seq rfl (e_var rfl (by walk_at "vs"))), by walk_at "blk", fun _ _ _ _ _ => (g_tup rfl rfl (gs_cons (g_name nd_tables_of rfl (by walk_at "lc") (by walk_at "fl") (by decide)) (gs_cons (g_name nd_tables_of rfl (by walk_at "lc") (by walk_at "fl") (by decide)) gs_nil))), fun _ _ _ _ _ => (ts_one (PW.pt (w_and (t_cmp le_ok (e_var rfl (by walk_at "vs")) (e_var rfl (by walk_at "vs")) rfl) (pw_and1 (t_cmp nis_ok (e_ix (ix_ok rfl) (e_var rfl (by walk_at "vs")) (e_op sub_ok (e_var rfl (by walk_at "vs")) (e_var rfl (by walk_at "vs"))) (fun _ _ => rfl)) e_non rfl))))), fun _ _ _ _ _ => (e_tup (a_cons (e_var rfl (by walk_at "vs")) (a_cons (e_var rfl (by walk_at "vs")) a_nil))), fun _ => rfl⟩ rfl (by walk_at "lcl") rfl) (z_one (z_expr (e_bm rfl PySem.F.plainAttrs_list PySem.F.slot_list_append PySem.F.type_list_append append_ok (e_var rfl (by walk_at "vs")) (a_cons (e_if (t_tru rfl (e_var rfl (by walk_at "vs")) (fun _ => rfl)) (e_cb (min_ok2 rfl rfl) rfl (G.free 55 _ rfl) rfl (a_cons (e_LC [("error", 8), ("cost", 9)] ⟨rfl, nd_tables_of, (i_seq rfl (e_var rfl (by walk_at "vs"))), by walk_at "blk", fun _ _ _ _ _ => (g_tup rfl rfl (gs_cons (g_name nd_tables_of rfl (by walk_at "lc") (by walk_at "fl") (by decide)) (gs_cons (g_name nd_tables_of rfl (by walk_at "lc") (by walk_at "fl") (by decide)) gs_nil))), fun _ _ _ _ _ => ts_nil, fun _ _ _ _ _ => (e_op (add_ok rfl) (e_var rfl (by walk_at "vs")) (e_ix (ix_ok rfl) (e_var rfl (by walk_at "vs")) (e_op sub_ok (e_var rfl (by walk_at "vs")) (e_var rfl (by walk_at "vs"))) (fun _ _ => rfl))), fun _ => rfl⟩) a_nil)) e_non) a_nil))))) (fun _ => rfl)) (z_one (z_expr (e_bm rfl PySem.F.plainAttrs_list PySem.F.slot_list_append PySem.F.type_list_append append_ok (e_var rfl (by walk_at "vs")) (a_cons (e_var rfl (by walk_at "vs")) a_nil))))))) (fun _ => rfl)) (z_one (z_ret (e_rev2 rfl (e_var rfl (by walk_at "vs")))))))
abbrev N_judge_plan : List Str := ["parts", "bound", "least", "rows", "found", "room", "at", "part", "number", "rest", "error", "cost"]
theorem nd_judge_plan : N_judge_plan.Nodup := by decide +kernel
theorem sc_judge_plan : FnScope N_judge_plan ["parts", "bound"] (defScope s_judge_plan) := ⟨rfl, rfl, rfl, nd_judge_plan, rfl, by decide +kernel, by decide +kernel⟩
theorem ok_judge_plan (G : Fct PR K mg fa fn es (exT PR es cs)) : OkF PR w K mg base (mkC K fn es) "judge_plan" ["parts", "bound"] 4 F_judge_plan := by
  refine ⟨okE (G.def_ 20 _ rfl) sc_judge_plan (by decide) ?_, G.glo 20 _ rfl, (G.def_ 20 _ rfl).kp, (G.def_ 20 _ rfl).bindsN fun _ _ _ _ _ _ us hl => match us, hl with | [_, _], _ => rfl⟩
  intro cdv A outer s H E hr tk po
  unfold m_judge_plan
  exact (z_cons (z_expr (e_fn (ok_check_parts G) (hr.mono (by decide)) tk rfl (a_cons (e_var rfl (by walk_at "vs")) a_nil) (argN_cons argN_nil))) (z_cons (z_expr (e_fn (ok_check_bound G) (hr.mono (by decide)) tk rfl (a_cons (e_var rfl (by walk_at "vs")) a_nil) (argN_cons argN_nil))) (z_cons (z_set nd_judge_plan rfl (by walk_at "lc") (e_cb (sum_ok rfl rfl) rfl (G.free 58 _ rfl) rfl (a_cons (e_LC [("part", 7)] ⟨rfl, nd_judge_plan, (i_seq rfl (e_var rfl (by walk_at "vs"))), by walk_at "blk", fun _ _ _ _ _ => (g_name nd_judge_plan rfl (by walk_at "lc") (by walk_at "fl") (by decide)), fun _ _ _ _ _ => ts_nil, fun _ _ _ _ _ => (e_cb (min_ok2 rfl rfl) rfl (G.free 55 _ rfl) rfl (a_cons (e_LC [("error", 10), ("cost", 11)] ⟨rfl, nd_judge_plan, (i_seq rfl (e_var rfl (by walk_at "vs"))), by walk_at "blk", fun _ _ _ _ _ => (g_tup rfl rfl (gs_cons (g_name nd_judge_plan rfl (by walk_at "lc") (by walk_at "fl") (by decide)) (gs_cons (g_name nd_judge_plan rfl (by walk_at "lc") (by walk_at "fl") (by decide)) gs_nil))), fun _ _ _ _ _ => ts_nil, fun _ _ _ _ _ => (e_var rfl (by walk_at "vs")), fun _ => rfl⟩) a_nil)), fun _ => rfl⟩) a_nil)) rfl (by walk_at "fl")) (z_cons (z_if (t_cmp gt_ok (e_var rfl (by walk_at "vs")) (e_var rfl (by walk_at "vs")) rfl) (z_one (z_ret (e_tup (a_cons e_str (a_cons (e_var rfl (by walk_at "vs")) a_nil))))) z_nil) (z_cons (z_set nd_judge_plan rfl (by walk_at "lc") (e_fn (ok_tables_of G) (hr.mono (by decide)) tk rfl (a_cons (e_var rfl (by walk_at "vs")) (a_cons (e_var rfl (by walk_at "vs")) a_nil)) (argN_cons (argN_cons argN_nil))) rfl (by walk_at "fl")) (z_cons (z_set nd_judge_plan rfl (by walk_at "lc") (e_loc a_nil) rfl (by walk_at "fl")) (z_cons (z_set nd_judge_plan rfl (by walk_at "lc") (e_var rfl (by walk_at "vs")) rfl (by walk_at "fl")) (z_cons (z_for (ts := [6, 7]) po rfl (i_enum rfl rfl (G.free 50 _ rfl) (a_cons (e_var rfl (by walk_at "vs")) a_nil)) (g_tup rfl rfl (gs_cons (g_name nd_judge_plan rfl (by walk_at "lc") (by walk_at "fl") (by decide)) (gs_cons (g_name nd_judge_plan rfl (by walk_at "lc") (by walk_at "fl") (by decide)) gs_nil))) (z_one (z_for (ts := [8, 10, 11]) po rfl (i_enum rfl rfl (G.free 50 _ rfl) (a_cons (e_var rfl (by walk_at "vs")) a_nil)) (g_tup rfl rfl (gs_cons (g_name nd_judge_plan rfl (by walk_at "lc") (by walk_at "fl") (by decide)) (gs_cons (g_tup rfl rfl (gs_cons (g_name nd_judge_plan rfl (by walk_at "lc") (by walk_at "fl") (by decide)) (gs_cons (g_name nd_judge_plan rfl (by walk_at "lc") (by walk_at "fl") (by decide)) gs_nil))) gs_nil))) (z_cons (z_set nd_judge_plan rfl (by walk_at "lc") (e_if (t_cmp le_ok (e_var rfl (by walk_at "vs")) (e_var rfl (by walk_at "vs")) rfl) (e_ix (ix_ok rfl) (e_ix (ix_ok rfl) (e_var rfl (by walk_at "vs")) (e_op (add_ok rfl) (e_var rfl (by walk_at "vs")) e_int) (fun _ _ => rfl)) (e_op sub_ok (e_var rfl (by walk_at "vs")) (e_var rfl (by walk_at "vs"))) (fun _ _ => rfl)) e_non) rfl (by walk_at "fl")) (z_one (z_if (PW.pt (w_and (t_cmp nis_ok (e_var rfl (by walk_at "vs")) e_non rfl) (pw_and1 (t_cmp (eq_ok rfl (rm64 hr)) (e_op (add_ok rfl) (e_var rfl (by walk_at "vs")) (e_var rfl (by walk_at "vs"))) (e_ix (ix_ok rfl) (e_ix (ix_ok rfl) (e_var rfl (by walk_at "vs")) (e_var rfl (by walk_at "vs")) (fun _ _ => rfl)) (e_var rfl (by walk_at "vs")) (fun _ _ => rfl)) rfl)))) (z_cons (z_expr (e_bm rfl PySem.F.plainAttrs_list PySem.F.slot_list_append PySem.F.type_list_append append_ok (e_var rfl (by walk_at "vs")) (a_cons (e_var rfl (by walk_at "vs")) a_nil))) (z_cons (z_aug nd_judge_plan rfl (by walk_at "lc") (e_var rfl (by walk_at "vs")) isub_ok (by walk_at "fl")) (z_one z_brk))) z_nil))) (fun _ => rfl))) (fun _ => rfl)) (z_one (z_ret (e_tup (a_cons e_str (a_cons (e_ix (ix_ok rfl) (e_ix (ix_ok rfl) (e_var rfl (by walk_at "vs")) e_int (fun _ _ => rfl)) (e_var rfl (by walk_at "vs")) (fun _ _ => rfl)) (a_cons (e_ct (tuple_ok rfl) rfl (G.free 60 _ rfl) rfl (a_cons (e_var rfl (by walk_at "vs")) a_nil)) a_nil))))))))))))))
abbrev N_costs_by : List Str := ["parts", "bound"]
theorem nd_costs_by : N_costs_by.Nodup := by decide +kernel
theorem sc_costs_by : FnScope N_costs_by ["parts", "bound"] (defScope s_costs_by) := ⟨rfl, rfl, rfl, nd_costs_by, rfl, by decide +kernel, by decide +kernel⟩
theorem ok_costs_by (G : Fct PR K mg fa fn es (exT PR es cs)) : OkF PR w K mg base (mkC K fn es) "costs_by" ["parts", "bound"] 4 F_costs_by := by
  refine ⟨okE (G.def_ 21 _ rfl) sc_costs_by (by decide) ?_, G.glo 21 _ rfl, (G.def_ 21 _ rfl).kp, (G.def_ 21 _ rfl).bindsN fun _ _ _ _ _ _ us hl => match us, hl with | [_, _], _ => rfl⟩
  intro cdv A outer s H E hr tk po
  unfold m_costs_by
  exact (z_cons (z_expr (e_fn (ok_check_parts G) (hr.mono (by decide)) tk rfl (a_cons (e_var rfl (by walk_at "vs")) a_nil) (argN_cons argN_nil))) (z_cons (z_expr (e_fn (ok_check_bound G) (hr.mono (by decide)) tk rfl (a_cons (e_var rfl (by walk_at "vs")) a_nil) (argN_cons argN_nil))) (z_one (z_ret (e_ct (tuple_ok rfl) rfl (G.free 60 _ rfl) rfl (a_cons (e_ix (ix_ok rfl) (e_fn (ok_tables_of G) (hr.mono (by decide)) tk rfl (a_cons (e_var rfl (by walk_at "vs")) (a_cons (e_var rfl (by walk_at "vs")) a_nil)) (argN_cons (argN_cons argN_nil))) e_int (fun _ _ => rfl)) a_nil))))))
abbrev N_accept_plan : List Str := ["parts", "bound", "cost", "choices", "rows", "own", "part", "error"]
theorem nd_accept_plan : N_accept_plan.Nodup := by decide +kernel
theorem sc_accept_plan : FnScope N_accept_plan ["parts", "bound", "cost", "choices"] (defScope s_accept_plan) := ⟨rfl, rfl, rfl, nd_accept_plan, rfl, by decide +kernel, by decide +kernel⟩
theorem ok_accept_plan (G : Fct PR K mg fa fn es (exT PR es cs)) : OkF PR w K mg base (mkC K fn es) "accept_plan" ["parts", "bound", "cost", "choices"] 4 F_accept_plan := by
  refine ⟨okE (G.def_ 22 _ rfl) sc_accept_plan (by decide) ?_, G.glo 22 _ rfl, (G.def_ 22 _ rfl).kp, (G.def_ 22 _ rfl).bindsN fun _ _ _ _ _ _ us hl => match us, hl with | [_, _, _, _], _ => rfl⟩
  intro cdv A outer s H E hr tk po
  unfold m_accept_plan
  exact (z_cons (z_expr (e_fn (ok_check_parts G) (hr.mono (by decide)) tk rfl (a_cons (e_var rfl (by walk_at "vs")) a_nil) (argN_cons argN_nil))) (z_cons (z_expr (e_fn (ok_check_bound G) (hr.mono (by decide)) tk rfl (a_cons (e_var rfl (by walk_at "vs")) a_nil) (argN_cons argN_nil))) (z_cons (z_if (PW.pt (w_or (t_not (t_tru rfl (e_fn (ok_is_integer G) (hr.mono (by decide)) tk rfl (a_cons (e_var rfl (by walk_at "vs")) a_nil) (argN_cons argN_nil)) (fun _ => rfl))) (w_or (t_not (t_tru rfl (e_isT rfl rfl (G.free 52 _ rfl) (e_var rfl (by walk_at "vs")) (pe_bltn (v := .ty _) rfl (G.free 60 _ rfl) rfl rfl (by decide))) (fun _ => rfl))) (pw_or1 (t_cmp (ne_ok rfl (rm64 hr)) (e_cb (len_ok rfl) rfl (G.free 53 _ rfl) rfl (a_cons (e_var rfl (by walk_at "vs")) a_nil)) (e_cb (len_ok rfl) rfl (G.free 53 _ rfl) rfl (a_cons (e_var rfl (by walk_at "vs")) a_nil)) rfl))))) (z_one (z_rs (okr_PaperError G) (hr.mono (by decide)) rfl tk rfl e_str)) z_nil) (z_cons (z_if (t_not (t_tru rfl (e_cb (all_ok rfl rfl) rfl (G.free 48 _ rfl) rfl (a_cons (e_LC [("own", 5), ("part", 6)] ⟨rfl, nd_accept_plan, (i_zip rfl rfl (G.free 61 _ rfl) (a_cons (e_var rfl (by walk_at "vs")) (a_cons (e_var rfl (by walk_at "vs")) a_nil))), by walk_at "blk", fun _ _ _ _ _ => (g_tup rfl rfl (gs_cons (g_name nd_accept_plan rfl (by walk_at "lc") (by walk_at "fl") (by decide)) (gs_cons (g_name nd_accept_plan rfl (by walk_at "lc") (by walk_at "fl") (by decide)) gs_nil))), fun _ _ _ _ _ => ts_nil, fun _ _ _ _ _ => (e_and rfl (e_fn (ok_is_integer G) (hr.mono (by decide)) tkF rfl (a_cons (e_var rfl (by walk_at "vs")) a_nil) (argN_cons argN_nil)) (pe_one (e_chain le_ok lt_ok e_int (e_var rfl (by walk_at "vs")) (e_cb (len_ok rfl) rfl (G.free 53 _ rfl) rfl (a_cons (e_var rfl (by walk_at "vs")) a_nil))))), fun _ => rfl⟩) a_nil)) (fun _ => rfl))) (z_one (z_rs (okr_PaperError G) (hr.mono (by decide)) rfl tk rfl e_str)) z_nil) (z_cons (z_LC [("own", 5), ("part", 6)] ⟨rfl, nd_accept_plan, (i_zip rfl rfl (G.free 61 _ rfl) (a_cons (e_var rfl (by walk_at "vs")) (a_cons (e_var rfl (by walk_at "vs")) a_nil))), by walk_at "blk", fun _ _ _ _ _ => (g_tup rfl rfl (gs_cons (g_name nd_accept_plan rfl (by walk_at "lc") (by walk_at "fl") (by decide)) (gs_cons (g_name nd_accept_plan rfl (by walk_at "lc") (by walk_at "fl") (by decide)) gs_nil))), fun _ _ _ _ _ => ts_nil, fun _ _ _ _ _ => (e_ix (ix_ok rfl) (e_var rfl (by walk_at "vs")) (e_var rfl (by walk_at "vs")) (fun _ _ => rfl)), fun _ => rfl⟩ rfl (by walk_at "lcl") rfl) (z_cons (z_if (t_cmp gt_ok (e_cb (sum_ok rfl rfl) rfl (G.free 58 _ rfl) rfl (a_cons (e_LC [("error", 7), ("own", 5)] ⟨rfl, nd_accept_plan, (i_seq rfl (e_var rfl (by walk_at "vs"))), by walk_at "blk", fun _ _ _ _ _ => (g_tup rfl rfl (gs_cons (g_name nd_accept_plan rfl (by walk_at "lc") (by walk_at "fl") (by decide)) (gs_cons (g_name nd_accept_plan rfl (by walk_at "lc") (by walk_at "fl") (by decide)) gs_nil))), fun _ _ _ _ _ => ts_nil, fun _ _ _ _ _ => (e_var rfl (by walk_at "vs")), fun _ => rfl⟩) a_nil)) (e_var rfl (by walk_at "vs")) rfl) (z_one (z_rs (okr_PaperError G) (hr.mono (by decide)) rfl tk rfl e_str)) z_nil) (z_one (z_if (t_cmp gt_ok (e_cb (sum_ok rfl rfl) rfl (G.free 58 _ rfl) rfl (a_cons (e_LC [("error", 7), ("own", 5)] ⟨rfl, nd_accept_plan, (i_seq rfl (e_var rfl (by walk_at "vs"))), by walk_at "blk", fun _ _ _ _ _ => (g_tup rfl rfl (gs_cons (g_name nd_accept_plan rfl (by walk_at "lc") (by walk_at "fl") (by decide)) (gs_cons (g_name nd_accept_plan rfl (by walk_at "lc") (by walk_at "fl") (by decide)) gs_nil))), fun _ _ _ _ _ => ts_nil, fun _ _ _ _ _ => (e_var rfl (by walk_at "vs")), fun _ => rfl⟩) a_nil)) (e_var rfl (by walk_at "vs")) rfl) (z_one (z_rs (okr_PaperError G) (hr.mono (by decide)) rfl tk rfl e_str)) z_nil))))))))
abbrev N_accept_least : List Str := ["parts", "bound", "cost", "table", "row", "at", "part", "room", "error", "own", "rest"]
theorem nd_accept_least : N_accept_least.Nodup := by decide +kernel
theorem sc_accept_least : FnScope N_accept_least ["parts", "bound", "cost", "table"] (defScope s_accept_least) := ⟨rfl, rfl, rfl, nd_accept_least, rfl, by decide +kernel, by decide +kernel⟩
theorem ok_accept_least (G : Fct PR K mg fa fn es (exT PR es cs)) : OkF PR w K mg base (mkC K fn es) "accept_least" ["parts", "bound", "cost", "table"] 4 F_accept_least := by
  refine ⟨okE (G.def_ 23 _ rfl) sc_accept_least (by decide) ?_, G.glo 23 _ rfl, (G.def_ 23 _ rfl).kp, (G.def_ 23 _ rfl).bindsN fun _ _ _ _ _ _ us hl => match us, hl with | [_, _, _, _], _ => rfl⟩
  intro cdv A outer s H E hr tk po
  unfold m_accept_least
  exact (z_cons (z_expr (e_fn (ok_check_parts G) (hr.mono (by decide)) tk rfl (a_cons (e_var rfl (by walk_at "vs")) a_nil) (argN_cons argN_nil))) (z_cons (z_expr (e_fn (ok_check_bound G) (hr.mono (by decide)) tk rfl (a_cons (e_var rfl (by walk_at "vs")) a_nil) (argN_cons argN_nil))) (z_cons (z_if (PW.pt (w_or (t_not (t_tru rfl (e_fn (ok_is_integer G) (hr.mono (by decide)) tk rfl (a_cons (e_var rfl (by walk_at "vs")) a_nil) (argN_cons argN_nil)) (fun _ => rfl))) (w_or (t_not (t_tru rfl (e_isT rfl rfl (G.free 52 _ rfl) (e_var rfl (by walk_at "vs")) (pe_bltn (v := .ty _) rfl (G.free 60 _ rfl) rfl rfl (by decide))) (fun _ => rfl))) (pw_or1 (t_cmp (ne_ok rfl (rm64 hr)) (e_cb (len_ok rfl) rfl (G.free 53 _ rfl) rfl (a_cons (e_var rfl (by walk_at "vs")) a_nil)) (e_op (add_ok rfl) (e_cb (len_ok rfl) rfl (G.free 53 _ rfl) rfl (a_cons (e_var rfl (by walk_at "vs")) a_nil)) e_int) rfl))))) (z_one (z_rs (okr_PaperError G) (hr.mono (by decide)) rfl tk rfl e_str)) z_nil) (z_cons (z_for (ts := [4]) po rfl (i_seq rfl (e_var rfl (by walk_at "vs"))) (g_name nd_accept_least rfl (by walk_at "lc") (by walk_at "fl") (by decide)) (z_cons (z_if (PW.pt (w_or (t_not (t_tru rfl (e_isT rfl rfl (G.free 52 _ rfl) (e_var rfl (by walk_at "vs")) (pe_bltn (v := .ty _) rfl (G.free 60 _ rfl) rfl rfl (by decide))) (fun _ => rfl))) (pw_or1 (t_cmp (ne_ok rfl (rm64 hr)) (e_cb (len_ok rfl) rfl (G.free 53 _ rfl) rfl (a_cons (e_var rfl (by walk_at "vs")) a_nil)) (e_op (add_ok rfl) (e_var rfl (by walk_at "vs")) e_int) rfl)))) (z_one (z_rs (okr_PaperError G) (hr.mono (by decide)) rfl tk rfl e_str)) z_nil) (z_one (z_if (t_not (t_tru rfl (e_cb (all_ok rfl rfl) rfl (G.free 48 _ rfl) rfl (a_cons (e_LC [("own", 9)] ⟨rfl, nd_accept_least, (i_seq rfl (e_var rfl (by walk_at "vs"))), by walk_at "blk", fun _ _ _ _ _ => (g_name nd_accept_least rfl (by walk_at "lc") (by walk_at "fl") (by decide)), fun _ _ _ _ _ => ts_nil, fun _ _ _ _ _ => (e_or rfl (e_cmp is_ok (e_var rfl (by walk_at "vs")) e_non rfl) (pe_one (e_fn (ok_is_integer G) (hr.mono (by decide)) tkF rfl (a_cons (e_var rfl (by walk_at "vs")) a_nil) (argN_cons argN_nil)))), fun _ => rfl⟩) a_nil)) (fun _ => rfl))) (z_one (z_rs (okr_PaperError G) (hr.mono (by decide)) rfl tk rfl e_str)) z_nil))) (fun _ => rfl)) (z_cons (z_if (t_not (t_tru rfl (e_cb (all_ok rfl rfl) rfl (G.free 48 _ rfl) rfl (a_cons (e_LC [("own", 9)] ⟨rfl, nd_accept_least, (i_seq rfl (e_ix (ix_ok rfl) (e_var rfl (by walk_at "vs")) (e_un neg_ok e_int) (fun _ _ => rfl))), by walk_at "blk", fun _ _ _ _ _ => (g_name nd_accept_least rfl (by walk_at "lc") (by walk_at "fl") (by decide)), fun _ _ _ _ _ => ts_nil, fun _ _ _ _ _ => (e_and rfl (e_cmp nis_ok (e_var rfl (by walk_at "vs")) e_non rfl) (pe_one (e_cmp le_ok (e_var rfl (by walk_at "vs")) e_int rfl))), fun _ => rfl⟩) a_nil)) (fun _ => rfl))) (z_one (z_rs (okr_PaperError G) (hr.mono (by decide)) rfl tk rfl e_str)) z_nil) (z_cons (z_for (ts := [5, 6]) po rfl (i_enum rfl rfl (G.free 50 _ rfl) (a_cons (e_var rfl (by walk_at "vs")) a_nil)) (g_tup rfl rfl (gs_cons (g_name nd_accept_least rfl (by walk_at "lc") (by walk_at "fl") (by decide)) (gs_cons (g_name nd_accept_least rfl (by walk_at "lc") (by walk_at "fl") (by decide)) gs_nil))) (z_one (z_for (ts := [7]) po rfl (i_rng1 rfl (G.free 56 _ rfl) (a_cons (e_op (add_ok rfl) (e_var rfl (by walk_at "vs")) e_int) a_nil)) (g_name nd_accept_least rfl (by walk_at "lc") (by walk_at "fl") (by decide)) (z_one (z_for (ts := [8, 9]) po rfl (i_seq rfl (e_var rfl (by walk_at "vs"))) (g_tup rfl rfl (gs_cons (g_name nd_accept_least rfl (by walk_at "lc") (by walk_at "fl") (by decide)) (gs_cons (g_name nd_accept_least rfl (by walk_at "lc") (by walk_at "fl") (by decide)) gs_nil))) (z_cons (z_set nd_accept_least rfl (by walk_at "lc") (e_if (t_cmp le_ok (e_var rfl (by walk_at "vs")) (e_var rfl (by walk_at "vs")) rfl) (e_ix (ix_ok rfl) (e_ix (ix_ok rfl) (e_var rfl (by walk_at "vs")) (e_op (add_ok rfl) (e_var rfl (by walk_at "vs")) e_int) (fun _ _ => rfl)) (e_op sub_ok (e_var rfl (by walk_at "vs")) (e_var rfl (by walk_at "vs"))) (fun _ _ => rfl)) e_non) rfl (by walk_at "fl")) (z_one (z_if (PW.pt (w_and (t_cmp nis_ok (e_var rfl (by walk_at "vs")) e_non rfl) (pw_and1 (PW.pt (w_or (t_cmp is_ok (e_ix (ix_ok rfl) (e_ix (ix_ok rfl) (e_var rfl (by walk_at "vs")) (e_var rfl (by walk_at "vs")) (fun _ _ => rfl)) (e_var rfl (by walk_at "vs")) (fun _ _ => rfl)) e_non rfl) (pw_or1 (t_cmp gt_ok (e_ix (ix_ok rfl) (e_ix (ix_ok rfl) (e_var rfl (by walk_at "vs")) (e_var rfl (by walk_at "vs")) (fun _ _ => rfl)) (e_var rfl (by walk_at "vs")) (fun _ _ => rfl)) (e_op (add_ok rfl) (e_var rfl (by walk_at "vs")) (e_var rfl (by walk_at "vs"))) rfl))))))) (z_one (z_rs (okr_PaperError G) (hr.mono (by decide)) rfl tk rfl e_str)) z_nil))) (fun _ => rfl))) (fun _ => rfl))) (fun _ => rfl)) (z_one (z_if (PW.pt (w_and (t_cmp nis_ok (e_ix (ix_ok rfl) (e_ix (ix_ok rfl) (e_var rfl (by walk_at "vs")) e_int (fun _ _ => rfl)) (e_var rfl (by walk_at "vs")) (fun _ _ => rfl)) e_non rfl) (pw_and1 (t_cmp lt_ok (e_ix (ix_ok rfl) (e_ix (ix_ok rfl) (e_var rfl (by walk_at "vs")) e_int (fun _ _ => rfl)) (e_var rfl (by walk_at "vs")) (fun _ _ => rfl)) (e_var rfl (by walk_at "vs")) rfl)))) (z_one (z_rs (okr_PaperError G) (hr.mono (by decide)) rfl tk rfl e_str)) z_nil))))))))
abbrev N_needless_options : List Str := ["parts", "found", "part", "rows", "number", "beaten", "error", "cost", "at", "own"]
theorem nd_needless_options : N_needless_options.Nodup := by decide +kernel
theorem sc_needless_options : FnScope N_needless_options ["parts"] (defScope s_needless_options) := ⟨rfl, rfl, rfl, nd_needless_options, rfl, by decide +kernel, by decide +kernel⟩
theorem ok_needless_options (G : Fct PR K mg fa fn es (exT PR es cs)) : OkF PR w K mg base (mkC K fn es) "needless_options" ["parts"] 4 F_needless_options := by
  refine ⟨okE (G.def_ 24 _ rfl) sc_needless_options (by decide) ?_, G.glo 24 _ rfl, (G.def_ 24 _ rfl).kp, (G.def_ 24 _ rfl).bindsN fun _ _ _ _ _ _ us hl => match us, hl with | [_], _ => rfl⟩
  intro cdv A outer s H E hr tk po
  unfold m_needless_options
  exact (z_cons (z_expr (e_fn (ok_check_parts G) (hr.mono (by decide)) tk rfl (a_cons (e_var rfl (by walk_at "vs")) a_nil) (argN_cons argN_nil))) (z_cons (z_set nd_needless_options rfl (by walk_at "lc") (e_loc a_nil) rfl (by walk_at "fl")) (z_cons (z_for (ts := [2]) po rfl (i_seq rfl (e_var rfl (by walk_at "vs"))) (g_name nd_needless_options rfl (by walk_at "lc") (by walk_at "fl") (by decide)) (z_cons (z_set nd_needless_options rfl (by walk_at "lc") (e_loc a_nil) rfl (by walk_at "fl")) (z_cons (z_for (ts := [4, 6, 7]) po rfl (i_enum rfl rfl (G.free 50 _ rfl) (a_cons (e_var rfl (by walk_at "vs")) a_nil)) (g_tup rfl rfl (gs_cons (g_name nd_needless_options rfl (by walk_at "lc") (by walk_at "fl") (by decide)) (gs_cons (g_tup rfl rfl (gs_cons (g_name nd_needless_options rfl (by walk_at "lc") (by walk_at "fl") (by decide)) (gs_cons (g_name nd_needless_options rfl (by walk_at "lc") (by walk_at "fl") (by decide)) gs_nil))) gs_nil))) (z_cons (z_LC [("at", 8), ("own", 9)] ⟨rfl, nd_needless_options, (i_enum rfl rfl (G.free 50 _ rfl) (a_cons (e_var rfl (by walk_at "vs")) a_nil)), by walk_at "blk", fun _ _ _ _ _ => (g_tup rfl rfl (gs_cons (g_name nd_needless_options rfl (by walk_at "lc") (by walk_at "fl") (by decide)) (gs_cons (g_name nd_needless_options rfl (by walk_at "lc") (by walk_at "fl") (by decide)) gs_nil))), fun _ _ _ _ _ => (ts_one (PW.pt (w_and (t_cmp le_ok (e_ix (ix_ok rfl) (e_var rfl (by walk_at "vs")) e_int (fun _ _ => rfl)) (e_var rfl (by walk_at "vs")) rfl) (w_and (t_cmp le_ok (e_ix (ix_ok rfl) (e_var rfl (by walk_at "vs")) e_int (fun _ _ => rfl)) (e_var rfl (by walk_at "vs")) rfl) (pw_and1 (t_cmp (ne_ok rfl (rm64 hr)) (e_var rfl (by walk_at "vs")) (e_ix (ix_ok rfl) (e_var rfl (by walk_at "vs")) (e_var rfl (by walk_at "vs")) (fun _ _ => rfl)) rfl)))))), fun _ _ _ _ _ => (e_var rfl (by walk_at "vs")), fun _ => rfl⟩ rfl (by walk_at "lcl") rfl) (z_one (z_if (PW.pt (w_or (t_tru rfl (e_var rfl (by walk_at "vs")) (fun _ => rfl)) (pw_or1 (t_cmp (in_ok rfl (rm65 hr)) (e_tup (a_cons (e_var rfl (by walk_at "vs")) (a_cons (e_var rfl (by walk_at "vs")) a_nil))) (e_sl rfl (e_var rfl (by walk_at "vs")) o_none (o_some (e_var rfl (by walk_at "vs")))) rfl)))) (z_one (z_expr (e_bm rfl PySem.F.plainAttrs_list PySem.F.slot_list_append PySem.F.type_list_append append_ok (e_var rfl (by walk_at "vs")) (a_cons (e_var rfl (by walk_at "vs")) a_nil)))) z_nil))) (fun _ => rfl)) (z_one (z_expr (e_bm rfl PySem.F.plainAttrs_list PySem.F.slot_list_append PySem.F.type_list_append append_ok (e_var rfl (by walk_at "vs")) (a_cons (e_ct (tuple_ok rfl) rfl (G.free 60 _ rfl) rfl (a_cons (e_var rfl (by walk_at "vs")) a_nil)) a_nil)))))) (fun _ => rfl)) (z_one (z_ret (e_ct (tuple_ok rfl) rfl (G.free 60 _ rfl) rfl (a_cons (e_var rfl (by walk_at "vs")) a_nil)))))))
abbrev N_next_saving : List Str := ["parts", "bound", "told", "row", "wider"]
theorem nd_next_saving : N_next_saving.Nodup := by decide +kernel
theorem sc_next_saving : FnScope N_next_saving ["parts", "bound"] (defScope s_next_saving) := ⟨rfl, rfl, rfl, nd_next_saving, rfl, by decide +kernel, by decide +kernel⟩
theorem ok_next_saving (G : Fct PR K mg fa fn es (exT PR es cs)) : OkF PR w K mg base (mkC K fn es) "next_saving" ["parts", "bound"] 5 F_next_saving := by
  refine ⟨okE (G.def_ 25 _ rfl) sc_next_saving (by decide) ?_, G.glo 25 _ rfl, (G.def_ 25 _ rfl).kp, (G.def_ 25 _ rfl).bindsN fun _ _ _ _ _ _ us hl => match us, hl with | [_, _], _ => rfl⟩
  intro cdv A outer s H E hr tk po
  unfold m_next_saving
  exact (z_cons (z_set nd_next_saving rfl (by walk_at "lc") (e_fn (ok_judge_plan G) (hr.mono (by decide)) tk rfl (a_cons (e_var rfl (by walk_at "vs")) (a_cons (e_var rfl (by walk_at "vs")) a_nil)) (argN_cons (argN_cons argN_nil))) rfl (by walk_at "fl")) (z_cons (z_set nd_next_saving rfl (by walk_at "lc") (e_ix (ix_ok rfl) (e_fn (ok_tables_of G) (hr.mono (by decide)) tk rfl (a_cons (e_var rfl (by walk_at "vs")) (a_cons (e_gi (G.int 43 _ _ rfl) rfl) a_nil)) (argN_cons (argN_cons argN_nil))) e_int (fun _ _ => rfl)) rfl (by walk_at "fl")) (z_cons (z_for (ts := [4]) po rfl (i_rng2 rfl (G.free 56 _ rfl) (a_cons (e_op (add_ok rfl) (e_var rfl (by walk_at "vs")) e_int) (a_cons (e_op (add_ok rfl) (e_gi (G.int 43 _ _ rfl) rfl) e_int) a_nil))) (g_name nd_next_saving rfl (by walk_at "lc") (by walk_at "fl") (by decide)) (z_one (z_if (PW.pt (w_and (t_cmp nis_ok (e_ix (ix_ok rfl) (e_var rfl (by walk_at "vs")) (e_var rfl (by walk_at "vs")) (fun _ _ => rfl)) e_non rfl) (pw_and1 (PW.pt (w_or (t_cmp (eq_ok rfl (rm64 hr)) (e_ix (ix_ok rfl) (e_var rfl (by walk_at "vs")) e_int (fun _ _ => rfl)) e_str rfl) (pw_or1 (t_cmp lt_ok (e_ix (ix_ok rfl) (e_var rfl (by walk_at "vs")) (e_var rfl (by walk_at "vs")) (fun _ _ => rfl)) (e_ix (ix_ok rfl) (e_var rfl (by walk_at "vs")) e_int (fun _ _ => rfl)) rfl))))))) (z_one (z_ret (e_tup (a_cons (e_var rfl (by walk_at "vs")) (a_cons (e_ix (ix_ok rfl) (e_var rfl (by walk_at "vs")) (e_var rfl (by walk_at "vs")) (fun _ _ => rfl)) a_nil))))) z_nil)) (fun _ => rfl)) (z_one (z_ret e_non)))))
abbrev N__law_start : List Str := ["script", "seed", "cell"]
theorem nd__law_start : N__law_start.Nodup := by decide +kernel
theorem sc__law_start : FnScope N__law_start ["script"] (defScope s__law_start) := ⟨rfl, rfl, rfl, nd__law_start, rfl, by decide +kernel, by decide +kernel⟩
theorem ok__law_start (G : Fct PR K mg fa fn es (exT PR es cs)) : OkF PR w K mg base (mkC K fn es) "_law_start" ["script"] 1 F__law_start := by
  refine ⟨okE (G.def_ 26 _ rfl) sc__law_start (by decide) ?_, G.glo 26 _ rfl, (G.def_ 26 _ rfl).kp, (G.def_ 26 _ rfl).bindsN fun _ _ _ _ _ _ us hl => match us, hl with | [_], _ => rfl⟩
  intro cdv A outer s H E hr tk po
  unfold m__law_start
  exact (z_cons (z_set nd__law_start rfl (by walk_at "lc") e_int rfl (by walk_at "fl")) (z_cons (z_for (ts := [2]) po rfl (i_seq rfl (e_var rfl (by walk_at "vs"))) (g_name nd__law_start rfl (by walk_at "lc") (by walk_at "fl") (by decide)) (z_one (z_set nd__law_start rfl (by walk_at "lc") (e_op (add_ok rfl) (e_op mod_ok (e_ct int_ok rfl (G.free 51 _ rfl) rfl (a_cons (e_op (add_ok rfl) (e_op (mul_ok rfl) (e_var rfl (by walk_at "vs")) e_int) (e_var rfl (by walk_at "vs"))) a_nil)) e_int) e_int) rfl (by walk_at "fl"))) (fun _ => rfl)) (z_one (z_ret (e_loc (a_cons (e_ct (list_ok rfl) rfl (G.free 54 _ rfl) rfl (a_cons (e_var rfl (by walk_at "vs")) a_nil)) (a_cons e_int (a_cons e_int (a_cons (e_var rfl (by walk_at "vs")) a_nil)))))))))
abbrev N__law_draw : List Str := ["state", "many", "value"]
theorem nd__law_draw : N__law_draw.Nodup := by decide +kernel
theorem sc__law_draw : FnScope N__law_draw ["state", "many"] (defScope s__law_draw) := ⟨rfl, rfl, rfl, nd__law_draw, rfl, by decide +kernel, by decide +kernel⟩
theorem ok__law_draw (G : Fct PR K mg fa fn es (exT PR es cs)) : OkF PR w K mg base (mkC K fn es) "_law_draw" ["state", "many"] 1 F__law_draw := by
  refine ⟨okE (G.def_ 27 _ rfl) sc__law_draw (by decide) ?_, G.glo 27 _ rfl, (G.def_ 27 _ rfl).kp, (G.def_ 27 _ rfl).bindsN fun _ _ _ _ _ _ us hl => match us, hl with | [_, _], _ => rfl⟩
  intro cdv A outer s H E hr tk po
  unfold m__law_draw
  exact (z_cons (z_if (PW.pt (w_and (t_cmp (eq_ok rfl (rm64 hr)) (e_ix (ix_ok rfl) (e_var rfl (by walk_at "vs")) e_int (fun _ _ => rfl)) e_int rfl) (pw_and1 (t_cmp ge_ok (e_ix (ix_ok rfl) (e_var rfl (by walk_at "vs")) e_int (fun _ _ => rfl)) (e_cb (len_ok rfl) rfl (G.free 53 _ rfl) rfl (a_cons (e_ix (ix_ok rfl) (e_var rfl (by walk_at "vs")) e_int (fun _ _ => rfl)) a_nil)) rfl)))) (z_cons (z_asg (ts := []) (e_op mod_ok (e_ct int_ok rfl (G.free 51 _ rfl) rfl (a_cons (e_op (add_ok rfl) (e_op (mul_ok rfl) (e_ix (ix_ok rfl) (e_var rfl (by walk_at "vs")) e_int (fun _ _ => rfl)) e_int) e_int) a_nil)) e_int) (g_sub (e_var rfl (by walk_at "vs")) e_int)) (z_one (z_ret (e_op mod_ok (e_ct int_ok rfl (G.free 51 _ rfl) rfl (a_cons (e_op fdiv_ok (e_ix (ix_ok rfl) (e_var rfl (by walk_at "vs")) e_int (fun _ _ => rfl)) e_int) a_nil)) (e_var rfl (by walk_at "vs")))))) z_nil) (z_cons (z_if (t_cmp (eq_ok rfl (rm64 hr)) (e_ix (ix_ok rfl) (e_var rfl (by walk_at "vs")) e_int (fun _ _ => rfl)) e_int rfl) (z_cons (z_asg (ts := []) (e_cb abs_ok rfl (G.free 47 _ rfl) rfl (a_cons (e_ix (ix_ok rfl) (e_ix (ix_ok rfl) (e_var rfl (by walk_at "vs")) e_int (fun _ _ => rfl)) (e_ix (ix_ok rfl) (e_var rfl (by walk_at "vs")) e_int (fun _ _ => rfl)) (fun _ _ => rfl)) a_nil)) (g_sub (e_var rfl (by walk_at "vs")) e_int)) (z_one (z_asg (ts := []) (e_op (add_ok rfl) (e_ix (ix_ok rfl) (e_var rfl (by walk_at "vs")) e_int (fun _ _ => rfl)) e_int) (g_sub (e_var rfl (by walk_at "vs")) e_int)))) z_nil) (z_cons (z_set nd__law_draw rfl (by walk_at "lc") (e_op mod_ok (e_ct int_ok rfl (G.free 51 _ rfl) rfl (a_cons (e_ix (ix_ok rfl) (e_var rfl (by walk_at "vs")) e_int (fun _ _ => rfl)) a_nil)) (e_var rfl (by walk_at "vs"))) rfl (by walk_at "fl")) (z_cons (z_asg (ts := []) (e_op fdiv_ok (e_ix (ix_ok rfl) (e_var rfl (by walk_at "vs")) e_int (fun _ _ => rfl)) (e_var rfl (by walk_at "vs"))) (g_sub (e_var rfl (by walk_at "vs")) e_int)) (z_one (z_ret (e_var rfl (by walk_at "vs"))))))))
abbrev N__law_pick : List Str := ["state", "some"]
theorem nd__law_pick : N__law_pick.Nodup := by decide +kernel
theorem sc__law_pick : FnScope N__law_pick ["state", "some"] (defScope s__law_pick) := ⟨rfl, rfl, rfl, nd__law_pick, rfl, by decide +kernel, by decide +kernel⟩
theorem ok__law_pick (G : Fct PR K mg fa fn es (exT PR es cs)) : OkF PR w K mg base (mkC K fn es) "_law_pick" ["state", "some"] 2 F__law_pick := by
  refine ⟨okE (G.def_ 28 _ rfl) sc__law_pick (by decide) ?_, G.glo 28 _ rfl, (G.def_ 28 _ rfl).kp, (G.def_ 28 _ rfl).bindsN fun _ _ _ _ _ _ us hl => match us, hl with | [_, _], _ => rfl⟩
  intro cdv A outer s H E hr tk po
  unfold m__law_pick
  exact (z_one (z_ret (e_ix (ix_ok rfl) (e_var rfl (by walk_at "vs")) (e_fn (ok__law_draw G) (hr.mono (by decide)) tk rfl (a_cons (e_var rfl (by walk_at "vs")) (a_cons (e_cb (len_ok rfl) rfl (G.free 53 _ rfl) rfl (a_cons (e_var rfl (by walk_at "vs")) a_nil)) a_nil)) (argN_cons (argN_cons argN_nil))) (fun _ _ => rfl))))
abbrev N__law_word : List Str := ["error"]
theorem nd__law_word : N__law_word.Nodup := by decide +kernel
theorem sc__law_word : FnScope N__law_word ["error"] (defScope s__law_word) := ⟨rfl, rfl, rfl, nd__law_word, rfl, by decide +kernel, by decide +kernel⟩
theorem okj__law_word (G : Fct PR K mg fa fn es (exT PR es cs)) : OkJ PR w K mg base (mkC K fn es) "_law_word" ["error"] 1 F__law_word := by
  refine ⟨okJ (G.def_ 29 _ rfl) sc__law_word (by decide) ?_, G.glo 29 _ rfl, (G.def_ 29 _ rfl).kp, (G.def_ 29 _ rfl).bindsN fun _ _ _ _ _ _ us hl => match us, hl with | [_], _ => rfl⟩
  intro cdv a oe A outer s H E hr
  unfold m__law_word
  exact (z_cons (z_if (t_tru rfl (e_isE List.mem_cons_self rfl (G.free 52 _ rfl) (e_var rfl (by walk_at "vs")) (pe_glob (v := .ref _) rfl (G.err 1 _ rfl).glo rfl) (.own _) (tbC_ok G 1 rfl)) (fun _ => rfl)) (z_one (z_ret (e_op (add_ok rfl) e_str (e_xf List.mem_cons_self (e_var rfl (by walk_at "vs")) (xfC G rfl))))) z_nil) (z_one (z_ret (e_op (add_ok rfl) e_str (e_xf List.mem_cons_self (e_var rfl (by walk_at "vs")) (xfC G rfl))))))
theorem tblV_ok (G : Fct PR K mg fa fn es (exT PR es cs)) : ∀ f n F, tblV f = some (n, F) → ∃ (y : Str) (ps : List Str) (j : Nat), j ≤ 5 ∧ ps.length = n ∧ (mkC K fn es).fa f = He.ga K y ∧ OkF PR w K mg base (mkC K fn es) y ps j F := by
  intro f n F h
  unfold tblV at h
  split at h
  · cases h; exact ⟨_, _, 4, by decide, rfl, rfl, (ok_accept_least G)⟩
  · cases h; exact ⟨_, _, 4, by decide, rfl, rfl, (ok_accept_plan G)⟩
  · cases h; exact ⟨_, _, 5, by decide, rfl, rfl, (ok_sum_with_error G)⟩
  · cases h; exact ⟨_, _, 5, by decide, rfl, rfl, (ok_product_with_error G)⟩
  · cases h; exact ⟨_, _, 5, by decide, rfl, rfl, (ok_shares_of_error G)⟩
  · cases h; exact ⟨_, _, 5, by decide, rfl, rfl, (ok_worst G)⟩
  · cases h; exact ⟨_, _, 4, by decide, rfl, rfl, (ok_judge_plan G)⟩
  · cases h; exact ⟨_, _, 4, by decide, rfl, rfl, (ok_costs_by G)⟩
  · cases h; exact ⟨_, _, 5, by decide, rfl, rfl, (ok_next_saving G)⟩
  · cases h; exact ⟨_, _, 4, by decide, rfl, rfl, (ok_needless_options G)⟩
  · cases h
abbrev N__law_asked : List Str := ["way", "given"]
theorem nd__law_asked : N__law_asked.Nodup := by decide +kernel
theorem sc__law_asked : FnScope N__law_asked ["way", "given"] (defScope s__law_asked) := ⟨rfl, rfl, rfl, nd__law_asked, rfl, by decide +kernel, by decide +kernel⟩
theorem ok__law_asked (G : Fct PR K mg fa fn es (exT PR es cs)) : OkF PR w K mg base (mkC K fn es) "_law_asked" ["way", "given"] 6 F__law_asked := by
  refine ⟨okE (G.def_ 30 _ rfl) sc__law_asked (by decide) ?_, G.glo 30 _ rfl, (G.def_ 30 _ rfl).kp, (G.def_ 30 _ rfl).bindsN fun _ _ _ _ _ _ us hl => match us, hl with | [_, _], _ => rfl⟩
  intro cdv A outer s H E hr tk po
  unfold m__law_asked
  exact (z_cons (z_if (t_cmp (eq_ok rfl (rm64 hr)) (e_cb (len_ok rfl) rfl (G.free 53 _ rfl) rfl (a_cons (e_var rfl (by walk_at "vs")) a_nil)) e_int rfl) (z_one (z_ret (e_callV (k := 5) (tblV_ok G) (hr.mono (by decide)) tk rfl (by walk_at "vs") (a_cons (e_ix (ix_ok rfl) (e_var rfl (by walk_at "vs")) e_int (fun _ _ => rfl)) a_nil)))) z_nil) (z_cons (z_if (t_cmp (eq_ok rfl (rm64 hr)) (e_cb (len_ok rfl) rfl (G.free 53 _ rfl) rfl (a_cons (e_var rfl (by walk_at "vs")) a_nil)) e_int rfl) (z_one (z_ret (e_callV (k := 5) (tblV_ok G) (hr.mono (by decide)) tk rfl (by walk_at "vs") (a_cons (e_ix (ix_ok rfl) (e_var rfl (by walk_at "vs")) e_int (fun _ _ => rfl)) (a_cons (e_ix (ix_ok rfl) (e_var rfl (by walk_at "vs")) e_int (fun _ _ => rfl)) a_nil))))) z_nil) (z_cons (z_if (t_cmp (eq_ok rfl (rm64 hr)) (e_cb (len_ok rfl) rfl (G.free 53 _ rfl) rfl (a_cons (e_var rfl (by walk_at "vs")) a_nil)) e_int rfl) (z_one (z_ret (e_callV (k := 5) (tblV_ok G) (hr.mono (by decide)) tk rfl (by walk_at "vs") (a_cons (e_ix (ix_ok rfl) (e_var rfl (by walk_at "vs")) e_int (fun _ _ => rfl)) (a_cons (e_ix (ix_ok rfl) (e_var rfl (by walk_at "vs")) e_int (fun _ _ => rfl)) (a_cons (e_ix (ix_ok rfl) (e_var rfl (by walk_at "vs")) e_int (fun _ _ => rfl)) a_nil)))))) z_nil) (z_one (z_ret (e_callV (k := 5) (tblV_ok G) (hr.mono (by decide)) tk rfl (by walk_at "vs") (a_cons (e_ix (ix_ok rfl) (e_var rfl (by walk_at "vs")) e_int (fun _ _ => rfl)) (a_cons (e_ix (ix_ok rfl) (e_var rfl (by walk_at "vs")) e_int (fun _ _ => rfl)) (a_cons (e_ix (ix_ok rfl) (e_var rfl (by walk_at "vs")) e_int (fun _ _ => rfl)) (a_cons (e_ix (ix_ok rfl) (e_var rfl (by walk_at "vs")) e_int (fun _ _ => rfl)) a_nil))))))))))
abbrev N__law_heard : List Str := ["way", "given", "error"]
theorem nd__law_heard : N__law_heard.Nodup := by decide +kernel
theorem sc__law_heard : FnScope N__law_heard ["way", "given"] (defScope s__law_heard) := ⟨rfl, rfl, rfl, nd__law_heard, rfl, by decide +kernel, by decide +kernel⟩
theorem ok__law_heard (G : Fct PR K mg fa fn es (exT PR es cs)) : OkF PR w K mg base (mkC K fn es) "_law_heard" ["way", "given"] 7 F__law_heard := by
  refine ⟨okE (G.def_ 31 _ rfl) sc__law_heard (by decide) ?_, G.glo 31 _ rfl, (G.def_ 31 _ rfl).kp, (G.def_ 31 _ rfl).bindsN fun _ _ _ _ _ _ us hl => match us, hl with | [_, _], _ => rfl⟩
  intro cdv A outer s H E hr tk po
  unfold m__law_heard
  exact (z_one (z_try rfl rfl nd__law_heard (i := 2) rfl rfl ⟨rfl, by decide, .inl (G.glo 40 _ rfl)⟩ tk (yes_ok G) (fun _ _ _ tk2 po2 => (z_one (z_ret (e_fn (ok__law_asked G) (hr.mono (by decide)) tk2 rfl (a_cons (e_var rfl (by walk_at "vs")) (a_cons (e_var rfl (by walk_at "vs")) a_nil)) (argN_cons (argN_cons argN_nil)))))) (fun _ _ _ => (z_one (z_ret (e_fnJ (okj__law_word G) ⟨((L2H.roomH_of hr).mono (by decide : 1 ≤ 6)).dp, ((L2H.roomH_of hr).mono (by decide : 1 ≤ 6)).un⟩ List.mem_cons_self rfl (a_cons (e_var rfl (by walk_at "vs")) a_nil) (argN_cons argN_nil)))))))
abbrev N__law_whole : List Str := ["value"]
theorem nd__law_whole : N__law_whole.Nodup := by decide +kernel
theorem sc__law_whole : FnScope N__law_whole ["value"] (defScope s__law_whole) := ⟨rfl, rfl, rfl, nd__law_whole, rfl, by decide +kernel, by decide +kernel⟩
theorem ok__law_whole (G : Fct PR K mg fa fn es (exT PR es cs)) : OkF PR w K mg base (mkC K fn es) "_law_whole" ["value"] 1 F__law_whole := by
  refine ⟨okE (G.def_ 32 _ rfl) sc__law_whole (by decide) ?_, G.glo 32 _ rfl, (G.def_ 32 _ rfl).kp, (G.def_ 32 _ rfl).bindsN fun _ _ _ _ _ _ us hl => match us, hl with | [_], _ => rfl⟩
  intro cdv A outer s H E hr tk po
  unfold m__law_whole
  exact (z_one (z_ret (e_and rfl (e_isT rfl rfl (G.free 52 _ rfl) (e_var rfl (by walk_at "vs")) (pe_bltn (v := .ty _) rfl (G.free 51 _ rfl) rfl rfl (by decide))) (pe_one (e_not rfl (e_isT rfl rfl (G.free 52 _ rfl) (e_var rfl (by walk_at "vs")) (pe_bltn (v := .ty _) rfl (G.free 49 _ rfl) rfl rfl (by decide))))))))
abbrev N__law_rows : List Str := ["parts", "bound", "rows", "part", "row", "room", "ways", "error", "cost"]
theorem nd__law_rows : N__law_rows.Nodup := by decide +kernel
theorem sc__law_rows : FnScope N__law_rows ["parts", "bound"] (defScope s__law_rows) := ⟨rfl, rfl, rfl, nd__law_rows, rfl, by decide +kernel, by decide +kernel⟩
theorem ok__law_rows (G : Fct PR K mg fa fn es (exT PR es cs)) : OkF PR w K mg base (mkC K fn es) "_law_rows" ["parts", "bound"] 1 F__law_rows := by
  refine ⟨okE (G.def_ 33 _ rfl) sc__law_rows (by decide) ?_, G.glo 33 _ rfl, (G.def_ 33 _ rfl).kp, (G.def_ 33 _ rfl).bindsN fun _ _ _ _ _ _ us hl => match us, hl with | [_, _], _ => rfl⟩
  intro cdv A outer s H E hr tk po
  unfold m__law_rows
  exact (z_cons (z_set nd__law_rows rfl (by walk_at "lc") (e_lst (a_cons (e_op (mul_ok rfl) (e_lst (a_cons e_int a_nil)) (e_op (add_ok rfl) (e_var rfl (by walk_at "vs")) e_int)) a_nil)) rfl (by walk_at "fl")) (z_cons (z_for (ts := [3]) po rfl (i_seq rfl (e_rev2 rfl (e_var rfl (by walk_at "vs")))) (g_name nd__law_rows rfl (by walk_at "lc") (by walk_at "fl") (by decide)) (z_cons (z_set nd__law_rows rfl (by walk_at "lc") (e_loc a_nil) rfl (by walk_at "fl")) (z_cons (z_for (ts := [5]) po rfl (i_rng1 rfl (G.free 56 _ rfl) (a_cons (e_op (add_ok rfl) (e_var rfl (by walk_at "vs")) e_int) a_nil)) (g_name nd__law_rows rfl (by walk_at "lc") (by walk_at "fl") (by decide)) (z_cons (z_LC [("error", 7), ("cost", 8)] ⟨rfl, nd__law_rows, (i_seq rfl (e_var rfl (by walk_at "vs"))), by walk_at "blk", fun _ _ _ _ _ => (g_tup rfl rfl (gs_cons (g_name nd__law_rows rfl (by walk_at "lc") (by walk_at "fl") (by decide)) (gs_cons (g_name nd__law_rows rfl (by walk_at "lc") (by walk_at "fl") (by decide)) gs_nil))), fun _ _ _ _ _ => (ts_one (PW.pt (w_and (t_cmp le_ok (e_var rfl (by walk_at "vs")) (e_var rfl (by walk_at "vs")) rfl) (pw_and1 (t_cmp nis_ok (e_ix (ix_ok rfl) (e_ix (ix_ok rfl) (e_var rfl (by walk_at "vs")) e_int (fun _ _ => rfl)) (e_op sub_ok (e_var rfl (by walk_at "vs")) (e_var rfl (by walk_at "vs"))) (fun _ _ => rfl)) e_non rfl))))), fun _ _ _ _ _ => (e_op (add_ok rfl) (e_var rfl (by walk_at "vs")) (e_ix (ix_ok rfl) (e_ix (ix_ok rfl) (e_var rfl (by walk_at "vs")) e_int (fun _ _ => rfl)) (e_op sub_ok (e_var rfl (by walk_at "vs")) (e_var rfl (by walk_at "vs"))) (fun _ _ => rfl))), fun _ => rfl⟩ rfl (by walk_at "lcl") rfl) (z_one (z_expr (e_bm rfl PySem.F.plainAttrs_list PySem.F.slot_list_append PySem.F.type_list_append append_ok (e_var rfl (by walk_at "vs")) (a_cons (e_if (t_tru rfl (e_var rfl (by walk_at "vs")) (fun _ => rfl)) (e_cb (min_ok2 rfl rfl) rfl (G.free 55 _ rfl) rfl (a_cons (e_var rfl (by walk_at "vs")) a_nil)) e_non) a_nil))))) (fun _ => rfl)) (z_one (z_set nd__law_rows rfl (by walk_at "lc") (e_op (add_ok rfl) (e_lst (a_cons (e_var rfl (by walk_at "vs")) a_nil)) (e_var rfl (by walk_at "vs"))) rfl (by walk_at "fl"))))) (fun _ => rfl)) (z_one (z_ret (e_ct (tuple_ok rfl) rfl (G.free 60 _ rfl) rfl (a_cons (e_LC [("row", 4)] ⟨rfl, nd__law_rows, (i_seq rfl (e_var rfl (by walk_at "vs"))), by walk_at "blk", fun _ _ _ _ _ => (g_name nd__law_rows rfl (by walk_at "lc") (by walk_at "fl") (by decide)), fun _ _ _ _ _ => ts_nil, fun _ _ _ _ _ => (e_ct (tuple_ok rfl) rfl (G.free 60 _ rfl) rfl (a_cons (e_var rfl (by walk_at "vs")) a_nil)), fun _ => rfl⟩) a_nil))))))
abbrev N__law_plan_due : List Str := ["parts", "bound", "cost", "choices", "rows", "k", "error", "own"]
theorem nd__law_plan_due : N__law_plan_due.Nodup := by decide +kernel
theorem sc__law_plan_due : FnScope N__law_plan_due ["parts", "bound", "cost", "choices"] (defScope s__law_plan_due) := ⟨rfl, rfl, rfl, nd__law_plan_due, rfl, by decide +kernel, by decide +kernel⟩
theorem ok__law_plan_due (G : Fct PR K mg fa fn es (exT PR es cs)) : OkF PR w K mg base (mkC K fn es) "_law_plan_due" ["parts", "bound", "cost", "choices"] 2 F__law_plan_due := by
  refine ⟨okE (G.def_ 34 _ rfl) sc__law_plan_due (by decide) ?_, G.glo 34 _ rfl, (G.def_ 34 _ rfl).kp, (G.def_ 34 _ rfl).bindsN fun _ _ _ _ _ _ us hl => match us, hl with | [_, _, _, _], _ => rfl⟩
  intro cdv A outer s H E hr tk po
  unfold m__law_plan_due
  exact (z_cons (z_if (PW.pt (w_or (t_not (t_tru rfl (e_fn (ok__law_whole G) (hr.mono (by decide)) tk rfl (a_cons (e_var rfl (by walk_at "vs")) a_nil) (argN_cons argN_nil)) (fun _ => rfl))) (w_or (t_not (t_tru rfl (e_isT rfl rfl (G.free 52 _ rfl) (e_var rfl (by walk_at "vs")) (pe_bltn (v := .ty _) rfl (G.free 60 _ rfl) rfl rfl (by decide))) (fun _ => rfl))) (pw_or1 (t_cmp (ne_ok rfl (rm64 hr)) (e_cb (len_ok rfl) rfl (G.free 53 _ rfl) rfl (a_cons (e_var rfl (by walk_at "vs")) a_nil)) (e_cb (len_ok rfl) rfl (G.free 53 _ rfl) rfl (a_cons (e_var rfl (by walk_at "vs")) a_nil)) rfl))))) (z_one (z_ret e_str)) z_nil) (z_cons (z_if (t_tru rfl (e_LC [("k", 5)] ⟨rfl, nd__law_plan_due, (i_rng1 rfl (G.free 56 _ rfl) (a_cons (e_cb (len_ok rfl) rfl (G.free 53 _ rfl) rfl (a_cons (e_var rfl (by walk_at "vs")) a_nil)) a_nil)), by walk_at "blk", fun _ _ _ _ _ => (g_name nd__law_plan_due rfl (by walk_at "lc") (by walk_at "fl") (by decide)), fun _ _ _ _ _ => (ts_one (PW.pt (w_or (t_not (t_tru rfl (e_fn (ok__law_whole G) (hr.mono (by decide)) tkF rfl (a_cons (e_ix (ix_ok rfl) (e_var rfl (by walk_at "vs")) (e_var rfl (by walk_at "vs")) (fun _ _ => rfl)) a_nil) (argN_cons argN_nil)) (fun _ => rfl))) (pw_or1 (t_not (t_chain le_ok lt_ok e_int (e_ix (ix_ok rfl) (e_var rfl (by walk_at "vs")) (e_var rfl (by walk_at "vs")) (fun _ _ => rfl)) (e_cb (len_ok rfl) rfl (G.free 53 _ rfl) rfl (a_cons (e_ix (ix_ok rfl) (e_var rfl (by walk_at "vs")) (e_var rfl (by walk_at "vs")) (fun _ _ => rfl)) a_nil)))))))), fun _ _ _ _ _ => (e_var rfl (by walk_at "vs")), fun _ => rfl⟩) (fun _ => rfl)) (z_one (z_ret e_str)) z_nil) (z_cons (z_LC [("k", 5)] ⟨rfl, nd__law_plan_due, (i_rng1 rfl (G.free 56 _ rfl) (a_cons (e_cb (len_ok rfl) rfl (G.free 53 _ rfl) rfl (a_cons (e_var rfl (by walk_at "vs")) a_nil)) a_nil)), by walk_at "blk", fun _ _ _ _ _ => (g_name nd__law_plan_due rfl (by walk_at "lc") (by walk_at "fl") (by decide)), fun _ _ _ _ _ => ts_nil, fun _ _ _ _ _ => (e_ix (ix_ok rfl) (e_ix (ix_ok rfl) (e_var rfl (by walk_at "vs")) (e_var rfl (by walk_at "vs")) (fun _ _ => rfl)) (e_ix (ix_ok rfl) (e_var rfl (by walk_at "vs")) (e_var rfl (by walk_at "vs")) (fun _ _ => rfl)) (fun _ _ => rfl)), fun _ => rfl⟩ rfl (by walk_at "lcl") rfl) (z_cons (z_if (t_cmp gt_ok (e_cb (sum_ok rfl rfl) rfl (G.free 58 _ rfl) rfl (a_cons (e_LC [("error", 6), ("own", 7)] ⟨rfl, nd__law_plan_due, (i_seq rfl (e_var rfl (by walk_at "vs"))), by walk_at "blk", fun _ _ _ _ _ => (g_tup rfl rfl (gs_cons (g_name nd__law_plan_due rfl (by walk_at "lc") (by walk_at "fl") (by decide)) (gs_cons (g_name nd__law_plan_due rfl (by walk_at "lc") (by walk_at "fl") (by decide)) gs_nil))), fun _ _ _ _ _ => ts_nil, fun _ _ _ _ _ => (e_var rfl (by walk_at "vs")), fun _ => rfl⟩) a_nil)) (e_var rfl (by walk_at "vs")) rfl) (z_one (z_ret e_str)) z_nil) (z_one (z_ret (e_if (t_cmp gt_ok (e_cb (sum_ok rfl rfl) rfl (G.free 58 _ rfl) rfl (a_cons (e_LC [("error", 6), ("own", 7)] ⟨rfl, nd__law_plan_due, (i_seq rfl (e_var rfl (by walk_at "vs"))), by walk_at "blk", fun _ _ _ _ _ => (g_tup rfl rfl (gs_cons (g_name nd__law_plan_due rfl (by walk_at "lc") (by walk_at "fl") (by decide)) (gs_cons (g_name nd__law_plan_due rfl (by walk_at "lc") (by walk_at "fl") (by decide)) gs_nil))), fun _ _ _ _ _ => ts_nil, fun _ _ _ _ _ => (e_var rfl (by walk_at "vs")), fun _ => rfl⟩) a_nil)) (e_var rfl (by walk_at "vs")) rfl) e_str e_non)))))))
abbrev N__law_least_due : List Str := ["parts", "bound", "cost", "table", "row", "k", "room", "own", "error", "rest"]
theorem nd__law_least_due : N__law_least_due.Nodup := by decide +kernel
theorem sc__law_least_due : FnScope N__law_least_due ["parts", "bound", "cost", "table"] (defScope s__law_least_due) := ⟨rfl, rfl, rfl, nd__law_least_due, rfl, by decide +kernel, by decide +kernel⟩
theorem ok__law_least_due (G : Fct PR K mg fa fn es (exT PR es cs)) : OkF PR w K mg base (mkC K fn es) "_law_least_due" ["parts", "bound", "cost", "table"] 2 F__law_least_due := by
  refine ⟨okE (G.def_ 35 _ rfl) sc__law_least_due (by decide) ?_, G.glo 35 _ rfl, (G.def_ 35 _ rfl).kp, (G.def_ 35 _ rfl).bindsN fun _ _ _ _ _ _ us hl => match us, hl with | [_, _, _, _], _ => rfl⟩
  intro cdv A outer s H E hr tk po
  unfold m__law_least_due
  exact (z_cons (z_if (PW.pt (w_or (t_not (t_tru rfl (e_fn (ok__law_whole G) (hr.mono (by decide)) tk rfl (a_cons (e_var rfl (by walk_at "vs")) a_nil) (argN_cons argN_nil)) (fun _ => rfl))) (w_or (t_not (t_tru rfl (e_isT rfl rfl (G.free 52 _ rfl) (e_var rfl (by walk_at "vs")) (pe_bltn (v := .ty _) rfl (G.free 60 _ rfl) rfl rfl (by decide))) (fun _ => rfl))) (pw_or1 (t_cmp (ne_ok rfl (rm64 hr)) (e_cb (len_ok rfl) rfl (G.free 53 _ rfl) rfl (a_cons (e_var rfl (by walk_at "vs")) a_nil)) (e_op (add_ok rfl) (e_cb (len_ok rfl) rfl (G.free 53 _ rfl) rfl (a_cons (e_var rfl (by walk_at "vs")) a_nil)) e_int) rfl))))) (z_one (z_ret e_str)) z_nil) (z_cons (z_for (ts := [4]) po rfl (i_seq rfl (e_var rfl (by walk_at "vs"))) (g_name nd__law_least_due rfl (by walk_at "lc") (by walk_at "fl") (by decide)) (z_one (z_if (PW.pt (w_or (t_not (t_tru rfl (e_isT rfl rfl (G.free 52 _ rfl) (e_var rfl (by walk_at "vs")) (pe_bltn (v := .ty _) rfl (G.free 60 _ rfl) rfl rfl (by decide))) (fun _ => rfl))) (w_or (t_cmp (ne_ok rfl (rm64 hr)) (e_cb (len_ok rfl) rfl (G.free 53 _ rfl) rfl (a_cons (e_var rfl (by walk_at "vs")) a_nil)) (e_op (add_ok rfl) (e_var rfl (by walk_at "vs")) e_int) rfl) (pw_or1 (t_tru rfl (e_LC [("own", 7)] ⟨rfl, nd__law_least_due, (i_seq rfl (e_var rfl (by walk_at "vs"))), by walk_at "blk", fun _ _ _ _ _ => (g_name nd__law_least_due rfl (by walk_at "lc") (by walk_at "fl") (by decide)), fun _ _ _ _ _ => (ts_one (PW.pt (w_and (t_cmp nis_ok (e_var rfl (by walk_at "vs")) e_non rfl) (pw_and1 (t_not (t_tru rfl (e_fn (ok__law_whole G) (hr.mono (by decide)) tkF rfl (a_cons (e_var rfl (by walk_at "vs")) a_nil) (argN_cons argN_nil)) (fun _ => rfl))))))), fun _ _ _ _ _ => (e_var rfl (by walk_at "vs")), fun _ => rfl⟩) (fun _ => rfl)))))) (z_one (z_ret e_str)) z_nil)) (fun _ => rfl)) (z_cons (z_if (t_tru rfl (e_LC [("own", 7)] ⟨rfl, nd__law_least_due, (i_seq rfl (e_ix (ix_ok rfl) (e_var rfl (by walk_at "vs")) (e_un neg_ok e_int) (fun _ _ => rfl))), by walk_at "blk", fun _ _ _ _ _ => (g_name nd__law_least_due rfl (by walk_at "lc") (by walk_at "fl") (by decide)), fun _ _ _ _ _ => (ts_one (PW.pt (w_or (t_cmp is_ok (e_var rfl (by walk_at "vs")) e_non rfl) (pw_or1 (t_cmp gt_ok (e_var rfl (by walk_at "vs")) e_int rfl))))), fun _ _ _ _ _ => (e_var rfl (by walk_at "vs")), fun _ => rfl⟩) (fun _ => rfl)) (z_one (z_ret e_str)) z_nil) (z_cons (z_for (ts := [5]) po rfl (i_rng1 rfl (G.free 56 _ rfl) (a_cons (e_cb (len_ok rfl) rfl (G.free 53 _ rfl) rfl (a_cons (e_var rfl (by walk_at "vs")) a_nil)) a_nil)) (g_name nd__law_least_due rfl (by walk_at "lc") (by walk_at "fl") (by decide)) (z_one (z_for (ts := [6]) po rfl (i_rng1 rfl (G.free 56 _ rfl) (a_cons (e_op (add_ok rfl) (e_var rfl (by walk_at "vs")) e_int) a_nil)) (g_name nd__law_least_due rfl (by walk_at "lc") (by walk_at "fl") (by decide)) (z_one (z_for (ts := [8, 7]) po rfl (i_seq rfl (e_ix (ix_ok rfl) (e_var rfl (by walk_at "vs")) (e_var rfl (by walk_at "vs")) (fun _ _ => rfl))) (g_tup rfl rfl (gs_cons (g_name nd__law_least_due rfl (by walk_at "lc") (by walk_at "fl") (by decide)) (gs_cons (g_name nd__law_least_due rfl (by walk_at "lc") (by walk_at "fl") (by decide)) gs_nil))) (z_cons (z_set nd__law_least_due rfl (by walk_at "lc") (e_if (t_cmp le_ok (e_var rfl (by walk_at "vs")) (e_var rfl (by walk_at "vs")) rfl) (e_ix (ix_ok rfl) (e_ix (ix_ok rfl) (e_var rfl (by walk_at "vs")) (e_op (add_ok rfl) (e_var rfl (by walk_at "vs")) e_int) (fun _ _ => rfl)) (e_op sub_ok (e_var rfl (by walk_at "vs")) (e_var rfl (by walk_at "vs"))) (fun _ _ => rfl)) e_non) rfl (by walk_at "fl")) (z_one (z_if (PW.pt (w_and (t_cmp nis_ok (e_var rfl (by walk_at "vs")) e_non rfl) (pw_and1 (PW.pt (w_or (t_cmp is_ok (e_ix (ix_ok rfl) (e_ix (ix_ok rfl) (e_var rfl (by walk_at "vs")) (e_var rfl (by walk_at "vs")) (fun _ _ => rfl)) (e_var rfl (by walk_at "vs")) (fun _ _ => rfl)) e_non rfl) (pw_or1 (t_cmp gt_ok (e_ix (ix_ok rfl) (e_ix (ix_ok rfl) (e_var rfl (by walk_at "vs")) (e_var rfl (by walk_at "vs")) (fun _ _ => rfl)) (e_var rfl (by walk_at "vs")) (fun _ _ => rfl)) (e_op (add_ok rfl) (e_var rfl (by walk_at "vs")) (e_var rfl (by walk_at "vs"))) rfl))))))) (z_one (z_ret e_str)) z_nil))) (fun _ => rfl))) (fun _ => rfl))) (fun _ => rfl)) (z_one (z_ret (e_if (PW.pt (w_and (t_cmp nis_ok (e_ix (ix_ok rfl) (e_ix (ix_ok rfl) (e_var rfl (by walk_at "vs")) e_int (fun _ _ => rfl)) (e_var rfl (by walk_at "vs")) (fun _ _ => rfl)) e_non rfl) (pw_and1 (t_cmp lt_ok (e_ix (ix_ok rfl) (e_ix (ix_ok rfl) (e_var rfl (by walk_at "vs")) e_int (fun _ _ => rfl)) (e_var rfl (by walk_at "vs")) (fun _ _ => rfl)) (e_var rfl (by walk_at "vs")) rfl)))) e_str e_non)))))))
abbrev N__law_put : List Str := ["table", "k", "room", "value"]
theorem nd__law_put : N__law_put.Nodup := by decide +kernel
theorem sc__law_put : FnScope N__law_put ["table", "k", "room", "value"] (defScope s__law_put) := ⟨rfl, rfl, rfl, nd__law_put, rfl, by decide +kernel, by decide +kernel⟩
theorem ok__law_put (G : Fct PR K mg fa fn es (exT PR es cs)) : OkF PR w K mg base (mkC K fn es) "_law_put" ["table", "k", "room", "value"] 1 F__law_put := by
  refine ⟨okE (G.def_ 36 _ rfl) sc__law_put (by decide) ?_, G.glo 36 _ rfl, (G.def_ 36 _ rfl).kp, (G.def_ 36 _ rfl).bindsN fun _ _ _ _ _ _ us hl => match us, hl with | [_, _, _, _], _ => rfl⟩
  intro cdv A outer s H E hr tk po
  unfold m__law_put
  exact (z_one (z_ret (e_op (add_ok rfl) (e_op (add_ok rfl) (e_sl rfl (e_var rfl (by walk_at "vs")) o_none (o_some (e_var rfl (by walk_at "vs")))) (e_tup (a_cons (e_op (add_ok rfl) (e_op (add_ok rfl) (e_sl rfl (e_ix (ix_ok rfl) (e_var rfl (by walk_at "vs")) (e_var rfl (by walk_at "vs")) (fun _ _ => rfl)) o_none (o_some (e_var rfl (by walk_at "vs")))) (e_tup (a_cons (e_var rfl (by walk_at "vs")) a_nil))) (e_sl rfl (e_ix (ix_ok rfl) (e_var rfl (by walk_at "vs")) (e_var rfl (by walk_at "vs")) (fun _ _ => rfl)) (o_some (e_op (add_ok rfl) (e_var rfl (by walk_at "vs")) e_int)) o_none)) a_nil))) (e_sl rfl (e_var rfl (by walk_at "vs")) (o_some (e_op (add_ok rfl) (e_var rfl (by walk_at "vs")) e_int)) o_none))))
abbrev N__law_papers_hold : List Str := ["state", "parts", "table", "cost", "turn", "own", "changed", "some", "bound", "k", "room", "least_in", "part", "j", "list_row"]
theorem nd__law_papers_hold : N__law_papers_hold.Nodup := by decide +kernel
theorem sc__law_papers_hold : FnScope N__law_papers_hold ["state"] (defScope s__law_papers_hold) := ⟨rfl, rfl, rfl, nd__law_papers_hold, rfl, by decide +kernel, by decide +kernel⟩
theorem ok__law_papers_hold (G : Fct PR K mg fa fn es (exT PR es cs)) : OkF PR w K mg base (mkC K fn es) "_law_papers_hold" ["state"] 8 F__law_papers_hold := by
  refine ⟨okE (G.def_ 37 _ rfl) sc__law_papers_hold (by decide) ?_, G.glo 37 _ rfl, (G.def_ 37 _ rfl).kp, (G.def_ 37 _ rfl).bindsN fun _ _ _ _ _ _ us hl => match us, hl with | [_], _ => rfl⟩
  intro cdv A outer s H E hr tk po
  unfold m__law_papers_hold
  exact (z_cons (z_set nd__law_papers_hold rfl (by walk_at "lc") (e_ct (tuple_ok rfl) rfl (G.free 60 _ rfl) rfl (a_cons (e_LC [("k", 9)] ⟨rfl, nd__law_papers_hold, (i_rng1 rfl (G.free 56 _ rfl) (a_cons (e_op (add_ok rfl) e_int (e_fn (ok__law_draw G) (hr.mono (by decide)) tk rfl (a_cons (e_var rfl (by walk_at "vs")) (a_cons e_int a_nil)) (argN_cons (argN_cons argN_nil)))) a_nil)), by walk_at "blk", fun _ _ _ _ _ => (g_name nd__law_papers_hold rfl (by walk_at "lc") (by walk_at "fl") (by decide)), fun _ _ _ _ _ => ts_nil, fun _ _ _ _ _ => (e_ct (tuple_ok rfl) rfl (G.free 60 _ rfl) rfl (a_cons (e_LC [("j", 13)] ⟨rfl, nd__law_papers_hold, (i_rng1 rfl (G.free 56 _ rfl) (a_cons (e_op (add_ok rfl) e_int (e_fn (ok__law_draw G) (hr.mono (by decide)) tkF rfl (a_cons (e_var rfl (by walk_at "vs")) (a_cons e_int a_nil)) (argN_cons (argN_cons argN_nil)))) a_nil)), by walk_at "blk", fun _ _ _ _ _ => (g_name nd__law_papers_hold rfl (by walk_at "lc") (by walk_at "fl") (by decide)), fun _ _ _ _ _ => ts_nil, fun _ _ _ _ _ => (e_tup (a_cons (e_fn (ok__law_draw G) (hr.mono (by decide)) tkF rfl (a_cons (e_var rfl (by walk_at "vs")) (a_cons e_int a_nil)) (argN_cons (argN_cons argN_nil))) (a_cons (e_fn (ok__law_draw G) (hr.mono (by decide)) tkF rfl (a_cons (e_var rfl (by walk_at "vs")) (a_cons e_int a_nil)) (argN_cons (argN_cons argN_nil))) a_nil))), fun _ => rfl⟩) a_nil)), fun _ => rfl⟩) a_nil)) rfl (by walk_at "fl")) (z_cons (z_par rfl nd__law_papers_hold rfl rfl (by decide) rfl rfl (a_cons (e_fn (ok__law_draw G) (hr.mono (by decide)) tk rfl (a_cons (e_var rfl (by walk_at "vs")) (a_cons e_int a_nil)) (argN_cons (argN_cons argN_nil))) (a_cons (e_tup a_nil) a_nil)) rfl) (z_cons (z_set nd__law_papers_hold rfl (by walk_at "lc") (e_fn (ok__law_rows G) (hr.mono (by decide)) tk rfl (a_cons (e_var rfl (by walk_at "vs")) (a_cons (e_var rfl (by walk_at "vs")) a_nil)) (argN_cons (argN_cons argN_nil))) rfl (by walk_at "fl")) (z_cons (z_set nd__law_papers_hold rfl (by walk_at "lc") (e_if (t_cmp nis_ok (e_ix (ix_ok rfl) (e_ix (ix_ok rfl) (e_var rfl (by walk_at "vs")) e_int (fun _ _ => rfl)) (e_var rfl (by walk_at "vs")) (fun _ _ => rfl)) e_non rfl) (e_ix (ix_ok rfl) (e_ix (ix_ok rfl) (e_var rfl (by walk_at "vs")) e_int (fun _ _ => rfl)) (e_var rfl (by walk_at "vs")) (fun _ _ => rfl)) (e_fn (ok__law_draw G) (hr.mono (by decide)) tk rfl (a_cons (e_var rfl (by walk_at "vs")) (a_cons e_int a_nil)) (argN_cons (argN_cons argN_nil)))) rfl (by walk_at "fl")) (z_cons (z_for (ts := [4]) po rfl (i_rng1 rfl (G.free 56 _ rfl) (a_cons e_int a_nil)) (g_name nd__law_papers_hold rfl (by walk_at "lc") (by walk_at "fl") (by decide)) (z_cons (z_set nd__law_papers_hold rfl (by walk_at "lc") (e_ct (tuple_ok rfl) rfl (G.free 60 _ rfl) rfl (a_cons (e_LC [("part", 12)] ⟨rfl, nd__law_papers_hold, (i_seq rfl (e_var rfl (by walk_at "vs"))), by walk_at "blk", fun _ _ _ _ _ => (g_name nd__law_papers_hold rfl (by walk_at "lc") (by walk_at "fl") (by decide)), fun _ _ _ _ _ => ts_nil, fun _ _ _ _ _ => (e_fn (ok__law_draw G) (hr.mono (by decide)) tkF rfl (a_cons (e_var rfl (by walk_at "vs")) (a_cons (e_cb (len_ok rfl) rfl (G.free 53 _ rfl) rfl (a_cons (e_var rfl (by walk_at "vs")) a_nil)) a_nil)) (argN_cons (argN_cons argN_nil))), fun _ => rfl⟩) a_nil)) rfl (by walk_at "fl")) (z_one (z_for (ts := [5]) po rfl (i_seq rfl (e_lst (a_cons (e_var rfl (by walk_at "vs")) (a_cons (e_sl rfl (e_var rfl (by walk_at "vs")) (o_some e_int) o_none) (a_cons (e_op (add_ok rfl) (e_var rfl (by walk_at "vs")) (e_tup (a_cons e_int a_nil))) (a_cons (e_op (mulT_ok rfl) (e_tup (a_cons e_non a_nil)) (e_cb (len_ok rfl) rfl (G.free 53 _ rfl) rfl (a_cons (e_var rfl (by walk_at "vs")) a_nil))) (a_cons e_non (a_cons e_str (a_cons (e_op (add_ok rfl) (e_sl rfl (e_var rfl (by walk_at "vs")) o_none (o_some (e_un neg_ok e_int))) (e_tup (a_cons (e_cb (len_ok rfl) rfl (G.free 53 _ rfl) rfl (a_cons (e_ix (ix_ok rfl) (e_var rfl (by walk_at "vs")) (e_un neg_ok e_int) (fun _ _ => rfl)) a_nil)) a_nil))) (a_cons (e_op (add_ok rfl) (e_tup (a_cons (e_un neg_ok e_int) a_nil)) (e_sl rfl (e_var rfl (by walk_at "vs")) (o_some e_int) o_none)) (a_cons (e_op (mulT_ok rfl) (e_tup (a_cons e_bl a_nil)) (e_cb (len_ok rfl) rfl (G.free 53 _ rfl) rfl (a_cons (e_var rfl (by walk_at "vs")) a_nil))) a_nil))))))))))) (g_name nd__law_papers_hold rfl (by walk_at "lc") (by walk_at "fl") (by decide)) (z_one (z_for (ts := [11]) po rfl (i_seq rfl (e_lst (a_cons (e_var rfl (by walk_at "vs")) (a_cons (e_op (add_ok rfl) (e_var rfl (by walk_at "vs")) e_int) (a_cons (e_op sub_ok (e_var rfl (by walk_at "vs")) e_int) (a_cons e_int (a_cons e_non (a_cons e_str a_nil)))))))) (g_name nd__law_papers_hold rfl (by walk_at "lc") (by walk_at "fl") (by decide)) (z_one (z_if (t_cmp (ne_ok rfl (rm64 hr)) (e_fn (ok__law_heard G) (hr.mono (by decide)) tk rfl (a_cons (e_fnv (f := 22) (G.glo 22 _ rfl) rfl) (a_cons (e_lst (a_cons (e_var rfl (by walk_at "vs")) (a_cons (e_var rfl (by walk_at "vs")) (a_cons (e_var rfl (by walk_at "vs")) (a_cons (e_var rfl (by walk_at "vs")) a_nil))))) a_nil)) (argN_cons (argN_cons argN_nil))) (e_fn (ok__law_plan_due G) (hr.mono (by decide)) tk rfl (a_cons (e_var rfl (by walk_at "vs")) (a_cons (e_var rfl (by walk_at "vs")) (a_cons (e_var rfl (by walk_at "vs")) (a_cons (e_var rfl (by walk_at "vs")) a_nil)))) (argN_cons (argN_cons (argN_cons (argN_cons argN_nil))))) rfl) (z_one (z_ret e_bl)) z_nil)) (fun _ => rfl))) (fun _ => rfl)))) (fun _ => rfl)) (z_cons (z_par rfl nd__law_papers_hold rfl rfl (by decide) rfl rfl (a_cons (e_fn (ok__law_draw G) (hr.mono (by decide)) tk rfl (a_cons (e_var rfl (by walk_at "vs")) (a_cons (e_cb (len_ok rfl) rfl (G.free 53 _ rfl) rfl (a_cons (e_var rfl (by walk_at "vs")) a_nil)) a_nil)) (argN_cons (argN_cons argN_nil))) (a_cons (e_fn (ok__law_draw G) (hr.mono (by decide)) tk rfl (a_cons (e_var rfl (by walk_at "vs")) (a_cons (e_op (add_ok rfl) (e_var rfl (by walk_at "vs")) e_int) a_nil)) (argN_cons (argN_cons argN_nil))) a_nil)) rfl) (z_cons (z_set nd__law_papers_hold rfl (by walk_at "lc") (e_ix (ix_ok rfl) (e_ix (ix_ok rfl) (e_var rfl (by walk_at "vs")) (e_var rfl (by walk_at "vs")) (fun _ _ => rfl)) (e_var rfl (by walk_at "vs")) (fun _ _ => rfl)) rfl (by walk_at "fl")) (z_cons (z_set nd__law_papers_hold rfl (by walk_at "lc") (e_lst (a_cons (e_var rfl (by walk_at "vs")) (a_cons (e_fn (ok__law_put G) (hr.mono (by decide)) tk rfl (a_cons (e_var rfl (by walk_at "vs")) (a_cons (e_var rfl (by walk_at "vs")) (a_cons (e_var rfl (by walk_at "vs")) (a_cons e_non a_nil)))) (argN_cons (argN_cons (argN_cons (argN_cons argN_nil))))) (a_cons (e_fn (ok__law_put G) (hr.mono (by decide)) tk rfl (a_cons (e_var rfl (by walk_at "vs")) (a_cons (e_var rfl (by walk_at "vs")) (a_cons (e_var rfl (by walk_at "vs")) (a_cons (e_if (t_cmp is_ok (e_var rfl (by walk_at "vs")) e_non rfl) e_int (e_op (add_ok rfl) (e_var rfl (by walk_at "vs")) e_int)) a_nil)))) (argN_cons (argN_cons (argN_cons (argN_cons argN_nil))))) (a_cons (e_fn (ok__law_put G) (hr.mono (by decide)) tk rfl (a_cons (e_var rfl (by walk_at "vs")) (a_cons (e_var rfl (by walk_at "vs")) (a_cons (e_var rfl (by walk_at "vs")) (a_cons (e_if (t_cmp is_ok (e_var rfl (by walk_at "vs")) e_non rfl) (e_un neg_ok e_int) (e_op sub_ok (e_var rfl (by walk_at "vs")) e_int)) a_nil)))) (argN_cons (argN_cons (argN_cons (argN_cons argN_nil))))) a_nil))))) rfl (by walk_at "fl")) (z_cons (z_set nd__law_papers_hold rfl (by walk_at "lc") (e_op (add_ok rfl) (e_var rfl (by walk_at "vs")) (e_lst (a_cons (e_fn (ok__law_put G) (hr.mono (by decide)) tk rfl (a_cons (e_var rfl (by walk_at "vs")) (a_cons (e_var rfl (by walk_at "vs")) (a_cons (e_var rfl (by walk_at "vs")) (a_cons e_str a_nil)))) (argN_cons (argN_cons (argN_cons (argN_cons argN_nil))))) (a_cons (e_fn (ok__law_put G) (hr.mono (by decide)) tk rfl (a_cons (e_var rfl (by walk_at "vs")) (a_cons (e_var rfl (by walk_at "vs")) (a_cons (e_var rfl (by walk_at "vs")) (a_cons e_bl a_nil)))) (argN_cons (argN_cons (argN_cons (argN_cons argN_nil))))) (a_cons (e_sl rfl (e_var rfl (by walk_at "vs")) (o_some e_int) o_none) (a_cons (e_op (add_ok rfl) (e_var rfl (by walk_at "vs")) (e_sl rfl (e_var rfl (by walk_at "vs")) (o_some (e_un neg_ok e_int)) o_none)) (a_cons e_non (a_cons e_str (a_cons (e_op (add_ok rfl) (e_sl rfl (e_var rfl (by walk_at "vs")) o_none (o_some (e_un neg_ok e_int))) (e_tup (a_cons (e_sl rfl (e_ix (ix_ok rfl) (e_var rfl (by walk_at "vs")) (e_un neg_ok e_int) (fun _ _ => rfl)) (o_some e_int) o_none) a_nil))) a_nil))))))))) rfl (by walk_at "fl")) (z_cons (z_set nd__law_papers_hold rfl (by walk_at "lc") (e_op (add_ok rfl) (e_var rfl (by walk_at "vs")) (e_lst (a_cons (e_ct (tuple_ok rfl) rfl (G.free 60 _ rfl) rfl (a_cons (e_LC [("list_row", 14)] ⟨rfl, nd__law_papers_hold, (i_seq rfl (e_var rfl (by walk_at "vs"))), by walk_at "blk", fun _ _ _ _ _ => (g_name nd__law_papers_hold rfl (by walk_at "lc") (by walk_at "fl") (by decide)), fun _ _ _ _ _ => ts_nil, fun _ _ _ _ _ => (e_sl rfl (e_var rfl (by walk_at "vs")) o_none (o_some (e_un neg_ok e_int))), fun _ => rfl⟩) a_nil)) (a_cons (e_op (mulT_ok rfl) (e_tup (a_cons e_non a_nil)) (e_cb (len_ok rfl) rfl (G.free 53 _ rfl) rfl (a_cons (e_var rfl (by walk_at "vs")) a_nil))) (a_cons (e_op (add_ok rfl) (e_sl rfl (e_var rfl (by walk_at "vs")) o_none (o_some (e_un neg_ok e_int))) (e_tup (a_cons (e_op (mulT_ok rfl) (e_tup (a_cons (e_op sub_ok e_int e_int) a_nil)) (e_op (add_ok rfl) (e_var rfl (by walk_at "vs")) e_int)) a_nil))) (a_cons (e_op (add_ok rfl) (e_sl rfl (e_var rfl (by walk_at "vs")) o_none (o_some (e_un neg_ok e_int))) (e_tup (a_cons (e_op (mulT_ok rfl) (e_tup (a_cons e_int a_nil)) (e_op (add_ok rfl) (e_var rfl (by walk_at "vs")) e_int)) a_nil))) a_nil)))))) rfl (by walk_at "fl")) (z_cons (z_for (ts := [7]) po rfl (i_seq rfl (e_var rfl (by walk_at "vs"))) (g_name nd__law_papers_hold rfl (by walk_at "lc") (by walk_at "fl") (by decide)) (z_one (z_for (ts := [11]) po rfl (i_seq rfl (e_lst (a_cons (e_var rfl (by walk_at "vs")) (a_cons (e_op sub_ok (e_var rfl (by walk_at "vs")) e_int) (a_cons (e_op (add_ok rfl) (e_var rfl (by walk_at "vs")) e_int) (a_cons e_non (a_cons e_bl a_nil))))))) (g_name nd__law_papers_hold rfl (by walk_at "lc") (by walk_at "fl") (by decide)) (z_one (z_if (t_cmp (ne_ok rfl (rm64 hr)) (e_fn (ok__law_heard G) (hr.mono (by decide)) tk rfl (a_cons (e_fnv (f := 23) (G.glo 23 _ rfl) rfl) (a_cons (e_lst (a_cons (e_var rfl (by walk_at "vs")) (a_cons (e_var rfl (by walk_at "vs")) (a_cons (e_var rfl (by walk_at "vs")) (a_cons (e_var rfl (by walk_at "vs")) a_nil))))) a_nil)) (argN_cons (argN_cons argN_nil))) (e_fn (ok__law_least_due G) (hr.mono (by decide)) tk rfl (a_cons (e_var rfl (by walk_at "vs")) (a_cons (e_var rfl (by walk_at "vs")) (a_cons (e_var rfl (by walk_at "vs")) (a_cons (e_var rfl (by walk_at "vs")) a_nil)))) (argN_cons (argN_cons (argN_cons (argN_cons argN_nil))))) rfl) (z_one (z_ret e_bl)) z_nil)) (fun _ => rfl))) (fun _ => rfl)) (z_one (z_ret e_bl)))))))))))))
abbrev N__law_arguments_hold : List Str := ["state", "measures", "own", "way", "wrong", "bad", "given", "bound", "one", "parts"]
theorem nd__law_arguments_hold : N__law_arguments_hold.Nodup := by decide +kernel
theorem sc__law_arguments_hold : FnScope N__law_arguments_hold ["state"] (defScope s__law_arguments_hold) := ⟨rfl, rfl, rfl, nd__law_arguments_hold, rfl, by decide +kernel, by decide +kernel⟩
theorem ok__law_arguments_hold (G : Fct PR K mg fa fn es (exT PR es cs)) : OkF PR w K mg base (mkC K fn es) "_law_arguments_hold" ["state"] 8 F__law_arguments_hold := by
  refine ⟨okE (G.def_ 38 _ rfl) sc__law_arguments_hold (by decide) ?_, G.glo 38 _ rfl, (G.def_ 38 _ rfl).kp, (G.def_ 38 _ rfl).bindsN fun _ _ _ _ _ _ us hl => match us, hl with | [_], _ => rfl⟩
  intro cdv A outer s H E hr tk po
  unfold m__law_arguments_hold
  exact (z_cons (z_asg (ts := [8, 9]) (e_tup (a_cons (e_tup (a_cons (e_tup (a_cons e_int (a_cons e_int a_nil))) (a_cons (e_tup (a_cons e_int (a_cons e_int a_nil))) (a_cons (e_tup (a_cons e_int (a_cons e_int a_nil))) a_nil)))) (a_cons (e_tup (a_cons (e_tup (a_cons (e_tup (a_cons e_int (a_cons e_int a_nil))) (a_cons (e_tup (a_cons e_int (a_cons e_int a_nil))) a_nil))) (a_cons (e_tup (a_cons (e_tup (a_cons e_int (a_cons e_int a_nil))) (a_cons (e_tup (a_cons e_int (a_cons e_int a_nil))) a_nil))) a_nil))) a_nil))) (g_unp rfl rfl (gs_cons (g_name nd__law_arguments_hold rfl (by walk_at "lc") (by walk_at "fl") (by decide)) (gs_cons (g_name nd__law_arguments_hold rfl (by walk_at "lc") (by walk_at "fl") (by decide)) gs_nil)))) (z_cons (z_set nd__law_arguments_hold rfl (by walk_at "lc") (e_lst (a_cons e_non (a_cons (e_tup a_nil) (a_cons (e_op (mulT_ok rfl) (e_tup (a_cons (e_var rfl (by walk_at "vs")) a_nil)) e_int) (a_cons e_str (a_cons (e_tup (a_cons (e_var rfl (by walk_at "vs")) (a_cons e_non a_nil))) (a_cons (e_tup (a_cons (e_var rfl (by walk_at "vs")) (a_cons (e_tup (a_cons (e_tup (a_cons e_int (a_cons e_int a_nil))) (a_cons (e_tup (a_cons e_int (a_cons e_int a_nil))) a_nil))) a_nil))) (a_cons (e_tup (a_cons (e_tup (a_cons (e_tup (a_cons e_int (a_cons e_int a_nil))) (a_cons (e_tup (a_cons e_int (a_cons e_int a_nil))) (a_cons (e_tup (a_cons (e_un neg_ok e_int) (a_cons e_int a_nil))) a_nil)))) a_nil)) (a_cons (e_tup (a_cons (e_tup (a_cons (e_tup (a_cons e_int (a_cons e_int a_nil))) (a_cons (e_tup (a_cons e_int (a_cons e_int a_nil))) (a_cons (e_tup (a_cons e_int (a_cons e_int a_nil))) a_nil)))) a_nil)) (a_cons (e_tup (a_cons (e_var rfl (by walk_at "vs")) (a_cons (e_tup (a_cons (e_tup (a_cons e_int (a_cons e_int a_nil))) (a_cons (e_tup (a_cons e_int (a_cons e_int a_nil))) (a_cons (e_tup (a_cons e_int (a_cons e_int a_nil))) a_nil)))) a_nil))) a_nil)))))))))) rfl (by walk_at "fl")) (z_cons (z_set nd__law_arguments_hold rfl (by walk_at "lc") (e_op (add_ok rfl) (e_var rfl (by walk_at "vs")) (e_lst (a_cons (e_tup (a_cons (e_tup (a_cons (e_tup (a_cons e_bl (a_cons e_int a_nil))) (a_cons (e_tup (a_cons e_int (a_cons e_int a_nil))) (a_cons (e_tup (a_cons e_int (a_cons e_int a_nil))) a_nil)))) a_nil)) (a_cons (e_tup (a_cons (e_tup (a_cons (e_tup (a_cons e_int (a_cons e_int a_nil))) (a_cons (e_tup (a_cons (e_op (add_ok rfl) (e_op pow_ok e_int e_int) e_int) (a_cons e_int a_nil))) (a_cons (e_tup (a_cons e_int (a_cons e_int a_nil))) a_nil)))) a_nil)) (a_cons (e_tup (a_cons (e_tup (a_cons (e_tup (a_cons e_int (a_cons e_int a_nil))) (a_cons (e_tup (a_cons e_int (a_cons e_int a_nil))) (a_cons e_int a_nil)))) a_nil)) (a_cons e_int a_nil)))))) rfl (by walk_at "fl")) (z_cons (z_set nd__law_arguments_hold rfl (by walk_at "lc") (e_fn (ok__law_pick G) (hr.mono (by decide)) tk rfl (a_cons (e_var rfl (by walk_at "vs")) (a_cons (e_var rfl (by walk_at "vs")) a_nil)) (argN_cons (argN_cons argN_nil))) rfl (by walk_at "fl")) (z_cons (z_for (ts := [3]) po rfl (i_seq rfl (e_lst (a_cons (e_fnv (f := 13) (G.glo 13 _ rfl) rfl) (a_cons (e_fnv (f := 14) (G.glo 14 _ rfl) rfl) (a_cons (e_fnv (f := 15) (G.glo 15 _ rfl) rfl) (a_cons (e_fnv (f := 16) (G.glo 16 _ rfl) rfl) a_nil)))))) (g_name nd__law_arguments_hold rfl (by walk_at "lc") (by walk_at "fl") (by decide)) (z_one (z_if (t_cmp (ne_ok rfl (rm64 hr)) (e_fn (ok__law_heard G) (hr.mono (by decide)) tk rfl (a_cons (e_var rfl (by walk_at "vs")) (a_cons (e_lst (a_cons (e_var rfl (by walk_at "vs")) a_nil)) a_nil)) (argN_cons (argN_cons argN_nil))) e_str rfl) (z_one (z_ret e_bl)) z_nil)) (fun _ => rfl)) (z_cons (z_set nd__law_arguments_hold rfl (by walk_at "lc") (e_lst (a_cons e_non (a_cons (e_tup a_nil) (a_cons (e_tup (a_cons (e_tup a_nil) a_nil)) (a_cons (e_op (mulT_ok rfl) (e_tup (a_cons (e_tup (a_cons (e_tup (a_cons e_int (a_cons e_int a_nil))) a_nil)) a_nil)) e_int) (a_cons (e_tup (a_cons (e_op (mulT_ok rfl) (e_tup (a_cons (e_tup (a_cons e_int (a_cons e_int a_nil))) a_nil)) e_int) a_nil)) (a_cons e_str (a_cons (e_tup (a_cons (e_tup (a_cons e_non a_nil)) a_nil)) (a_cons (e_tup (a_cons (e_tup (a_cons (e_tup (a_cons e_int a_nil)) a_nil)) a_nil)) (a_cons (e_tup (a_cons (e_tup (a_cons (e_tup (a_cons e_int (a_cons e_int (a_cons e_int a_nil)))) a_nil)) a_nil)) (a_cons (e_tup (a_cons (e_tup (a_cons (e_tup (a_cons (e_un neg_ok e_int) (a_cons e_int a_nil))) a_nil)) a_nil)) (a_cons (e_tup (a_cons (e_tup (a_cons (e_tup (a_cons e_int (a_cons e_int a_nil))) a_nil)) a_nil)) (a_cons (e_tup (a_cons (e_tup (a_cons (e_tup (a_cons e_int (a_cons (e_un neg_ok e_int) a_nil))) a_nil)) a_nil)) (a_cons (e_tup (a_cons (e_tup (a_cons (e_tup (a_cons e_int (a_cons e_int a_nil))) a_nil)) a_nil)) a_nil)))))))))))))) rfl (by walk_at "fl")) (z_cons (z_set nd__law_arguments_hold rfl (by walk_at "lc") (e_op (add_ok rfl) (e_var rfl (by walk_at "vs")) (e_lst (a_cons (e_tup (a_cons (e_tup (a_cons (e_tup (a_cons e_bl (a_cons e_int a_nil))) a_nil)) a_nil)) (a_cons (e_tup (a_cons (e_tup (a_cons (e_tup (a_cons e_str (a_cons e_int a_nil))) a_nil)) a_nil)) (a_cons (e_tup (a_cons (e_tup (a_cons (e_tup (a_cons e_int (a_cons e_int a_nil))) a_nil)) (a_cons e_non a_nil))) (a_cons (e_tup (a_cons (e_tup (a_cons (e_tup (a_cons e_int (a_cons e_non a_nil))) a_nil)) a_nil)) (a_cons e_int a_nil))))))) rfl (by walk_at "fl")) (z_cons (z_set nd__law_arguments_hold rfl (by walk_at "lc") (e_fn (ok__law_pick G) (hr.mono (by decide)) tk rfl (a_cons (e_var rfl (by walk_at "vs")) (a_cons (e_var rfl (by walk_at "vs")) a_nil)) (argN_cons (argN_cons argN_nil))) rfl (by walk_at "fl")) (z_cons (z_for (ts := [6]) po rfl (i_seq rfl (e_lst (a_cons (e_lst (a_cons (e_fnv (f := 20) (G.glo 20 _ rfl) rfl) (a_cons (e_var rfl (by walk_at "vs")) (a_cons e_non a_nil)))) (a_cons (e_lst (a_cons (e_fnv (f := 21) (G.glo 21 _ rfl) rfl) (a_cons (e_var rfl (by walk_at "vs")) (a_cons e_non a_nil)))) (a_cons (e_lst (a_cons (e_fnv (f := 25) (G.glo 25 _ rfl) rfl) (a_cons (e_var rfl (by walk_at "vs")) (a_cons e_non a_nil)))) (a_cons (e_lst (a_cons (e_fnv (f := 24) (G.glo 24 _ rfl) rfl) (a_cons (e_var rfl (by walk_at "vs")) a_nil))) (a_cons (e_lst (a_cons (e_fnv (f := 22) (G.glo 22 _ rfl) rfl) (a_cons (e_var rfl (by walk_at "vs")) (a_cons e_non (a_cons e_non (a_cons e_non a_nil)))))) (a_cons (e_lst (a_cons (e_fnv (f := 23) (G.glo 23 _ rfl) rfl) (a_cons (e_var rfl (by walk_at "vs")) (a_cons e_non (a_cons e_non (a_cons e_non a_nil)))))) a_nil)))))))) (g_name nd__law_arguments_hold rfl (by walk_at "lc") (by walk_at "fl") (by decide)) (z_one (z_if (t_cmp (ne_ok rfl (rm64 hr)) (e_fn (ok__law_heard G) (hr.mono (by decide)) tk rfl (a_cons (e_ix (ix_ok rfl) (e_var rfl (by walk_at "vs")) e_int (fun _ _ => rfl)) (a_cons (e_sl rfl (e_var rfl (by walk_at "vs")) (o_some e_int) o_none) a_nil)) (argN_cons (argN_cons argN_nil))) e_str rfl) (z_one (z_ret e_bl)) z_nil)) (fun _ => rfl)) (z_cons (z_for (ts := [7]) po rfl (i_seq rfl (e_lst (a_cons e_non (a_cons (e_un neg_ok e_int) (a_cons e_int (a_cons e_bl (a_cons e_str (a_cons (e_tup (a_cons e_int a_nil)) a_nil)))))))) (g_name nd__law_arguments_hold rfl (by walk_at "lc") (by walk_at "fl") (by decide)) (z_one (z_for (ts := [6]) po rfl (i_seq rfl (e_lst (a_cons (e_lst (a_cons (e_fnv (f := 20) (G.glo 20 _ rfl) rfl) (a_cons (e_var rfl (by walk_at "vs")) (a_cons (e_var rfl (by walk_at "vs")) a_nil)))) (a_cons (e_lst (a_cons (e_fnv (f := 21) (G.glo 21 _ rfl) rfl) (a_cons (e_var rfl (by walk_at "vs")) (a_cons (e_var rfl (by walk_at "vs")) a_nil)))) (a_cons (e_lst (a_cons (e_fnv (f := 25) (G.glo 25 _ rfl) rfl) (a_cons (e_var rfl (by walk_at "vs")) (a_cons (e_var rfl (by walk_at "vs")) a_nil)))) (a_cons (e_lst (a_cons (e_fnv (f := 22) (G.glo 22 _ rfl) rfl) (a_cons (e_var rfl (by walk_at "vs")) (a_cons (e_var rfl (by walk_at "vs")) (a_cons e_non (a_cons e_non a_nil)))))) (a_cons (e_lst (a_cons (e_fnv (f := 23) (G.glo 23 _ rfl) rfl) (a_cons (e_var rfl (by walk_at "vs")) (a_cons (e_var rfl (by walk_at "vs")) (a_cons e_non (a_cons e_non a_nil)))))) a_nil))))))) (g_name nd__law_arguments_hold rfl (by walk_at "lc") (by walk_at "fl") (by decide)) (z_one (z_if (t_cmp (ne_ok rfl (rm64 hr)) (e_fn (ok__law_heard G) (hr.mono (by decide)) tk rfl (a_cons (e_ix (ix_ok rfl) (e_var rfl (by walk_at "vs")) e_int (fun _ _ => rfl)) (a_cons (e_sl rfl (e_var rfl (by walk_at "vs")) (o_some e_int) o_none) a_nil)) (argN_cons (argN_cons argN_nil))) e_str rfl) (z_one (z_ret e_bl)) z_nil)) (fun _ => rfl))) (fun _ => rfl)) (z_one (z_ret (e_and rfl (e_cmp (eq_ok rfl (rm64 hr)) (e_fn (ok_judge_plan G) (hr.mono (by decide)) tk rfl (a_cons (e_tup (a_cons (e_tup (a_cons (e_tup (a_cons e_int (a_cons e_int a_nil))) a_nil)) a_nil)) (a_cons e_int a_nil)) (argN_cons (argN_cons argN_nil))) (e_tup (a_cons e_str (a_cons e_int (a_cons (e_tup (a_cons e_int a_nil)) a_nil)))) rfl) (pe_one (e_cmp is_ok (e_fn (ok_next_saving G) (hr.mono (by decide)) tk rfl (a_cons (e_var rfl (by walk_at "vs")) (a_cons e_int a_nil)) (argN_cons (argN_cons argN_nil))) e_non rfl)))))))))))))))
abbrev N_law : List Str := ["script", "state"]
theorem nd_law : N_law.Nodup := by decide +kernel
theorem sc_law : FnScope N_law ["script"] (defScope s_law) := ⟨rfl, rfl, rfl, nd_law, rfl, by decide +kernel, by decide +kernel⟩
theorem ok_law (G : Fct PR K mg fa fn es (exT PR es cs)) : OkF PR w K mg base (mkC K fn es) "law" ["script"] 9 F_law := by
  refine ⟨okE (G.def_ 39 _ rfl) sc_law (by decide) ?_, G.glo 39 _ rfl, (G.def_ 39 _ rfl).kp, (G.def_ 39 _ rfl).bindsN fun _ _ _ _ _ _ us hl => match us, hl with | [_], _ => rfl⟩
  intro cdv A outer s H E hr tk po
  unfold m_law
  exact (z_cons (z_set nd_law rfl (by walk_at "lc") (e_fn (ok__law_start G) (hr.mono (by decide)) tk rfl (a_cons (e_var rfl (by walk_at "vs")) a_nil) (argN_cons argN_nil)) rfl (by walk_at "fl")) (z_one (z_ret (e_and rfl (e_fn (ok__law_papers_hold G) (hr.mono (by decide)) tk rfl (a_cons (e_var rfl (by walk_at "vs")) a_nil) (argN_cons argN_nil)) (pe_one (e_fn (ok__law_arguments_hold G) (hr.mono (by decide)) tk rfl (a_cons (e_var rfl (by walk_at "vs")) a_nil) (argN_cons argN_nil)))))))
end
theorem plains : ∀ d ∈ fn, PlainD d := by
  intro d hd
  unfold fn at hd
  simp only [List.mem_cons, List.not_mem_nil, or_false] at hd
  rcases hd with rfl | rfl | rfl | rfl | rfl | rfl | rfl | rfl | rfl | rfl | rfl | rfl | rfl | rfl | rfl | rfl | rfl | rfl | rfl | rfl | rfl | rfl | rfl | rfl | rfl | rfl | rfl | rfl | rfl | rfl | rfl | rfl | rfl | rfl | rfl | rfl | rfl | rfl | rfl | rfl <;> exact ⟨rfl, rfl⟩
end Lw

namespace Lw
open PySem Ev
section
variable {S : Store} {QD : D → Store → Prop} {E : EK}
theorem wd_is_integer {a0 : D} (h : Ws (m_is_integer [some a0] S) (kE QD E)) : Wr (F_is_integer [a0] S) QD E := by
  unfold F_is_integer
  exact w_def' (n := 1) (b := m_is_integer) (ds := [a0]) (δ := [some a0]) rfl h
theorem wd_greatest_divisor {a0 a1 : D} (h : Ws (m_greatest_divisor [some a0, some a1] S) (kE QD E)) : Wr (F_greatest_divisor [a0, a1] S) QD E := by
  unfold F_greatest_divisor
  exact w_def' (n := 2) (b := m_greatest_divisor) (ds := [a0, a1]) (δ := [some a0, some a1]) rfl h
theorem wd_quotient {a0 a1 : D} (h : Ws (m_quotient [some a0, some a1, none] S) (kE QD E)) : Wr (F_quotient [a0, a1] S) QD E := by
  unfold F_quotient
  exact w_def' (n := 3) (b := m_quotient) (ds := [a0, a1]) (δ := [some a0, some a1, none]) rfl h
theorem wd_plus {a0 a1 : D} (h : Ws (m_plus [some a0, some a1] S) (kE QD E)) : Wr (F_plus [a0, a1] S) QD E := by
  unfold F_plus
  exact w_def' (n := 2) (b := m_plus) (ds := [a0, a1]) (δ := [some a0, some a1]) rfl h
theorem wd_minus {a0 a1 : D} (h : Ws (m_minus [some a0, some a1] S) (kE QD E)) : Wr (F_minus [a0, a1] S) QD E := by
  unfold F_minus
  exact w_def' (n := 2) (b := m_minus) (ds := [a0, a1]) (δ := [some a0, some a1]) rfl h
theorem wd_times {a0 a1 : D} (h : Ws (m_times [some a0, some a1] S) (kE QD E)) : Wr (F_times [a0, a1] S) QD E := by
  unfold F_times
  exact w_def' (n := 2) (b := m_times) (ds := [a0, a1]) (δ := [some a0, some a1]) rfl h
theorem wd_over {a0 a1 : D} (h : Ws (m_over [some a0, some a1] S) (kE QD E)) : Wr (F_over [a0, a1] S) QD E := by
  unfold F_over
  exact w_def' (n := 2) (b := m_over) (ds := [a0, a1]) (δ := [some a0, some a1]) rfl h
theorem wd_is_less {a0 a1 : D} (h : Ws (m_is_less [some a0, some a1] S) (kE QD E)) : Wr (F_is_less [a0, a1] S) QD E := by
  unfold F_is_less
  exact w_def' (n := 2) (b := m_is_less) (ds := [a0, a1]) (δ := [some a0, some a1]) rfl h
theorem wd_sum_of {a0 : D} (h : Ws (m_sum_of [some a0, none, none] S) (kE QD E)) : Wr (F_sum_of [a0] S) QD E := by
  unfold F_sum_of
  exact w_def' (n := 3) (b := m_sum_of) (ds := [a0]) (δ := [some a0, none, none]) rfl h
theorem wd_is_quotient {a0 : D} (h : Ws (m_is_quotient [some a0, none] S) (kE QD E)) : Wr (F_is_quotient [a0] S) QD E := by
  unfold F_is_quotient
  exact w_def' (n := 2) (b := m_is_quotient) (ds := [a0]) (δ := [some a0, none]) rfl h
theorem wd_is_number {a0 : D} (h : Ws (m_is_number [some a0] S) (kE QD E)) : Wr (F_is_number [a0] S) QD E := by
  unfold F_is_number
  exact w_def' (n := 1) (b := m_is_number) (ds := [a0]) (δ := [some a0]) rfl h
theorem wd_check_measures {a0 : D} (h : Ws (m_check_measures [some a0, none, none] S) (kE QD E)) : Wr (F_check_measures [a0] S) QD E := by
  unfold F_check_measures
  exact w_def' (n := 3) (b := m_check_measures) (ds := [a0]) (δ := [some a0, none, none]) rfl h
theorem wd_size_of {a0 : D} (h : Ws (m_size_of [some a0] S) (kE QD E)) : Wr (F_size_of [a0] S) QD E := by
  unfold F_size_of
  exact w_def' (n := 1) (b := m_size_of) (ds := [a0]) (δ := [some a0]) rfl h
theorem wd_sum_with_error {a0 : D} (h : Ws (m_sum_with_error [some a0, none, none] S) (kE QD E)) : Wr (F_sum_with_error [a0] S) QD E := by
  unfold F_sum_with_error
  exact w_def' (n := 3) (b := m_sum_with_error) (ds := [a0]) (δ := [some a0, none, none]) rfl h
theorem wd_product_with_error {a0 : D} (h : Ws (m_product_with_error [some a0, none, none, none, none, none, none, none, none, none, none] S) (kE QD E)) : Wr (F_product_with_error [a0] S) QD E := by
  unfold F_product_with_error
  exact w_def' (n := 11) (b := m_product_with_error) (ds := [a0]) (δ := [some a0, none, none, none, none, none, none, none, none, none, none]) rfl h
theorem wd_shares_of_error {a0 : D} (h : Ws (m_shares_of_error [some a0, none, none, none, none] S) (kE QD E)) : Wr (F_shares_of_error [a0] S) QD E := by
  unfold F_shares_of_error
  exact w_def' (n := 5) (b := m_shares_of_error) (ds := [a0]) (δ := [some a0, none, none, none, none]) rfl h
theorem wd_worst {a0 : D} (h : Ws (m_worst [some a0, none, none, none, none, none] S) (kE QD E)) : Wr (F_worst [a0] S) QD E := by
  unfold F_worst
  exact w_def' (n := 6) (b := m_worst) (ds := [a0]) (δ := [some a0, none, none, none, none, none]) rfl h
theorem wd_check_parts {a0 : D} (h : Ws (m_check_parts [some a0, none, none, none] S) (kE QD E)) : Wr (F_check_parts [a0] S) QD E := by
  unfold F_check_parts
  exact w_def' (n := 4) (b := m_check_parts) (ds := [a0]) (δ := [some a0, none, none, none]) rfl h
theorem wd_check_bound {a0 : D} (h : Ws (m_check_bound [some a0] S) (kE QD E)) : Wr (F_check_bound [a0] S) QD E := by
  unfold F_check_bound
  exact w_def' (n := 1) (b := m_check_bound) (ds := [a0]) (δ := [some a0]) rfl h
theorem wd_tables_of {a0 a1 : D} (h : Ws (m_tables_of [some a0, some a1, none, none, none, none, none, none, none, none] S) (kE QD E)) : Wr (F_tables_of [a0, a1] S) QD E := by
  unfold F_tables_of
  exact w_def' (n := 10) (b := m_tables_of) (ds := [a0, a1]) (δ := [some a0, some a1, none, none, none, none, none, none, none, none]) rfl h
theorem wd_judge_plan {a0 a1 : D} (h : Ws (m_judge_plan [some a0, some a1, none, none, none, none, none, none, none, none, none, none] S) (kE QD E)) : Wr (F_judge_plan [a0, a1] S) QD E := by
  unfold F_judge_plan
  exact w_def' (n := 12) (b := m_judge_plan) (ds := [a0, a1]) (δ := [some a0, some a1, none, none, none, none, none, none, none, none, none, none]) rfl h
theorem wd_costs_by {a0 a1 : D} (h : Ws (m_costs_by [some a0, some a1] S) (kE QD E)) : Wr (F_costs_by [a0, a1] S) QD E := by
  unfold F_costs_by
  exact w_def' (n := 2) (b := m_costs_by) (ds := [a0, a1]) (δ := [some a0, some a1]) rfl h
theorem wd_accept_plan {a0 a1 a2 a3 : D} (h : Ws (m_accept_plan [some a0, some a1, some a2, some a3, none, none, none, none] S) (kE QD E)) : Wr (F_accept_plan [a0, a1, a2, a3] S) QD E := by
  unfold F_accept_plan
  exact w_def' (n := 8) (b := m_accept_plan) (ds := [a0, a1, a2, a3]) (δ := [some a0, some a1, some a2, some a3, none, none, none, none]) rfl h
theorem wd_accept_least {a0 a1 a2 a3 : D} (h : Ws (m_accept_least [some a0, some a1, some a2, some a3, none, none, none, none, none, none, none] S) (kE QD E)) : Wr (F_accept_least [a0, a1, a2, a3] S) QD E := by
  unfold F_accept_least
  exact w_def' (n := 11) (b := m_accept_least) (ds := [a0, a1, a2, a3]) (δ := [some a0, some a1, some a2, some a3, none, none, none, none, none, none, none]) rfl h
theorem wd_needless_options {a0 : D} (h : Ws (m_needless_options [some a0, none, none, none, none, none, none, none, none, none] S) (kE QD E)) : Wr (F_needless_options [a0] S) QD E := by
  unfold F_needless_options
  exact w_def' (n := 10) (b := m_needless_options) (ds := [a0]) (δ := [some a0, none, none, none, none, none, none, none, none, none]) rfl h
theorem wd_next_saving {a0 a1 : D} (h : Ws (m_next_saving [some a0, some a1, none, none, none] S) (kE QD E)) : Wr (F_next_saving [a0, a1] S) QD E := by
  unfold F_next_saving
  exact w_def' (n := 5) (b := m_next_saving) (ds := [a0, a1]) (δ := [some a0, some a1, none, none, none]) rfl h
theorem wd__law_start {a0 : D} (h : Ws (m__law_start [some a0, none, none] S) (kE QD E)) : Wr (F__law_start [a0] S) QD E := by
  unfold F__law_start
  exact w_def' (n := 3) (b := m__law_start) (ds := [a0]) (δ := [some a0, none, none]) rfl h
theorem wd__law_draw {a0 a1 : D} (h : Ws (m__law_draw [some a0, some a1, none] S) (kE QD E)) : Wr (F__law_draw [a0, a1] S) QD E := by
  unfold F__law_draw
  exact w_def' (n := 3) (b := m__law_draw) (ds := [a0, a1]) (δ := [some a0, some a1, none]) rfl h
theorem wd__law_pick {a0 a1 : D} (h : Ws (m__law_pick [some a0, some a1] S) (kE QD E)) : Wr (F__law_pick [a0, a1] S) QD E := by
  unfold F__law_pick
  exact w_def' (n := 2) (b := m__law_pick) (ds := [a0, a1]) (δ := [some a0, some a1]) rfl h
theorem wd__law_word {a0 : D} (h : Ws (m__law_word [some a0] S) (kE QD E)) : Wr (F__law_word [a0] S) QD E := by
  unfold F__law_word
  exact w_def' (n := 1) (b := m__law_word) (ds := [a0]) (δ := [some a0]) rfl h
theorem wd__law_asked {a0 a1 : D} (h : Ws (m__law_asked [some a0, some a1] S) (kE QD E)) : Wr (F__law_asked [a0, a1] S) QD E := by
  unfold F__law_asked
  exact w_def' (n := 2) (b := m__law_asked) (ds := [a0, a1]) (δ := [some a0, some a1]) rfl h
theorem wd__law_heard {a0 a1 : D} (h : Ws (m__law_heard [some a0, some a1, none] S) (kE QD E)) : Wr (F__law_heard [a0, a1] S) QD E := by
  unfold F__law_heard
  exact w_def' (n := 3) (b := m__law_heard) (ds := [a0, a1]) (δ := [some a0, some a1, none]) rfl h
theorem wd__law_whole {a0 : D} (h : Ws (m__law_whole [some a0] S) (kE QD E)) : Wr (F__law_whole [a0] S) QD E := by
  unfold F__law_whole
  exact w_def' (n := 1) (b := m__law_whole) (ds := [a0]) (δ := [some a0]) rfl h
theorem wd__law_rows {a0 a1 : D} (h : Ws (m__law_rows [some a0, some a1, none, none, none, none, none, none, none] S) (kE QD E)) : Wr (F__law_rows [a0, a1] S) QD E := by
  unfold F__law_rows
  exact w_def' (n := 9) (b := m__law_rows) (ds := [a0, a1]) (δ := [some a0, some a1, none, none, none, none, none, none, none]) rfl h
theorem wd__law_plan_due {a0 a1 a2 a3 : D} (h : Ws (m__law_plan_due [some a0, some a1, some a2, some a3, none, none, none, none] S) (kE QD E)) : Wr (F__law_plan_due [a0, a1, a2, a3] S) QD E := by
  unfold F__law_plan_due
  exact w_def' (n := 8) (b := m__law_plan_due) (ds := [a0, a1, a2, a3]) (δ := [some a0, some a1, some a2, some a3, none, none, none, none]) rfl h
theorem wd__law_least_due {a0 a1 a2 a3 : D} (h : Ws (m__law_least_due [some a0, some a1, some a2, some a3, none, none, none, none, none, none] S) (kE QD E)) : Wr (F__law_least_due [a0, a1, a2, a3] S) QD E := by
  unfold F__law_least_due
  exact w_def' (n := 10) (b := m__law_least_due) (ds := [a0, a1, a2, a3]) (δ := [some a0, some a1, some a2, some a3, none, none, none, none, none, none]) rfl h
theorem wd__law_put {a0 a1 a2 a3 : D} (h : Ws (m__law_put [some a0, some a1, some a2, some a3] S) (kE QD E)) : Wr (F__law_put [a0, a1, a2, a3] S) QD E := by
  unfold F__law_put
  exact w_def' (n := 4) (b := m__law_put) (ds := [a0, a1, a2, a3]) (δ := [some a0, some a1, some a2, some a3]) rfl h
theorem wd__law_papers_hold {a0 : D} (h : Ws (m__law_papers_hold [some a0, none, none, none, none, none, none, none, none, none, none, none, none, none, none] S) (kE QD E)) : Wr (F__law_papers_hold [a0] S) QD E := by
  unfold F__law_papers_hold
  exact w_def' (n := 15) (b := m__law_papers_hold) (ds := [a0]) (δ := [some a0, none, none, none, none, none, none, none, none, none, none, none, none, none, none]) rfl h
theorem wd__law_arguments_hold {a0 : D} (h : Ws (m__law_arguments_hold [some a0, none, none, none, none, none, none, none, none, none] S) (kE QD E)) : Wr (F__law_arguments_hold [a0] S) QD E := by
  unfold F__law_arguments_hold
  exact w_def' (n := 10) (b := m__law_arguments_hold) (ds := [a0]) (δ := [some a0, none, none, none, none, none, none, none, none, none]) rfl h
theorem wd_law {a0 : D} (h : Ws (m_law [some a0, none] S) (kE QD E)) : Wr (F_law [a0] S) QD E := by
  unfold F_law
  exact w_def' (n := 2) (b := m_law) (ds := [a0]) (δ := [some a0, none]) rfl h
end
end Lw

open PySem L2
/-! ### the newest list of the store -/
section
variable {S : Store} {ds : List D} {d e : D}
theorem loc_get {c : Cell} : (S ++ [c])[S.length]? = some c := by simp
theorem loc_set {c c' : Cell} : (S ++ [c]).set S.length c' = S ++ [c'] := by simp
theorem loc_list : listOf (S ++ [.lst ds]) (.loc S.length) = some ds := by
  show (match (S ++ [Cell.lst ds])[S.length]? with | some (.lst ds) => some ds | _ => none) = _
  rw [loc_get]
theorem ix_last : ixD (S ++ [.lst (ds ++ [d])]) (.loc S.length) (.int (-1)) = some d := by
  show (match listOf (S ++ [.lst (ds ++ [d])]) (.loc S.length) with | some ds => atI ds (-1) | none => none) = _
  rw [loc_list]
  show atI (ds ++ [d]) (-1) = some d
  unfold atI ixN
  rw [if_neg (by omega), if_pos (by simp; omega)]
  have e : (-1 + ((ds ++ [d]).length : Int)).toNat = ds.length := by simp; omega
  show (ds ++ [d])[((-1 : Int) + ((ds ++ [d]).length : Int)).toNat]? = some d
  rw [e]
  simp
theorem mt_loc : mtTy "list" (S ++ [.lst ds]) (.loc S.length) = true := by
  show (match (S ++ [Cell.lst ds])[S.length]? with | some (.lst _) => decide ("list" = "list") | some (.dic _) => decide ("list" = "dict") | none => false) = true
  rw [loc_get]
  rfl
theorem ix_loc {i : Nat} (h : ds[i]? = some d) : ixD (S ++ [.lst ds]) (.loc S.length) (.int (i : Int)) = some d := by
  show (match listOf (S ++ [.lst ds]) (.loc S.length) with | some ds => atI ds (i : Int) | none => none) = _
  rw [loc_list]
  show atI ds (i : Int) = _
  rw [atI_nat, h]
theorem app_loc (h : ds.length < sizeLine) : appendD (S ++ [.lst ds]) (.loc S.length) [e] = some (.non, S ++ [.lst (ds ++ [e])]) := by
  show (match (S ++ [Cell.lst ds])[S.length]? with | some (.lst xs) => ((if xs.length < sizeLine then some (D.non, xs ++ [e]) else none).map fun q : D × List D => (q.1, (S ++ [Cell.lst ds]).set S.length (.lst q.2))) | _ => none) = _
  rw [loc_get]
  simp only
  rw [if_pos h]
  show some (D.non, (S ++ [Cell.lst ds]).set S.length (.lst (ds ++ [e]))) = _
  rw [loc_set]
theorem len_loc : lenD (S ++ [.lst ds]) [.loc S.length] = some (.int ds.length) := by
  show (match (S ++ [Cell.lst ds])[S.length]? with | some (.lst ds) => some (D.int ds.length) | some (.dic kvs) => some (.int kvs.length) | none => none) = _
  rw [loc_get]
theorem tup_loc : tupD (S ++ [.lst ds]) [.loc S.length] = some (.tup ds) := by
  show (match listOf (S ++ [.lst ds]) (.loc S.length) with | some ds => some (D.tup ds) | none => none) = _
  rw [loc_list]
theorem sl_loc {lo hi : Option Int} : slD (S ++ [.lst ds]) (.loc S.length) lo hi = some (.lst (cutD ds lo hi)) := by
  show (match listOf (S ++ [.lst ds]) (.loc S.length) with | some ds => some (D.lst (cutD ds lo hi)) | none => none) = _
  rw [loc_list]
theorem max_lst {ks : List Int} (h : ks ≠ []) : ∃ m, maxD2 S [.lst (ks.map D.int)] = some (.int m) ∧ m ∈ ks ∧ ∀ j ∈ ks, j ≤ m := by
  have e : maxD2 S [.lst (ks.map D.int)] = (maxL ks).map D.int := by
    show ((unI (ks.map D.int)).bind fun is => (maxL is).map D.int) = _
    have := unI_mapf (p := id) ks
    simp only [id_eq, List.map_id] at this
    rw [show ks.map D.int = ks.map fun d => D.int d from rfl, this]
    rfl
  cases ks with
  | nil => exact absurd rfl h
  | cons k ks =>
    obtain ⟨h1, h2⟩ := maxL_ok (is := k :: ks) rfl
    exact ⟨_, by rw [e]; rfl, h1, h2⟩
end
open PySem
theorem eq_ss {S : Store} {x y : Str} : eqD S (.str x) (.str y) = some (.bl (decide (x = y))) := by
  show some (D.bl (x == y)) = _
  by_cases h : x = y
  · subst h; simp
  · rw [decide_eq_false h]
    congr 2
    exact beq_eq_false_iff_ne.mpr h
theorem ne_ss {S : Store} {x y : Str} : neD S (.str x) (.str y) = some (.bl (!decide (x = y))) := by
  show some (D.bl (!(x == y))) = _
  by_cases h : x = y
  · subst h; simp
  · rw [decide_eq_false h, beq_eq_false_iff_ne.mpr h]
open PySem
theorem St.cons {S r : Store} (h : St S r) : ∃ c0, S = c0 :: r := by
  obtain ⟨ns, a, b, c, rfl, _⟩ := h.ex
  exact ⟨_, rfl⟩
/-- the cells behind the state change -/
theorem St.swap {c0 : Cell} {r r' : Store} (h : St (c0 :: r) r) : St (c0 :: r') r' := by
  obtain ⟨ns, a, b, c, e, h2⟩ := h.ex
  injection e with e1 _
  exact ⟨⟨ns, a, b, c, by rw [e1], h2⟩⟩
theorem St.more {S r : Store} {c : Cell} (h : St S r) : St (S ++ [c]) (r ++ [c]) := by
  obtain ⟨c0, rfl⟩ := h.cons
  exact St.swap (r' := r ++ [c]) h
theorem St.mores {S r : Store} {cs : List Cell} (h : St S r) : St (S ++ cs) (r ++ cs) := by
  obtain ⟨c0, rfl⟩ := h.cons
  exact St.swap (r' := r ++ cs) h
theorem tr_loc {S : Store} {ds : List D} : truD (S ++ [.lst ds]) (.loc S.length) = some (!ds.isEmpty) := by
  show (match (S ++ [Cell.lst ds])[S.length]? with | some (.lst ds) => some (!ds.isEmpty) | some (.dic kvs) => some (!kvs.isEmpty) | none => none) = _
  rw [loc_get]
open PySem L2
/-- the drawing's state at place 0, a list at place L -/
structure JR (L : Nat) (cs : List D) (S : Store) : Prop where
  ex : ∃ r, St S r
  pos : 1 ≤ L
  get : S[L]? = some (.lst cs)
section
variable {L : Nat} {cs : List D} {S S' r : Store}
theorem JR.step (h : JR L cs S) (hr : St S r) (hr' : St S' r) : JR L cs S' := by
  obtain ⟨c, rfl⟩ := hr.cons
  obtain ⟨c', rfl⟩ := hr'.cons
  refine ⟨⟨r, hr'⟩, h.pos, ?_⟩
  have g := h.get
  obtain ⟨l, hl⟩ := Nat.exists_eq_add_of_le' h.pos
  rw [hl] at g ⊢
  exact g
theorem JR.more (h : JR L cs S) (m : Store) : JR L cs (S ++ m) := by
  obtain ⟨r, hr⟩ := h.ex
  refine ⟨⟨_, hr.mores⟩, h.pos, ?_⟩
  have hl : L < S.length := (List.getElem?_eq_some_iff.mp h.get).1
  rw [List.getElem?_append_left hl]
  exact h.get
theorem JR.list (h : JR L cs S) : listOf S (.loc L) = some cs := by
  show (match S[L]? with | some (.lst ds) => some ds | _ => none) = _
  rw [h.get]
theorem JR.ix {i : Nat} {d : D} (h : JR L cs S) (e : cs[i]? = some d) : ixD S (.loc L) (.int (i : Int)) = some d := by
  show (match listOf S (.loc L) with | some ds => atI ds (i : Int) | none => none) = _
  rw [h.list]
  show atI cs (i : Int) = _
  rw [atI_nat, e]
theorem JR.last {ds : List D} {d : D} (h : JR L (ds ++ [d]) S) : ixD S (.loc L) (.int (-1)) = some d := by
  show (match listOf S (.loc L) with | some ds => atI ds (-1) | none => none) = _
  rw [h.list]
  show atI (ds ++ [d]) (-1) = some d
  unfold atI ixN
  rw [if_neg (by omega), if_pos (by simp; omega)]
  have e : (-1 + ((ds ++ [d]).length : Int)).toNat = ds.length := by simp; omega
  show (ds ++ [d])[((-1 : Int) + ((ds ++ [d]).length : Int)).toNat]? = some d
  rw [e]
  simp
theorem JR.len (h : JR L cs S) : lenD S [.loc L] = some (.int cs.length) := by
  show (match S[L]? with | some (.lst ds) => some (D.int ds.length) | some (.dic kvs) => some (.int kvs.length) | none => none) = _
  rw [h.get]
theorem JR.sl {lo hi : Option Int} (h : JR L cs S) : slD S (.loc L) lo hi = some (.lst (cutD cs lo hi)) := by
  show (match listOf S (.loc L) with | some ds => some (D.lst (cutD ds lo hi)) | none => none) = _
  rw [h.list]
end

namespace Lw
open PySem Ev
/-! ### quotients -/
section
variable {S : Store} {QD : D → Store → Prop} {E : EK}
abbrev qD (r : Rat) : D := .tup [.int r.num, .int (r.den : Int)]
theorem bigN_gt {b : Nat} (h : b < 2 ^ 4000) : b < bigN := by rw [bigN_eq]; exact h
theorem gd_ok {a b : Nat} (hb : b < 2 ^ 4000) : F_greatest_divisor [.int (a : Nat), .int (b : Nat)] S = .ok (.int (Nat.gcd a b : Nat)) S := by
  refine Wr.eqn (wd_greatest_divisor ?_)
  unfold m_greatest_divisor
  refine s_seq ?_
  refine s_while (I := fun m δ S' => S' = S ∧ ∃ x y : Nat, δ = [some (.int (x : Nat)), some (.int (y : Nat))] ∧ m = y ∧ Nat.gcd x y = Nat.gcd a b) ?_ bigN b _ _ (bigN_gt hb) ⟨rfl, a, b, rfl, rfl, rfl⟩
  rintro y δ S' ⟨rfl, x, _, rfl, rfl, hg⟩
  walk_at "wv"
  refine ⟨fun h => ?_, fun h => ?_⟩
  · have h : 0 < y := by have := of_decide_eq_true h; omega
    walk_at "wv"
    walk_at "wv"
    refine ⟨x % y, Nat.mod_lt _ h, rfl, y, x % y, ?_, rfl, ?_⟩
    · rw [Int.natCast_emod]; rfl
    · rw [← hg, Nat.gcd_comm y, ← Nat.gcd_rec, Nat.gcd_comm]
  · have h : y = 0 := by have := of_decide_eq_false h; omega
    subst h
    walk_at "wv"
    rw [Nat.gcd_zero_right] at hg
    exact ⟨by rw [hg], rfl⟩
theorem mk_nd {u : Int} {d : Nat} (h : d ≠ 0) : (mkRat u d).num = u / (Nat.gcd u.natAbs d : Nat) ∧ (mkRat u d).den = d / Nat.gcd u.natAbs d := by
  rw [Rat.mkRat_def, dif_neg h, Rat.normalize_eq]
  exact ⟨rfl, rfl⟩
theorem quot_pos {u : Int} {d : Nat} (hd : d ≠ 0) (hu : u.natAbs < 2 ^ 3900) (hd2 : d < 2 ^ 3900) : F_quotient [.int u, .int (d : Nat)] S = .ok (qD (mkRat u d)) S := by
  have hb : d < 2 ^ 4000 := Nat.lt_of_lt_of_le hd2 (Nat.pow_le_pow_right (by omega) (by omega))
  have ha : (if u < 0 then -u else u) = (u.natAbs : Int) := by split <;> omega
  have hg : 0 < Nat.gcd u.natAbs d := Nat.gcd_pos_of_pos_right _ (by omega)
  have hgl : ((Nat.gcd u.natAbs d : Nat) : Int).natAbs.log2 < 9000 := by
    have h1 : Nat.gcd u.natAbs d ≤ d := Nat.le_of_dvd (by omega) (Nat.gcd_dvd_right _ _)
    have := log_le (i := ((Nat.gcd u.natAbs d : Nat) : Int)) (k := 4000) (by rw [Int.natAbs_natCast]; exact Nat.lt_of_le_of_lt h1 hb)
    omega
  refine Wr.eqn (wd_quotient ?_)
  unfold m_quotient
  walk_at "wv"
  rw [ha]
  refine Wr.eq (gd_ok hb) ?_
  walk_at "wv"
  refine ⟨rfl, ?_, rfl⟩
  obtain ⟨e1, e2⟩ := mk_nd (u := u) hd
  rw [qD, e1, e2, Int.natCast_ediv]
theorem quot_ok {u d : Int} (hd : d ≠ 0) (hu : u.natAbs < 2 ^ 3900) (hd2 : d.natAbs < 2 ^ 3900) : F_quotient [.int u, .int d] S = .ok (qD (Rat.divInt u d)) S := by
  by_cases h : 0 < d
  · obtain ⟨k, rfl⟩ := Int.eq_ofNat_of_zero_le (Int.le_of_lt h)
    rw [Rat.divInt_ofNat]
    exact quot_pos (by omega) hu (by simpa using hd2)
  · -- as with both signs turned
    obtain ⟨k, hk⟩ := Int.eq_ofNat_of_zero_le (show 0 ≤ -d by omega)
    have hk0 : k ≠ 0 := by omega
    have hk2 : k < 2 ^ 3900 := by omega
    have e := quot_pos (S := S) (u := -u) (d := k) hk0 (by omega) hk2
    have hb : (k : Nat) < 2 ^ 4000 := Nat.lt_of_lt_of_le hk2 (Nat.pow_le_pow_right (by omega) (by omega))
    have ed : Rat.divInt u d = mkRat (-u) k := by
      rw [← Rat.neg_divInt_neg, hk, Rat.divInt_ofNat]
    rw [ed]
    have hg : 0 < Nat.gcd (-u).natAbs k := Nat.gcd_pos_of_pos_right _ (by omega)
    have hgl : ((Nat.gcd (-u).natAbs k : Nat) : Int).natAbs.log2 < 9000 := by
      have h1 : Nat.gcd (-u).natAbs k ≤ k := Nat.le_of_dvd (by omega) (Nat.gcd_dvd_right _ _)
      have := log_le (i := ((Nat.gcd (-u).natAbs k : Nat) : Int)) (k := 4000) (by rw [Int.natAbs_natCast]; exact Nat.lt_of_le_of_lt h1 hb)
      omega
    have ha : (if -u < 0 then - -u else -u) = ((-u).natAbs : Int) := by split <;> omega
    refine Wr.eqn (wd_quotient ?_)
    unfold m_quotient
    walk_at "wv"
    refine ya_of (decide_eq_true (by omega)) ?_
    walk_at "wv"
    rw [hk, ha]
    refine Wr.eq (gd_ok hb) ?_
    walk_at "wv"
    refine ⟨rfl, ?_, rfl⟩
    obtain ⟨e1, e2⟩ := mk_nd (u := -u) hk0
    rw [qD, e1, e2, Int.natCast_ediv]
/-- how great a quotient's parts are -/
structure Sz (k : Nat) (r : Rat) : Prop where
  num : r.num.natAbs < 2 ^ k
  den : r.den < 2 ^ k
theorem Sz.mono {j k : Nat} {r : Rat} (h : Sz j r) (hk : j ≤ k) : Sz k r := ⟨Nat.lt_of_lt_of_le h.num (Nat.pow_le_pow_right (by omega) hk), Nat.lt_of_lt_of_le h.den (Nat.pow_le_pow_right (by omega) hk)⟩
theorem sz_mk {k : Nat} {n : Int} {d : Nat} (hd : d ≠ 0) (hn : n.natAbs < 2 ^ k) (h2 : d < 2 ^ k) : Sz k (mkRat n d) := by
  obtain ⟨e1, e2⟩ := mk_nd (u := n) hd
  refine ⟨?_, ?_⟩
  · rw [e1]
    refine Nat.lt_of_le_of_lt ?_ hn
    rw [Int.natAbs_ediv_of_dvd (Int.ofNat_dvd_left.mpr (Nat.gcd_dvd_left _ _))]
    exact Nat.div_le_self _ _
  · rw [e2]
    exact Nat.lt_of_le_of_lt (Nat.div_le_self _ _) h2
theorem sz_mul_den {a b : Nat} {r s : Rat} (hr : Sz a r) (hs : Sz b s) : r.den * s.den < 2 ^ (a + b) := by
  rw [Nat.pow_add]
  exact Nat.mul_lt_mul'' hr.den hs.den
theorem mul_lt2 {a b x y : Nat} (hx : x < 2 ^ a) (hy : y < 2 ^ b) : x * y < 2 ^ (a + b) := by
  rw [Nat.pow_add]
  exact Nat.mul_lt_mul'' hx hy
theorem sz_add {a b : Nat} {r s : Rat} (hr : Sz a r) (hs : Sz b s) : Sz (a + b + 1) (r + s) := by
  rw [Rat.add_def']
  have h1 := mul_lt2 hr.num hs.den
  have h2 := mul_lt2 hs.num hr.den
  have h3 := sz_mul_den hr hs
  rw [Nat.add_comm b a] at h2
  have h4 : 2 ^ (a + b + 1) = 2 ^ (a + b) + 2 ^ (a + b) := by rw [Nat.pow_succ]; omega
  refine sz_mk (Nat.mul_ne_zero r.den_nz s.den_nz) ?_ (by omega)
  refine Nat.lt_of_le_of_lt (Int.natAbs_add_le _ _) ?_
  rw [Int.natAbs_mul, Int.natAbs_mul, Int.natAbs_natCast, Int.natAbs_natCast]
  omega
theorem sz_neg {a : Nat} {r : Rat} (hr : Sz a r) : Sz a (-r) := ⟨by rw [Rat.neg_num, Int.natAbs_neg]; exact hr.num, by rw [Rat.neg_den]; exact hr.den⟩
theorem sz_sub {a b : Nat} {r s : Rat} (hr : Sz a r) (hs : Sz b s) : Sz (a + b + 1) (r - s) := by
  rw [Rat.sub_eq_add_neg]
  exact sz_add hr (sz_neg hs)
theorem sz_mul {a b : Nat} {r s : Rat} (hr : Sz a r) (hs : Sz b s) : Sz (a + b) (r * s) := by
  rw [Rat.mul_def']
  refine sz_mk (Nat.mul_ne_zero r.den_nz s.den_nz) ?_ (sz_mul_den hr hs)
  rw [Int.natAbs_mul]
  exact mul_lt2 hr.num hs.num
theorem mul_q {i j : Int} {a b : Nat} (hi : i.natAbs < 2 ^ a) (hj : j.natAbs < 2 ^ b) (hab : a + b < 1000000) : mulV S (.int i) (.int j) = some (.int (i * j)) := by
  have := log_le hi
  have := log_le hj
  exact mul_ii (by omega)
theorem q0 {r : Rat} : ixD S (qD r) (.int 0) = some (.int r.num) := rfl
theorem q1 {r : Rat} : ixD S (qD r) (.int 1) = some (.int (r.den : Int)) := rfl
theorem nat_lt2 {d k : Nat} (h : d < 2 ^ k) : ((d : Nat) : Int).natAbs < 2 ^ k := by rw [Int.natAbs_natCast]; exact h
theorem pow_le39 {k : Nat} (h : k ≤ 3900) : 2 ^ k ≤ 2 ^ 3900 := Nat.pow_le_pow_right (by omega) h
theorem plus_ok {a b : Nat} {r s : Rat} (hr : Sz a r) (hs : Sz b s) (hab : a + b < 3900) : F_plus [qD r, qD s] S = .ok (qD (r + s)) S := by
  refine Wr.eqn (wd_plus ?_)
  unfold m_plus
  walk_at "wv"
  refine Wr.out q0 ?_
  walk_at "wv"
  refine Wr.out q1 ?_
  refine Wr.out (mul_q hr.num (nat_lt2 hs.den) (by omega)) ?_
  walk_at "wv"
  refine Wr.out q0 ?_
  walk_at "wv"
  refine Wr.out q1 ?_
  refine Wr.out (mul_q hs.num (nat_lt2 hr.den) (by omega)) ?_
  walk_at "wv"
  refine Wr.out q1 ?_
  walk_at "wv"
  refine Wr.out q1 ?_
  refine Wr.out (mul_q (nat_lt2 hr.den) (nat_lt2 hs.den) (by omega)) ?_
  walk_at "wv"
  have e : ((r.den : Int) * (s.den : Int)) = ((r.den * s.den : Nat) : Int) := by rw [Int.natCast_mul]
  rw [e]
  have h1 := mul_lt2 hr.num hs.den
  have h2 := mul_lt2 hs.num hr.den
  have h3 := sz_mul_den hr hs
  have h4 := pow_le39 (k := a + b + 1) (by omega)
  have h5 : 2 ^ (a + b + 1) = 2 ^ (a + b) + 2 ^ (a + b) := by rw [Nat.pow_succ]; omega
  rw [Nat.add_comm b a] at h2
  refine Wr.eq (quot_pos (Nat.mul_ne_zero r.den_nz s.den_nz) ?_ (by omega)) ?_
  · refine Nat.lt_of_le_of_lt (Int.natAbs_add_le _ _) ?_
    rw [Int.natAbs_mul, Int.natAbs_mul, Int.natAbs_natCast, Int.natAbs_natCast]
    omega
  · rw [Rat.add_def']
    exact ⟨rfl, rfl⟩
theorem minus_ok {a b : Nat} {r s : Rat} (hr : Sz a r) (hs : Sz b s) (hab : a + b < 3900) : F_minus [qD r, qD s] S = .ok (qD (r - s)) S := by
  refine Wr.eqn (wd_minus ?_)
  unfold m_minus
  walk_at "wv"
  refine Wr.out q0 ?_
  walk_at "wv"
  refine Wr.out q1 ?_
  refine Wr.out (mul_q hr.num (nat_lt2 hs.den) (by omega)) ?_
  walk_at "wv"
  refine Wr.out q0 ?_
  walk_at "wv"
  refine Wr.out q1 ?_
  refine Wr.out (mul_q hs.num (nat_lt2 hr.den) (by omega)) ?_
  walk_at "wv"
  refine Wr.out q1 ?_
  walk_at "wv"
  refine Wr.out q1 ?_
  refine Wr.out (mul_q (nat_lt2 hr.den) (nat_lt2 hs.den) (by omega)) ?_
  walk_at "wv"
  have e : ((r.den : Int) * (s.den : Int)) = ((r.den * s.den : Nat) : Int) := by rw [Int.natCast_mul]
  rw [e]
  have h1 := mul_lt2 hr.num hs.den
  have h2 := mul_lt2 hs.num hr.den
  have h3 := sz_mul_den hr hs
  have h4 := pow_le39 (k := a + b + 1) (by omega)
  have h5 : 2 ^ (a + b + 1) = 2 ^ (a + b) + 2 ^ (a + b) := by rw [Nat.pow_succ]; omega
  rw [Nat.add_comm b a] at h2
  refine Wr.eq (quot_pos (Nat.mul_ne_zero r.den_nz s.den_nz) ?_ (by omega)) ?_
  · refine Nat.lt_of_le_of_lt (Int.natAbs_sub_le _ _) ?_
    rw [Int.natAbs_mul, Int.natAbs_mul, Int.natAbs_natCast, Int.natAbs_natCast]
    omega
  · rw [Rat.sub_def']
    exact ⟨rfl, rfl⟩
theorem times_ok {a b : Nat} {r s : Rat} (hr : Sz a r) (hs : Sz b s) (hab : a + b < 3900) : F_times [qD r, qD s] S = .ok (qD (r * s)) S := by
  refine Wr.eqn (wd_times ?_)
  unfold m_times
  walk_at "wv"
  refine Wr.out q0 ?_
  walk_at "wv"
  refine Wr.out q0 ?_
  refine Wr.out (mul_q hr.num hs.num (by omega)) ?_
  walk_at "wv"
  refine Wr.out q1 ?_
  walk_at "wv"
  refine Wr.out q1 ?_
  refine Wr.out (mul_q (nat_lt2 hr.den) (nat_lt2 hs.den) (by omega)) ?_
  walk_at "wv"
  have e : ((r.den : Int) * (s.den : Int)) = ((r.den * s.den : Nat) : Int) := by rw [Int.natCast_mul]
  rw [e]
  have h1 := mul_lt2 hr.num hs.num
  have h3 := sz_mul_den hr hs
  have h4 := pow_le39 (k := a + b) (by omega)
  refine Wr.eq (quot_pos (Nat.mul_ne_zero r.den_nz s.den_nz) (by rw [Int.natAbs_mul]; omega) (by omega)) ?_
  rw [Rat.mul_def']
  exact ⟨rfl, rfl⟩
theorem over_ok {a b : Nat} {r s : Rat} (hr : Sz a r) (hs : Sz b s) (hz : s ≠ 0) (hab : a + b < 3900) : F_over [qD r, qD s] S = .ok (qD (r / s)) S := by
  have hn : s.num ≠ 0 := fun z => hz (Rat.num_eq_zero.mp z)
  refine Wr.eqn (wd_over ?_)
  unfold m_over
  walk_at "wv"
  refine Wr.out q0 ?_
  walk_at "wv"
  refine Wr.out q1 ?_
  refine Wr.out (mul_q hr.num (nat_lt2 hs.den) (by omega)) ?_
  walk_at "wv"
  refine Wr.out q1 ?_
  walk_at "wv"
  refine Wr.out q0 ?_
  refine Wr.out (mul_q (nat_lt2 hr.den) hs.num (by omega)) ?_
  walk_at "wv"
  have h1 := mul_lt2 hr.num hs.den
  have h2 := mul_lt2 hr.den hs.num
  have h4 := pow_le39 (k := a + b) (by omega)
  refine Wr.eq (quot_ok (Int.mul_ne_zero (Int.natCast_ne_zero.mpr r.den_nz) hn) (by rw [Int.natAbs_mul, Int.natAbs_natCast]; omega) (by rw [Int.natAbs_mul, Int.natAbs_natCast]; omega)) ?_
  refine ⟨?_, rfl⟩
  congr 1
  rw [Rat.div_def, Rat.inv_def, ← Rat.divInt_mul_divInt]
  congr 1
  exact Rat.num_divInt_den r
theorem less_ok {a b : Nat} {r s : Rat} (hr : Sz a r) (hs : Sz b s) (hab : a + b < 900000) : F_is_less [qD r, qD s] S = .ok (.bl (decide (r < s))) S := by
  refine Wr.eqn (wd_is_less ?_)
  unfold m_is_less
  walk_at "wv"
  refine Wr.out q0 ?_
  walk_at "wv"
  refine Wr.out q1 ?_
  refine Wr.out (mul_q hr.num (nat_lt2 hs.den) (by omega)) ?_
  walk_at "wv"
  refine Wr.out q0 ?_
  walk_at "wv"
  refine Wr.out q1 ?_
  refine Wr.out (mul_q hs.num (nat_lt2 hr.den) (by omega)) ?_
  walk_at "wv"
  refine ⟨?_, rfl⟩
  congr 1
  exact decide_eq_decide.mpr (Rat.lt_iff r s).symm
/-! ### what a quotient is -/
def isI : D → Bool
  | .int _ => true
  | _ => false
/-- what the checks may meet: no places, no errors -/
def plainA : D → Bool
  | .int _ => true
  | .bl _ => true
  | .str _ => true
  | .non => true
  | .tup _ => true
  | .lst _ => true
  | _ => false
def isTup : D → Bool
  | .tup _ => true
  | _ => false
def isStr : D → Bool
  | .str _ => true
  | _ => false
theorem isT_tuple {d : D} (h : plainA d = true) : isT "tuple" S d = some (isTup d) := by cases d <;> first | rfl | cases h
theorem isT_str {d : D} (h : plainA d = true) : isT "str" S d = some (isStr d) := by cases d <;> first | rfl | cases h
theorem is_integer_ok {d : D} (h : plainA d = true) : F_is_integer [d] S = .ok (.bl (isI d)) S := by
  cases d <;> first | rfl | cases h
/-- plain all through, whole numbers not too great -/
def Deep : Nat → D → Prop
  | _, .int i => i.natAbs < 2 ^ 3900
  | _, .bl _ => True
  | _, .str _ => True
  | _, .non => True
  | n + 1, .tup ds => ds.length ≤ 10000 ∧ ∀ d ∈ ds, Deep n d
  | _, _ => False
theorem Deep.plain {n : Nat} {d : D} (h : Deep n d) : plainA d = true := by
  cases d <;> first | rfl | (cases n <;> exact h.elim)
theorem Deep.tup {n : Nat} {ds : List D} (h : Deep n (.tup ds)) : ds.length ≤ 10000 ∧ ∀ d ∈ ds, plainA d = true := by
  cases n with
  | zero => exact h.elim
  | succ n => exact ⟨h.1, fun d hd => (h.2 d hd).plain⟩
theorem Deep.int {n : Nat} {i : Int} (h : Deep n (.int i)) : i.natAbs < 2 ^ 3900 := by
  cases n <;> exact h
theorem Deep.at {n : Nat} {ds : List D} (h : Deep (n + 1) (.tup ds)) {d : D} (hd : d ∈ ds) : Deep n d := h.2 d hd
/-- [f(part) for part in row], then all -/
def isQ : D → Bool
  | .tup [.int n, .int m] => decide (1 ≤ m) && decide (Nat.gcd n.natAbs m.natAbs = 1)
  | _ => false
theorem isQ_iff {d : D} : isQ d = true ↔ ∃ r : Rat, d = qD r := by
  constructor
  · intro h
    unfold isQ at h
    split at h
    · rename_i n m
      rw [Bool.and_eq_true] at h
      have h1 := of_decide_eq_true h.1
      have h2 := of_decide_eq_true h.2
      refine ⟨⟨n, m.natAbs, by omega, h2⟩, ?_⟩
      show D.tup [.int n, .int m] = .tup [.int n, .int (m.natAbs : Int)]
      rw [show (m.natAbs : Int) = m by omega]
    · cases h
  · rintro ⟨r, rfl⟩
    show (decide (1 ≤ (r.den : Int)) && decide (Nat.gcd r.num.natAbs ((r.den : Int)).natAbs = 1)) = true
    have h1 := r.den_nz
    rw [Int.natAbs_natCast, decide_eq_true (by omega), decide_eq_true r.reduced]
    rfl
theorem isQ_q {r : Rat} : isQ (qD r) = true := isQ_iff.mpr ⟨r, rfl⟩
theorem qD_inj {r s : Rat} (h : qD r = qD s) : r = s := by
  injection h with h
  injection h with h1 h2
  injection h2 with h2 _
  injection h1 with h1
  injection h2 with h2
  exact Rat.ext h1 (by omega)
theorem sl_le {n : Nat} (h : n ≤ 10000) : n ≤ sizeLine := Nat.le_trans h (by decide)
theorem all_ints {ds : List D} (h : ∀ d ∈ ds, isI d = true) : ∃ is : List Int, ds = is.map D.int := by
  obtain ⟨is, e, _⟩ := ints_of (P := fun _ => True) (ds := ds) fun d hd => by
    have := h d hd
    cases d <;> first | exact ⟨_, rfl, trivial⟩ | simp [isI] at this
  exact ⟨is, e⟩
theorem is_quotient_ok {n : Nat} {d : D} (hd : Deep n d) : F_is_quotient [d] S = .ok (.bl (isQ d)) S := by
  refine Wr.eqn (wd_is_quotient ?_)
  unfold m_is_quotient
  walk_at "wv"
  refine ⟨_, isT_tuple hd.plain, ?_⟩
  walk_at "wv"
  have no : ∀ {b : Bool}, b = false → (D.bl false = D.bl b ∧ S = S) := fun h => ⟨by rw [h], rfl⟩
  refine ⟨fun h => ⟨fun _ => ?_, fun z => by cases z⟩, fun h => ?_⟩
  · walk_at "wv"
    refine no ?_
    cases d <;> first | rfl | simp [isTup] at h
  cases d with
  | tup ds =>
    obtain ⟨hl, hp⟩ := hd.tup
    walk_at "wv"
    refine ⟨fun h => ⟨fun _ => ?_, fun z => by cases z⟩, fun h2 => ?_⟩
    · walk_at "wv"
      refine no ?_
      have h : ¬ ds.length = 2 := by simp at h; omega
      match ds with
      | [] => rfl
      | [a] => unfold isQ; split <;> first | rfl | (rename_i e; cases e)
      | [a, b] => exact absurd rfl h
      | a :: b :: c :: r => unfold isQ; split <;> first | rfl | (rename_i e; cases e)
    have h2 : ds.length = 2 := by simp at h2; omega
    match ds, h2 with
    | [a, b], _ =>
      walk_at "wv"
      refine w_lcm ?_
      walk_at "wv"
      refine Wr.out (a := itL [a, b]) rfl ?_
      refine ⟨D, [a, b], id, fun d => .bl (isI d), its_L, by show (2 : Nat) ≤ _; decide, fun d hd => ⟨_, rfl, ?_⟩, ?_⟩
      · refine Wr.eqn ?_
        walk_at "wv"
        exact Wr.eq (is_integer_ok (hp d hd)) ⟨rfl, rfl⟩
      walk_at "wv"
      refine Wr.out all_map ?_
      walk_at "wv"
      refine ⟨fun h => ?_, fun h => ?_⟩
      · walk_at "wv"
        refine no ?_
        simp only [List.all_cons, List.all_nil, Bool.and_true, Bool.not_eq_true', Bool.and_eq_false_iff] at h
        unfold isQ
        split
        · rename_i n m e
          simp only [D.tup.injEq, List.cons.injEq, and_true] at e
          obtain ⟨rfl, rfl⟩ := e
          simp [isI] at h
        · rfl
      obtain ⟨is, e⟩ := all_ints (ds := [a, b]) (fun d hd => by
        simp only [List.all_cons, List.all_nil, Bool.and_true, Bool.not_eq_false', Bool.and_eq_true] at h
        rcases List.mem_cons.mp hd with rfl | hd
        · exact h.1
        · rw [List.mem_singleton.mp hd]; exact h.2)
      match is, e with
      | [x, y], e =>
        simp only [List.map_cons, List.map_nil, List.cons.injEq, and_true] at e
        obtain ⟨rfl, rfl⟩ := e
        walk_at "wv"
        refine Wr.out (a := D.int y) rfl ?_
        walk_at "wv"
        refine ⟨fun h => ?_, fun h => ?_⟩
        · have h := of_decide_eq_true h
          walk_at "wv"
          refine Wr.out (a := D.int x) rfl ?_
          walk_at "wv"
          refine Wr.out (a := D.int y) rfl ?_
          walk_at "wv"
          have hy : y.natAbs < 2 ^ 3900 := by
            cases n with
            | zero => exact hd.elim
            | succ n => exact (hd.at (List.mem_cons_of_mem _ List.mem_cons_self)).int
          have e1 : (if x < 0 then -x else x) = (x.natAbs : Int) := by split <;> omega
          have e2 : y = (y.natAbs : Int) := by omega
          rw [e1]
          have := gd_ok (S := S) (a := x.natAbs) (b := y.natAbs) (Nat.lt_of_lt_of_le hy (Nat.pow_le_pow_right (by omega) (by omega)))
          rw [← e2] at this
          refine Wr.eq this ?_
          walk_at "wv"
          refine ⟨?_, rfl⟩
          congr 1
          show _ = (decide (1 ≤ y) && decide (Nat.gcd x.natAbs y.natAbs = 1))
          rw [decide_eq_true h, Bool.true_and]
          exact decide_eq_decide.mpr (by omega)
        · refine ⟨?_, rfl⟩
          congr 1
          show _ = (decide (1 ≤ y) && _)
          rw [h]
          rfl
      | [], e => cases e
      | [_], e => cases e
      | _ :: _ :: _ :: _, e => cases e
  | _ => simp [isTup] at h
/-- a number: not too great -/
def isN : D → Bool
  | .tup [.int n, .int m] => isQ (.tup [.int n, .int m]) && (decide (n.natAbs ≤ 1000000000000) && decide (m ≤ 1000000000000))
  | _ => false
structure Num (r : Rat) : Prop where
  num : r.num.natAbs ≤ 1000000000000
  den : r.den ≤ 1000000000000
theorem isN_iff {d : D} : isN d = true ↔ ∃ r : Rat, d = qD r ∧ Num r := by
  constructor
  · intro h
    unfold isN at h
    split at h
    · rename_i n m
      rw [Bool.and_eq_true, Bool.and_eq_true] at h
      obtain ⟨r, e⟩ := isQ_iff.mp h.1
      refine ⟨r, e, ?_⟩
      injection e with e
      injection e with e1 e2
      injection e2 with e2 _
      injection e1 with e1
      injection e2 with e2
      have h1 := of_decide_eq_true h.2.1
      have h2 := of_decide_eq_true h.2.2
      exact ⟨by omega, by omega⟩
    · cases h
  · rintro ⟨r, rfl, h⟩
    show (isQ (qD r) && (decide (r.num.natAbs ≤ 1000000000000) && decide ((r.den : Int) ≤ 1000000000000))) = true
    have := h.den
    rw [isQ_q, decide_eq_true h.num, decide_eq_true (by omega)]
    rfl
theorem isN_no {d : D} (h : isQ d = false) : isN d = false := by
  unfold isN
  split
  · rw [h]; rfl
  · rfl
theorem Num.sz {r : Rat} (h : Num r) : Sz 40 r := ⟨by have := h.num; omega, by have := h.den; omega⟩
theorem is_number_ok {n : Nat} {d : D} (hd : Deep n d) : F_is_number [d] S = .ok (.bl (isN d)) S := by
  refine Wr.eqn (wd_is_number ?_)
  unfold m_is_number
  walk_at "wv"
  refine Wr.eq (is_quotient_ok hd) ?_
  walk_at "wv"
  refine ⟨fun h => ?_, fun h => ⟨by rw [h, isN_no h], rfl⟩⟩
  obtain ⟨r, rfl⟩ := isQ_iff.mp h
  have e1 : (if r.num < 0 then -r.num else r.num) = (r.num.natAbs : Int) := by split <;> omega
  have eN : isN (qD r) = (decide (r.num.natAbs ≤ 1000000000000) && decide ((r.den : Int) ≤ 1000000000000)) := by
    show (isQ (qD r) && _) = _
    rw [h]
    exact Bool.true_and _
  walk_at "wv"
  refine Wr.out q0 ?_
  walk_at "wv"
  rw [e1]
  have e2 : decide ((r.num.natAbs : Int) ≤ 1000000000000) = decide (r.num.natAbs ≤ 1000000000000) := decide_eq_decide.mpr (by omega)
  rw [e2]
  refine ⟨fun h1 => ?_, fun h1 => ⟨by rw [eN, h1]; rfl, rfl⟩⟩
  walk_at "wv"
  refine Wr.out q1 ?_
  walk_at "wv"
  exact ⟨by rw [eN, h1, Bool.true_and], rfl⟩
/-- the sum of a row -/
theorem sz0 : Sz 1 (0 : Rat) := ⟨by decide, by decide⟩
theorem sz1 : Sz 1 (1 : Rat) := ⟨by decide, by decide⟩
theorem sum_of_ok {rs : List Rat} {k : Nat} (hr : ∀ r ∈ rs, Sz k r) (hk : (rs.length + 1) * (k + 2) < 3800) (hl : rs.length ≤ 10000) : F_sum_of [.lst (rs.map qD)] S = .ok (qD (rs.foldl (· + ·) 0)) S ∧ Sz (1 + rs.length * (k + 1)) (rs.foldl (· + ·) 0) := by
  have sz : ∀ i, i ≤ rs.length → Sz (1 + i * (k + 1)) ((rs.take i).foldl (· + ·) 0) := by
    intro i
    induction i with
    | zero => intro _; rw [Nat.zero_mul]; exact sz0
    | succ i ih =>
      intro h
      rw [List.take_succ_eq_append_getElem (by omega), List.foldl_append]
      refine (sz_add (ih (by omega)) (hr _ (List.getElem_mem (by omega)))).mono ?_
      rw [Nat.succ_mul]
      omega
  have szl := sz rs.length (Nat.le_refl _)
  rw [List.take_length] at szl
  refine ⟨Wr.eqn (wd_sum_of ?_), szl⟩
  unfold m_sum_of
  walk_at "wv"
  refine ⟨rfl, ?_⟩
  walk_at "wv"
  refine Wr.out (a := itL (rs.map qD)) rfl ?_
  refine forGo_its itsA_map (I := fun i δ S' => S' = S ∧ ∃ o, δ = [some (.lst (rs.map qD)), some (qD ((rs.take i).foldl (· + ·) 0)), o]) ⟨rfl, none, rfl⟩ ?_ ?_
  · rintro i hi δ S' ⟨rfl, o, rfl⟩
    refine ⟨_, _, rfl, ?_⟩
    dsimp only [List.set_cons_succ, List.set_cons_zero]
    walk_at "wv"
    have hb : 1 + i * (k + 1) + k < 3900 := by
      have : i * (k + 1) ≤ rs.length * (k + 1) := Nat.mul_le_mul_right _ (by omega)
      have e : (rs.length + 1) * (k + 2) = rs.length * (k + 1) + rs.length + (k + 2) := by
        rw [Nat.add_mul, Nat.mul_succ, Nat.one_mul]
      omega
    refine Wr.eq (plus_ok (sz i (by omega)) (hr _ (List.getElem_mem hi)) hb) ?_
    refine ⟨rfl, some (qD rs[i]), ?_⟩
    dsimp only [List.set_cons_succ, List.set_cons_zero]
    rw [List.take_succ_eq_append_getElem hi, List.foldl_append]
    rfl
  · rintro δ S' ⟨rfl, o, rfl⟩
    rw [List.take_length]
    walk_at "wv"
    exact ⟨rfl, rfl⟩
/-! ### quotients that are compared -/
theorem eqq_q {r s : Rat} : eqq (qD r) (qD s) = decide (r = s) := by
  simp only [qD, eqq, eqqL, Bool.and_true]
  by_cases h : r = s
  · subst h; simp
  · rw [decide_eq_false h, Bool.and_eq_false_iff]
    by_cases h1 : r.num = s.num
    · right
      rw [beq_eq_false_iff_ne]
      intro h2
      exact h (Rat.ext h1 (by omega))
    · left
      rw [beq_eq_false_iff_ne]
      exact h1
theorem okq_q {n : Nat} {r : Rat} : okq (n + 1) (qD r) = true := by simp [qD, okq]
theorem eq_q {r s : Rat} : eqD S (qD r) (qD s) = some (.bl (decide (r = s))) := by
  show ((if scalD (qD r) (qD s) = true then some (eqq (qD r) (qD s)) else if okq 40 (qD r) = true ∧ okq 40 (qD s) = true then some (eqq (qD r) (qD s)) else none).map D.bl) = _
  rw [if_neg (by simp [scalD, qD]), if_pos ⟨okq_q, okq_q⟩, eqq_q]
  rfl
theorem ne_q {r s : Rat} : neD S (qD r) (qD s) = some (.bl (!decide (r = s))) := by
  show ((if scalD (qD r) (qD s) = true then some (eqq (qD r) (qD s)) else if okq 40 (qD r) = true ∧ okq 40 (qD s) = true then some (eqq (qD r) (qD s)) else none).map fun k => D.bl (!k)) = _
  rw [if_neg (by simp [scalD, qD]), if_pos ⟨okq_q, okq_q⟩, eqq_q]
  rfl
theorem eqqL_q : ∀ {rs ss : List Rat}, eqqL (rs.map qD) (ss.map qD) = decide (rs = ss)
  | [], [] => by simp [eqqL]
  | [], _ :: _ => by simp [eqqL]
  | _ :: _, [] => by simp [eqqL]
  | r :: rs, s :: ss => by
    simp only [List.map_cons, eqqL, eqq_q, eqqL_q, List.cons.injEq, Bool.decide_and]
theorem ne_qs {rs ss : List Rat} : neD S (.tup (rs.map qD)) (.tup (ss.map qD)) = some (.bl (!decide (rs = ss))) := by
  have h : ∀ {rs : List Rat}, okq 40 (.tup (rs.map qD)) = true := fun {rs} => by
    simp only [okq, List.all_map, List.all_eq_true]
    intro r _
    exact okq_q
  show ((if scalD (.tup (rs.map qD)) (.tup (ss.map qD)) = true then some (eqq (.tup (rs.map qD)) (.tup (ss.map qD))) else if okq 40 (.tup (rs.map qD)) = true ∧ okq 40 (.tup (ss.map qD)) = true then some (eqq (.tup (rs.map qD)) (.tup (ss.map qD))) else none).map fun k => D.bl (!k)) = _
  rw [if_neg (by simp [scalD]), if_pos ⟨h, h⟩]
  simp only [eqq, eqqL_q]
  rfl
end
end Lw

namespace Lw
open PySem Ev
def dI (i : Int) : D := .int i
def d2 (i j : Int) : D := .tup [.int i, .int j]
def one3 : D := .tup [d2 1 1, d2 2 1, d2 1 2]
def badM : List D := [.non, .tup [], .tup (List.replicate 21 one3), .str "ab", .tup [one3, .non], .tup [one3, .tup [d2 1 1, d2 2 1]], .tup [.tup [d2 1 1, d2 2 1, d2 (-1) 2]], .tup [.tup [d2 1 1, d2 2 2, d2 1 1]], .tup [one3, .tup [d2 1 0, d2 1 1, d2 1 1]],
  .tup [.tup [.tup [.bl true, .int 1], d2 1 1, d2 1 1]], .tup [.tup [d2 1 1, d2 1000000000001 1, d2 1 1]], .tup [.tup [d2 1 1, d2 1 1, .int 1]], .int 7]
theorem badM_x (S : Store) : ∀ d ∈ badM, F_check_measures [d] S = .exc 0 (.str "measures") S := by
  intro d hd
  unfold badM at hd
  simp only [List.mem_cons, List.not_mem_nil, or_false] at hd
  rcases hd with rfl | rfl | rfl | rfl | rfl | rfl | rfl | rfl | rfl | rfl | rfl | rfl | rfl
  all_goals kernel_rfl
def p1 (a b : Int) : D := .tup [.tup [d2 a b]]
def badP : List D := [.non, .tup [], .tup [.tup []], .tup (List.replicate 21 (.tup [d2 1 1])), .tup [.tup (List.replicate 9 (d2 1 1))], .str "ab", .tup [.tup [.non]], .tup [.tup [.tup [.int 1]]], .tup [.tup [.tup [.int 1, .int 2, .int 3]]], p1 (-1) 1, p1 2001 1, p1 1 (-1), p1 1 1000001,
  .tup [.tup [.tup [.bl true, .int 1]]], .tup [.tup [.tup [.str "1", .int 1]]], .tup [.tup [d2 1 1], .non], .tup [.tup [.tup [.int 1, .non]]], .int 5]
theorem badP_x (S : Store) : ∀ d ∈ badP, F_check_parts [d] S = .exc 0 (.str "parts") S := by
  intro d hd
  unfold badP at hd
  simp only [List.mem_cons, List.not_mem_nil, or_false] at hd
  rcases hd with rfl | rfl | rfl | rfl | rfl | rfl | rfl | rfl | rfl | rfl | rfl | rfl | rfl | rfl | rfl | rfl | rfl | rfl
  all_goals kernel_rfl
def partsC : D := .tup [.tup [d2 5 0, d2 2 30], .tup [d2 4 0, d2 1 50]]
theorem partsC_x (S : Store) : F_check_parts [partsC] S = .ok .non S := by kernel_rfl
def badB : List D := [.non, .int (-1), .int 2001, .bl true, .str "3", .tup [.int 3]]
theorem badB_x (S : Store) : ∀ d ∈ badB, F_check_bound [d] S = .exc 0 (.str "bound") S := by
  intro d hd
  unfold badB at hd
  simp only [List.mem_cons, List.not_mem_nil, or_false] at hd
  rcases hd with rfl | rfl | rfl | rfl | rfl | rfl
  all_goals kernel_rfl
end Lw

namespace Lw
open PySem Ev
section
variable {S : Store} {QD : D → Store → Prop} {E : EK} {F : FM} {f : Nat} {a b c d : D}
/-! ### what is heard -/
theorem asked1 (h : tblV f = some (1, F)) (q : Wr (F [a] S) QD E) : Wr (F__law_asked [.fn f, .lst [a]] S) QD E := by
  refine wd__law_asked ?_
  unfold m__law_asked
  walk_at "wv"
  refine w_callV rfl h ?_
  walk_at "wv"
  refine Wr.out (a := a) rfl ?_
  walk_at "wv"
  exact ⟨rfl, q⟩
theorem asked2 (h : tblV f = some (2, F)) (q : Wr (F [a, b] S) QD E) : Wr (F__law_asked [.fn f, .lst [a, b]] S) QD E := by
  refine wd__law_asked ?_
  unfold m__law_asked
  walk_at "wv"
  refine w_callV rfl h ?_
  walk_at "wv"
  refine Wr.out (a := a) rfl ?_
  walk_at "wv"
  refine Wr.out (a := b) rfl ?_
  walk_at "wv"
  exact ⟨rfl, q⟩
theorem asked4 (h : tblV f = some (4, F)) (q : Wr (F [a, b, c, d] S) QD E) : Wr (F__law_asked [.fn f, .lst [a, b, c, d]] S) QD E := by
  refine wd__law_asked ?_
  unfold m__law_asked
  walk_at "wv"
  refine w_callV rfl h ?_
  walk_at "wv"
  refine Wr.out (a := a) rfl ?_
  walk_at "wv"
  refine Wr.out (a := b) rfl ?_
  walk_at "wv"
  refine Wr.out (a := c) rfl ?_
  walk_at "wv"
  refine Wr.out (a := d) rfl ?_
  walk_at "wv"
  exact ⟨rfl, q⟩
def preW : Nat → Str
  | 1 => "paper "
  | _ => "argument "
theorem word_ok {k : Nat} {x : Str} (hk : k < 2) (hx : x.length ≤ 100) {Q : D → Store → Prop} (q : Q (.str (preW k ++ x)) []) : Wr (F__law_word [.err k (.str x)] []) Q E := by
  have hz : ∀ (p : Str), p.length ≤ 20 → p.length + x.length ≤ sizeLine := fun p hp => Nat.le_trans (Nat.add_le_add hp hx) (by decide)
  refine wd__law_word ?_
  unfold m__law_word
  match k, hk with
  | 0, _ =>
    walk_at "wv"
    refine w_isE (w_var rfl ⟨_, _, false, rfl, rfl, ?_⟩)
    walk_at "wv"
    refine w_xf (w_var rfl ⟨_, _, rfl, by decide, ?_⟩)
    exact Wr.out (add_ss (hz _ (by decide +kernel))) q
  | 1, _ =>
    walk_at "wv"
    refine w_isE (w_var rfl ⟨_, _, true, rfl, rfl, ?_⟩)
    walk_at "wv"
    refine w_xf (w_var rfl ⟨_, _, rfl, by decide, ?_⟩)
    exact Wr.out (add_ss (hz _ (by decide +kernel))) q
theorem heard_ok {l v : D} {S' : Store} (h : F__law_asked [.fn f, l] S = .ok v S') : F__law_heard [.fn f, l] S = .ok v S' := by
  refine Wr.eqn ?_
  refine wd__law_heard ?_
  unfold m__law_heard
  refine s_try lp_ret ?_
  walk_at "wv"
  refine Wr.eq h ?_
  exact ⟨rfl, rfl⟩
theorem heard_x {k : Nat} {x : Str} {l : D} {S' : Store} (hk : k < 2) (hx : x.length ≤ 100) (h : F__law_asked [.fn f, l] S = .exc k (.str x) S') : F__law_heard [.fn f, l] S = .ok (.str (preW k ++ x)) S' := by
  refine Wr.eqn ?_
  refine wd__law_heard ?_
  unfold m__law_heard
  refine s_try lp_ret ?_
  walk_at "wv"
  refine Wr.eqx h ?_
  refine Or.inl ⟨by match k, hk with | 0, _ | 1, _ => rfl, rfl, ?_⟩
  walk_at "wv"
  refine word_ok hk hx ?_
  exact ⟨rfl, rfl, rfl⟩
end
end Lw

namespace Lw
open PySem Ev
abbrev Part := List (Int × Int)
abbrev oD (o : Int × Int) : D := .tup [.int o.1, .int o.2]
abbrev partD (p : Part) : D := .tup (p.map oD)
abbrev partsD (ps : List Part) : D := .tup (ps.map partD)
structure GP (ps : List Part) : Prop where
  l1 : 1 ≤ ps.length
  l2 : ps.length ≤ 20
  p1 : ∀ p ∈ ps, 1 ≤ p.length ∧ p.length ≤ 8
  o1 : ∀ p ∈ ps, ∀ o ∈ p, 0 ≤ o.1 ∧ o.1 ≤ 2000 ∧ 0 ≤ o.2 ∧ o.2 ≤ 1000000
section
variable {S : Store} {QD : D → Store → Prop} {E : EK} {ps : List Part}
theorem opt_ok {o : Int × Int} (h : 0 ≤ o.1 ∧ o.1 ≤ 2000 ∧ 0 ≤ o.2 ∧ o.2 ≤ 1000000) {e0 e1 e3 : Option D} {K : Ko} (q : K.nx [e0, e1, some (oD o), e3] S) :
   Ws (sSeq (sIf (mOr (mNot (mTru (mIsT "tuple" (mVar 2)))) (mOr (mTest (mOp neD (mCB lenD (mCons (mVar 2) mNil)) (mC (.int 2)))) (mNot (mTru (mCB allD (mCons (mLc (mIt (mVar 2)) (gmName 3) mYes (mCall F_is_integer (mCons (mVar 3) mNil)) [3]) mNil)))))) (sRaise 0 24 (mC (.str "parts"))) sNext) (sIf (mOr (mNot (mChainT leD leD (mC (.int 0)) (mOp ixD (mVar 2) (mC (.int 0))) (mC (.int 2000)))) (mNot (mChainT leD leD (mC (.int 0)) (mOp ixD (mVar 2) (mC (.int 1))) (mC (.int 1000000))))) (sRaise 0 24 (mC (.str "parts"))) sNext) [e0, e1, some (oD o), e3] S) K := by
  obtain ⟨i, j⟩ := o
  obtain ⟨h1, h2, h3, h4⟩ := h
  have h1 : 0 ≤ i := h1
  have h2 : i ≤ 2000 := h2
  have h3 : 0 ≤ j := h3
  have h4 : j ≤ 1000000 := h4
  refine s_seq (s_if (Wr.eq (a := false) rfl (no_of rfl (s_next ?_))))
  walk_at "wv"
  refine Wr.out (a := .int i) rfl ?_
  walk_at "wv"
  refine ya_of (decide_eq_true h1) ?_
  walk_at "wv"
  refine no_of (by rw [decide_eq_true h2]; rfl) ?_
  walk_at "wv"
  refine Wr.out (a := .int j) rfl ?_
  walk_at "wv"
  refine ya_of (decide_eq_true h3) ?_
  walk_at "wv"
  refine no_of (by rw [decide_eq_true h4]; rfl) ?_
  exact s_next q
theorem check_parts_ok (h : GP ps) : F_check_parts [partsD ps] S = .ok .non S := by
  refine Wr.eqn (wd_check_parts ?_)
  unfold m_check_parts
  have e1 : (decide (1 ≤ ((ps.map partD).length : Int))) = true := by have := h.l1; simp; omega
  have e2 : (decide (((ps.map partD).length : Int) ≤ 20)) = true := by have := h.l2; simp; omega
  walk_at "wv"
  refine ⟨true, rfl, ?_⟩
  walk_at "wv"
  refine ya_of e1 ?_
  walk_at "wv"
  refine no_of (by rw [e2]; rfl) ?_
  walk_at "wv"
  refine Wr.out (a := itL (ps.map partD)) rfl ?_
  refine forGo_its itsA_map (I := fun i δ S' => S' = S ∧ ∃ o1 o2 o3, δ = [some (partsD ps), o1, o2, o3]) ⟨rfl, _, _, _, rfl⟩ ?_ ?_
  · rintro i hi δ S' ⟨rfl, o1, o2, o3, rfl⟩
    refine ⟨_, _, rfl, ?_⟩
    dsimp only [List.set_cons_succ, List.set_cons_zero]
    have hm : ps[i] ∈ ps := List.getElem_mem hi
    have hp := h.p1 _ hm
    have ho := h.o1 _ hm
    generalize ps[i] = p at hp ho
    have e1 : (decide (1 ≤ ((p.map oD).length : Int))) = true := by simp; omega
    have e2 : (decide (((p.map oD).length : Int) ≤ 8)) = true := by simp; omega
    walk_at "wv"
    refine ⟨true, rfl, ?_⟩
    walk_at "wv"
    refine ya_of e1 ?_
    walk_at "wv"
    refine no_of (by rw [e2]; rfl) ?_
    walk_at "wv"
    refine Wr.out (a := itL (p.map oD)) rfl ?_
    refine forGo_its itsA_map (I := fun i δ S'' => S'' = S' ∧ ∃ o2 o3, δ = [some (partsD ps), some (partD p), o2, o3]) ⟨rfl, _, _, rfl⟩ ?_ ?_
    · rintro k hk δ S'' ⟨rfl, o2, o3, rfl⟩
      refine ⟨_, _, rfl, ?_⟩
      dsimp only [List.set_cons_succ, List.set_cons_zero]
      exact opt_ok (ho _ (List.getElem_mem hk)) ⟨rfl, _, _, rfl⟩
    · rintro δ S'' ⟨rfl, o2, o3, rfl⟩
      exact ⟨rfl, _, _, _, rfl⟩
  · rintro δ S' ⟨rfl, o1, o2, o3, rfl⟩
    exact ⟨rfl, rfl⟩
theorem check_bound_ok {b : Nat} (h : b ≤ 2000) : F_check_bound [.int (b : Nat)] S = .ok .non S := by
  refine Wr.eqn (wd_check_bound ?_)
  unfold m_check_bound
  refine s_if ?_
  refine w_orB (Wr.eq (a := false) rfl (no_of rfl ?_))
  walk_at "wv"
  have e : decide ((b : Int) ≤ 2000) = true := decide_eq_true (by omega)
  refine no_of (by rw [e]; rfl) ?_
  exact s_next ⟨rfl, rfl⟩
end
end Lw

open PySem
theorem itsA_Z {α : Type} {xs : List D} {ys : List α} {w : α → D} : ItsA (itZ xs (ys.map w)) (xs.zip ys) (fun q => .tup [q.1, w q.2]) := ⟨by simp [itZ], fun S i h => by
  show some (pairAt xs (ys.map w) i) = some (((xs.zip ys)[i]?).map fun q => D.tup [q.1, w q.2])
  unfold pairAt
  rw [List.getElem?_map, List.zip, List.getElem?_zipWith]
  cases xs[i]? <;> cases ys[i]? <;> rfl⟩
namespace Lw
open PySem Ev
def okC : D → Part → Bool
  | .int i, p => decide (0 ≤ i) && decide (i < p.length)
  | _, _ => false
def pick : D → Part → Int × Int
  | .int i, p => p.getD i.toNat (0, 0)
  | _, _ => (0, 0)
def planR (ps : List Part) (b : Nat) : D → D → Option Str
  | .int c, .tup ds => if ds.length = ps.length then
      if (ds.zip ps).all (fun q => okC q.1 q.2) = true then
        if (b : Int) < (((ds.zip ps).map fun q => pick q.1 q.2).map (·.1)).sum then some ("bound" : Str)
        else if c < (((ds.zip ps).map fun q => pick q.1 q.2).map (·.2)).sum then some ("cost" : Str) else none
      else some ("form" : Str)
    else some ("form" : Str)
  | _, _ => some ("form" : Str)
section
variable {S : Store} {QD : D → Store → Prop} {E : EK} {ps : List Part} {e0 e1 e2 e3 e4 e5 e6 e7 : Option D}
theorem okc_comp {ds : List D} (hd : ∀ d ∈ ds, plainA d = true) (hl : ds.length ≤ 10000) : mLc (mItS zipD (mCons (mVar 3) (mCons (mVar 0) mNil))) (gmTup 2 (gmCons (gmName 5) (gmCons (gmName 6) gmNil))) mYes (mAndV (mCall F_is_integer (mCons (mVar 5) mNil)) (mChain leD ltD (mC (.int 0)) (mVar 5) (mCB lenD (mCons (mVar 6) mNil)))) [5, 6] [some (partsD ps), e1, e2, some (.tup ds), e4, e5, e6, e7] S
    = .ok (.lst ((ds.zip ps).map fun q => .bl (okC q.1 q.2))) S := by
  refine Wr.eqn (w_lcm ?_)
  walk_at "wv"
  refine Wr.out (a := itZ ds (ps.map partD)) rfl ?_
  refine ⟨_, ds.zip ps, _, _, itsA_Z.its, sl_le (by rw [List.length_zip]; omega), ?_, rfl, rfl⟩
  rintro ⟨d, p⟩ hq
  have hd := hd d (List.of_mem_zip hq).1
  refine ⟨_, rfl, ?_⟩
  refine Wr.eqn ?_
  walk_at "wv"
  refine Wr.eq (is_integer_ok hd) ?_
  walk_at "wv"
  cases d with
  | int i =>
    refine ⟨fun _ => ?_, fun z => by cases z⟩
    refine w_chain ?_
    walk_at "wv"
    refine ⟨fun h => ?_, fun h => ⟨by show D.bl false = D.bl (decide (0 ≤ i) && _); rw [h]; rfl, rfl⟩⟩
    walk_at "wv"
    exact ⟨by show D.bl (decide (i < ((p.map oD).length : Nat))) = D.bl (decide (0 ≤ i) && decide (i < p.length)); rw [h, List.length_map]; rfl, rfl⟩
  | non => exact no_of rfl ⟨rfl, rfl⟩
  | bl _ => exact no_of rfl ⟨rfl, rfl⟩
  | str _ => exact no_of rfl ⟨rfl, rfl⟩
  | tup _ => exact no_of rfl ⟨rfl, rfl⟩
  | lst _ => exact no_of rfl ⟨rfl, rfl⟩
  | _ => cases hd
theorem okC_int {d : D} {p : Part} (h : okC d p = true) : ∃ i : Nat, d = .int i ∧ i < p.length ∧ (partD p : D) = .tup (p.map oD) ∧ (p.map oD)[i]? = some (oD (pick d p)) := by
  cases d <;> first | cases h | skip
  rename_i i
  simp only [okC, Bool.and_eq_true, decide_eq_true_eq] at h
  obtain ⟨n, rfl⟩ := Int.eq_ofNat_of_zero_le h.1
  have hn : n < p.length := by omega
  refine ⟨n, rfl, hn, rfl, ?_⟩
  rw [List.getElem?_map, List.getElem?_eq_getElem hn]
  show some (oD p[n]) = some (oD (p.getD n (0, 0)))
  rw [List.getD_eq_getElem?_getD, List.getElem?_eq_getElem hn]
  rfl
theorem rows_comp {ds : List D} (hl : ds.length ≤ 10000) (hok : (ds.zip ps).all (fun q => okC q.1 q.2) = true) : mLc (mItS zipD (mCons (mVar 3) (mCons (mVar 0) mNil))) (gmTup 2 (gmCons (gmName 5) (gmCons (gmName 6) gmNil))) mYes (mOp ixD (mVar 6) (mVar 5)) [5, 6] [some (partsD ps), e1, e2, some (.tup ds), e4, e5, e6, e7] S
    = .ok (.lst (((ds.zip ps).map fun q => pick q.1 q.2).map oD)) S := by
  refine Wr.eqn (w_lcm ?_)
  walk_at "wv"
  refine Wr.out (a := itZ ds (ps.map partD)) rfl ?_
  refine ⟨_, ds.zip ps, _, fun q => oD (pick q.1 q.2), itsA_Z.its, sl_le (by rw [List.length_zip]; omega), ?_, by rw [List.map_map]; rfl, rfl⟩
  rintro ⟨d, p⟩ hq
  obtain ⟨i, rfl, hi, _, e⟩ := okC_int (List.all_eq_true.mp hok _ hq)
  refine ⟨_, rfl, ?_⟩
  refine Wr.eqn ?_
  walk_at "wv"
  exact Wr.out (ix_tup e) ⟨rfl, rfl⟩
theorem sum_comp {os : List (Int × Int)} (hl : os.length ≤ 10000) {δ : Ev.Env} {i j l : Nat} (hδ : δ[i]? = some (some (.lst (os.map oD)))) (hw : ∀ a b, ∃ δ1, gmTup 2 (gmCons (gmName j) (gmCons (gmName l) gmNil)) (.tup [a, b]) (wipeE δ [j, l]) S = .ok δ1 S ∧ δ1[j]? = some (some a) ∧ δ1[l]? = some (some b)) :
    mLc (mIt (mVar i)) (gmTup 2 (gmCons (gmName j) (gmCons (gmName l) gmNil))) mYes (mVar j) [j, l] δ S = .ok (.lst (os.map fun o => .int o.1)) S ∧
    mLc (mIt (mVar i)) (gmTup 2 (gmCons (gmName j) (gmCons (gmName l) gmNil))) mYes (mVar l) [j, l] δ S = .ok (.lst (os.map fun o => .int o.2)) S := by
  constructor
  · refine Wr.eqn (w_lcm (w_it (w_var hδ (Wr.out (a := itL (os.map oD)) rfl ⟨_, os, _, fun o => .int o.1, its_map, sl_le hl, fun o ho => ?_, rfl, rfl⟩))))
    obtain ⟨δ1, h1, h2, h3⟩ := hw (.int o.1) (.int o.2)
    exact ⟨δ1, h1, Wr.eqn (w_var h2 ⟨rfl, rfl⟩)⟩
  · refine Wr.eqn (w_lcm (w_it (w_var hδ (Wr.out (a := itL (os.map oD)) rfl ⟨_, os, _, fun o => .int o.2, its_map, sl_le hl, fun o ho => ?_, rfl, rfl⟩))))
    obtain ⟨δ1, h1, h2, h3⟩ := hw (.int o.1) (.int o.2)
    exact ⟨δ1, h1, Wr.eqn (w_var h3 ⟨rfl, rfl⟩)⟩
end
end Lw

namespace Lw
open PySem Ev
section
variable {S : Store} {QD : D → Store → Prop} {E : EK} {ps : List Part} {b : Nat} {cost ch : D}
theorem planR_c {ds : D} (h : isI cost = false) : planR ps b cost ds = some ("form" : Str) := by
  cases cost <;> first | rfl | cases h
theorem planR_t (h : isTup ch = false) : planR ps b cost ch = some ("form" : Str) := by
  cases cost <;> cases ch <;> first | rfl | cases h
theorem isI_int (h : isI cost = true) : ∃ i, cost = .int i := by
  cases cost <;> first | exact ⟨_, rfl⟩ | cases h
theorem isTup_tup (h : isTup ch = true) : ∃ ds, ch = .tup ds := by
  cases ch <;> first | exact ⟨_, rfl⟩ | cases h
theorem planP (hp : GP ps) (hb : b ≤ 2000) (hc : plainA cost = true) (hch : plainA ch = true) (hds : ∀ ds, ch = .tup ds → ds.length ≤ 10000 ∧ ∀ d ∈ ds, plainA d = true)
    (q0 : planR ps b cost ch = none → QD .non S) (q1 : ∀ x, planR ps b cost ch = some x → E 1 (.str x) S) : Wr (F_accept_plan [partsD ps, .int (b : Nat), cost, ch] S) QD E := by
  have f1 : rsnOk 22 (.str "form") = true := by decide +kernel
  have f2 : rsnOk 22 (.str "bound") = true := by decide +kernel
  have f3 : rsnOk 22 (.str "cost") = true := by decide +kernel
  refine wd_accept_plan ?_
  unfold m_accept_plan
  walk_at "wv"
  refine Wr.eq (check_parts_ok hp) ?_
  walk_at "wv"
  refine Wr.eq (check_bound_ok hb) ?_
  walk_at "wv"
  refine Wr.eq (is_integer_ok hc) ?_
  walk_at "wv"
  refine ⟨fun h => ⟨fun _ => ?_, fun z => by cases z⟩, fun h => ?_⟩
  · exact s_raise (w_c ⟨f1, q1 _ (planR_c (by simpa using h))⟩)
  obtain ⟨c, rfl⟩ := isI_int (cost := cost) (by simpa using h)
  walk_at "wv"
  refine ⟨_, isT_tuple hch, ?_⟩
  walk_at "wv"
  refine ⟨fun h => ⟨fun _ => ?_, fun z => by cases z⟩, fun h => ?_⟩
  · exact s_raise (w_c ⟨f1, q1 _ (planR_t (by simpa using h))⟩)
  obtain ⟨ds, rfl⟩ := isTup_tup (ch := ch) (by simpa using h)
  obtain ⟨hl, hd⟩ := hds ds rfl
  walk_at "wv"
  refine ⟨fun h => ?_, fun h => ?_⟩
  · refine s_raise (w_c ⟨f1, q1 _ (if_neg ?_)⟩)
    intro e
    rw [List.length_map, e] at h
    simp at h
  have hlen : ds.length = ps.length := by
    rw [List.length_map] at h
    simp at h
    omega
  have g : planR ps b (.int c) (.tup ds) = if (ds.zip ps).all (fun q => okC q.1 q.2) = true then
        if (b : Int) < (((ds.zip ps).map fun q => pick q.1 q.2).map (·.1)).sum then some ("bound" : Str)
        else if c < (((ds.zip ps).map fun q => pick q.1 q.2).map (·.2)).sum then some ("cost" : Str) else none
      else some ("form" : Str) := if_pos hlen
  walk_at "wv"
  refine Wr.eq (okc_comp hd hl) ?_
  walk_at "wv"
  refine Wr.out all_map ?_
  walk_at "wv"
  refine ⟨fun h => ?_, fun h => ?_⟩
  · refine s_raise (w_c ⟨f1, q1 _ ?_⟩)
    rw [g, if_neg (by simpa using h)]
  have hok : (ds.zip ps).all (fun q => okC q.1 q.2) = true := by simpa using h
  rw [if_pos hok] at g
  walk_at "wv"
  refine Wr.eq (rows_comp hl hok) ?_
  have hz : (((ds.zip ps).map fun q => pick q.1 q.2)).length ≤ 10000 := by rw [List.length_map, List.length_zip]; omega
  generalize hos : ((ds.zip ps).map fun q => pick q.1 q.2) = os at g hz
  have s1 := sum_comp (S := S) hz (δ := [some (partsD ps), some (.int b), some (.int c), some (.tup ds), some (.lst (os.map oD)), none, none, none]) (i := 4) (j := 7) (l := 5) rfl fun x y => ⟨_, rfl, rfl, rfl⟩
  walk_at "wv"
  refine Wr.eq s1.1 ?_
  walk_at "wv"
  refine Wr.out sum_map ?_
  walk_at "wv"
  refine ⟨fun h => ?_, fun h => ?_⟩
  · refine s_raise (w_c ⟨f2, q1 _ ?_⟩)
    rw [g, if_pos (of_decide_eq_true h)]
  rw [if_neg (of_decide_eq_false h)] at g
  walk_at "wv"
  refine Wr.eq s1.2 ?_
  walk_at "wv"
  refine Wr.out sum_map ?_
  walk_at "wv"
  refine ⟨fun h => ?_, fun h => ?_⟩
  · refine s_raise (w_c ⟨f3, q1 _ ?_⟩)
    rw [g, if_pos (of_decide_eq_true h)]
  rw [if_neg (of_decide_eq_false h)] at g
  exact s_next (q0 g)
end
end Lw

open PySem
theorem range_zip {α β γ : Type} {xs : List α} {ys : List β} (h : xs.length = ys.length) (g : α → β → γ) (a : α) (b : β) : (List.range ys.length).map (fun k => g (xs.getD k a) (ys.getD k b)) = (xs.zip ys).map (fun q => g q.1 q.2) := by
  apply List.ext_getElem
  · simp [h]
  · intro i h1 h2
    simp only [List.length_map, List.length_range] at h1
    rw [List.getElem_map, List.getElem_range, List.getElem_map, List.getElem_zip, List.getD_eq_getElem?_getD, List.getD_eq_getElem?_getD, List.getElem?_eq_getElem h1, List.getElem?_eq_getElem (by omega)]
    rfl
theorem ix_tupI {S : Store} {ds : List D} {k : Nat} (h : k < ds.length) : ixD S (.tup ds) (.int (k : Nat)) = some (ds.getD k .non) := ix_tup (by rw [List.getD_eq_getElem?_getD, List.getElem?_eq_getElem h]; rfl)
theorem ix_tupM {α : Type} {S : Store} {xs : List α} {w : α → D} {a : α} {k : Nat} (h : k < xs.length) : ixD S (.tup (xs.map w)) (.int (k : Nat)) = some (w (xs.getD k a)) := ix_tup (by rw [List.getElem?_map, List.getD_eq_getElem?_getD, List.getElem?_eq_getElem h]; rfl)
theorem its_Rn {n : Nat} {S : Store} : Its (itR 0 n) S (List.range n) (fun k => .int (k : Nat)) := itsA_R.its
theorem tr_lst {S : Store} {ds : List D} : truD S (.lst ds) = some (!ds.isEmpty) := rfl
theorem rng_len {α : Type} {xs : List α} (h : xs.length ≤ 10000) : rangeD1 [.int (xs.length : Nat)] = some (itR 0 xs.length) := rangeD1_n (Nat.le_trans h (by decide))
namespace Lw
open PySem Ev
def wdP (o : Option Str) : D := match o with
  | none => .non
  | some x => .str (preW 1 ++ x)
section
variable {S : Store} {QD : D → Store → Prop} {E : EK} {ps : List Part} {b : Nat} {cost ch : D} {e0 e1 e2 e3 e4 e5 e6 e7 : Option D}
theorem w_form : wdP (some ("form" : Str)) = .str "paper form" := by
  show D.str (preW 1 ++ "form") = _
  congr 1
theorem w_bound : wdP (some ("bound" : Str)) = .str "paper bound" := by
  show D.str (preW 1 ++ "bound") = _
  congr 1
theorem w_cost : wdP (some ("cost" : Str)) = .str "paper cost" := by
  show D.str (preW 1 ++ "cost") = _
  congr 1
theorem w_end : wdP (some ("end" : Str)) = .str "paper end" := by
  show D.str (preW 1 ++ "end") = _
  congr 1
theorem w_row : wdP (some ("row" : Str)) = .str "paper row" := by
  show D.str (preW 1 ++ "row") = _
  congr 1
theorem whole_ok {d : D} (h : plainA d = true) : F__law_whole [d] S = .ok (.bl (isI d)) S := by
  cases d <;> first | rfl | cases h
theorem bad_comp {ds : List D} (hd : ∀ d ∈ ds, plainA d = true) (hl : ds.length ≤ 10000) (hlen : ds.length = ps.length) :
    mLc (mItA rangeD1 (mCons (mCB lenD (mCons (mVar 0) mNil)) mNil)) (gmName 5) (mOr (mNot (mTru (mCall F__law_whole (mCons (mOp ixD (mVar 3) (mVar 5)) mNil)))) (mNot (mChainT leD ltD (mC (.int 0)) (mOp ixD (mVar 3) (mVar 5)) (mCB lenD (mCons (mOp ixD (mVar 0) (mVar 5)) mNil))))) (mVar 5) [5] [some (partsD ps), e1, e2, some (.tup ds), e4, e5, e6, e7] S
    = .ok (.lst (((List.range ps.length).filter fun k => !okC (ds.getD k .non) (ps.getD k [])).map fun k => D.int (k : Nat))) S := by
  refine Wr.eqn ?_
  with_reducible refine w_lcp ?_
  walk_at "wv"
  rw [List.length_map]
  with_reducible refine Wr.out (rng_len (xs := ps) (by omega)) ?_
  refine ⟨_, List.range ps.length, _, fun k => !okC (ds.getD k .non) (ps.getD k []), fun k => D.int (k : Nat), its_Rn, sl_le (by rw [List.length_range]; omega), ?_, rfl, rfl⟩
  intro k hk
  have hk := List.mem_range.mp hk
  refine ⟨_, rfl, ?_, fun _ => rfl⟩
  show mOr _ _ _ _ = Res.ok (!okC (ds.getD k .non) (ps.getD k [])) S
  refine Wr.eqn ?_
  have hkd : k < ds.length := by omega
  have hpl : plainA (ds.getD k .non) = true := by
    rw [List.getD_eq_getElem?_getD, List.getElem?_eq_getElem hkd]
    exact hd _ (List.getElem_mem hkd)
  have ixd : ∀ {S : Store}, ixD S (.tup ds) (.int (k : Nat)) = some (ds.getD k .non) := ix_tupI hkd
  have ixp : ∀ {S : Store}, ixD S (partsD ps) (.int (k : Nat)) = some (partD (ps.getD k [])) := ix_tupM hk
  generalize ds.getD k .non = d at hpl ixd
  generalize ps.getD k [] = p at ixp
  walk_at "wv"
  refine Wr.out ixd ?_
  walk_at "wv"
  refine Wr.eq (whole_ok hpl) ?_
  walk_at "wv"
  have no : ∀ {d : D}, plainA d = true → isI d = false → okC d p = false := fun h1 h2 => by
    rename_i d
    cases d <;> first | rfl | cases h2
  refine ⟨fun h => ⟨by rw [no hpl (by simpa using h)]; rfl, rfl⟩, fun h => ?_⟩
  obtain ⟨i, rfl⟩ := isI_int (cost := d) (by simpa using h)
  walk_at "wv"
  refine Wr.out ixd ?_
  walk_at "wv"
  refine ⟨fun h => ?_, fun h => ?_⟩
  · walk_at "wv"
    refine Wr.out ixp ?_
    walk_at "wv"
    refine ⟨?_, rfl⟩
    rw [List.length_map]
    show (!decide (i < (p.length : Int))) = !(decide (0 ≤ i) && decide (i < p.length))
    rw [h]
    rfl
  · walk_at "wv"
    refine ⟨?_, rfl⟩
    show _ = (!(decide (0 ≤ i) && decide (i < p.length)))
    rw [h]
    rfl
theorem bad_nil {ds : List D} (hlen : ds.length = ps.length) : (((List.range ps.length).filter fun k => !okC (ds.getD k .non) (ps.getD k [])).map fun k => D.int (k : Nat)).isEmpty = (ds.zip ps).all fun q => okC q.1 q.2 := by
  have e := range_zip hlen okC .non []
  have e2 : (ds.zip ps).all (fun q => okC q.1 q.2) = ((ds.zip ps).map fun q => okC q.1 q.2).all id := by rw [List.all_map]; rfl
  rw [e2, ← e, List.all_map, List.isEmpty_map, Bool.eq_iff_iff, List.isEmpty_iff, List.filter_eq_nil_iff, List.all_eq_true]
  constructor
  · intro h k hk
    have := h k hk
    simpa using this
  · intro h k hk
    have := h k hk
    simpa using this
theorem rows_comp2 {ds : List D} (hl : ds.length ≤ 10000) (hlen : ds.length = ps.length) (hok : (ds.zip ps).all (fun q => okC q.1 q.2) = true) :
    mLc (mItA rangeD1 (mCons (mCB lenD (mCons (mVar 0) mNil)) mNil)) (gmName 5) mYes (mOp ixD (mOp ixD (mVar 0) (mVar 5)) (mOp ixD (mVar 3) (mVar 5))) [5] [some (partsD ps), e1, e2, some (.tup ds), e4, e5, e6, e7] S
    = .ok (.lst (((ds.zip ps).map fun q => pick q.1 q.2).map oD)) S := by
  refine Wr.eqn ?_
  with_reducible refine w_lcm ?_
  walk_at "wv"
  rw [List.length_map]
  with_reducible refine Wr.out (rng_len (xs := ps) (by omega)) ?_
  refine ⟨_, List.range ps.length, _, fun k => oD (pick (ds.getD k .non) (ps.getD k [])), its_Rn, sl_le (by rw [List.length_range]; omega), ?_, by rw [← range_zip hlen pick .non [], List.map_map]; rfl, rfl⟩
  intro k hk
  have hk := List.mem_range.mp hk
  have hkd : k < ds.length := by omega
  have hz : (ds.getD k .non, ps.getD k []) ∈ ds.zip ps := by
    rw [List.getD_eq_getElem?_getD, List.getD_eq_getElem?_getD, List.getElem?_eq_getElem hk, List.getElem?_eq_getElem hkd]
    have : (ds.zip ps)[k]'(by rw [List.length_zip]; omega) = (ds[k], ps[k]) := List.getElem_zip
    show (ds[k], ps[k]) ∈ _
    rw [← this]
    exact List.getElem_mem _
  refine ⟨_, rfl, ?_⟩
  show mOp _ _ _ _ _ = Res.ok (oD (pick (ds.getD k .non) (ps.getD k []))) S
  have ixd : ∀ {S : Store}, ixD S (.tup ds) (.int (k : Nat)) = some (ds.getD k .non) := ix_tupI hkd
  have ixp : ∀ {S : Store}, ixD S (partsD ps) (.int (k : Nat)) = some (partD (ps.getD k [])) := ix_tupM hk
  have ho := List.all_eq_true.mp hok _ hz
  generalize ds.getD k .non = d at ixd ho
  generalize ps.getD k [] = p at ixp ho
  refine Wr.eqn ?_
  obtain ⟨i, rfl, hi, _, e⟩ := okC_int ho
  walk_at "wv"
  refine Wr.out ixp ?_
  walk_at "wv"
  refine Wr.out ixd ?_
  exact Wr.out (ix_tup e) ⟨rfl, rfl⟩
theorem planL (hp : GP ps) (hb : b ≤ 2000) (hc : plainA cost = true) (hch : plainA ch = true) (hds : ∀ ds, ch = .tup ds → ds.length ≤ 10000 ∧ ∀ d ∈ ds, plainA d = true) : F__law_plan_due [partsD ps, .int (b : Nat), cost, ch] S = .ok (wdP (planR ps b cost ch)) S := by
  have hps : ps.length ≤ 10000 := by have := hp.l2; omega
  refine Wr.eqn (wd__law_plan_due ?_)
  unfold m__law_plan_due
  walk_at "wv"
  refine Wr.eq (whole_ok hc) ?_
  walk_at "wv"
  refine ⟨fun h => ⟨fun _ => ?_, fun z => by cases z⟩, fun h => ?_⟩
  · walk_at "wv"
    exact ⟨by rw [planR_c (by simpa using h), w_form], rfl⟩
  obtain ⟨c, rfl⟩ := isI_int (cost := cost) (by simpa using h)
  walk_at "wv"
  refine ⟨_, isT_tuple hch, ?_⟩
  walk_at "wv"
  refine ⟨fun h => ⟨fun _ => ?_, fun z => by cases z⟩, fun h => ?_⟩
  · walk_at "wv"
    exact ⟨by rw [planR_t (by simpa using h), w_form], rfl⟩
  obtain ⟨ds, rfl⟩ := isTup_tup (ch := ch) (by simpa using h)
  obtain ⟨hl, hd⟩ := hds ds rfl
  walk_at "wv"
  refine ⟨fun h => ?_, fun h => ?_⟩
  · walk_at "wv"
    have e : ¬ ds.length = ps.length := by
      intro e
      rw [List.length_map, e] at h
      simp at h
    exact ⟨by rw [show planR ps b (.int c) (.tup ds) = some ("form" : Str) from if_neg e, w_form], rfl⟩
  have hlen : ds.length = ps.length := by
    rw [List.length_map] at h
    simp at h
    omega
  have g : planR ps b (.int c) (.tup ds) = if (ds.zip ps).all (fun q => okC q.1 q.2) = true then
        if (b : Int) < (((ds.zip ps).map fun q => pick q.1 q.2).map (·.1)).sum then some ("bound" : Str)
        else if c < (((ds.zip ps).map fun q => pick q.1 q.2).map (·.2)).sum then some ("cost" : Str) else none
      else some ("form" : Str) := if_pos hlen
  walk_at "wv"
  with_reducible refine Wr.eq (bad_comp hd hl hlen) ?_
  refine Wr.out tr_lst ?_
  rw [bad_nil hlen]
  refine ⟨fun h => ?_, fun h => ?_⟩
  · walk_at "wv"
    rw [g, if_neg (by simpa using h), w_form]
    exact ⟨rfl, rfl⟩
  have hok : (ds.zip ps).all (fun q => okC q.1 q.2) = true := by simpa using h
  rw [if_pos hok] at g
  walk_at "wv"
  with_reducible refine Wr.eq (rows_comp2 hl hlen hok) ?_
  have hz : (((ds.zip ps).map fun q => pick q.1 q.2)).length ≤ 10000 := by rw [List.length_map, List.length_zip]; omega
  generalize hos : ((ds.zip ps).map fun q => pick q.1 q.2) = os at g hz
  have s1 := sum_comp (S := S) hz (δ := [some (partsD ps), some (.int b), some (.int c), some (.tup ds), some (.lst (os.map oD)), none, none, none]) (i := 4) (j := 6) (l := 7) rfl fun x y => ⟨_, rfl, rfl, rfl⟩
  walk_at "wv"
  refine Wr.eq s1.1 ?_
  walk_at "wv"
  refine Wr.out sum_map ?_
  walk_at "wv"
  refine ⟨fun h => ?_, fun h => ?_⟩
  · walk_at "wv"
    rw [g, if_pos (of_decide_eq_true h), w_bound]
    exact ⟨rfl, rfl⟩
  rw [if_neg (of_decide_eq_false h)] at g
  walk_at "wv"
  refine Wr.eq s1.2 ?_
  walk_at "wv"
  refine Wr.out sum_map ?_
  walk_at "wv"
  refine ⟨fun h => ?_, fun h => ?_⟩
  · walk_at "wv"
    rw [g, if_pos (of_decide_eq_true h), w_cost]
    exact ⟨rfl, rfl⟩
  rw [if_neg (of_decide_eq_false h)] at g
  walk_at "wv"
  rw [g]
  exact ⟨rfl, rfl⟩
end
end Lw

namespace Lw
open PySem Ev
def b_accept_least_0 : SM := (sDrop (mCall F_check_parts (mCons (mVar 0) mNil)))
def b_accept_least_1 : SM := (sDrop (mCall F_check_bound (mCons (mVar 1) mNil)))
def b_accept_least_2 : SM := (sIf (mOr (mNot (mTru (mCall F_is_integer (mCons (mVar 2) mNil)))) (mOr (mNot (mTru (mIsT "tuple" (mVar 3)))) (mTest (mOp neD (mCB lenD (mCons (mVar 3) mNil)) (mOp addD (mCB lenD (mCons (mVar 0) mNil)) (mC (.int 1))))))) (sRaise 1 22 (mC (.str "form"))) sNext)
def b_accept_least_3_0 : SM := (sIf (mOr (mNot (mTru (mIsT "tuple" (mVar 4)))) (mTest (mOp neD (mCB lenD (mCons (mVar 4) mNil)) (mOp addD (mVar 1) (mC (.int 1)))))) (sRaise 1 22 (mC (.str "form"))) sNext)
def b_accept_least_3_1 : SM := (sIf (mNot (mTru (mCB allD (mCons (mLc (mIt (mVar 4)) (gmName 9) mYes (mOrV (mOp isD (mVar 9) (mC .non)) (mCall F_is_integer (mCons (mVar 9) mNil))) [9]) mNil)))) (sRaise 1 22 (mC (.str "form"))) sNext)
def b_accept_least_4 : SM := (sIf (mNot (mTru (mCB allD (mCons (mLc (mIt (mOp ixD (mVar 3) (mUn negD (mC (.int 1))))) (gmName 9) mYes (mAndV (mOp nisD (mVar 9) (mC .non)) (mOp leD (mVar 9) (mC (.int 0)))) [9]) mNil)))) (sRaise 1 22 (mC (.str "end"))) sNext)
def b_accept_least_5_0_0_0 : SM := (sAsg (mIf (mTest (mOp leD (mVar 8) (mVar 7))) (mOp ixD (mOp ixD (mVar 3) (mOp addD (mVar 5) (mC (.int 1)))) (mOp subD (mVar 7) (mVar 8))) (mC .non)) (gmName 10))
def b_accept_least_5_0_0_1 : SM := (sIf (mAnd (mTest (mOp nisD (mVar 10) (mC .non))) (mOr (mTest (mOp isD (mOp ixD (mOp ixD (mVar 3) (mVar 5)) (mVar 7)) (mC .non))) (mTest (mOp gtD (mOp ixD (mOp ixD (mVar 3) (mVar 5)) (mVar 7)) (mOp addD (mVar 9) (mVar 10)))))) (sRaise 1 22 (mC (.str "row"))) sNext)
def b_accept_least_6 : SM := (sIf (mAnd (mTest (mOp nisD (mOp ixD (mOp ixD (mVar 3) (mC (.int 0))) (mVar 1)) (mC .non))) (mTest (mOp ltD (mOp ixD (mOp ixD (mVar 3) (mC (.int 0))) (mVar 1)) (mVar 2)))) (sRaise 1 22 (mC (.str "cost"))) sNext)
theorem m_accept_least_eq : m_accept_least = (sSeq b_accept_least_0 (sSeq b_accept_least_1 (sSeq b_accept_least_2 (sSeq (sFor (mIt (mVar 3)) (gmName 4) (sSeq b_accept_least_3_0 b_accept_least_3_1)) (sSeq b_accept_least_4 (sSeq (sFor (mItS enumD (mCons (mVar 0) mNil)) (gmTup 2 (gmCons (gmName 5) (gmCons (gmName 6) gmNil))) (sFor (mItA rangeD1 (mCons (mOp addD (mVar 1) (mC (.int 1))) mNil)) (gmName 7) (sFor (mIt (mVar 6)) (gmTup 2 (gmCons (gmName 8) (gmCons (gmName 9) gmNil))) (sSeq b_accept_least_5_0_0_0 b_accept_least_5_0_0_1)))) b_accept_least_6)))))) := rfl
def b__law_least_due_0 : SM := (sIf (mOr (mNot (mTru (mCall F__law_whole (mCons (mVar 2) mNil)))) (mOr (mNot (mTru (mIsT "tuple" (mVar 3)))) (mTest (mOp neD (mCB lenD (mCons (mVar 3) mNil)) (mOp addD (mCB lenD (mCons (mVar 0) mNil)) (mC (.int 1))))))) (sRet (mC (.str "paper form"))) sNext)
def b__law_least_due_1_0 : SM := (sIf (mOr (mNot (mTru (mIsT "tuple" (mVar 4)))) (mOr (mTest (mOp neD (mCB lenD (mCons (mVar 4) mNil)) (mOp addD (mVar 1) (mC (.int 1))))) (mTru (mLc (mIt (mVar 4)) (gmName 7) (mAnd (mTest (mOp nisD (mVar 7) (mC .non))) (mNot (mTru (mCall F__law_whole (mCons (mVar 7) mNil))))) (mVar 7) [7])))) (sRet (mC (.str "paper form"))) sNext)
def b__law_least_due_2 : SM := (sIf (mTru (mLc (mIt (mOp ixD (mVar 3) (mUn negD (mC (.int 1))))) (gmName 7) (mOr (mTest (mOp isD (mVar 7) (mC .non))) (mTest (mOp gtD (mVar 7) (mC (.int 0))))) (mVar 7) [7])) (sRet (mC (.str "paper end"))) sNext)
def b__law_least_due_3_0_0_0 : SM := (sAsg (mIf (mTest (mOp leD (mVar 8) (mVar 6))) (mOp ixD (mOp ixD (mVar 3) (mOp addD (mVar 5) (mC (.int 1)))) (mOp subD (mVar 6) (mVar 8))) (mC .non)) (gmName 9))
def b__law_least_due_3_0_0_1 : SM := (sIf (mAnd (mTest (mOp nisD (mVar 9) (mC .non))) (mOr (mTest (mOp isD (mOp ixD (mOp ixD (mVar 3) (mVar 5)) (mVar 6)) (mC .non))) (mTest (mOp gtD (mOp ixD (mOp ixD (mVar 3) (mVar 5)) (mVar 6)) (mOp addD (mVar 7) (mVar 9)))))) (sRet (mC (.str "paper row"))) sNext)
def b__law_least_due_4 : SM := (sRet (mIf (mAnd (mTest (mOp nisD (mOp ixD (mOp ixD (mVar 3) (mC (.int 0))) (mVar 1)) (mC .non))) (mTest (mOp ltD (mOp ixD (mOp ixD (mVar 3) (mC (.int 0))) (mVar 1)) (mVar 2)))) (mC (.str "paper cost")) (mC .non)))
theorem m__law_least_due_eq : m__law_least_due = (sSeq b__law_least_due_0 (sSeq (sFor (mIt (mVar 3)) (gmName 4) b__law_least_due_1_0) (sSeq b__law_least_due_2 (sSeq (sFor (mItA rangeD1 (mCons (mCB lenD (mCons (mVar 0) mNil)) mNil)) (gmName 5) (sFor (mItA rangeD1 (mCons (mOp addD (mVar 1) (mC (.int 1))) mNil)) (gmName 6) (sFor (mIt (mOp ixD (mVar 0) (mVar 5))) (gmTup 2 (gmCons (gmName 8) (gmCons (gmName 7) gmNil))) (sSeq b__law_least_due_3_0_0_0 b__law_least_due_3_0_0_1)))) b__law_least_due_4)))) := rfl
def b_tables_of_0 : SM := (sAsg (mLoc (mCons (mOp mulV (mLst (mCons (mC (.int 0)) mNil)) (mOp addD (mVar 1) (mC (.int 1)))) mNil)) (gmName 2))
def b_tables_of_1_0 : SM := (sAsg (mOp ixD (mVar 2) (mUn negD (mC (.int 1)))) (gmName 4))
def b_tables_of_1_1 : SM := (sAsg (mLoc mNil) (gmName 5))
def b_tables_of_1_2_0 : SM := (sAsg (mLc (mIt (mVar 3)) (gmTup 2 (gmCons (gmName 8) (gmCons (gmName 9) gmNil))) (mAnd (mTest (mOp leD (mVar 8) (mVar 6))) (mTest (mOp nisD (mOp ixD (mVar 4) (mOp subD (mVar 6) (mVar 8))) (mC .non)))) (mTup (mCons (mVar 8) (mCons (mVar 9) mNil))) [8, 9]) (gmName 7))
def b_tables_of_1_2_1 : SM := (sDrop (mMt "list" appendD (mVar 5) (mCons (mIf (mTru (mVar 7)) (mCB minD2 (mCons (mLc (mIt (mVar 7)) (gmTup 2 (gmCons (gmName 8) (gmCons (gmName 9) gmNil))) mYes (mOp addD (mVar 9) (mOp ixD (mVar 4) (mOp subD (mVar 6) (mVar 8)))) [8, 9]) mNil)) (mC .non)) mNil)))
def b_tables_of_1_3 : SM := (sDrop (mMt "list" appendD (mVar 2) (mCons (mVar 5) mNil)))
def b_tables_of_2 : SM := (sRet (mRev2 (mVar 2)))
theorem m_tables_of_eq : m_tables_of = (sSeq b_tables_of_0 (sSeq (sFor (mIt (mRev2 (mVar 0))) (gmName 3) (sSeq b_tables_of_1_0 (sSeq b_tables_of_1_1 (sSeq (sFor (mItA rangeD1 (mCons (mOp addD (mVar 1) (mC (.int 1))) mNil)) (gmName 6) (sSeq b_tables_of_1_2_0 b_tables_of_1_2_1)) b_tables_of_1_3)))) b_tables_of_2)) := rfl
def b__law_rows_0 : SM := (sAsg (mLst (mCons (mOp mulV (mLst (mCons (mC (.int 0)) mNil)) (mOp addD (mVar 1) (mC (.int 1)))) mNil)) (gmName 2))
def b__law_rows_1_0 : SM := (sAsg (mLoc mNil) (gmName 4))
def b__law_rows_1_1_0 : SM := (sAsg (mLc (mIt (mVar 3)) (gmTup 2 (gmCons (gmName 7) (gmCons (gmName 8) gmNil))) (mAnd (mTest (mOp leD (mVar 7) (mVar 5))) (mTest (mOp nisD (mOp ixD (mOp ixD (mVar 2) (mC (.int 0))) (mOp subD (mVar 5) (mVar 7))) (mC .non)))) (mOp addD (mVar 8) (mOp ixD (mOp ixD (mVar 2) (mC (.int 0))) (mOp subD (mVar 5) (mVar 7)))) [7, 8]) (gmName 6))
def b__law_rows_1_1_1 : SM := (sDrop (mMt "list" appendD (mVar 4) (mCons (mIf (mTru (mVar 6)) (mCB minD2 (mCons (mVar 6) mNil)) (mC .non)) mNil)))
def b__law_rows_1_2 : SM := (sAsg (mOp addD (mLst (mCons (mVar 4) mNil)) (mVar 2)) (gmName 2))
def b__law_rows_2 : SM := (sRet (mCB tupD (mCons (mLc (mIt (mVar 2)) (gmName 4) mYes (mCB tupD (mCons (mVar 4) mNil)) [4]) mNil)))
theorem m__law_rows_eq : m__law_rows = (sSeq b__law_rows_0 (sSeq (sFor (mIt (mRev2 (mVar 0))) (gmName 3) (sSeq b__law_rows_1_0 (sSeq (sFor (mItA rangeD1 (mCons (mOp addD (mVar 1) (mC (.int 1))) mNil)) (gmName 5) (sSeq b__law_rows_1_1_0 b__law_rows_1_1_1)) b__law_rows_1_2))) b__law_rows_2)) := rfl
def b_judge_plan_0 : SM := (sDrop (mCall F_check_parts (mCons (mVar 0) mNil)))
def b_judge_plan_1 : SM := (sDrop (mCall F_check_bound (mCons (mVar 1) mNil)))
def b_judge_plan_2 : SM := (sAsg (mCB sumD (mCons (mLc (mIt (mVar 0)) (gmName 7) mYes (mCB minD2 (mCons (mLc (mIt (mVar 7)) (gmTup 2 (gmCons (gmName 10) (gmCons (gmName 11) gmNil))) mYes (mVar 10) [10, 11]) mNil)) [7]) mNil)) (gmName 2))
def b_judge_plan_3 : SM := (sIf (mTest (mOp gtD (mVar 2) (mVar 1))) (sRet (mTup (mCons (mC (.str "none")) (mCons (mVar 2) mNil)))) sNext)
def b_judge_plan_4 : SM := (sAsg (mCall F_tables_of (mCons (mVar 0) (mCons (mVar 1) mNil))) (gmName 3))
def b_judge_plan_5 : SM := (sAsg (mLoc mNil) (gmName 4))
def b_judge_plan_6 : SM := (sAsg (mVar 1) (gmName 5))
def b_judge_plan_7_0_0 : SM := (sAsg (mIf (mTest (mOp leD (mVar 10) (mVar 5))) (mOp ixD (mOp ixD (mVar 3) (mOp addD (mVar 6) (mC (.int 1)))) (mOp subD (mVar 5) (mVar 10))) (mC .non)) (gmName 9))
def b_judge_plan_7_0_1a_0 : SM := (sDrop (mMt "list" appendD (mVar 4) (mCons (mVar 8) mNil)))
def b_judge_plan_7_0_1a_1 : SM := (sAug 5 subD (mVar 10))
def b_judge_plan_7_0_1a_2 : SM := sBrk
def b_judge_plan_7_0_1b_0 : SM := sNext
def b_judge_plan_8 : SM := (sRet (mTup (mCons (mC (.str "plan")) (mCons (mOp ixD (mOp ixD (mVar 3) (mC (.int 0))) (mVar 1)) (mCons (mCB tupD (mCons (mVar 4) mNil)) mNil)))))
theorem m_judge_plan_eq : m_judge_plan = (sSeq b_judge_plan_0 (sSeq b_judge_plan_1 (sSeq b_judge_plan_2 (sSeq b_judge_plan_3 (sSeq b_judge_plan_4 (sSeq b_judge_plan_5 (sSeq b_judge_plan_6 (sSeq (sFor (mItS enumD (mCons (mVar 0) mNil)) (gmTup 2 (gmCons (gmName 6) (gmCons (gmName 7) gmNil))) (sFor (mItS enumD (mCons (mVar 7) mNil)) (gmTup 2 (gmCons (gmName 8) (gmCons (gmTup 2 (gmCons (gmName 10) (gmCons (gmName 11) gmNil))) gmNil))) (sSeq b_judge_plan_7_0_0 (sIf (mAnd (mTest (mOp nisD (mVar 9) (mC .non))) (mTest (mOp eqD (mOp addD (mVar 11) (mVar 9)) (mOp ixD (mOp ixD (mVar 3) (mVar 6)) (mVar 5))))) (sSeq b_judge_plan_7_0_1a_0 (sSeq b_judge_plan_7_0_1a_1 b_judge_plan_7_0_1a_2)) b_judge_plan_7_0_1b_0)))) b_judge_plan_8)))))))) := rfl
def b__law_papers_hold_0 : SM := (sAsg (mCB tupD (mCons (mLc (mItA rangeD1 (mCons (mOp addD (mC (.int 1)) (mCall F__law_draw (mCons (mVar 0) (mCons (mC (.int 4)) mNil)))) mNil)) (gmName 9) mYes (mCB tupD (mCons (mLc (mItA rangeD1 (mCons (mOp addD (mC (.int 1)) (mCall F__law_draw (mCons (mVar 0) (mCons (mC (.int 4)) mNil)))) mNil)) (gmName 13) mYes (mTup (mCons (mCall F__law_draw (mCons (mVar 0) (mCons (mC (.int 6)) mNil))) (mCons (mCall F__law_draw (mCons (mVar 0) (mCons (mC (.int 9)) mNil))) mNil))) [13]) mNil)) [9]) mNil)) (gmName 1))
def b__law_papers_hold_1 : SM := (sPar 8 2 (mCons (mCall F__law_draw (mCons (mVar 0) (mCons (mC (.int 12)) mNil))) (mCons (mTup mNil) mNil)))
def b__law_papers_hold_2 : SM := (sAsg (mCall F__law_rows (mCons (mVar 1) (mCons (mVar 8) mNil))) (gmName 2))
def b__law_papers_hold_3 : SM := (sAsg (mIf (mTest (mOp nisD (mOp ixD (mOp ixD (mVar 2) (mC (.int 0))) (mVar 8)) (mC .non))) (mOp ixD (mOp ixD (mVar 2) (mC (.int 0))) (mVar 8)) (mCall F__law_draw (mCons (mVar 0) (mCons (mC (.int 20)) mNil)))) (gmName 3))
def b__law_papers_hold_4_0 : SM := (sAsg (mCB tupD (mCons (mLc (mIt (mVar 1)) (gmName 12) mYes (mCall F__law_draw (mCons (mVar 0) (mCons (mCB lenD (mCons (mVar 12) mNil)) mNil))) [12]) mNil)) (gmName 7))
def b__law_papers_hold_4_1_0_0 : SM := (sIf (mTest (mOp neD (mCall F__law_heard (mCons (mC (.fn 22)) (mCons (mLst (mCons (mVar 1) (mCons (mVar 8) (mCons (mVar 11) (mCons (mVar 5) mNil))))) mNil))) (mCall F__law_plan_due (mCons (mVar 1) (mCons (mVar 8) (mCons (mVar 11) (mCons (mVar 5) mNil))))))) (sRet (mC (.bl false))) sNext)
def b__law_papers_hold_5 : SM := (sPar 9 10 (mCons (mCall F__law_draw (mCons (mVar 0) (mCons (mCB lenD (mCons (mVar 2) mNil)) mNil))) (mCons (mCall F__law_draw (mCons (mVar 0) (mCons (mOp addD (mVar 8) (mC (.int 1))) mNil))) mNil)))
def b__law_papers_hold_6 : SM := (sAsg (mOp ixD (mOp ixD (mVar 2) (mVar 9)) (mVar 10)) (gmName 5))
def b__law_papers_hold_7 : SM := (sAsg (mLst (mCons (mVar 2) (mCons (mCall F__law_put (mCons (mVar 2) (mCons (mVar 9) (mCons (mVar 10) (mCons (mC .non) mNil))))) (mCons (mCall F__law_put (mCons (mVar 2) (mCons (mVar 9) (mCons (mVar 10) (mCons (mIf (mTest (mOp isD (mVar 5) (mC .non))) (mC (.int 0)) (mOp addD (mVar 5) (mC (.int 1)))) mNil))))) (mCons (mCall F__law_put (mCons (mVar 2) (mCons (mVar 9) (mCons (mVar 10) (mCons (mIf (mTest (mOp isD (mVar 5) (mC .non))) (mUn negD (mC (.int 1))) (mOp subD (mVar 5) (mC (.int 1)))) mNil))))) mNil))))) (gmName 6))
def b__law_papers_hold_8 : SM := (sAsg (mOp addD (mVar 6) (mLst (mCons (mCall F__law_put (mCons (mVar 2) (mCons (mVar 9) (mCons (mVar 10) (mCons (mC (.str "a")) mNil))))) (mCons (mCall F__law_put (mCons (mVar 2) (mCons (mVar 9) (mCons (mVar 10) (mCons (mC (.bl true)) mNil))))) (mCons (mSl (mVar 2) (mPart (mC (.int 1))) mNoPart) (mCons (mOp addD (mVar 2) (mSl (mVar 2) (mPart (mUn negD (mC (.int 1)))) mNoPart)) (mCons (mC .non) (mCons (mC (.str "a")) (mCons (mOp addD (mSl (mVar 2) mNoPart (mPart (mUn negD (mC (.int 1))))) (mTup (mCons (mSl (mOp ixD (mVar 2) (mUn negD (mC (.int 1)))) (mPart (mC (.int 1))) mNoPart) mNil))) mNil))))))))) (gmName 6))
def b__law_papers_hold_9 : SM := (sAsg (mOp addD (mVar 6) (mLst (mCons (mCB tupD (mCons (mLc (mIt (mVar 2)) (gmName 14) mYes (mSl (mVar 14) mNoPart (mPart (mUn negD (mC (.int 1))))) [14]) mNil)) (mCons (mOp mulT (mTup (mCons (mC .non) mNil)) (mCB lenD (mCons (mVar 2) mNil))) (mCons (mOp addD (mSl (mVar 2) mNoPart (mPart (mUn negD (mC (.int 1))))) (mTup (mCons (mOp mulT (mTup (mCons (mOp subD (mC (.int 0)) (mC (.int 5))) mNil)) (mOp addD (mVar 8) (mC (.int 1)))) mNil))) (mCons (mOp addD (mSl (mVar 2) mNoPart (mPart (mUn negD (mC (.int 1))))) (mTup (mCons (mOp mulT (mTup (mCons (mC (.int 1)) mNil)) (mOp addD (mVar 8) (mC (.int 1)))) mNil))) mNil)))))) (gmName 6))
def b__law_papers_hold_10_0_0 : SM := (sIf (mTest (mOp neD (mCall F__law_heard (mCons (mC (.fn 23)) (mCons (mLst (mCons (mVar 1) (mCons (mVar 8) (mCons (mVar 11) (mCons (mVar 7) mNil))))) mNil))) (mCall F__law_least_due (mCons (mVar 1) (mCons (mVar 8) (mCons (mVar 11) (mCons (mVar 7) mNil))))))) (sRet (mC (.bl false))) sNext)
def b__law_papers_hold_11 : SM := (sRet (mC (.bl true)))
theorem m__law_papers_hold_eq : m__law_papers_hold = (sSeq b__law_papers_hold_0 (sSeq b__law_papers_hold_1 (sSeq b__law_papers_hold_2 (sSeq b__law_papers_hold_3 (sSeq (sFor (mItA rangeD1 (mCons (mC (.int 4)) mNil)) (gmName 4) (sSeq b__law_papers_hold_4_0 (sFor (mIt (mLst (mCons (mVar 7) (mCons (mSl (mVar 7) (mPart (mC (.int 1))) mNoPart) (mCons (mOp addD (mVar 7) (mTup (mCons (mC (.int 0)) mNil))) (mCons (mOp mulT (mTup (mCons (mC .non) mNil)) (mCB lenD (mCons (mVar 1) mNil))) (mCons (mC .non) (mCons (mC (.str "a")) (mCons (mOp addD (mSl (mVar 7) mNoPart (mPart (mUn negD (mC (.int 1))))) (mTup (mCons (mCB lenD (mCons (mOp ixD (mVar 1) (mUn negD (mC (.int 1)))) mNil)) mNil))) (mCons (mOp addD (mTup (mCons (mUn negD (mC (.int 1))) mNil)) (mSl (mVar 7) (mPart (mC (.int 1))) mNoPart)) (mCons (mOp mulT (mTup (mCons (mC (.bl true)) mNil)) (mCB lenD (mCons (mVar 1) mNil))) mNil))))))))))) (gmName 5) (sFor (mIt (mLst (mCons (mVar 3) (mCons (mOp addD (mVar 3) (mC (.int 3))) (mCons (mOp subD (mVar 3) (mC (.int 1))) (mCons (mC (.int 0)) (mCons (mC .non) (mCons (mC (.str "1")) mNil)))))))) (gmName 11) b__law_papers_hold_4_1_0_0)))) (sSeq b__law_papers_hold_5 (sSeq b__law_papers_hold_6 (sSeq b__law_papers_hold_7 (sSeq b__law_papers_hold_8 (sSeq b__law_papers_hold_9 (sSeq (sFor (mIt (mVar 6)) (gmName 7) (sFor (mIt (mLst (mCons (mVar 3) (mCons (mOp subD (mVar 3) (mC (.int 1))) (mCons (mOp addD (mVar 3) (mC (.int 1))) (mCons (mC .non) (mCons (mC (.bl true)) mNil))))))) (gmName 11) b__law_papers_hold_10_0_0)) b__law_papers_hold_11))))))))))) := rfl
def b__law_arguments_hold_0 : SM := (sAsg (mTup (mCons (mTup (mCons (mTup (mCons (mC (.int 1)) (mCons (mC (.int 1)) mNil))) (mCons (mTup (mCons (mC (.int 2)) (mCons (mC (.int 1)) mNil))) (mCons (mTup (mCons (mC (.int 1)) (mCons (mC (.int 2)) mNil))) mNil)))) (mCons (mTup (mCons (mTup (mCons (mTup (mCons (mC (.int 5)) (mCons (mC (.int 0)) mNil))) (mCons (mTup (mCons (mC (.int 2)) (mCons (mC (.int 30)) mNil))) mNil))) (mCons (mTup (mCons (mTup (mCons (mC (.int 4)) (mCons (mC (.int 0)) mNil))) (mCons (mTup (mCons (mC (.int 1)) (mCons (mC (.int 50)) mNil))) mNil))) mNil))) mNil))) (gmUnp 2 (gmCons (gmName 8) (gmCons (gmName 9) gmNil))))
def b__law_arguments_hold_1 : SM := (sAsg (mLst (mCons (mC .non) (mCons (mTup mNil) (mCons (mOp mulT (mTup (mCons (mVar 8) mNil)) (mC (.int 21))) (mCons (mC (.str "ab")) (mCons (mTup (mCons (mVar 8) (mCons (mC .non) mNil))) (mCons (mTup (mCons (mVar 8) (mCons (mTup (mCons (mTup (mCons (mC (.int 1)) (mCons (mC (.int 1)) mNil))) (mCons (mTup (mCons (mC (.int 2)) (mCons (mC (.int 1)) mNil))) mNil))) mNil))) (mCons (mTup (mCons (mTup (mCons (mTup (mCons (mC (.int 1)) (mCons (mC (.int 1)) mNil))) (mCons (mTup (mCons (mC (.int 2)) (mCons (mC (.int 1)) mNil))) (mCons (mTup (mCons (mUn negD (mC (.int 1))) (mCons (mC (.int 2)) mNil))) mNil)))) mNil)) (mCons (mTup (mCons (mTup (mCons (mTup (mCons (mC (.int 1)) (mCons (mC (.int 1)) mNil))) (mCons (mTup (mCons (mC (.int 2)) (mCons (mC (.int 2)) mNil))) (mCons (mTup (mCons (mC (.int 1)) (mCons (mC (.int 1)) mNil))) mNil)))) mNil)) (mCons (mTup (mCons (mVar 8) (mCons (mTup (mCons (mTup (mCons (mC (.int 1)) (mCons (mC (.int 0)) mNil))) (mCons (mTup (mCons (mC (.int 1)) (mCons (mC (.int 1)) mNil))) (mCons (mTup (mCons (mC (.int 1)) (mCons (mC (.int 1)) mNil))) mNil)))) mNil))) mNil)))))))))) (gmName 1))
def b__law_arguments_hold_2 : SM := (sAsg (mOp addD (mVar 1) (mLst (mCons (mTup (mCons (mTup (mCons (mTup (mCons (mC (.bl true)) (mCons (mC (.int 1)) mNil))) (mCons (mTup (mCons (mC (.int 1)) (mCons (mC (.int 1)) mNil))) (mCons (mTup (mCons (mC (.int 1)) (mCons (mC (.int 1)) mNil))) mNil)))) mNil)) (mCons (mTup (mCons (mTup (mCons (mTup (mCons (mC (.int 1)) (mCons (mC (.int 1)) mNil))) (mCons (mTup (mCons (mOp addD (mOp powD (mC (.int 10)) (mC (.int 12))) (mC (.int 1))) (mCons (mC (.int 1)) mNil))) (mCons (mTup (mCons (mC (.int 1)) (mCons (mC (.int 1)) mNil))) mNil)))) mNil)) (mCons (mTup (mCons (mTup (mCons (mTup (mCons (mC (.int 1)) (mCons (mC (.int 1)) mNil))) (mCons (mTup (mCons (mC (.int 1)) (mCons (mC (.int 1)) mNil))) (mCons (mC (.int 1)) mNil)))) mNil)) (mCons (mC (.int 7)) mNil)))))) (gmName 1))
def b__law_arguments_hold_3 : SM := (sAsg (mCall F__law_pick (mCons (mVar 0) (mCons (mVar 1) mNil))) (gmName 2))
def b__law_arguments_hold_4_0 : SM := (sIf (mTest (mOp neD (mCall F__law_heard (mCons (mVar 3) (mCons (mLst (mCons (mVar 2) mNil)) mNil))) (mC (.str "argument measures")))) (sRet (mC (.bl false))) sNext)
def b__law_arguments_hold_5 : SM := (sAsg (mLst (mCons (mC .non) (mCons (mTup mNil) (mCons (mTup (mCons (mTup mNil) mNil)) (mCons (mOp mulT (mTup (mCons (mTup (mCons (mTup (mCons (mC (.int 1)) (mCons (mC (.int 1)) mNil))) mNil)) mNil)) (mC (.int 21))) (mCons (mTup (mCons (mOp mulT (mTup (mCons (mTup (mCons (mC (.int 1)) (mCons (mC (.int 1)) mNil))) mNil)) (mC (.int 9))) mNil)) (mCons (mC (.str "ab")) (mCons (mTup (mCons (mTup (mCons (mC .non) mNil)) mNil)) (mCons (mTup (mCons (mTup (mCons (mTup (mCons (mC (.int 1)) mNil)) mNil)) mNil)) (mCons (mTup (mCons (mTup (mCons (mTup (mCons (mC (.int 1)) (mCons (mC (.int 2)) (mCons (mC (.int 3)) mNil)))) mNil)) mNil)) (mCons (mTup (mCons (mTup (mCons (mTup (mCons (mUn negD (mC (.int 1))) (mCons (mC (.int 1)) mNil))) mNil)) mNil)) (mCons (mTup (mCons (mTup (mCons (mTup (mCons (mC (.int 2001)) (mCons (mC (.int 1)) mNil))) mNil)) mNil)) (mCons (mTup (mCons (mTup (mCons (mTup (mCons (mC (.int 1)) (mCons (mUn negD (mC (.int 1))) mNil))) mNil)) mNil)) (mCons (mTup (mCons (mTup (mCons (mTup (mCons (mC (.int 1)) (mCons (mC (.int 1000001)) mNil))) mNil)) mNil)) mNil)))))))))))))) (gmName 4))
def b__law_arguments_hold_6 : SM := (sAsg (mOp addD (mVar 4) (mLst (mCons (mTup (mCons (mTup (mCons (mTup (mCons (mC (.bl true)) (mCons (mC (.int 1)) mNil))) mNil)) mNil)) (mCons (mTup (mCons (mTup (mCons (mTup (mCons (mC (.str "1")) (mCons (mC (.int 1)) mNil))) mNil)) mNil)) (mCons (mTup (mCons (mTup (mCons (mTup (mCons (mC (.int 1)) (mCons (mC (.int 1)) mNil))) mNil)) (mCons (mC .non) mNil))) (mCons (mTup (mCons (mTup (mCons (mTup (mCons (mC (.int 1)) (mCons (mC .non) mNil))) mNil)) mNil)) (mCons (mC (.int 5)) mNil))))))) (gmName 4))
def b__law_arguments_hold_7 : SM := (sAsg (mCall F__law_pick (mCons (mVar 0) (mCons (mVar 4) mNil))) (gmName 5))
def b__law_arguments_hold_8_0 : SM := (sIf (mTest (mOp neD (mCall F__law_heard (mCons (mOp ixD (mVar 6) (mC (.int 0))) (mCons (mSl (mVar 6) (mPart (mC (.int 1))) mNoPart) mNil))) (mC (.str "argument parts")))) (sRet (mC (.bl false))) sNext)
def b__law_arguments_hold_9_0_0 : SM := (sIf (mTest (mOp neD (mCall F__law_heard (mCons (mOp ixD (mVar 6) (mC (.int 0))) (mCons (mSl (mVar 6) (mPart (mC (.int 1))) mNoPart) mNil))) (mC (.str "argument bound")))) (sRet (mC (.bl false))) sNext)
def b__law_arguments_hold_10 : SM := (sRet (mAndV (mOp eqD (mCall F_judge_plan (mCons (mTup (mCons (mTup (mCons (mTup (mCons (mC (.int 2000)) (mCons (mC (.int 1000000)) mNil))) mNil)) mNil)) (mCons (mC (.int 2000)) mNil))) (mTup (mCons (mC (.str "plan")) (mCons (mC (.int 1000000)) (mCons (mTup (mCons (mC (.int 0)) mNil)) mNil))))) (mOp isD (mCall F_next_saving (mCons (mVar 9) (mCons (mC (.int 2000)) mNil))) (mC .non))))
theorem m__law_arguments_hold_eq : m__law_arguments_hold = (sSeq b__law_arguments_hold_0 (sSeq b__law_arguments_hold_1 (sSeq b__law_arguments_hold_2 (sSeq b__law_arguments_hold_3 (sSeq (sFor (mIt (mLst (mCons (mC (.fn 13)) (mCons (mC (.fn 14)) (mCons (mC (.fn 15)) (mCons (mC (.fn 16)) mNil)))))) (gmName 3) b__law_arguments_hold_4_0) (sSeq b__law_arguments_hold_5 (sSeq b__law_arguments_hold_6 (sSeq b__law_arguments_hold_7 (sSeq (sFor (mIt (mLst (mCons (mLst (mCons (mC (.fn 20)) (mCons (mVar 5) (mCons (mC .non) mNil)))) (mCons (mLst (mCons (mC (.fn 21)) (mCons (mVar 5) (mCons (mC .non) mNil)))) (mCons (mLst (mCons (mC (.fn 25)) (mCons (mVar 5) (mCons (mC .non) mNil)))) (mCons (mLst (mCons (mC (.fn 24)) (mCons (mVar 5) mNil))) (mCons (mLst (mCons (mC (.fn 22)) (mCons (mVar 5) (mCons (mC .non) (mCons (mC .non) (mCons (mC .non) mNil)))))) (mCons (mLst (mCons (mC (.fn 23)) (mCons (mVar 5) (mCons (mC .non) (mCons (mC .non) (mCons (mC .non) mNil)))))) mNil)))))))) (gmName 6) b__law_arguments_hold_8_0) (sSeq (sFor (mIt (mLst (mCons (mC .non) (mCons (mUn negD (mC (.int 1))) (mCons (mC (.int 2001)) (mCons (mC (.bl true)) (mCons (mC (.str "3")) (mCons (mTup (mCons (mC (.int 3)) mNil)) mNil)))))))) (gmName 7) (sFor (mIt (mLst (mCons (mLst (mCons (mC (.fn 20)) (mCons (mVar 9) (mCons (mVar 7) mNil)))) (mCons (mLst (mCons (mC (.fn 21)) (mCons (mVar 9) (mCons (mVar 7) mNil)))) (mCons (mLst (mCons (mC (.fn 25)) (mCons (mVar 9) (mCons (mVar 7) mNil)))) (mCons (mLst (mCons (mC (.fn 22)) (mCons (mVar 9) (mCons (mVar 7) (mCons (mC .non) (mCons (mC .non) mNil)))))) (mCons (mLst (mCons (mC (.fn 23)) (mCons (mVar 9) (mCons (mVar 7) (mCons (mC .non) (mCons (mC .non) mNil)))))) mNil))))))) (gmName 6) b__law_arguments_hold_9_0_0)) b__law_arguments_hold_10)))))))))) := rfl
def b_next_saving_0 : SM := (sAsg (mCall F_judge_plan (mCons (mVar 0) (mCons (mVar 1) mNil))) (gmName 2))
def b_next_saving_1 : SM := (sAsg (mOp ixD (mCall F_tables_of (mCons (mVar 0) (mCons (mC (.int 2000)) mNil))) (mC (.int 0))) (gmName 3))
def b_next_saving_2_0 : SM := (sIf (mAnd (mTest (mOp nisD (mOp ixD (mVar 3) (mVar 4)) (mC .non))) (mOr (mTest (mOp eqD (mOp ixD (mVar 2) (mC (.int 0))) (mC (.str "none")))) (mTest (mOp ltD (mOp ixD (mVar 3) (mVar 4)) (mOp ixD (mVar 2) (mC (.int 1))))))) (sRet (mTup (mCons (mVar 4) (mCons (mOp ixD (mVar 3) (mVar 4)) mNil)))) sNext)
def b_next_saving_3 : SM := (sRet (mC .non))
theorem m_next_saving_eq : m_next_saving = (sSeq b_next_saving_0 (sSeq b_next_saving_1 (sSeq (sFor (mItA rangeD2 (mCons (mOp addD (mVar 1) (mC (.int 1))) (mCons (mOp addD (mC (.int 2000)) (mC (.int 1))) mNil))) (gmName 4) b_next_saving_2_0) b_next_saving_3))) := rfl
end Lw

namespace Lw
open PySem Ev
/-- plain all through -/
def Pl : Nat → D → Prop
  | _, .int _ => True
  | _, .bl _ => True
  | _, .str _ => True
  | _, .non => True
  | n + 1, .tup ds => ds.length ≤ 10000 ∧ ∀ d ∈ ds, Pl n d
  | _, _ => False
theorem Pl.plain {n : Nat} {d : D} (h : Pl n d) : plainA d = true := by
  cases d <;> first | rfl | (cases n <;> exact h.elim)
theorem Pl.tup {n : Nat} {ds : List D} (h : Pl (n + 1) (.tup ds)) : ds.length ≤ 10000 ∧ ∀ d ∈ ds, Pl n d := h
def isNon : D → Bool
  | .non => true
  | _ => false
/-- an entry: None or a whole number -/
def oV (d : D) : Bool := isNon d || isI d
def rowV (b : Nat) : D → Bool
  | .tup ds => decide (ds.length = b + 1) && ds.all oV
  | _ => false
def tabV (n b : Nat) : D → Bool
  | .tup ds => decide (ds.length = n + 1) && ds.all (rowV b)
  | _ => false
def vD : Option Int → D
  | none => .non
  | some i => .int i
abbrev rowD (r : List (Option Int)) : D := .tup (r.map vD)
abbrev tabD (T : List (List (Option Int))) : D := .tup (T.map rowD)
section
variable {S : Store} {QD : D → Store → Prop} {E : EK} {ps : List Part} {b : Nat} {K : Ko} {e0 e1 e2 e3 e4 e5 e6 e7 e8 e9 e10 : Option D}
theorem is_non {d : D} (h : plainA d = true) : isD S d .non = some (.bl (isNon d)) := by cases d <;> first | rfl | cases h
theorem nis_non {d : D} (h : plainA d = true) : nisD S d .non = some (.bl (!isNon d)) := by cases d <;> first | rfl | cases h
theorem oV_v {d : D} (h : oV d = true) : ∃ v, d = vD v := by
  cases d <;> first | exact ⟨none, rfl⟩ | exact ⟨some _, rfl⟩ | cases h
theorem row_v : ∀ {ds : List D}, ds.all oV = true → ∃ r : List (Option Int), ds = r.map vD
  | [], _ => ⟨[], rfl⟩
  | d :: ds, h => by
    simp only [List.all_cons, Bool.and_eq_true] at h
    obtain ⟨v, rfl⟩ := oV_v h.1
    obtain ⟨r, rfl⟩ := row_v h.2
    exact ⟨v :: r, rfl⟩
theorem rowV_v {d : D} (h : rowV b d = true) : ∃ r : List (Option Int), d = rowD r ∧ r.length = b + 1 := by
  cases d with
  | tup ds =>
    simp only [rowV, Bool.and_eq_true, decide_eq_true_eq] at h
    obtain ⟨r, rfl⟩ := row_v h.2
    exact ⟨r, rfl, by simpa using h.1⟩
  | _ => cases h
theorem rows_v : ∀ {ds : List D}, ds.all (rowV b) = true → ∃ T : List (List (Option Int)), ds = T.map rowD ∧ ∀ r ∈ T, r.length = b + 1
  | [], _ => ⟨[], rfl, fun r h => by cases h⟩
  | d :: ds, h => by
    simp only [List.all_cons, Bool.and_eq_true] at h
    obtain ⟨v, rfl, hv⟩ := rowV_v h.1
    obtain ⟨r, rfl, hr⟩ := rows_v h.2
    refine ⟨v :: r, rfl, fun x hx => ?_⟩
    rcases List.mem_cons.mp hx with rfl | z
    · exact hv
    · exact hr x z
theorem tabV_v {n : Nat} {d : D} (h : tabV n b d = true) : ∃ T : List (List (Option Int)), d = tabD T ∧ T.length = n + 1 ∧ ∀ r ∈ T, r.length = b + 1 := by
  cases d with
  | tup ds =>
    simp only [tabV, Bool.and_eq_true, decide_eq_true_eq] at h
    obtain ⟨T, rfl, hT⟩ := rows_v h.2
    exact ⟨T, rfl, by simpa using h.1, hT⟩
  | _ => cases h
theorem ent_comp {ds : List D} (hl : ds.length ≤ 10000) (hd : ∀ d ∈ ds, plainA d = true) :
    mLc (mIt (mVar 4)) (gmName 9) mYes (mOrV (mOp isD (mVar 9) (mC .non)) (mCall F_is_integer (mCons (mVar 9) mNil))) [9] [e0, e1, e2, e3, some (.tup ds), e5, e6, e7, e8, e9, e10] S = .ok (.lst (ds.map fun d => .bl (oV d))) S := by
  refine Wr.eqn (w_lcm ?_)
  walk_at "wv"
  refine Wr.out (a := itL ds) rfl ?_
  refine ⟨_, ds, _, fun d => .bl (oV d), its_L, sl_le hl, ?_, rfl, rfl⟩
  intro d hm
  refine ⟨_, rfl, ?_⟩
  have hp := hd d hm
  refine Wr.eqn ?_
  walk_at "wv"
  refine Wr.out (is_non hp) ?_
  walk_at "wv"
  refine ⟨fun h => ⟨by have h : isNon d = true := h; show D.bl (isNon d) = D.bl (isNon d || isI d); rw [h]; rfl, rfl⟩, fun h => ?_⟩
  walk_at "wv"
  refine Wr.eq (is_integer_ok hp) ?_
  exact ⟨by have h : isNon d = false := h; show D.bl (isI d) = D.bl (isNon d || isI d); rw [h]; rfl, rfl⟩
theorem f_form : rsnOk 22 (.str "form") = true := by decide +kernel
theorem f_end : rsnOk 22 (.str "end") = true := by decide +kernel
theorem f_row : rsnOk 22 (.str "row") = true := by decide +kernel
theorem f_cost : rsnOk 22 (.str "cost") = true := by decide +kernel
theorem rowp {d : D} (hd : Pl 1 d) (q1 : rowV b d = true → K.nx [e0, some (.int (b : Nat)), e2, e3, some d, e5, e6, e7, e8, e9, e10] S) (q2 : rowV b d = false → K.ex 1 (.str "form") S) :
    Ws ((sSeq b_accept_least_3_0 b_accept_least_3_1) [e0, some (.int (b : Nat)), e2, e3, some d, e5, e6, e7, e8, e9, e10] S) K := by
  unfold b_accept_least_3_0 b_accept_least_3_1
  walk_at "wv"
  refine ⟨_, isT_tuple hd.plain, ?_⟩
  walk_at "wv"
  refine ⟨fun h => ⟨fun _ => ?_, fun z => by cases z⟩, fun h => ?_⟩
  · refine s_raise (w_c ⟨f_form, q2 ?_⟩)
    cases d <;> first | rfl | cases h
  obtain ⟨ds, rfl⟩ := isTup_tup (ch := d) (by simpa using h)
  obtain ⟨hl, hds⟩ := hd.tup
  walk_at "wv"
  refine ⟨fun h => ?_, fun h => ?_⟩
  · refine s_raise (w_c ⟨f_form, q2 ?_⟩)
    have h : ¬ ds.length = b + 1 := by simp at h; omega
    simp [rowV, h]
  have hlen : ds.length = b + 1 := by simp at h; omega
  walk_at "wv"
  refine Wr.eq (ent_comp hl fun d hm => (hds d hm).plain) ?_
  walk_at "wv"
  refine Wr.out all_map ?_
  walk_at "wv"
  refine ⟨fun h => ?_, fun h => ?_⟩
  · refine s_raise (w_c ⟨f_form, q2 ?_⟩)
    have h : ds.all oV = false := by simpa using h
    simp [rowV, h]
  · refine s_next (q1 ?_)
    have h : ds.all oV = true := by simpa using h
    simp only [rowV, h, hlen, decide_true, Bool.and_self]
theorem rowl {d : D} (hd : Pl 1 d) {e0 e1 e2 e3 e4 e5 e6 e7 e8 e9 : Option D} (q1 : rowV b d = true → K.nx [e0, some (.int (b : Nat)), e2, e3, some d, e5, e6, e7, e8, e9] S) (q2 : rowV b d = false → K.rt (.str "paper form") S) :
    Ws (b__law_least_due_1_0 [e0, some (.int (b : Nat)), e2, e3, some d, e5, e6, e7, e8, e9] S) K := by
  unfold b__law_least_due_1_0
  walk_at "wv"
  refine ⟨_, isT_tuple hd.plain, ?_⟩
  walk_at "wv"
  refine ⟨fun h => ⟨fun _ => ?_, fun z => by cases z⟩, fun h => ?_⟩
  · walk_at "wv"
    refine q2 ?_
    cases d <;> first | rfl | cases h
  obtain ⟨ds, rfl⟩ := isTup_tup (ch := d) (by simpa using h)
  obtain ⟨hl, hds⟩ := hd.tup
  walk_at "wv"
  refine ⟨fun h => ⟨fun _ => ?_, fun z => by cases z⟩, fun h => ?_⟩
  · walk_at "wv"
    refine q2 ?_
    have h : ¬ ds.length = b + 1 := by simp at h; omega
    simp [rowV, h]
  have hlen : ds.length = b + 1 := by simp at h; omega
  walk_at "wv"
  have e : mLc (mIt (mVar 4)) (gmName 7) (mAnd (mTest (mOp nisD (mVar 7) (mC .non))) (mNot (mTru (mCall F__law_whole (mCons (mVar 7) mNil))))) (mVar 7) [7] [e0, some (.int (b : Nat)), e2, e3, some (.tup ds), e5, e6, e7, e8, e9] S = .ok (.lst ((ds.filter fun d => !oV d).map id)) S := by
    refine Wr.eqn ?_
    with_reducible refine w_lcp ?_
    walk_at "wv"
    refine Wr.out (a := itL ds) rfl ?_
    refine ⟨_, ds, _, fun d => !oV d, id, its_L, sl_le hl, ?_, rfl, rfl⟩
    intro d hm
    refine ⟨_, rfl, ?_, fun _ => rfl⟩
    have hp := (hds d hm).plain
    show mAnd _ _ _ _ = Res.ok (!(isNon d || isI d)) S
    refine Wr.eqn ?_
    walk_at "wv"
    refine Wr.out (nis_non hp) ?_
    walk_at "wv"
    refine ⟨fun h => ?_, fun h => ?_⟩
    · walk_at "wv"
      refine Wr.eq (whole_ok hp) ?_
      walk_at "wv"
      have h : isNon d = false := by simpa using h
      rw [h]
      exact ⟨rfl, rfl⟩
    · have h : isNon d = true := by simpa using h
      rw [h]
      exact ⟨rfl, rfl⟩
  with_reducible refine Wr.eq e ?_
  with_reducible refine Wr.out tr_lst ?_
  have ee : (!((ds.filter fun d => !oV d).map id).isEmpty) = !ds.all oV := by
    rw [List.isEmpty_map, Bool.eq_iff_iff]
    simp [List.isEmpty_iff, List.filter_eq_nil_iff]
  rw [ee]
  refine ⟨fun h => ?_, fun h => ?_⟩
  · walk_at "wv"
    refine q2 ?_
    have h : ds.all oV = false := by simpa using h
    simp [rowV, h]
  · have h : ds.all oV = true := by simpa using h
    walk_at "wv"
    refine q1 ?_
    simp only [rowV, h, hlen, decide_true, Bool.and_self]
end
end Lw

open PySem L2
theorem itsA_EM {α : Type} {xs : List α} {w : α → D} {a : α} : ItsA (itE (xs.map w)) (List.range xs.length) (fun i => .tup [.int (i : Nat), w (xs.getD i a)]) := ⟨by simp [itE], fun S i h => by
  rw [List.length_range] at h
  show (if i ≤ (xs.map w).length then some ((xs.map w)[i]?.map fun d => D.tup [.int (i : Nat), d]) else none) = _
  rw [if_pos (by rw [List.length_map]; exact h), List.getElem?_map]
  by_cases z : i < xs.length
  · rw [List.getElem?_eq_getElem z, List.getElem?_range z, Option.map_some, Option.map_some, Option.map_some, List.getD_eq_getElem?_getD, List.getElem?_eq_getElem z]
    rfl
  · rw [List.getElem?_eq_none (by omega), List.getElem?_eq_none (by simp; omega)]
    rfl⟩
theorem ix_end {S : Store} {ds : List D} {n : Nat} (h : ds.length = n + 1) : ixD S (.tup ds) (.int (-1)) = ds[n]? := by
  show atI ds (-1) = _
  unfold atI ixN
  rw [if_neg (by omega), if_pos (by omega)]
  have e : (-1 + (ds.length : Int)).toNat = n := by omega
  show ds[((-1 : Int) + (ds.length : Int)).toNat]? = ds[n]?
  rw [e]
namespace Lw
open PySem Ev
abbrev Tab := List (List (Option Int))
def getT (T : Tab) (i j : Nat) : Option Int := (T.getD i []).getD j none
def rest (T : Tab) (i j : Nat) (o : Int × Int) : Option Int := if o.1 ≤ (j : Int) then getT T (i + 1) ((j : Int) - o.1).toNat else none
def bad (T : Tab) (i j : Nat) (o : Int × Int) : Bool := match rest T i j o with
  | none => false
  | some r => match getT T i j with
    | none => true
    | some v => decide (o.2 + r < v)
def endE : Option Int → Bool
  | none => false
  | some i => decide (i ≤ 0)
structure GT (n b : Nat) (T : Tab) : Prop where
  len : T.length = n + 1
  row : ∀ r ∈ T, r.length = b + 1
section
variable {S : Store} {QD : D → Store → Prop} {E : EK} {ps : List Part} {n b i j : Nat} {T : Tab} {K : Ko} {e0 e1 e2 e3 e4 e5 e6 e7 e8 e9 e10 : Option D}
theorem GT.at (h : GT n b T) {k : Nat} (hk : k < n + 1) : (T.getD k []).length = b + 1 ∧ T.getD k [] ∈ T := by
  rw [List.getD_eq_getElem?_getD, List.getElem?_eq_getElem (by rw [h.len]; exact hk)]
  exact ⟨h.row _ (List.getElem_mem _), List.getElem_mem _⟩
theorem ixT (h : GT n b T) {k : Nat} (hk : k < n + 1) {S : Store} : ixD S (tabD T) (.int (k : Nat)) = some (rowD (T.getD k [])) := ix_tupM (by rw [h.len]; exact hk)
theorem ixR (h : GT n b T) {k l : Nat} (hk : k < n + 1) (hl : l < b + 1) {S : Store} : ixD S (rowD (T.getD k [])) (.int (l : Nat)) = some (vD (getT T k l)) := ix_tupM (by rw [(h.at hk).1]; exact hl)
theorem nis_v {v : Option Int} : nisD S (vD v) .non = some (.bl v.isSome) := by cases v <;> rfl
theorem is_v {v : Option Int} : isD S (vD v) .non = some (.bl v.isNone) := by cases v <;> rfl
/-- one look -/
theorem stp (h : GT n b T) (hi : i < n) (hj : j ≤ b) {o : Int × Int} (ho : 0 ≤ o.1) (q1 : bad T i j o = false → ∀ x, K.nx [e0, e1, e2, some (tabD T), e4, some (.int (i : Nat)), e6, some (.int (j : Nat)), some (.int o.1), some (.int o.2), x] S)
    (q2 : bad T i j o = true → K.ex 1 (.str "row") S) :
    Ws ((sSeq b_accept_least_5_0_0_0 b_accept_least_5_0_0_1) [e0, e1, e2, some (tabD T), e4, some (.int (i : Nat)), e6, some (.int (j : Nat)), some (.int o.1), some (.int o.2), e10] S) K := by
  unfold b_accept_least_5_0_0_0 b_accept_least_5_0_0_1
  refine s_seq (s_set (Wr.mono (Q' := fun d S' => d = vD (rest T i j o) ∧ S' = S) (E' := fun _ _ _ => False) ?_ ?_ fun _ _ _ z => z.elim))
  · walk_at "wv"
    refine ⟨fun z => ?_, fun z => ?_⟩
    · have z := of_decide_eq_true z
      have e1 : (i : Int) + 1 = ((i + 1 : Nat) : Int) := by omega
      have e2 : (j : Int) - o.1 = ((((j : Int) - o.1).toNat : Nat) : Int) := by omega
      walk_at "wv"
      rw [e1]
      refine Wr.out (ixT h (by omega)) ?_
      walk_at "wv"
      rw [e2]
      refine Wr.out (ixR h (by omega) (by omega)) ?_
      exact ⟨by unfold rest; rw [if_pos z], rfl⟩
    · have z := of_decide_eq_false z
      walk_at "wv"
      exact ⟨by unfold rest; rw [if_neg z]; rfl, rfl⟩
  rintro d S' ⟨rfl, rfl⟩
  have eb : bad T i j o = match rest T i j o with
    | none => false
    | some r => match getT T i j with
      | none => true
      | some v => decide (o.2 + r < v) := rfl
  generalize rest T i j o = r at eb q1 q2
  walk_at "wv"
  refine Wr.out nis_v ?_
  walk_at "wv"
  cases r with
  | none => exact no_of rfl (no_of rfl (s_next (q1 eb _)))
  | some r =>
    refine ya_of rfl ?_
    walk_at "wv"
    refine Wr.out (ixT h (by omega)) ?_
    walk_at "wv"
    refine Wr.out (ixR h (by omega) (by omega)) ?_
    walk_at "wv"
    refine Wr.out is_v ?_
    walk_at "wv"
    generalize hv : getT T i j = v at eb
    cases v with
    | none =>
      refine ya_of rfl (ya_of rfl ?_)
      exact s_raise (w_c ⟨f_row, q2 eb⟩)
    | some v =>
      refine no_of rfl ?_
      walk_at "wv"
      refine Wr.out (ixT h (by omega)) ?_
      walk_at "wv"
      refine Wr.out (ixR h (by omega) (by omega)) ?_
      rw [hv]
      walk_at "wv"
      refine ⟨fun z => ?_, fun z => ?_⟩
      · exact s_raise (w_c ⟨f_row, q2 (eb.trans z)⟩)
      · exact s_next (q1 (eb.trans z) _)
theorem loop1 (h : GT n b T) (hi : i < n) (hj : j ≤ b) {p : Part} (hp : ∀ o ∈ p, 0 ≤ o.1) (q1 : (∀ o ∈ p, bad T i j o = false) → ∀ x8 x9 x10, K.nx [e0, e1, e2, some (tabD T), e4, some (.int (i : Nat)), some (partD p), some (.int (j : Nat)), x8, x9, x10] S)
    (q2 : (∃ o ∈ p, bad T i j o = true) → K.ex 1 (.str "row") S) :
    Ws (sFor (mIt (mVar 6)) (gmTup 2 (gmCons (gmName 8) (gmCons (gmName 9) gmNil))) (sSeq b_accept_least_5_0_0_0 b_accept_least_5_0_0_1) [e0, e1, e2, some (tabD T), e4, some (.int (i : Nat)), some (partD p), some (.int (j : Nat)), e8, e9, e10] S) K := by
  walk_at "wv"
  refine Wr.out (a := itL (p.map oD)) rfl ?_
  refine forGo_its itsA_map (I := fun k δ S' => S' = S ∧ (∀ o ∈ p.take k, bad T i j o = false) ∧ ∃ x8 x9 x10, δ = [e0, e1, e2, some (tabD T), e4, some (.int (i : Nat)), some (partD p), some (.int (j : Nat)), x8, x9, x10]) ⟨rfl, (fun o z => by simp at z), _, _, _, rfl⟩ ?_ ?_
  · rintro k hk δ S' ⟨rfl, ha, x8, x9, x10, rfl⟩
    refine ⟨_, _, rfl, ?_⟩
    dsimp only [List.set_cons_succ, List.set_cons_zero]
    refine stp h hi hj (hp _ (List.getElem_mem hk)) (fun z x => ⟨rfl, fun o ho => ?_, _, _, _, rfl⟩) fun z => q2 ⟨_, List.getElem_mem hk, z⟩
    rw [List.take_succ_eq_append_getElem hk] at ho
    rcases List.mem_append.mp ho with y | y
    · exact ha o y
    · rw [List.mem_singleton.mp y]; exact z
  · rintro δ S' ⟨rfl, ha, x8, x9, x10, rfl⟩
    rw [List.take_length] at ha
    exact q1 ha _ _ _
theorem rngb {b : Nat} (h : b ≤ 2000) : rangeD1 [.int ((b : Int) + 1)] = some (itR 0 (b + 1)) := by
  rw [show (b : Int) + 1 = ((b + 1 : Nat) : Int) by omega]
  exact rangeD1_n (Nat.le_trans (show b + 1 ≤ 10000 by omega) (by decide))
theorem loop2 (h : GT n b T) (hb : b ≤ 2000) (hi : i < n) {p : Part} (hp : ∀ o ∈ p, 0 ≤ o.1) (q1 : (∀ j, j ≤ b → ∀ o ∈ p, bad T i j o = false) → ∀ x7 x8 x9 x10, K.nx [e0, some (.int (b : Nat)), e2, some (tabD T), e4, some (.int (i : Nat)), some (partD p), x7, x8, x9, x10] S)
    (q2 : (∃ j, j ≤ b ∧ ∃ o ∈ p, bad T i j o = true) → K.ex 1 (.str "row") S) :
    Ws (sFor (mItA rangeD1 (mCons (mOp addD (mVar 1) (mC (.int 1))) mNil)) (gmName 7) (sFor (mIt (mVar 6)) (gmTup 2 (gmCons (gmName 8) (gmCons (gmName 9) gmNil))) (sSeq b_accept_least_5_0_0_0 b_accept_least_5_0_0_1)) [e0, some (.int (b : Nat)), e2, some (tabD T), e4, some (.int (i : Nat)), some (partD p), e7, e8, e9, e10] S) K := by
  with_reducible refine s_for ?_
  walk_at "wv"
  with_reducible refine Wr.out (rngb hb) ?_
  refine forGo_its itsA_R (I := fun k δ S' => S' = S ∧ (∀ j, j < k → ∀ o ∈ p, bad T i j o = false) ∧ ∃ x7 x8 x9 x10, δ = [e0, some (.int (b : Nat)), e2, some (tabD T), e4, some (.int (i : Nat)), some (partD p), x7, x8, x9, x10]) ⟨rfl, (fun j z => by omega), _, _, _, _, rfl⟩ ?_ ?_
  · rintro k hk δ S' ⟨rfl, ha, x7, x8, x9, x10, rfl⟩
    rw [List.length_range] at hk
    rw [List.getElem_range]
    refine ⟨_, _, rfl, ?_⟩
    dsimp only [List.set_cons_succ, List.set_cons_zero]
    refine loop1 h hi (by omega) hp (fun z x8 x9 x10 => ⟨rfl, fun j hj => ?_, _, _, _, _, rfl⟩) fun z => q2 ⟨k, by omega, z⟩
    by_cases y : j = k
    · subst y; exact z
    · exact ha j (by omega)
  · rintro δ S' ⟨rfl, ha, x7, x8, x9, x10, rfl⟩
    rw [List.length_range] at ha
    exact q1 (fun j hj => ha j (by omega)) _ _ _ _
theorem loop3 (h : GT ps.length b T) (hb : b ≤ 2000) (hp : GP ps) (q1 : (∀ i, i < ps.length → ∀ j, j ≤ b → ∀ o ∈ ps.getD i [], bad T i j o = false) → ∀ x5 x6 x7 x8 x9 x10, K.nx [some (partsD ps), some (.int (b : Nat)), e2, some (tabD T), e4, x5, x6, x7, x8, x9, x10] S)
    (q2 : (∃ i, i < ps.length ∧ ∃ j, j ≤ b ∧ ∃ o ∈ ps.getD i [], bad T i j o = true) → K.ex 1 (.str "row") S) :
    Ws (sFor (mItS enumD (mCons (mVar 0) mNil)) (gmTup 2 (gmCons (gmName 5) (gmCons (gmName 6) gmNil))) (sFor (mItA rangeD1 (mCons (mOp addD (mVar 1) (mC (.int 1))) mNil)) (gmName 7) (sFor (mIt (mVar 6)) (gmTup 2 (gmCons (gmName 8) (gmCons (gmName 9) gmNil))) (sSeq b_accept_least_5_0_0_0 b_accept_least_5_0_0_1))) [some (partsD ps), some (.int (b : Nat)), e2, some (tabD T), e4, e5, e6, e7, e8, e9, e10] S) K := by
  with_reducible refine s_for ?_
  walk_at "wv"
  refine Wr.out (a := itE (ps.map partD)) rfl ?_
  refine forGo_its (itsA_EM (a := [])) (I := fun k δ S' => S' = S ∧ (∀ i, i < k → ∀ j, j ≤ b → ∀ o ∈ ps.getD i [], bad T i j o = false) ∧ ∃ x5 x6 x7 x8 x9 x10, δ = [some (partsD ps), some (.int (b : Nat)), e2, some (tabD T), e4, x5, x6, x7, x8, x9, x10]) ⟨rfl, (fun j z => by omega), _, _, _, _, _, _, rfl⟩ ?_ ?_
  · rintro k hk δ S' ⟨rfl, ha, x5, x6, x7, x8, x9, x10, rfl⟩
    rw [List.length_range] at hk
    rw [List.getElem_range]
    refine ⟨_, _, rfl, ?_⟩
    dsimp only [List.set_cons_succ, List.set_cons_zero]
    have hm : ps.getD k [] ∈ ps := by
      rw [List.getD_eq_getElem?_getD, List.getElem?_eq_getElem hk]
      exact List.getElem_mem _
    with_reducible refine loop2 h hb hk (fun o ho => (hp.o1 _ hm o ho).1) (fun z x7 x8 x9 x10 => ⟨rfl, fun j hj => ?_, _, _, _, _, _, _, rfl⟩) fun z => q2 ⟨k, by omega, z⟩
    by_cases y : j = k
    · subst y; exact z
    · exact ha j (by omega)
  · rintro δ S' ⟨rfl, ha, x5, x6, x7, x8, x9, x10, rfl⟩
    rw [List.length_range] at ha
    exact q1 (fun j hj => ha j (by omega)) _ _ _ _ _ _
end
end Lw

namespace Lw
open PySem Ev
def rowBad (ps : List Part) (b : Nat) (T : Tab) : Bool := (List.range ps.length).any fun i => (List.range (b + 1)).any fun j => (ps.getD i []).any fun o => bad T i j o
def costV (b : Nat) (c : Int) (T : Tab) : Bool := match getT T 0 b with
  | none => false
  | some v => decide (v < c)
def leastT (ps : List Part) (b : Nat) (c : Int) (T : Tab) : Option Str :=
  if (T.getD ps.length []).all endE = false then some ("end" : Str) else if rowBad ps b T = true then some ("row" : Str) else if costV b c T = true then some ("cost" : Str) else none
theorem rowBad_yes {ps : List Part} {b : Nat} {T : Tab} (h : ∃ i, i < ps.length ∧ ∃ j, j ≤ b ∧ ∃ o ∈ ps.getD i [], bad T i j o = true) : rowBad ps b T = true := by
  obtain ⟨i, hi, j, hj, o, ho, z⟩ := h
  exact List.any_eq_true.mpr ⟨i, List.mem_range.mpr hi, List.any_eq_true.mpr ⟨j, List.mem_range.mpr (by omega), List.any_eq_true.mpr ⟨o, ho, z⟩⟩⟩
theorem rowBad_no {ps : List Part} {b : Nat} {T : Tab} (h : ∀ i, i < ps.length → ∀ j, j ≤ b → ∀ o ∈ ps.getD i [], bad T i j o = false) : rowBad ps b T = false := by
  cases e : rowBad ps b T with
  | false => rfl
  | true =>
    obtain ⟨i, hi, z⟩ := List.any_eq_true.mp e
    obtain ⟨j, hj, z⟩ := List.any_eq_true.mp z
    obtain ⟨o, ho, z⟩ := List.any_eq_true.mp z
    rw [h i (List.mem_range.mp hi) j (by have := List.mem_range.mp hj; omega) o ho] at z
    cases z
section
variable {S : Store} {QD : D → Store → Prop} {E : EK} {ps : List Part} {n b i j : Nat} {T : Tab} {K : Ko} {cost table : D} {e0 e1 e2 e3 e4 e5 e6 e7 e8 e9 e10 : Option D}
theorem loopR {rows : List D} (hl : rows.length ≤ 10000) (hd : ∀ d ∈ rows, Pl 1 d) (q1 : rows.all (rowV b) = true → ∀ x, K.nx [e0, some (.int (b : Nat)), e2, some (.tup rows), x, e5, e6, e7, e8, e9, e10] S) (q2 : rows.all (rowV b) = false → K.ex 1 (.str "form") S) :
    Ws (sFor (mIt (mVar 3)) (gmName 4) (sSeq b_accept_least_3_0 b_accept_least_3_1) [e0, some (.int (b : Nat)), e2, some (.tup rows), e4, e5, e6, e7, e8, e9, e10] S) K := by
  walk_at "wv"
  refine Wr.out (a := itL rows) rfl ?_
  refine forGo_its itsA_L (I := fun k δ S' => S' = S ∧ (∀ d ∈ rows.take k, rowV b d = true) ∧ ∃ x, δ = [e0, some (.int (b : Nat)), e2, some (.tup rows), x, e5, e6, e7, e8, e9, e10]) ⟨rfl, (fun o z => by simp at z), _, rfl⟩ ?_ ?_
  · rintro k hk δ S' ⟨rfl, ha, x, rfl⟩
    refine ⟨_, _, rfl, ?_⟩
    dsimp only [List.set_cons_succ, List.set_cons_zero]
    refine rowp (hd _ (List.getElem_mem hk)) (fun z => ⟨rfl, fun d hm => ?_, _, rfl⟩) fun z => q2 ?_
    · rw [List.take_succ_eq_append_getElem hk] at hm
      rcases List.mem_append.mp hm with y | y
      · exact ha d y
      · rw [List.mem_singleton.mp y]; exact z
    · cases e : rows.all (rowV b) with
      | false => rfl
      | true =>
        have z : rowV b rows[k] = false := z
        rw [List.all_eq_true.mp e _ (List.getElem_mem hk)] at z
        cases z
  · rintro δ S' ⟨rfl, ha, x, rfl⟩
    rw [List.take_length] at ha
    exact q1 (List.all_eq_true.mpr ha) _
theorem last_row (h : GT n b T) {S : Store} : ixD S (tabD T) (.int (-1)) = some (rowD (T.getD n [])) := by
  rw [ix_end (by rw [List.length_map]; exact h.len), List.getElem?_map, List.getD_eq_getElem?_getD, List.getElem?_eq_getElem (by rw [h.len]; omega)]
  rfl
theorem end_comp (h : GT n b T) (hb : b ≤ 2000) : mLc (mIt (mOp ixD (mVar 3) (mUn negD (mC (.int 1))))) (gmName 9) mYes (mAndV (mOp nisD (mVar 9) (mC .non)) (mOp leD (mVar 9) (mC (.int 0)))) [9] [e0, e1, e2, some (tabD T), e4, e5, e6, e7, e8, e9, e10] S = .ok (.lst ((T.getD n []).map fun v => .bl (endE v))) S := by
  refine Wr.eqn ?_
  with_reducible refine w_lcm ?_
  walk_at "wv"
  refine Wr.out (last_row h) ?_
  refine Wr.out (a := itL ((T.getD n []).map vD)) rfl ?_
  refine ⟨_, T.getD n [], _, fun v => .bl (endE v), its_map, sl_le (by rw [(h.at (by omega)).1]; omega), ?_, rfl, rfl⟩
  intro v hv
  refine ⟨_, rfl, ?_⟩
  refine Wr.eqn ?_
  walk_at "wv"
  refine Wr.out nis_v ?_
  walk_at "wv"
  cases v with
  | none => exact no_of rfl ⟨rfl, rfl⟩
  | some i =>
    refine ya_of rfl ?_
    walk_at "wv"
    exact ⟨rfl, rfl⟩
theorem leastP (hp : GP ps) (hb : b ≤ 2000) (hc : plainA cost = true) (ht : Pl 2 table) (qf : isI cost = false ∨ tabV ps.length b table = false → E 1 (.str "form") S)
    (q : ∀ c T, cost = .int c → table = tabD T → GT ps.length b T → (∀ x, leastT ps b c T = some x → E 1 (.str x) S) ∧ (leastT ps b c T = none → QD .non S)) : Wr (F_accept_least [partsD ps, .int (b : Nat), cost, table] S) QD E := by
  refine wd_accept_least ?_
  rw [m_accept_least_eq]
  unfold b_accept_least_0 b_accept_least_1 b_accept_least_2
  walk_at "wv"
  refine Wr.eq (check_parts_ok hp) ?_
  walk_at "wv"
  refine Wr.eq (check_bound_ok hb) ?_
  walk_at "wv"
  refine Wr.eq (is_integer_ok hc) ?_
  walk_at "wv"
  refine ⟨fun h => ⟨fun _ => ?_, fun z => by cases z⟩, fun h => ?_⟩
  · exact s_raise (w_c ⟨f_form, qf (.inl (by simpa using h))⟩)
  obtain ⟨c, rfl⟩ := isI_int (cost := cost) (by simpa using h)
  walk_at "wv"
  refine ⟨_, isT_tuple ht.plain, ?_⟩
  walk_at "wv"
  refine ⟨fun h => ⟨fun _ => ?_, fun z => by cases z⟩, fun h => ?_⟩
  · refine s_raise (w_c ⟨f_form, qf (.inr ?_)⟩)
    cases table <;> first | rfl | cases h
  obtain ⟨rows, rfl⟩ := isTup_tup (ch := table) (by simpa using h)
  obtain ⟨hl, hd⟩ := ht.tup
  walk_at "wv"
  refine ⟨fun h => ?_, fun h => ?_⟩
  · refine s_raise (w_c ⟨f_form, qf (.inr ?_)⟩)
    have h : ¬ rows.length = ps.length + 1 := by simp at h; omega
    simp [tabV, h]
  have hlen : rows.length = ps.length + 1 := by simp at h; omega
  with_reducible refine s_next ?_
  with_reducible refine s_seq ?_
  refine loopR hl hd (fun hr x => ?_) fun hr => qf (.inr (by simp [tabV, hr]))
  obtain ⟨T, e, hT, hT2⟩ := tabV_v (n := ps.length) (b := b) (d := .tup rows) (by simp [tabV, hr, hlen])
  injection e with e
  subst e
  have hG : GT ps.length b T := ⟨hT, hT2⟩
  obtain ⟨qx, q0⟩ := q c T rfl rfl hG
  unfold b_accept_least_4
  with_reducible refine s_seq ?_
  walk_at "wv"
  with_reducible refine Wr.eq (end_comp hG hb) ?_
  walk_at "wv"
  refine Wr.out all_map ?_
  walk_at "wv"
  refine ⟨fun h => ?_, fun h => ?_⟩
  · refine s_raise (w_c ⟨f_end, qx _ ?_⟩)
    unfold leastT
    rw [if_pos (by simpa using h)]
  have he : ¬ ((T.getD ps.length []).all endE = false) := by simp at h ⊢; exact h
  have g : leastT ps b c T = if rowBad ps b T = true then some ("row" : Str) else if costV b c T = true then some ("cost" : Str) else none := if_neg he
  with_reducible refine s_next ?_
  with_reducible refine s_seq ?_
  refine loop3 hG hb hp (fun z x5 x6 x7 x8 x9 x10 => ?_) fun z => qx _ (by rw [g, if_pos (rowBad_yes z)])
  have nb : ¬ (rowBad ps b T = true) := by rw [rowBad_no z]; simp
  rw [if_neg nb] at g
  unfold b_accept_least_6
  walk_at "wv"
  refine Wr.out (ixT hG (k := 0) (by omega)) ?_
  walk_at "wv"
  refine Wr.out (ixR hG (by omega) (by omega)) ?_
  walk_at "wv"
  refine Wr.out nis_v ?_
  walk_at "wv"
  have ec : costV b c T = match getT T 0 b with
    | none => false
    | some v => decide (v < c) := rfl
  generalize hv : getT T 0 b = v at ec
  cases v with
  | none =>
    refine no_of rfl (no_of rfl (s_next (q0 ?_)))
    rw [g, if_neg (by rw [ec]; simp)]
  | some v =>
    refine ya_of rfl ?_
    walk_at "wv"
    refine Wr.out (ixT hG (k := 0) (by omega)) ?_
    walk_at "wv"
    refine Wr.out (ixR hG (by omega) (by omega)) ?_
    rw [hv]
    walk_at "wv"
    refine ⟨fun z => ?_, fun z => ?_⟩
    · exact s_raise (w_c ⟨f_cost, qx _ (by rw [g, if_pos (ec.trans z)])⟩)
    · refine s_next (q0 ?_)
      rw [g, if_neg (by rw [ec.trans z]; simp)]
end
end Lw

namespace Lw
open PySem Ev
section
variable {S : Store} {QD : D → Store → Prop} {E : EK} {ps : List Part} {n b i j : Nat} {T : Tab} {K : Ko} {cost table : D} {e0 e1 e2 e3 e4 e5 e6 e7 e8 e9 : Option D}
/-- one look -/
theorem stpL (h : GT n b T) (hi : i < n) (hj : j ≤ b) {o : Int × Int} (ho : 0 ≤ o.1) (q1 : bad T i j o = false → ∀ x, K.nx [e0, e1, e2, some (tabD T), e4, some (.int (i : Nat)), some (.int (j : Nat)), some (.int o.2), some (.int o.1), x] S)
    (q2 : bad T i j o = true → K.rt (.str "paper row") S) :
    Ws ((sSeq b__law_least_due_3_0_0_0 b__law_least_due_3_0_0_1) [e0, e1, e2, some (tabD T), e4, some (.int (i : Nat)), some (.int (j : Nat)), some (.int o.2), some (.int o.1), e9] S) K := by
  unfold b__law_least_due_3_0_0_0 b__law_least_due_3_0_0_1
  refine s_seq (s_set (Wr.mono (Q' := fun d S' => d = vD (rest T i j o) ∧ S' = S) (E' := fun _ _ _ => False) ?_ ?_ fun _ _ _ z => z.elim))
  · walk_at "wv"
    refine ⟨fun z => ?_, fun z => ?_⟩
    · have z := of_decide_eq_true z
      have e1 : (i : Int) + 1 = ((i + 1 : Nat) : Int) := by omega
      have e2 : (j : Int) - o.1 = ((((j : Int) - o.1).toNat : Nat) : Int) := by omega
      walk_at "wv"
      rw [e1]
      refine Wr.out (ixT h (by omega)) ?_
      walk_at "wv"
      rw [e2]
      refine Wr.out (ixR h (by omega) (by omega)) ?_
      exact ⟨by unfold rest; rw [if_pos z], rfl⟩
    · have z := of_decide_eq_false z
      walk_at "wv"
      exact ⟨by unfold rest; rw [if_neg z]; rfl, rfl⟩
  rintro d S' ⟨rfl, rfl⟩
  have eb : bad T i j o = match rest T i j o with
    | none => false
    | some r => match getT T i j with
      | none => true
      | some v => decide (o.2 + r < v) := rfl
  generalize rest T i j o = r at eb q1 q2
  walk_at "wv"
  refine Wr.out nis_v ?_
  walk_at "wv"
  cases r with
  | none => exact no_of rfl (no_of rfl (s_next (q1 eb _)))
  | some r =>
    refine ya_of rfl ?_
    walk_at "wv"
    refine Wr.out (ixT h (by omega)) ?_
    walk_at "wv"
    refine Wr.out (ixR h (by omega) (by omega)) ?_
    walk_at "wv"
    refine Wr.out is_v ?_
    walk_at "wv"
    generalize hv : getT T i j = v at eb
    cases v with
    | none =>
      refine ya_of rfl (ya_of rfl ?_)
      exact s_ret (w_c (q2 eb))
    | some v =>
      refine no_of rfl ?_
      walk_at "wv"
      refine Wr.out (ixT h (by omega)) ?_
      walk_at "wv"
      refine Wr.out (ixR h (by omega) (by omega)) ?_
      rw [hv]
      walk_at "wv"
      refine ⟨fun z => ?_, fun z => ?_⟩
      · exact s_ret (w_c (q2 (eb.trans z)))
      · exact s_next (q1 (eb.trans z) _)
theorem loop1L (h : GT n b T) (hi : i < n) (hj : j ≤ b) {p : Part} (hip : ps[i]? = some p) (hp : ∀ o ∈ p, 0 ≤ o.1) (q1 : (∀ o ∈ p, bad T i j o = false) → ∀ x8 x9 x10, K.nx [some (partsD ps), e1, e2, some (tabD T), e4, some (.int (i : Nat)), some (.int (j : Nat)), x8, x9, x10] S)
    (q2 : (∃ o ∈ p, bad T i j o = true) → K.rt (.str "paper row") S) :
    Ws (sFor (mIt (mOp ixD (mVar 0) (mVar 5))) (gmTup 2 (gmCons (gmName 8) (gmCons (gmName 7) gmNil))) (sSeq b__law_least_due_3_0_0_0 b__law_least_due_3_0_0_1) [some (partsD ps), e1, e2, some (tabD T), e4, some (.int (i : Nat)), some (.int (j : Nat)), e7, e8, e9] S) K := by
  walk_at "wv"
  refine Wr.out (a := partD p) (ix_tup (by rw [List.getElem?_map, hip]; rfl)) ?_
  refine Wr.out (a := itL (p.map oD)) rfl ?_
  refine forGo_its itsA_map (I := fun k δ S' => S' = S ∧ (∀ o ∈ p.take k, bad T i j o = false) ∧ ∃ x8 x9 x10, δ = [some (partsD ps), e1, e2, some (tabD T), e4, some (.int (i : Nat)), some (.int (j : Nat)), x8, x9, x10]) ⟨rfl, (fun o z => by simp at z), _, _, _, rfl⟩ ?_ ?_
  · rintro k hk δ S' ⟨rfl, ha, x8, x9, x10, rfl⟩
    refine ⟨_, _, rfl, ?_⟩
    dsimp only [List.set_cons_succ, List.set_cons_zero]
    refine stpL h hi hj (hp _ (List.getElem_mem hk)) (fun z x => ⟨rfl, fun o ho => ?_, _, _, _, rfl⟩) fun z => q2 ⟨_, List.getElem_mem hk, z⟩
    rw [List.take_succ_eq_append_getElem hk] at ho
    rcases List.mem_append.mp ho with y | y
    · exact ha o y
    · rw [List.mem_singleton.mp y]; exact z
  · rintro δ S' ⟨rfl, ha, x8, x9, x10, rfl⟩
    rw [List.take_length] at ha
    exact q1 ha _ _ _
theorem loop2L (h : GT n b T) (hb : b ≤ 2000) (hi : i < n) {p : Part} (hip : ps[i]? = some p) (hp : ∀ o ∈ p, 0 ≤ o.1) (q1 : (∀ j, j ≤ b → ∀ o ∈ p, bad T i j o = false) → ∀ x7 x8 x9 x10, K.nx [some (partsD ps), some (.int (b : Nat)), e2, some (tabD T), e4, some (.int (i : Nat)), x7, x8, x9, x10] S)
    (q2 : (∃ j, j ≤ b ∧ ∃ o ∈ p, bad T i j o = true) → K.rt (.str "paper row") S) :
    Ws (sFor (mItA rangeD1 (mCons (mOp addD (mVar 1) (mC (.int 1))) mNil)) (gmName 6) (sFor (mIt (mOp ixD (mVar 0) (mVar 5))) (gmTup 2 (gmCons (gmName 8) (gmCons (gmName 7) gmNil))) (sSeq b__law_least_due_3_0_0_0 b__law_least_due_3_0_0_1)) [some (partsD ps), some (.int (b : Nat)), e2, some (tabD T), e4, some (.int (i : Nat)), e6, e7, e8, e9] S) K := by
  with_reducible refine s_for ?_
  walk_at "wv"
  with_reducible refine Wr.out (rngb hb) ?_
  refine forGo_its itsA_R (I := fun k δ S' => S' = S ∧ (∀ j, j < k → ∀ o ∈ p, bad T i j o = false) ∧ ∃ x7 x8 x9 x10, δ = [some (partsD ps), some (.int (b : Nat)), e2, some (tabD T), e4, some (.int (i : Nat)), x7, x8, x9, x10]) ⟨rfl, (fun j z => by omega), _, _, _, _, rfl⟩ ?_ ?_
  · rintro k hk δ S' ⟨rfl, ha, x7, x8, x9, x10, rfl⟩
    rw [List.length_range] at hk
    rw [List.getElem_range]
    refine ⟨_, _, rfl, ?_⟩
    dsimp only [List.set_cons_succ, List.set_cons_zero]
    refine loop1L h hi (by omega) hip hp (fun z x8 x9 x10 => ⟨rfl, fun j hj => ?_, _, _, _, _, rfl⟩) fun z => q2 ⟨k, by omega, z⟩
    by_cases y : j = k
    · subst y; exact z
    · exact ha j (by omega)
  · rintro δ S' ⟨rfl, ha, x7, x8, x9, x10, rfl⟩
    rw [List.length_range] at ha
    exact q1 (fun j hj => ha j (by omega)) _ _ _ _
theorem loop3L (h : GT ps.length b T) (hb : b ≤ 2000) (hp : GP ps) (q1 : (∀ i, i < ps.length → ∀ j, j ≤ b → ∀ o ∈ ps.getD i [], bad T i j o = false) → ∀ x5 x7 x8 x9 x10, K.nx [some (partsD ps), some (.int (b : Nat)), e2, some (tabD T), e4, x5, x7, x8, x9, x10] S)
    (q2 : (∃ i, i < ps.length ∧ ∃ j, j ≤ b ∧ ∃ o ∈ ps.getD i [], bad T i j o = true) → K.rt (.str "paper row") S) :
    Ws (sFor (mItA rangeD1 (mCons (mCB lenD (mCons (mVar 0) mNil)) mNil)) (gmName 5) (sFor (mItA rangeD1 (mCons (mOp addD (mVar 1) (mC (.int 1))) mNil)) (gmName 6) (sFor (mIt (mOp ixD (mVar 0) (mVar 5))) (gmTup 2 (gmCons (gmName 8) (gmCons (gmName 7) gmNil))) (sSeq b__law_least_due_3_0_0_0 b__law_least_due_3_0_0_1))) [some (partsD ps), some (.int (b : Nat)), e2, some (tabD T), e4, e5, e6, e7, e8, e9] S) K := by
  with_reducible refine s_for ?_
  walk_at "wv"
  rw [List.length_map]
  with_reducible refine Wr.out (rng_len (xs := ps) (by have := hp.l2; omega)) ?_
  refine forGo_its itsA_R (I := fun k δ S' => S' = S ∧ (∀ i, i < k → ∀ j, j ≤ b → ∀ o ∈ ps.getD i [], bad T i j o = false) ∧ ∃ x5 x7 x8 x9 x10, δ = [some (partsD ps), some (.int (b : Nat)), e2, some (tabD T), e4, x5, x7, x8, x9, x10]) ⟨rfl, (fun j z => by omega), _, _, _, _, _, rfl⟩ ?_ ?_
  · rintro k hk δ S' ⟨rfl, ha, x5, x7, x8, x9, x10, rfl⟩
    rw [List.length_range] at hk
    rw [List.getElem_range]
    refine ⟨_, _, rfl, ?_⟩
    dsimp only [List.set_cons_succ, List.set_cons_zero]
    have hm : ps.getD k [] ∈ ps := by
      rw [List.getD_eq_getElem?_getD, List.getElem?_eq_getElem hk]
      exact List.getElem_mem _
    with_reducible refine loop2L h hb hk (p := ps.getD k []) (by rw [List.getD_eq_getElem?_getD, List.getElem?_eq_getElem hk]; simp) (fun o ho => (hp.o1 _ hm o ho).1) (fun z x7 x8 x9 x10 => ⟨rfl, fun j hj => ?_, _, _, _, _, _, rfl⟩) fun z => q2 ⟨k, by omega, z⟩
    by_cases y : j = k
    · subst y; exact z
    · exact ha j (by omega)
  · rintro δ S' ⟨rfl, ha, x5, x7, x8, x9, x10, rfl⟩
    rw [List.length_range] at ha
    exact q1 (fun j hj => ha j (by omega)) _ _ _ _ _
theorem loopRL {rows : List D} (hl : rows.length ≤ 10000) (hd : ∀ d ∈ rows, Pl 1 d) (q1 : rows.all (rowV b) = true → ∀ x, K.nx [e0, some (.int (b : Nat)), e2, some (.tup rows), x, e5, e6, e7, e8, e9] S) (q2 : rows.all (rowV b) = false → K.rt (.str "paper form") S) :
    Ws (sFor (mIt (mVar 3)) (gmName 4) b__law_least_due_1_0 [e0, some (.int (b : Nat)), e2, some (.tup rows), e4, e5, e6, e7, e8, e9] S) K := by
  walk_at "wv"
  refine Wr.out (a := itL rows) rfl ?_
  refine forGo_its itsA_L (I := fun k δ S' => S' = S ∧ (∀ d ∈ rows.take k, rowV b d = true) ∧ ∃ x, δ = [e0, some (.int (b : Nat)), e2, some (.tup rows), x, e5, e6, e7, e8, e9]) ⟨rfl, (fun o z => by simp at z), _, rfl⟩ ?_ ?_
  · rintro k hk δ S' ⟨rfl, ha, x, rfl⟩
    refine ⟨_, _, rfl, ?_⟩
    dsimp only [List.set_cons_succ, List.set_cons_zero]
    refine rowl (e1 := none) (e4 := none) (hd _ (List.getElem_mem hk)) (fun z => ⟨rfl, fun d hm => ?_, _, rfl⟩) fun z => q2 ?_
    · rw [List.take_succ_eq_append_getElem hk] at hm
      rcases List.mem_append.mp hm with y | y
      · exact ha d y
      · rw [List.mem_singleton.mp y]; exact z
    · cases e : rows.all (rowV b) with
      | false => rfl
      | true =>
        have z : rowV b rows[k] = false := z
        rw [List.all_eq_true.mp e _ (List.getElem_mem hk)] at z
        cases z
  · rintro δ S' ⟨rfl, ha, x, rfl⟩
    rw [List.take_length] at ha
    exact q1 (List.all_eq_true.mpr ha) _
theorem end_compL (h : GT n b T) (hb : b ≤ 2000) : mLc (mIt (mOp ixD (mVar 3) (mUn negD (mC (.int 1))))) (gmName 7) (mOr (mTest (mOp isD (mVar 7) (mC .non))) (mTest (mOp gtD (mVar 7) (mC (.int 0))))) (mVar 7) [7] [e0, e1, e2, some (tabD T), e4, e5, e6, e7, e8, e9] S = .ok (.lst (((T.getD n []).filter fun v => !endE v).map vD)) S := by
  refine Wr.eqn ?_
  with_reducible refine w_lcp ?_
  walk_at "wv"
  refine Wr.out (last_row h) ?_
  refine Wr.out (a := itL ((T.getD n []).map vD)) rfl ?_
  refine ⟨_, T.getD n [], _, fun v => !endE v, vD, its_map, sl_le (by rw [(h.at (by omega)).1]; omega), ?_, rfl, rfl⟩
  intro v hv
  refine ⟨_, rfl, ?_, fun _ => rfl⟩
  show mOr _ _ _ _ = Res.ok (!endE v) S
  refine Wr.eqn ?_
  walk_at "wv"
  refine Wr.out is_v ?_
  walk_at "wv"
  cases v with
  | none => exact ya_of rfl ⟨rfl, rfl⟩
  | some i =>
    refine no_of rfl ?_
    walk_at "wv"
    refine ⟨?_, rfl⟩
    show decide (0 < i) = !decide (i ≤ 0)
    rw [← decide_not]
    exact decide_eq_decide.mpr (by omega)
theorem leastL (hp : GP ps) (hb : b ≤ 2000) (hc : plainA cost = true) (ht : Pl 2 table) (qf : isI cost = false ∨ tabV ps.length b table = false → QD (.str "paper form") S)
    (q : ∀ c T, cost = .int c → table = tabD T → GT ps.length b T → QD (wdP (leastT ps b c T)) S) : Wr (F__law_least_due [partsD ps, .int (b : Nat), cost, table] S) QD E := by
  refine wd__law_least_due ?_
  rw [m__law_least_due_eq]
  unfold b__law_least_due_0
  walk_at "wv"
  refine Wr.eq (whole_ok hc) ?_
  walk_at "wv"
  refine ⟨fun h => ⟨fun _ => ?_, fun z => by cases z⟩, fun h => ?_⟩
  · exact s_ret (w_c (qf (.inl (by simpa using h))))
  obtain ⟨c, rfl⟩ := isI_int (cost := cost) (by simpa using h)
  walk_at "wv"
  refine ⟨_, isT_tuple ht.plain, ?_⟩
  walk_at "wv"
  refine ⟨fun h => ⟨fun _ => ?_, fun z => by cases z⟩, fun h => ?_⟩
  · refine s_ret (w_c (qf (.inr ?_)))
    cases table <;> first | rfl | cases h
  obtain ⟨rows, rfl⟩ := isTup_tup (ch := table) (by simpa using h)
  obtain ⟨hl, hd⟩ := ht.tup
  walk_at "wv"
  refine ⟨fun h => ?_, fun h => ?_⟩
  · refine s_ret (w_c (qf (.inr ?_)))
    have h : ¬ rows.length = ps.length + 1 := by simp at h; omega
    simp [tabV, h]
  have hlen : rows.length = ps.length + 1 := by simp at h; omega
  with_reducible refine s_next ?_
  with_reducible refine s_seq ?_
  refine loopRL hl hd (fun hr x => ?_) fun hr => qf (.inr (by simp [tabV, hr]))
  obtain ⟨T, e, hT, hT2⟩ := tabV_v (n := ps.length) (b := b) (d := .tup rows) (by simp [tabV, hr, hlen])
  injection e with e
  subst e
  have hG : GT ps.length b T := ⟨hT, hT2⟩
  have q := q c T rfl rfl hG
  unfold b__law_least_due_2
  with_reducible refine s_seq ?_
  walk_at "wv"
  with_reducible refine Wr.eq (end_compL hG hb) ?_
  with_reducible refine Wr.out tr_lst ?_
  have ee : (!(((T.getD ps.length []).filter fun v => !endE v).map vD).isEmpty) = !(T.getD ps.length []).all endE := by
    rw [List.isEmpty_map, Bool.eq_iff_iff]
    simp [List.isEmpty_iff, List.filter_eq_nil_iff]
  rw [ee]
  refine ⟨fun h => ?_, fun h => ?_⟩
  · refine s_ret (w_c ?_)
    have g : leastT ps b c T = some ("end" : Str) := if_pos (by simpa using h)
    rw [g, w_end] at q
    exact q
  have he : ¬ ((T.getD ps.length []).all endE = false) := by simp at h ⊢; exact h
  have g : leastT ps b c T = if rowBad ps b T = true then some ("row" : Str) else if costV b c T = true then some ("cost" : Str) else none := if_neg he
  with_reducible refine s_next ?_
  with_reducible refine s_seq ?_
  with_reducible refine loop3L hG hb hp (fun z x5 x7 x8 x9 x10 => ?_) fun z => (by rw [g, if_pos (rowBad_yes z), w_row] at q; exact q)
  have nb : ¬ (rowBad ps b T = true) := by rw [rowBad_no z]; simp
  rw [if_neg nb] at g
  unfold b__law_least_due_4
  walk_at "wv"
  refine Wr.out (ixT hG (k := 0) (by omega)) ?_
  walk_at "wv"
  refine Wr.out (ixR hG (by omega) (by omega)) ?_
  walk_at "wv"
  refine Wr.out nis_v ?_
  walk_at "wv"
  have ec : costV b c T = match getT T 0 b with
    | none => false
    | some v => decide (v < c) := rfl
  generalize hv : getT T 0 b = v at ec
  cases v with
  | none =>
    refine no_of rfl (no_of rfl ?_)
    walk_at "wv"
    rw [g, if_neg (by rw [ec]; simp)] at q
    exact q
  | some v =>
    refine ya_of rfl ?_
    walk_at "wv"
    refine Wr.out (ixT hG (k := 0) (by omega)) ?_
    walk_at "wv"
    refine Wr.out (ixR hG (by omega) (by omega)) ?_
    rw [hv]
    walk_at "wv"
    refine ⟨fun z => ?_, fun z => ?_⟩
    · walk_at "wv"
      rw [g, if_pos (ec.trans z), w_cost] at q
      exact q
    · walk_at "wv"
      rw [g, if_neg (by rw [ec.trans z]; simp)] at q
      exact q
end
end Lw

namespace Lw
open PySem Ev
section
variable {S : Store} {QD : D → Store → Prop} {E : EK} {ps : List Part} {b : Nat} {cost ch table : D}
theorem neW {o : Option Str} : neD S (wdP o) (wdP o) = some (.bl false) := by
  cases o with
  | none => rfl
  | some x => exact (ne_ss (x := preW 1 ++ x)).trans (by simp)
theorem ne_str {x : Str} : neD S (.str x) (.str x) = some (.bl false) := ne_ss.trans (by simp)
theorem short {x : Str} (h : x = "form" ∨ x = "bound" ∨ x = "cost" ∨ x = "end" ∨ x = "row") : x.length ≤ 100 := by
  rcases h with rfl | rfl | rfl | rfl | rfl <;> decide +kernel
theorem plan_x {x : Str} (h : planR ps b cost ch = some x) : x.length ≤ 100 := by
  refine short ?_
  unfold planR at h
  split at h
  · split at h
    · split at h
      · split at h
        · cases h; simp
        · split at h
          · cases h; simp
          · cases h
      · cases h; simp
    · cases h; simp
  · cases h; simp
theorem least_x {c : Int} {T : Tab} {x : Str} (h : leastT ps b c T = some x) : x.length ≤ 100 := by
  refine short ?_
  unfold leastT at h
  split at h
  · cases h; simp
  · split at h
    · cases h; simp
    · split at h
      · cases h; simp
      · cases h
theorem heardP (hp : GP ps) (hb : b ≤ 2000) (hc : plainA cost = true) (hch : Pl 1 ch) : F__law_heard [.fn 22, .lst [partsD ps, .int (b : Nat), cost, ch]] S = .ok (wdP (planR ps b cost ch)) S := by
  have hds : ∀ ds, ch = .tup ds → ds.length ≤ 10000 ∧ ∀ d ∈ ds, plainA d = true := fun ds e => by
    subst e
    exact ⟨hch.tup.1, fun d hd => (hch.tup.2 d hd).plain⟩
  cases e : planR ps b cost ch with
  | none => exact heard_ok (Wr.eqn (asked4 rfl (planP hp hb hc hch.plain hds (fun _ => ⟨rfl, rfl⟩) fun x z => by rw [e] at z; cases z)))
  | some x => exact heard_x (by omega) (plan_x e) (Wr.exn (asked4 rfl (planP hp hb hc hch.plain hds (fun z => by rw [e] at z; cases z) fun y z => by rw [e] at z; cases z; exact ⟨rfl, rfl, rfl⟩)))
theorem dueP (hp : GP ps) (hb : b ≤ 2000) (hc : plainA cost = true) (hch : Pl 1 ch) : F__law_plan_due [partsD ps, .int (b : Nat), cost, ch] S = .ok (wdP (planR ps b cost ch)) S :=
  planL hp hb hc hch.plain fun ds e => by
    subst e
    exact ⟨hch.tup.1, fun d hd => (hch.tup.2 d hd).plain⟩
theorem vD_inj {v w : Option Int} (h : vD v = vD w) : v = w := by
  cases v <;> cases w <;> first | rfl | (cases h; done) | (injection h with h; rw [h])
theorem tabD_inj {T U : Tab} (h : tabD T = tabD U) : T = U := by
  injection h with h
  refine (List.map_inj_right fun r s e => ?_).mp h
  injection e with e
  exact (List.map_inj_right fun v w e => vD_inj e).mp e
theorem bothL (hp : GP ps) (hb : b ≤ 2000) (hc : plainA cost = true) (ht : Pl 2 table) :
    ∃ o, F__law_heard [.fn 23, .lst [partsD ps, .int (b : Nat), cost, table]] S = .ok (wdP o) S ∧ F__law_least_due [partsD ps, .int (b : Nat), cost, table] S = .ok (wdP o) S := by
  by_cases h : isI cost = true ∧ tabV ps.length b table = true
  · obtain ⟨c, rfl⟩ := isI_int h.1
    obtain ⟨T, rfl, hT, hT2⟩ := tabV_v h.2
    have hG : GT ps.length b T := ⟨hT, hT2⟩
    have no : ¬ (isI (D.int c) = false ∨ tabV ps.length b (tabD T) = false) := by rw [h.2]; simp [isI]
    refine ⟨leastT ps b c T, ?_, ?_⟩
    · cases e : leastT ps b c T with
      | none =>
        refine heard_ok (Wr.eqn (asked4 rfl (leastP hp hb hc ht (fun z => absurd z no) fun c' T' e1 e2 _ => ?_)))
        cases e1
        cases tabD_inj e2
        exact ⟨fun x z => (by rw [e] at z; cases z), fun _ => ⟨rfl, rfl⟩⟩
      | some x =>
        refine heard_x (by omega) (least_x e) (Wr.exn (asked4 rfl (leastP hp hb hc ht (fun z => absurd z no) fun c' T' e1 e2 _ => ?_)))
        cases e1
        cases tabD_inj e2
        exact ⟨fun y z => by rw [e] at z; cases z; exact ⟨rfl, rfl, rfl⟩, fun z => by rw [e] at z; cases z⟩
    · refine Wr.eqn (leastL hp hb hc ht (fun z => absurd z no) fun c' T' e1 e2 _ => ?_)
      cases e1
      cases tabD_inj e2
      exact ⟨rfl, rfl⟩
  · have no : ∀ c T, cost = .int c → table = tabD T → GT ps.length b T → False := fun c T e1 e2 hG => h ⟨by rw [e1]; rfl, by
      rw [e2]
      simp only [tabV, List.length_map, hG.len, decide_true, Bool.true_and, List.all_map, List.all_eq_true]
      intro r hr
      show (decide ((r.map vD).length = b + 1) && (r.map vD).all oV) = true
      rw [List.length_map, hG.row r hr]
      simp only [decide_true, Bool.true_and, List.all_map, List.all_eq_true]
      intro v _
      cases v <;> rfl⟩
    refine ⟨some ("form" : Str), ?_, ?_⟩
    · exact heard_x (by omega) (short (by simp)) (Wr.exn (asked4 rfl (leastP hp hb hc ht (fun _ => ⟨rfl, rfl, rfl⟩) fun c T e1 e2 hG => (no c T e1 e2 hG).elim)))
    · rw [w_form]
      exact Wr.eqn (leastL hp hb hc ht (fun _ => ⟨rfl, rfl⟩) fun c T e1 e2 hG => (no c T e1 e2 hG).elim)
end
end Lw

open PySem
section
variable {S m : Store} {d x : D} {xs : List D}
theorem listOf_more (h : listOf S d = some xs) : listOf (S ++ m) d = some xs := by
  cases d with
  | loc l =>
    unfold listOf at h ⊢
    dsimp only at h ⊢
    cases e : S[l]? with
    | none => rw [e] at h; cases h
    | some c =>
      rw [e] at h
      rw [List.getElem?_append_left (List.getElem?_eq_some_iff.mp e).1, e]
      exact h
  | lst _ => exact h
  | rol _ => exact h
  | _ => cases h
theorem ix_of (h : listOf S d = some xs) {k : Nat} (hk : xs[k]? = some x) : ixD S d (.int (k : Nat)) = some x := by
  have e : ixD S d (.int (k : Nat)) = L2.atI xs (k : Int) := by
    cases d with
    | loc l => show (match listOf S (.loc l) with | some ds => L2.atI ds (k : Int) | none => none) = _; rw [h]
    | lst l => show (match listOf S (.lst l) with | some ds => L2.atI ds (k : Int) | none => none) = _; rw [h]
    | rol l => show (match listOf S (.rol l) with | some ds => L2.atI ds (k : Int) | none => none) = _; rw [h]
    | _ => cases h
  rw [e, atI_nat, hk]
theorem ix_neg (h : listOf S d = some xs) {n : Nat} (hn : xs.length = n + 1) : ixD S d (.int (-1)) = xs[n]? := by
  have e : ixD S d (.int (-1)) = L2.atI xs (-1) := by
    cases d with
    | loc l => show (match listOf S (.loc l) with | some ds => L2.atI ds (-1) | none => none) = _; rw [h]
    | lst l => show (match listOf S (.lst l) with | some ds => L2.atI ds (-1) | none => none) = _; rw [h]
    | rol l => show (match listOf S (.rol l) with | some ds => L2.atI ds (-1) | none => none) = _; rw [h]
    | _ => cases h
  rw [e]
  have e2 := ix_end (S := S) hn
  exact e2
theorem tup_of (h : listOf S d = some xs) : tupD S [d] = some (.tup xs) := by
  cases d with
  | loc l => show (match listOf S (.loc l) with | some ds => some (D.tup ds) | none => none) = _; rw [h]
  | lst l => show (match listOf S (.lst l) with | some ds => some (D.tup ds) | none => none) = _; rw [h]
  | rol l => show (match listOf S (.rol l) with | some ds => some (D.tup ds) | none => none) = _; rw [h]
  | _ => cases h
theorem min_l {ks : List Int} : minD2 S [.lst (ks.map D.int)] = (minL ks).map D.int := by
  show ((unI (ks.map D.int)).bind fun is => (minL is).map D.int) = _
  have := unI_mapf (p := id) ks
  simp only [id_eq, List.map_id] at this
  rw [show ks.map D.int = ks.map fun d => D.int d from rfl, this]
  rfl
theorem min_some {ks : List Int} (h : ks ≠ []) : ∃ m, minL ks = some m := by
  cases ks with
  | nil => exact absurd rfl h
  | cons k ks => exact ⟨_, rfl⟩
end
namespace Lw
open PySem Ev
def fits (r : List (Option Int)) (j : Nat) (o : Int × Int) : Bool := decide (o.1 ≤ (j : Int)) && (r.getD ((j : Int) - o.1).toNat none).isSome
def val (r : List (Option Int)) (j : Nat) (o : Int × Int) : Int := o.2 + (r.getD ((j : Int) - o.1).toNat none).getD 0
def rowE (p : Part) (r : List (Option Int)) (j : Nat) : Option Int := minL ((p.filter (fits r j)).map (val r j))
def rowF (p : Part) (r : List (Option Int)) (b : Nat) : List (Option Int) := (List.range (b + 1)).map (rowE p r)
section
variable {S P : Store} {QD : D → Store → Prop} {E : EK} {ps : List Part} {p : Part} {b j : Nat} {K : Ko} {r : List (Option Int)} {d0 : D} {ds : List D} {e0 e1 e2 e3 e4 e5 e6 e7 e8 e9 : Option D}
theorem ent_at (h : listOf S d0 = some (r.map vD)) {k : Nat} (hk : k < r.length) : ixD S d0 (.int (k : Nat)) = some (vD (r.getD k none)) := ix_of h (by rw [List.getElem?_map, List.getD_eq_getElem?_getD, List.getElem?_eq_getElem hk]; rfl)
/-- rows[0][room - error] -/
theorem head_at (h : listOf S d0 = some (r.map vD)) (hr : r.length = b + 1) (hj : j ≤ b) {o : Int × Int} (ho : 0 ≤ o.1) (hz : o.1 ≤ (j : Int)) : ixD S d0 (.int ((j : Int) - o.1)) = some (vD (r.getD ((j : Int) - o.1).toNat none)) := by
  have e : (j : Int) - o.1 = ((((j : Int) - o.1).toNat : Nat) : Int) := by omega
  have z := ent_at h (k := ((j : Int) - o.1).toNat) (by omega)
  rw [← e] at z
  exact z
theorem ways_comp (h : listOf S d0 = some (r.map vD)) (hr : r.length = b + 1) (hj : j ≤ b) (hl : p.length ≤ 8) (hp : ∀ o ∈ p, 0 ≤ o.1) :
    mLc (mIt (mVar 3)) (gmTup 2 (gmCons (gmName 7) (gmCons (gmName 8) gmNil))) (mAnd (mTest (mOp leD (mVar 7) (mVar 5))) (mTest (mOp nisD (mOp ixD (mOp ixD (mVar 2) (mC (.int 0))) (mOp subD (mVar 5) (mVar 7))) (mC .non)))) (mOp addD (mVar 8) (mOp ixD (mOp ixD (mVar 2) (mC (.int 0))) (mOp subD (mVar 5) (mVar 7)))) [7, 8]
      [e0, e1, some (.lst (d0 :: ds)), some (partD p), e4, some (.int (j : Nat)), e6, e7, e8] S = .ok (.lst (((p.filter (fits r j)).map (val r j)).map D.int)) S := by
  refine Wr.eqn ?_
  with_reducible refine w_lcp ?_
  walk_at "wv"
  refine Wr.out (a := itL (p.map oD)) rfl ?_
  refine ⟨_, p, _, fits r j, fun o => .int (val r j o), its_map, sl_le (by omega), ?_, by rw [List.map_map]; rfl, rfl⟩
  intro o ho
  have h0 := hp o ho
  refine ⟨_, rfl, ?_, fun hf => ?_⟩
  · show mAnd _ _ _ _ = Res.ok (decide (o.1 ≤ (j : Int)) && (r.getD ((j : Int) - o.1).toNat none).isSome) S
    refine Wr.eqn ?_
    walk_at "wv"
    refine ⟨fun z => ?_, fun z => ⟨by rw [z]; rfl, rfl⟩⟩
    walk_at "wv"
    refine Wr.out (a := d0) (ix_lst (j := 0) rfl) ?_
    walk_at "wv"
    refine Wr.out (head_at h hr hj h0 (of_decide_eq_true z)) ?_
    walk_at "wv"
    refine Wr.out nis_v ?_
    walk_at "wv"
    exact ⟨by rw [z]; rfl, rfl⟩
  · unfold fits at hf
    simp only [Bool.and_eq_true, decide_eq_true_eq] at hf
    show mOp _ _ _ _ _ = Res.ok (.int (o.2 + (r.getD ((j : Int) - o.1).toNat none).getD 0)) S
    refine Wr.eqn ?_
    walk_at "wv"
    refine Wr.out (a := d0) (ix_lst (j := 0) rfl) ?_
    walk_at "wv"
    refine Wr.out (head_at h hr hj h0 hf.1) ?_
    obtain ⟨v, hv⟩ := Option.isSome_iff_exists.mp hf.2
    rw [hv]
    exact Wr.out (a := D.int (o.2 + v)) rfl ⟨rfl, rfl⟩
theorem min_ent {i : Nat} {δ : Ev.Env} {ks : List Int} (hδ : δ[i]? = some (some (.lst (ks.map D.int)))) (q : QD (vD (minL ks)) S) : Wr (mIf (mTru (mVar i)) (mCB minD2 (mCons (mVar i) mNil)) (mC .non) δ S) QD E := by
  refine w_if (w_tru (w_var hδ (Wr.out tr_lst ⟨fun h => ?_, fun h => ?_⟩)))
  · refine w_cb (w_cons (w_var hδ (w_nil ?_)))
    have hk : ks ≠ [] := fun e => by subst e; cases h
    obtain ⟨v, hv⟩ := min_some hk
    rw [hv] at q
    refine Wr.out (a := D.int v) ?_ q
    rw [min_l, hv]
    rfl
  · have hk : ks = [] := by
      cases ks with
      | nil => rfl
      | cons => cases h
    subst hk
    exact w_c q
theorem rowsL1 (h : listOf P d0 = some (r.map vD)) (hr : r.length = b + 1) (hb : b ≤ 2000) (hl : p.length ≤ 8) (hp : ∀ o ∈ p, 0 ≤ o.1)
    (q : ∀ x5 x6 x7 x8, K.nx [e0, some (.int (b : Nat)), some (.lst (d0 :: ds)), some (partD p), some (.loc P.length), x5, x6, x7, x8] (P ++ [.lst ((rowF p r b).map vD)])) :
    Ws (sFor (mItA rangeD1 (mCons (mOp addD (mVar 1) (mC (.int 1))) mNil)) (gmName 5) (sSeq b__law_rows_1_1_0 b__law_rows_1_1_1) [e0, some (.int (b : Nat)), some (.lst (d0 :: ds)), some (partD p), some (.loc P.length), e5, e6, e7, e8] (P ++ [.lst []])) K := by
  with_reducible refine s_for ?_
  walk_at "wv"
  with_reducible refine Wr.out (rngb hb) ?_
  refine forGo_its itsA_R (I := fun k δ S' => S' = P ++ [.lst (((List.range k).map (rowE p r)).map vD)] ∧ ∃ x5 x6 x7 x8, δ = [e0, some (.int (b : Nat)), some (.lst (d0 :: ds)), some (partD p), some (.loc P.length), x5, x6, x7, x8]) ⟨rfl, _, _, _, _, rfl⟩ ?_ ?_
  · rintro k hk δ S' ⟨rfl, x5, x6, x7, x8, rfl⟩
    rw [List.length_range] at hk
    rw [List.getElem_range]
    refine ⟨_, _, rfl, ?_⟩
    dsimp only [List.set_cons_succ, List.set_cons_zero]
    unfold b__law_rows_1_1_0 b__law_rows_1_1_1
    walk_at "wv"
    with_reducible refine Wr.eq (ways_comp (listOf_more h) hr (by omega) hl hp) ?_
    walk_at "wv"
    refine w_mt (w_var rfl ⟨mt_loc, ?_⟩)
    refine w_cons (min_ent (ks := (p.filter (fits r k)).map (val r k)) rfl ?_)
    walk_at "wv"
    refine ⟨_, _, app_loc (by simp only [List.length_map, List.length_range]; exact Nat.lt_of_lt_of_le (show k < 10000 by omega) (by decide)), ?_⟩
    refine ⟨?_, _, _, _, _, rfl⟩
    rw [List.range_succ, List.map_append, List.map_append]
    rfl
  · rintro δ S' ⟨rfl, x5, x6, x7, x8, rfl⟩
    rw [List.length_range]
    exact q _ _ _ _
end
end Lw

namespace Lw
open PySem Ev
def RowsAt (S : Store) (ds : List D) (T : Tab) : Prop := ds.length = T.length ∧ ∀ (i : Nat) (d : D) (r : List (Option Int)), ds[i]? = some d → T[i]? = some r → listOf S d = some (r.map vD)
def tabF (b : Nat) : List Part → Tab
  | [] => [List.replicate (b + 1) (some 0)]
  | p :: ps => rowF p ((tabF b ps).headD []) b :: tabF b ps
theorem RowsAt.more {S m : Store} {ds : List D} {T : Tab} (h : RowsAt S ds T) : RowsAt (S ++ m) ds T := ⟨h.1, fun i d r h1 h2 => listOf_more (h.2 i d r h1 h2)⟩
theorem RowsAt.cons {S : Store} {ds : List D} {T : Tab} {d : D} {r : List (Option Int)} (h : RowsAt S ds T) (hd : listOf S d = some (r.map vD)) : RowsAt S (d :: ds) (r :: T) := ⟨by simp [h.1], fun i d' r' h1 h2 => by
  cases i with
  | zero => cases h1; cases h2; exact hd
  | succ i => exact h.2 i d' r' h1 h2⟩
theorem tabF_ne {b : Nat} (ps : List Part) : ∃ r T, tabF b ps = r :: T := by
  cases ps with
  | nil => exact ⟨_, _, rfl⟩
  | cons p ps => exact ⟨_, _, rfl⟩
theorem tabF_GT {b : Nat} : ∀ ps : List Part, GT ps.length b (tabF b ps)
  | [] => ⟨rfl, fun r h => by rw [List.mem_singleton.mp h]; simp⟩
  | p :: ps => ⟨by show (tabF b ps).length + 1 = _; rw [(tabF_GT ps).len]; rfl, fun r h => by
    rcases List.mem_cons.mp h with rfl | h
    · simp [rowF]
    · exact (tabF_GT ps).row r h⟩
section
variable {S P : Store} {QD : D → Store → Prop} {E : EK} {ps : List Part} {p : Part} {b j : Nat} {K : Ko} {r : List (Option Int)} {d0 : D} {ds : List D} {e0 e1 e2 e3 e4 e5 e6 e7 e8 e9 : Option D}
theorem zerosK {k : Int} (h1 : -(2 ^ 63) ≤ k) (h2 : k < 2 ^ 63) (h3 : [D.int 0].length * k.toNat ≤ sizeLine) : mulV S (.lst [.int 0]) (.int k) = some (.lst (List.replicate k.toNat [D.int 0]).flatten) := if_pos ⟨h1, h2, h3⟩
theorem flat_rep (n : Nat) (d : D) : (List.replicate n [d]).flatten = List.replicate n d := by
  induction n with
  | zero => rfl
  | succ n ih => rw [List.replicate_succ, List.flatten_cons, ih, List.replicate_succ]; rfl
theorem zeros (hb : b ≤ 2000) : mulV S (.lst [.int 0]) (.int ((b : Int) + 1)) = some (.lst ((List.replicate (b + 1) (some 0)).map vD)) := by
  have e : ((b : Int) + 1).toNat = b + 1 := by omega
  rw [zerosK (by omega) (by omega) (by rw [e]; exact Nat.le_trans (show 1 * (b + 1) ≤ 10000 by omega) (by decide)), e, flat_rep, List.map_replicate]
  rfl
theorem tups_comp {S : Store} {T : Tab} (h : RowsAt S ds T) (hl : ds.length ≤ 10000) {δ : Ev.Env} (hδ : δ[2]? = some (some (.lst ds))) (hw : ∀ d, ∃ δ1, gmName 4 d (wipeE δ [4]) S = .ok δ1 S ∧ δ1[4]? = some (some d)) :
    mLc (mIt (mVar 2)) (gmName 4) mYes (mCB tupD (mCons (mVar 4) mNil)) [4] δ S = .ok (.lst (T.map rowD)) S := by
  refine Wr.eqn ?_
  with_reducible refine w_lcm ?_
  refine w_it (w_var hδ (Wr.out (a := itL ds) rfl ?_))
  refine ⟨_, ds, _, fun d => match listOf S d with | some xs => .tup xs | none => .non, its_L, sl_le hl, ?_, ?_, rfl⟩
  · intro d hd
    obtain ⟨δ1, h1, h2⟩ := hw d
    refine ⟨δ1, h1, Wr.eqn (w_cb (w_cons (w_var h2 (w_nil ?_))))⟩
    obtain ⟨i, hi, rfl⟩ := List.getElem_of_mem hd
    have z := h.2 i ds[i] (T[i]'(by rw [← h.1]; exact hi)) (List.getElem?_eq_getElem hi) (List.getElem?_eq_getElem _)
    refine Wr.out (tup_of z) ⟨?_, rfl⟩
    show _ = match listOf S ds[i] with | some xs => D.tup xs | none => .non
    rw [z]
  · congr 1
    apply List.ext_getElem
    · simp [h.1]
    · intro i h1 h2
      simp only [List.length_map] at h1 h2
      have z := h.2 i ds[i] T[i] (List.getElem?_eq_getElem h1) (List.getElem?_eq_getElem h2)
      rw [List.getElem_map, List.getElem_map, z]
theorem law_rows_ok (hp : GP ps) (hb : b ≤ 2000) (q : ∀ m, QD (tabD (tabF b ps)) (S ++ m)) : Wr (F__law_rows [partsD ps, .int (b : Nat)] S) QD E := by
  with_reducible refine wd__law_rows ?_
  rw [m__law_rows_eq]
  unfold b__law_rows_0
  walk_at "wv"
  refine ⟨rfl, ?_⟩
  walk_at "wv"
  with_reducible refine Wr.out (zeros hb) ?_
  walk_at "wv"
  refine ⟨rfl, ?_⟩
  with_reducible refine s_seq ?_
  with_reducible refine s_for ?_
  refine w_it (w_un (w_var rfl (Wr.out (a := .tup (ps.reverse.map partD)) (by show some (D.tup (ps.map partD).reverse) = _; rw [List.map_reverse]) (Wr.out (a := itL (ps.reverse.map partD)) rfl ?_))))
  refine forGo_its itsA_map (I := fun k δ S' => ∃ m ds x3 x4 x5 x6 x7 x8, S' = S ++ m ∧ RowsAt (S ++ m) ds (tabF b (ps.reverse.take k).reverse) ∧ ds.length = k + 1 ∧ δ = [some (partsD ps), some (.int (b : Nat)), some (.lst ds), x3, x4, x5, x6, x7, x8]) ?_ ?_ ?_
  · refine ⟨[], [.lst ((List.replicate (b + 1) (some 0)).map vD)], none, none, none, none, none, none, by simp, ⟨rfl, fun i d r h1 h2 => ?_⟩, rfl, rfl⟩
    cases i with
    | zero => cases h1; cases h2; rfl
    | succ i => cases h1
  · rintro k hk δ S' ⟨m, ds, x3, x4, x5, x6, x7, x8, rfl, hR, hl, rfl⟩
    rw [List.length_reverse] at hk
    refine ⟨_, _, rfl, ?_⟩
    dsimp only [List.set_cons_succ, List.set_cons_zero]
    have hm : ps.reverse[k] ∈ ps := List.mem_reverse.mp (List.getElem_mem _)
    have e1 : (ps.reverse.take (k + 1)).reverse = ps.reverse[k] :: (ps.reverse.take k).reverse := by
      rw [List.take_succ_eq_append_getElem (by rw [List.length_reverse]; exact hk), List.reverse_append]
      rfl
    have hpl := (hp.p1 _ hm).2
    have hpo := hp.o1 _ hm
    generalize ps.reverse[k] = p at e1 hpl hpo
    generalize (ps.reverse.take k).reverse = qs at hR e1
    have eT : tabF b qs = (tabF b qs).headD [] :: (tabF b qs).tail := by cases qs <;> rfl
    generalize hr : (tabF b qs).headD [] = r at eT
    generalize (tabF b qs).tail = T at eT
    have hrl : r.length = b + 1 := (tabF_GT (b := b) qs).row r (by rw [eT]; exact List.mem_cons_self)
    cases ds with
    | nil => simp at hl
    | cons d0 ds =>
      have h0 : listOf (S ++ m) d0 = some (r.map vD) := hR.2 0 d0 r rfl (by rw [eT]; rfl)
      unfold b__law_rows_1_0
      with_reducible refine s_seq ?_
      with_reducible refine s_set ?_
      with_reducible refine w_loc ?_
      with_reducible refine w_nil ?_
      refine ⟨rfl, ?_⟩
      dsimp only [List.set_cons_succ, List.set_cons_zero]
      with_reducible refine s_seq ?_
      with_reducible refine rowsL1 h0 hrl hb hpl (fun o ho => (hpo o ho).1) fun x5 x6 x7 x8 => ?_
      unfold b__law_rows_1_2
      walk_at "wv"
      refine ⟨rfl, ?_⟩
      walk_at "wv"
      refine Wr.out (a := .lst (.loc (S ++ m).length :: d0 :: ds)) (if_pos (sl_le (by have := hp.l2; simp only [List.length_cons, List.length_nil] at hl ⊢; omega))) ?_
      refine ⟨m ++ [.lst ((rowF p r b).map vD)], _, _, _, _, _, _, _, by rw [List.append_assoc], ?_, by simp only [List.length_cons] at hl ⊢; omega, rfl⟩
      rw [e1, ← List.append_assoc]
      have e2 : tabF b (p :: qs) = rowF p r b :: tabF b qs := by
        show rowF p ((tabF b qs).headD []) b :: _ = _
        rw [hr]
      rw [e2]
      exact RowsAt.cons hR.more loc_list
  · rintro δ S' ⟨m, ds, x3, x4, x5, x6, x7, x8, rfl, hR, hl, rfl⟩
    rw [List.take_length, List.reverse_reverse] at hR
    rw [List.length_reverse] at hl
    unfold b__law_rows_2
    walk_at "wv"
    with_reducible refine Wr.eq (tups_comp hR (by have := hp.l2; omega) rfl fun d => ⟨_, rfl, rfl⟩) ?_
    walk_at "wv"
    exact Wr.out (a := tabD (tabF b ps)) rfl (q m)
end
end Lw

open PySem
section
variable {S m : Store} {R : List D} {d e : D}
theorem mid_get : (S ++ Cell.lst R :: m)[S.length]? = some (.lst R) := by simp
theorem mid_list : listOf (S ++ .lst R :: m) (.loc S.length) = some R := by
  show (match (S ++ Cell.lst R :: m)[S.length]? with | some (.lst ds) => some ds | _ => none) = _
  rw [mid_get]
theorem mid_set {c : Cell} : (S ++ Cell.lst R :: m).set S.length c = S ++ c :: m := by simp
theorem app_mid (h : R.length < sizeLine) : appendD (S ++ .lst R :: m) (.loc S.length) [e] = some (.non, S ++ .lst (R ++ [e]) :: m) := by
  show (match (S ++ Cell.lst R :: m)[S.length]? with | some (.lst xs) => ((if xs.length < sizeLine then some (D.non, xs ++ [e]) else none).map fun q : D × List D => (q.1, (S ++ Cell.lst R :: m).set S.length (.lst q.2))) | _ => none) = _
  rw [mid_get]
  simp only
  rw [if_pos h]
  show some (D.non, (S ++ Cell.lst R :: m).set S.length (.lst (R ++ [e]))) = _
  rw [mid_set]
theorem mt_mid : mtTy "list" (S ++ .lst R :: m) (.loc S.length) = true := by
  show (match (S ++ Cell.lst R :: m)[S.length]? with | some (.lst _) => decide ("list" = "list") | some (.dic _) => decide ("list" = "dict") | none => false) = true
  rw [mid_get]
  rfl
end
namespace Lw
open PySem Ev
def MidAt (S m : Store) (d : D) (xs : List D) : Prop := ∀ R : List D, listOf (S ++ .lst R :: m) d = some xs
def RowsM (S m : Store) (ds : List D) (T : Tab) : Prop := ds.length = T.length ∧ ∀ (i : Nat) (d : D) (r : List (Option Int)), ds[i]? = some d → T[i]? = some r → MidAt S m d (r.map vD)
theorem MidAt.more {S m n : Store} {d : D} {xs : List D} (h : MidAt S m d xs) : MidAt S (m ++ n) d xs := fun R => by
  have := listOf_more (m := n) (h R)
  rw [List.append_assoc] at this
  exact this
theorem mid_new {S m : Store} {R : List D} {xs : List D} : MidAt S (m ++ [.lst xs]) (.loc (S ++ .lst R :: m).length) xs := fun R' => by
  have e : (S ++ Cell.lst R :: m).length = (S ++ Cell.lst R' :: m).length := by simp
  rw [e]
  have := loc_list (S := S ++ Cell.lst R' :: m) (ds := xs)
  rw [List.append_assoc] at this
  exact this
theorem RowsM.more {S m n : Store} {ds : List D} {T : Tab} (h : RowsM S m ds T) : RowsM S (m ++ n) ds T := ⟨h.1, fun i d r h1 h2 => (h.2 i d r h1 h2).more⟩
theorem RowsM.cons {S m : Store} {ds : List D} {T : Tab} {d : D} {r : List (Option Int)} (h : RowsM S m ds T) (hd : MidAt S m d (r.map vD)) : RowsM S m (d :: ds) (r :: T) := ⟨by simp [h.1], fun i d' r' h1 h2 => by
  cases i with
  | zero => cases h1; cases h2; exact hd
  | succ i => exact h.2 i d' r' h1 h2⟩
section
variable {S P : Store} {QD : D → Store → Prop} {E : EK} {ps : List Part} {p : Part} {b j : Nat} {K : Ko} {r : List (Option Int)} {d0 : D} {ds : List D} {e0 e1 e2 e3 e4 e5 e6 e7 e8 e9 : Option D}
theorem fits_comp (h : listOf S d0 = some (r.map vD)) (hr : r.length = b + 1) (hj : j ≤ b) (hl : p.length ≤ 8) (hp : ∀ o ∈ p, 0 ≤ o.1) :
    mLc (mIt (mVar 3)) (gmTup 2 (gmCons (gmName 8) (gmCons (gmName 9) gmNil))) (mAnd (mTest (mOp leD (mVar 8) (mVar 6))) (mTest (mOp nisD (mOp ixD (mVar 4) (mOp subD (mVar 6) (mVar 8))) (mC .non)))) (mTup (mCons (mVar 8) (mCons (mVar 9) mNil))) [8, 9]
      [e0, e1, e2, some (partD p), some d0, e5, some (.int (j : Nat)), e7, e8, e9] S = .ok (.lst ((p.filter (fits r j)).map oD)) S := by
  refine Wr.eqn ?_
  with_reducible refine w_lcp ?_
  walk_at "wv"
  refine Wr.out (a := itL (p.map oD)) rfl ?_
  refine ⟨_, p, _, fits r j, oD, its_map, sl_le (by omega), ?_, rfl, rfl⟩
  intro o ho
  have h0 := hp o ho
  refine ⟨_, rfl, ?_, fun hf => rfl⟩
  show mAnd _ _ _ _ = Res.ok (decide (o.1 ≤ (j : Int)) && (r.getD ((j : Int) - o.1).toNat none).isSome) S
  refine Wr.eqn ?_
  walk_at "wv"
  refine ⟨fun z => ?_, fun z => ⟨by rw [z]; rfl, rfl⟩⟩
  walk_at "wv"
  refine Wr.out (head_at h hr hj h0 (of_decide_eq_true z)) ?_
  walk_at "wv"
  refine Wr.out nis_v ?_
  walk_at "wv"
  exact ⟨by rw [z]; rfl, rfl⟩
theorem vals_comp (h : listOf S d0 = some (r.map vD)) (hr : r.length = b + 1) (hj : j ≤ b) (hl : p.length ≤ 8) (hp : ∀ o ∈ p, 0 ≤ o.1) :
    mLc (mIt (mVar 7)) (gmTup 2 (gmCons (gmName 8) (gmCons (gmName 9) gmNil))) mYes (mOp addD (mVar 9) (mOp ixD (mVar 4) (mOp subD (mVar 6) (mVar 8)))) [8, 9]
      [e0, e1, e2, e3, some d0, e5, some (.int (j : Nat)), some (.lst ((p.filter (fits r j)).map oD)), e8, e9] S = .ok (.lst (((p.filter (fits r j)).map (val r j)).map D.int)) S := by
  refine Wr.eqn ?_
  with_reducible refine w_lcm ?_
  walk_at "wv"
  refine Wr.out (a := itL ((p.filter (fits r j)).map oD)) rfl ?_
  refine ⟨_, p.filter (fits r j), _, fun o => .int (val r j o), its_map, sl_le (Nat.le_trans (List.length_filter_le _ _) (by omega)), ?_, by rw [List.map_map]; rfl, rfl⟩
  intro o ho
  have hf := (List.mem_filter.mp ho).2
  have h0 := hp o (List.mem_filter.mp ho).1
  unfold fits at hf
  simp only [Bool.and_eq_true, decide_eq_true_eq] at hf
  refine ⟨_, rfl, ?_⟩
  show mOp _ _ _ _ _ = Res.ok (.int (o.2 + (r.getD ((j : Int) - o.1).toNat none).getD 0)) S
  refine Wr.eqn ?_
  walk_at "wv"
  refine Wr.out (head_at h hr hj h0 hf.1) ?_
  obtain ⟨v, hv⟩ := Option.isSome_iff_exists.mp hf.2
  rw [hv]
  exact Wr.out (a := D.int (o.2 + v)) rfl ⟨rfl, rfl⟩
theorem min_entT (h : listOf S d0 = some (r.map vD)) (hr : r.length = b + 1) (hj : j ≤ b) (hl : p.length ≤ 8) (hp : ∀ o ∈ p, 0 ≤ o.1) (q : QD (vD (rowE p r j)) S) :
    Wr (mIf (mTru (mVar 7)) (mCB minD2 (mCons (mLc (mIt (mVar 7)) (gmTup 2 (gmCons (gmName 8) (gmCons (gmName 9) gmNil))) mYes (mOp addD (mVar 9) (mOp ixD (mVar 4) (mOp subD (mVar 6) (mVar 8)))) [8, 9]) mNil)) (mC .non)
      [e0, e1, e2, e3, some d0, e5, some (.int (j : Nat)), some (.lst ((p.filter (fits r j)).map oD)), e8, e9] S) QD E := by
  refine w_if (w_tru (w_var rfl (Wr.out tr_lst ⟨fun z => ?_, fun z => ?_⟩)))
  · refine w_cb (w_cons (Wr.eq (vals_comp h hr hj hl hp) (w_nil ?_)))
    unfold rowE at q
    have hk : (p.filter (fits r j)).map (val r j) ≠ [] := fun e => by
      rw [List.map_eq_nil_iff.mp e] at z; cases z
    obtain ⟨v, hv⟩ := min_some hk
    rw [hv] at q
    refine Wr.out (a := D.int v) ?_ q
    rw [min_l, hv]
    rfl
  · unfold rowE at q
    have hk : p.filter (fits r j) = [] := by
      cases e : p.filter (fits r j) with
      | nil => rfl
      | cons => rw [e] at z; cases z
    rw [hk] at q
    exact w_c q
theorem rowsT1 (h : listOf P d0 = some (r.map vD)) (hr : r.length = b + 1) (hb : b ≤ 2000) (hl : p.length ≤ 8) (hp : ∀ o ∈ p, 0 ≤ o.1)
    (q : ∀ x6 x7 x8 x9, K.nx [e0, some (.int (b : Nat)), e2, some (partD p), some d0, some (.loc P.length), x6, x7, x8, x9] (P ++ [.lst ((rowF p r b).map vD)])) :
    Ws (sFor (mItA rangeD1 (mCons (mOp addD (mVar 1) (mC (.int 1))) mNil)) (gmName 6) (sSeq b_tables_of_1_2_0 b_tables_of_1_2_1) [e0, some (.int (b : Nat)), e2, some (partD p), some d0, some (.loc P.length), e6, e7, e8, e9] (P ++ [.lst []])) K := by
  with_reducible refine s_for ?_
  walk_at "wv"
  with_reducible refine Wr.out (rngb hb) ?_
  refine forGo_its itsA_R (I := fun k δ S' => S' = P ++ [.lst (((List.range k).map (rowE p r)).map vD)] ∧ ∃ x6 x7 x8 x9, δ = [e0, some (.int (b : Nat)), e2, some (partD p), some d0, some (.loc P.length), x6, x7, x8, x9]) ⟨rfl, _, _, _, _, rfl⟩ ?_ ?_
  · rintro k hk δ S' ⟨rfl, x6, x7, x8, x9, rfl⟩
    rw [List.length_range] at hk
    rw [List.getElem_range]
    refine ⟨_, _, rfl, ?_⟩
    dsimp only [List.set_cons_succ, List.set_cons_zero]
    unfold b_tables_of_1_2_0 b_tables_of_1_2_1
    walk_at "wv"
    with_reducible refine Wr.eq (fits_comp (listOf_more h) hr (by omega) hl hp) ?_
    walk_at "wv"
    dsimp only [List.set_cons_succ, List.set_cons_zero]
    refine w_mt (w_var rfl ⟨mt_loc, ?_⟩)
    with_reducible refine w_cons (min_entT (listOf_more h) hr (by omega) hl hp ?_)
    walk_at "wv"
    refine ⟨_, _, app_loc (by simp only [List.length_map, List.length_range]; exact Nat.lt_of_lt_of_le (show k < 10000 by omega) (by decide)), ?_⟩
    refine ⟨?_, _, _, _, _, rfl⟩
    rw [List.range_succ, List.map_append, List.map_append]
    rfl
  · rintro δ S' ⟨rfl, x6, x7, x8, x9, rfl⟩
    rw [List.length_range]
    exact q _ _ _ _
theorem tables_ok (hp : GP ps) (hb : b ≤ 2000) (q : ∀ ds m, RowsAt (S ++ m) ds (tabF b ps) → QD (.lst ds) (S ++ m)) : Wr (F_tables_of [partsD ps, .int (b : Nat)] S) QD E := by
  with_reducible refine wd_tables_of ?_
  rw [m_tables_of_eq]
  unfold b_tables_of_0
  walk_at "wv"
  with_reducible refine w_loc ?_
  walk_at "wv"
  refine ⟨rfl, ?_⟩
  walk_at "wv"
  with_reducible refine Wr.out (zeros hb) ?_
  walk_at "wv"
  refine ⟨rfl, ?_⟩
  with_reducible refine s_seq ?_
  with_reducible refine s_for ?_
  refine w_it (w_un (w_var rfl (Wr.out (a := .tup (ps.reverse.map partD)) (by show some (D.tup (ps.map partD).reverse) = _; rw [List.map_reverse]) (Wr.out (a := itL (ps.reverse.map partD)) rfl ?_))))
  refine forGo_its itsA_map (I := fun k δ S' => ∃ m ds x3 x4 x5 x6 x7 x8 x9, S' = S ++ .lst ds.reverse :: m ∧ RowsM S m ds (tabF b (ps.reverse.take k).reverse) ∧ ds.length = k + 1 ∧ δ = [some (partsD ps), some (.int (b : Nat)), some (.loc S.length), x3, x4, x5, x6, x7, x8, x9]) ?_ ?_ ?_
  · refine ⟨[], [.lst ((List.replicate (b + 1) (some 0)).map vD)], none, none, none, none, none, none, none, rfl, ⟨rfl, fun i d r h1 h2 => ?_⟩, rfl, rfl⟩
    cases i with
    | zero => cases h1; cases h2; exact fun R => rfl
    | succ i => cases h1
  · rintro k hk δ S' ⟨m, ds, x3, x4, x5, x6, x7, x8, x9, rfl, hR, hl, rfl⟩
    rw [List.length_reverse] at hk
    refine ⟨_, _, rfl, ?_⟩
    dsimp only [List.set_cons_succ, List.set_cons_zero]
    have hm : ps.reverse[k] ∈ ps := List.mem_reverse.mp (List.getElem_mem _)
    have e1 : (ps.reverse.take (k + 1)).reverse = ps.reverse[k] :: (ps.reverse.take k).reverse := by
      rw [List.take_succ_eq_append_getElem (by rw [List.length_reverse]; exact hk), List.reverse_append]
      rfl
    have hpl := (hp.p1 _ hm).2
    have hpo := hp.o1 _ hm
    generalize ps.reverse[k] = p at e1 hpl hpo
    generalize (ps.reverse.take k).reverse = qs at hR e1
    have eT : tabF b qs = (tabF b qs).headD [] :: (tabF b qs).tail := by cases qs <;> rfl
    generalize hr : (tabF b qs).headD [] = r at eT
    generalize (tabF b qs).tail = T at eT
    have hrl : r.length = b + 1 := (tabF_GT (b := b) qs).row r (by rw [eT]; exact List.mem_cons_self)
    cases ds with
    | nil => simp at hl
    | cons d0 ds =>
      have h0 : MidAt S m d0 (r.map vD) := hR.2 0 d0 r rfl (by rw [eT]; rfl)
      unfold b_tables_of_1_0
      walk_at "wv"
      refine Wr.out (a := d0) ?_ ?_
      · rw [ix_neg mid_list (n := ds.length) (by simp)]
        simp
      dsimp only [List.set_cons_succ, List.set_cons_zero]
      unfold b_tables_of_1_1
      with_reducible refine s_seq ?_
      with_reducible refine s_set ?_
      with_reducible refine w_loc ?_
      with_reducible refine w_nil ?_
      refine ⟨rfl, ?_⟩
      dsimp only [List.set_cons_succ, List.set_cons_zero]
      with_reducible refine s_seq ?_
      have h0' : listOf (S ++ Cell.lst (d0 :: ds).reverse :: m) d0 = some (r.map vD) := h0 _
      with_reducible refine rowsT1 h0' hrl hb hpl (fun o ho => (hpo o ho).1) fun x6 x7 x8 x9 => ?_
      unfold b_tables_of_1_3
      rw [List.append_assoc]
      with_reducible refine s_drop ?_
      refine w_mt (w_var rfl ⟨mt_mid, ?_⟩)
      walk_at "wv"
      refine ⟨_, _, app_mid (Nat.lt_of_lt_of_le (m := 10000) (by have := hp.l2; simp only [List.length_reverse, List.length_cons] at hl ⊢; omega) (by decide)), ?_⟩
      refine ⟨m ++ [.lst ((rowF p r b).map vD)], .loc (S ++ Cell.lst (d0 :: ds).reverse :: m).length :: d0 :: ds, _, _, _, _, _, _, _, by simp, ?_, by simp only [List.length_cons] at hl ⊢; omega, rfl⟩
      rw [e1]
      have e2 : tabF b (p :: qs) = rowF p r b :: tabF b qs := by
        show rowF p ((tabF b qs).headD []) b :: _ = _
        rw [hr]
      rw [e2]
      exact RowsM.cons hR.more mid_new
  · rintro δ S' ⟨m, ds, x3, x4, x5, x6, x7, x8, x9, rfl, hR, hl, rfl⟩
    rw [List.take_length, List.reverse_reverse] at hR
    unfold b_tables_of_2
    refine s_ret (w_un (w_var rfl (Wr.out (a := .lst ds) ?_ ?_)))
    · show (match listOf (S ++ .lst ds.reverse :: m) (.loc S.length) with | some ds => some (D.lst ds.reverse) | none => none) = _
      rw [mid_list]
      simp
    · exact q ds _ ⟨hR.1, fun i d r h1 h2 => hR.2 i d r h1 h2 _⟩
end
end Lw

namespace Lw
open PySem Ev
def cnd (T : Tab) (i j : Nat) (o : Int × Int) : Bool := match rest T i j o with
  | none => false
  | some r => decide (getT T i j = some (o.2 + r))
def stepF (T : Tab) (ps : List Part) (i : Nat) (s : List D × Nat) : List D × Nat :=
  match (List.range (ps.getD i []).length).find? fun n => cnd T i s.2 ((ps.getD i []).getD n (0, 0)) with
  | some n => (s.1 ++ [.int (n : Nat)], ((s.2 : Int) - ((ps.getD i []).getD n (0, 0)).1).toNat)
  | none => s
def runF (T : Tab) (ps : List Part) (b : Nat) : Nat → List D × Nat
  | 0 => ([], b)
  | i + 1 => stepF T ps i (runF T ps b i)
theorem getD_mem {α : Type} {xs : List α} {k : Nat} {a : α} (h : k < xs.length) : xs.getD k a ∈ xs := by
  rw [List.getD_eq_getElem?_getD, List.getElem?_eq_getElem h]
  exact List.getElem_mem _
theorem step_le {T : Tab} {ps : List Part} {i b : Nat} {s : List D × Nat} (hs : s.2 ≤ b) (hp : ∀ o ∈ ps.getD i [], 0 ≤ o.1) : (stepF T ps i s).2 ≤ b := by
  unfold stepF
  split
  · rename_i n h
    have hn := List.mem_range.mp (List.mem_of_find?_eq_some h)
    have := hp _ (getD_mem (a := (0, 0)) hn)
    show ((s.2 : Int) - ((ps.getD i []).getD n (0, 0)).1).toNat ≤ b
    omega
  · exact hs
theorem step_len {T : Tab} {ps : List Part} {i : Nat} {s : List D × Nat} : (stepF T ps i s).1.length ≤ s.1.length + 1 := by
  unfold stepF
  split
  · simp
  · omega
section
variable {S S1 P : Store} {QD : D → Store → Prop} {E : EK} {ps : List Part} {p : Part} {n b i j : Nat} {K : Ko} {T : Tab} {d0 : D} {f ds : List D} {e0 e1 e2 e3 e4 e5 e6 e7 e8 e9 e10 e11 : Option D}
theorem rows_ix (h : RowsAt S ds T) (hG : GT n b T) {k : Nat} (hk : k < n + 1) : ∃ d, ixD S (.lst ds) (.int (k : Nat)) = some d ∧ ∀ m l, l < b + 1 → ixD (S ++ m) d (.int (l : Nat)) = some (vD (getT T k l)) := by
  have h1 : k < T.length := by rw [hG.len]; exact hk
  have h2 : k < ds.length := by rw [h.1]; exact h1
  refine ⟨ds[k], ix_lst (List.getElem?_eq_getElem h2), fun m l hl => ?_⟩
  have z := h.2 k ds[k] T[k] (List.getElem?_eq_getElem h2) (List.getElem?_eq_getElem h1)
  have hT : T.getD k [] = T[k] := by rw [List.getD_eq_getElem?_getD, List.getElem?_eq_getElem h1]; rfl
  unfold getT
  rw [hT]
  exact ent_at (listOf_more z) (by have := hG.row _ (List.getElem_mem h1); omega)
theorem rows_ixS (h : RowsAt S ds T) (hG : GT n b T) {k : Nat} (hk : k < n + 1) {m : Store} {d : D} (hd : ixD S (.lst ds) (.int (k : Nat)) = some d) : ixD (S ++ m) (.lst ds) (.int (k : Nat)) = some d := hd
theorem eq_v {i : Int} {v : Option Int} : eqD S (.int i) (vD v) = some (.bl (decide (v = some i))) := by
  cases v with
  | none => rfl
  | some k =>
    refine eq_ii.trans ?_
    congr 2
    exact decide_eq_decide.mpr ⟨fun h => by rw [h], fun h => by cases h; rfl⟩
def jbody : SM := (sSeq b_judge_plan_7_0_0 (sIf (mAnd (mTest (mOp nisD (mVar 9) (mC .non))) (mTest (mOp eqD (mOp addD (mVar 11) (mVar 9)) (mOp ixD (mOp ixD (mVar 3) (mVar 6)) (mVar 5))))) (sSeq b_judge_plan_7_0_1a_0 (sSeq b_judge_plan_7_0_1a_1 b_judge_plan_7_0_1a_2)) b_judge_plan_7_0_1b_0))
theorem jstep (h : RowsAt S1 ds T) (hG : GT n b T) (hi : i < n) (hj : j ≤ b) (hf : f.length ≤ 1000) {k : Nat} {o : Int × Int} (ho : 0 ≤ o.1)
    (q1 : cnd T i j o = false → ∀ x9, K.nx [e0, e1, e2, some (.lst ds), some (.loc S1.length), some (.int (j : Nat)), some (.int (i : Nat)), e7, some (.int (k : Nat)), x9, some (.int o.1), some (.int o.2)] (S1 ++ [.lst f]))
    (q2 : cnd T i j o = true → ∀ x9, K.bk [e0, e1, e2, some (.lst ds), some (.loc S1.length), some (.int (((j : Int) - o.1).toNat : Nat)), some (.int (i : Nat)), e7, some (.int (k : Nat)), x9, some (.int o.1), some (.int o.2)] (S1 ++ [.lst (f ++ [.int (k : Nat)])])) :
    Ws (jbody [e0, e1, e2, some (.lst ds), some (.loc S1.length), some (.int (j : Nat)), some (.int (i : Nat)), e7, some (.int (k : Nat)), e9, some (.int o.1), some (.int o.2)] (S1 ++ [.lst f])) K := by
  obtain ⟨da, ha, ha2⟩ := rows_ix h hG (k := i) (by omega)
  obtain ⟨db, hb, hb2⟩ := rows_ix h hG (k := i + 1) (by omega)
  unfold jbody b_judge_plan_7_0_0
  refine s_seq (s_set (Wr.mono (Q' := fun d S' => d = vD (rest T i j o) ∧ S' = S1 ++ [.lst f]) (E' := fun _ _ _ => False) ?_ ?_ fun _ _ _ z => z.elim))
  · walk_at "wv"
    refine ⟨fun z => ?_, fun z => ?_⟩
    · have z := of_decide_eq_true z
      have e1 : (i : Int) + 1 = ((i + 1 : Nat) : Int) := by omega
      have e2 : (j : Int) - o.1 = ((((j : Int) - o.1).toNat : Nat) : Int) := by omega
      walk_at "wv"
      rw [e1]
      refine Wr.out hb ?_
      walk_at "wv"
      rw [e2]
      refine Wr.out (hb2 [.lst f] _ (by omega)) ?_
      exact ⟨by unfold rest; rw [if_pos z], rfl⟩
    · have z := of_decide_eq_false z
      walk_at "wv"
      exact ⟨by unfold rest; rw [if_neg z]; rfl, rfl⟩
  rintro d S' ⟨rfl, rfl⟩
  have eb : cnd T i j o = match rest T i j o with
    | none => false
    | some r => decide (getT T i j = some (o.2 + r)) := rfl
  have er : ∀ r, rest T i j o = some r → o.1 ≤ (j : Int) := fun r z => by
    unfold rest at z
    split at z
    · assumption
    · cases z
  generalize rest T i j o = r at eb er q1 q2
  walk_at "wv"
  refine Wr.out nis_v ?_
  walk_at "wv"
  unfold b_judge_plan_7_0_1b_0
  cases r with
  | none => exact no_of rfl (no_of rfl (s_next (q1 eb _)))
  | some r =>
    have er := er r rfl
    refine ya_of rfl ?_
    walk_at "wv"
    refine Wr.out ha ?_
    walk_at "wv"
    refine Wr.out (ha2 [.lst f] _ (by omega)) ?_
    refine Wr.out eq_v ?_
    walk_at "wv"
    refine ⟨fun z => ?_, fun z => s_next (q1 (eb.trans z) _)⟩
    unfold b_judge_plan_7_0_1a_0 b_judge_plan_7_0_1a_1 b_judge_plan_7_0_1a_2
    with_reducible refine s_seq ?_
    with_reducible refine s_drop ?_
    refine w_mt (w_var rfl ⟨mt_loc, ?_⟩)
    walk_at "wv"
    refine ⟨_, _, app_loc (Nat.lt_of_lt_of_le (m := 10000) (by omega) (by decide)), ?_⟩
    with_reducible refine s_seq ?_
    refine s_aug (x := .int (j : Nat)) rfl (w_var rfl ⟨_, rfl, ?_⟩)
    refine s_brk ?_
    have q2 := q2 (eb.trans z) (some (vD (some r)))
    have e2 : ((((j : Int) - o.1).toNat : Nat) : Int) = (j : Int) - o.1 := by omega
    rw [e2] at q2
    exact q2
theorem jinner (h : RowsAt S1 ds T) (hG : GT ps.length b T) (hi : i < ps.length) (hj : j ≤ b) (hf : f.length ≤ 1000) (hp : ∀ o ∈ ps.getD i [], 0 ≤ o.1)
    (q : ∀ x8 x9 x10 x11, K.nx [e0, e1, e2, some (.lst ds), some (.loc S1.length), some (.int ((stepF T ps i (f, j)).2 : Nat)), some (.int (i : Nat)), some (partD (ps.getD i [])), x8, x9, x10, x11] (S1 ++ [.lst (stepF T ps i (f, j)).1])) :
    Ws (sFor (mItS enumD (mCons (mVar 7) mNil)) (gmTup 2 (gmCons (gmName 8) (gmCons (gmTup 2 (gmCons (gmName 10) (gmCons (gmName 11) gmNil))) gmNil))) jbody [e0, e1, e2, some (.lst ds), some (.loc S1.length), some (.int (j : Nat)), some (.int (i : Nat)), some (partD (ps.getD i [])), e8, e9, e10, e11] (S1 ++ [.lst f])) K := by
  with_reducible refine s_for ?_
  walk_at "wv"
  refine Wr.out (a := itE ((ps.getD i []).map oD)) rfl ?_
  refine forGo_its (itsA_EM (a := (0, 0))) (I := fun k δ S' => S' = S1 ++ [.lst f] ∧ (∀ n, n < k → cnd T i j ((ps.getD i []).getD n (0, 0)) = false) ∧ ∃ x8 x9 x10 x11, δ = [e0, e1, e2, some (.lst ds), some (.loc S1.length), some (.int (j : Nat)), some (.int (i : Nat)), some (partD (ps.getD i [])), x8, x9, x10, x11]) ⟨rfl, (fun n z => by omega), _, _, _, _, rfl⟩ ?_ ?_
  · rintro k hk δ S' ⟨rfl, ha, x8, x9, x10, x11, rfl⟩
    rw [List.length_range] at hk
    rw [List.getElem_range]
    refine ⟨_, _, rfl, ?_⟩
    dsimp only [List.set_cons_succ, List.set_cons_zero]
    have hm : (ps.getD i []).getD k (0, 0) ∈ ps.getD i [] := getD_mem hk
    refine jstep h hG hi hj hf (hp _ hm) (fun z x9 => ⟨rfl, fun n hn => ?_, _, _, _, _, rfl⟩) fun z x9 => ?_
    · by_cases y : n = k
      · subst y; exact z
      · exact ha n (by omega)
    · have e : stepF T ps i (f, j) = (f ++ [.int (k : Nat)], ((j : Int) - ((ps.getD i []).getD k (0, 0)).1).toNat) := by
        unfold stepF
        have e3 : ((List.range (ps.getD i []).length).find? fun n => cnd T i j ((ps.getD i []).getD n (0, 0))) = some k := by
          rw [List.find?_range_eq_some]
          exact ⟨z, List.mem_range.mpr hk, fun n hn => by rw [ha n hn]; rfl⟩
        show (match (List.range (ps.getD i []).length).find? fun n => cnd T i j ((ps.getD i []).getD n (0, 0)) with | some n => _ | none => _) = _
        rw [e3]
      have q := q (some (.int (k : Nat))) x9 (some (.int ((ps.getD i []).getD k (0, 0)).1)) (some (.int ((ps.getD i []).getD k (0, 0)).2))
      rw [e] at q
      exact q
  · rintro δ S' ⟨rfl, ha, x8, x9, x10, x11, rfl⟩
    rw [List.length_range] at ha
    have e : stepF T ps i (f, j) = (f, j) := by
      unfold stepF
      have e3 : ((List.range (ps.getD i []).length).find? fun n => cnd T i j ((ps.getD i []).getD n (0, 0))) = none := by
        rw [List.find?_eq_none]
        intro n hn
        rw [ha n (List.mem_range.mp hn)]
        simp
      show (match (List.range (ps.getD i []).length).find? fun n => cnd T i j ((ps.getD i []).getD n (0, 0)) with | some n => _ | none => _) = _
      rw [e3]
    have q := q x8 x9 x10 x11
    rw [e] at q
    exact q
end
end Lw

namespace Lw
open PySem Ev
def minE (p : Part) : Int := (minL (p.map (·.1))).getD 0
theorem run_le {T : Tab} {ps : List Part} {b : Nat} (hp : GP ps) : ∀ k, (runF T ps b k).2 ≤ b ∧ (runF T ps b k).1.length ≤ k
  | 0 => ⟨Nat.le_refl _, Nat.le_refl _⟩
  | k + 1 => by
    obtain ⟨h1, h2⟩ := run_le hp k (T := T) (b := b)
    refine ⟨step_le h1 fun o ho => ?_, ?_⟩
    · by_cases hk : k < ps.length
      · exact (hp.o1 _ (getD_mem hk) o ho).1
      · rw [List.getD_eq_getElem?_getD, List.getElem?_eq_none (by omega)] at ho
        cases ho
    · have : (runF T ps b (k + 1)).1.length ≤ (runF T ps b k).1.length + 1 := step_len
      omega
section
variable {S : Store} {QD : D → Store → Prop} {E : EK} {ps : List Part} {b : Nat} {K : Ko} {e0 e1 e2 e3 e4 e5 e6 e7 e8 e9 e10 e11 : Option D}
theorem least_comp (hp : GP ps) : mLc (mIt (mVar 0)) (gmName 7) mYes (mCB minD2 (mCons (mLc (mIt (mVar 7)) (gmTup 2 (gmCons (gmName 10) (gmCons (gmName 11) gmNil))) mYes (mVar 10) [10, 11]) mNil)) [7] [some (partsD ps), e1, e2, e3, e4, e5, e6, e7, e8, e9, e10, e11] S = .ok (.lst (ps.map fun p => .int (minE p))) S := by
  refine Wr.eqn ?_
  with_reducible refine w_lcm ?_
  walk_at "wv"
  refine Wr.out (a := itL (ps.map partD)) rfl ?_
  refine ⟨_, ps, _, fun p => .int (minE p), its_map, sl_le (by have := hp.l2; omega), ?_, rfl, rfl⟩
  intro p hm
  have hl := hp.p1 p hm
  refine ⟨_, rfl, ?_⟩
  refine Wr.eqn ?_
  have e : ∀ δ : Ev.Env, δ.length = 12 → δ[7]? = some (some (partD p)) → mLc (mIt (mVar 7)) (gmTup 2 (gmCons (gmName 10) (gmCons (gmName 11) gmNil))) mYes (mVar 10) [10, 11] δ S = .ok (.lst ((p.map (·.1)).map D.int)) S := fun δ h12 hδ => by
    refine Wr.eqn ?_
    with_reducible refine w_lcm ?_
    refine w_it (w_var hδ (Wr.out (a := itL (p.map oD)) rfl ⟨_, p, _, fun o => .int o.1, its_map, sl_le (by omega), fun o ho => ?_, by rw [List.map_map]; rfl, rfl⟩))
    refine ⟨((wipeE δ [10, 11]).set 10 (some (.int o.1))).set 11 (some (.int o.2)), rfl, Wr.eqn (w_var ?_ ⟨rfl, rfl⟩)⟩
    have hw : (wipeE δ [10, 11]).length = 12 := by simp [wipeE, h12]
    rw [List.getElem?_set_ne (by omega), List.getElem?_set_self (by omega)]
  refine w_cb (w_cons (Wr.eq (e _ rfl rfl) (w_nil ?_)))
  refine Wr.out (a := .int (minE p)) ?_ ⟨rfl, rfl⟩
  rw [min_l]
  unfold minE
  obtain ⟨v, hv⟩ := min_some (ks := p.map (·.1)) (fun z => by have := congrArg List.length z; simp at this; subst this; simp at hl)
  rw [hv]
  rfl
theorem judge_ok (hp : GP ps) (hb : b ≤ 2000) (hl : (ps.map minE).sum ≤ (b : Int)) (q : ∀ m, QD (.tup [.str "plan", vD (getT (tabF b ps) 0 b), .tup (runF (tabF b ps) ps b ps.length).1]) (S ++ m)) : Wr (F_judge_plan [partsD ps, .int (b : Nat)] S) QD E := by
  with_reducible refine wd_judge_plan ?_
  rw [m_judge_plan_eq]
  unfold b_judge_plan_0 b_judge_plan_1 b_judge_plan_2 b_judge_plan_3 b_judge_plan_4
  walk_at "wv"
  refine Wr.eq (check_parts_ok hp) ?_
  walk_at "wv"
  refine Wr.eq (check_bound_ok hb) ?_
  walk_at "wv"
  with_reducible refine Wr.eq (least_comp hp) ?_
  walk_at "wv"
  refine Wr.out sum_map ?_
  walk_at "wv"
  refine no_of (decide_eq_false (by omega)) ?_
  walk_at "wv"
  with_reducible refine tables_ok hp hb fun ds m hR => ?_
  have hG := tabF_GT (b := b) ps
  dsimp only [List.set_cons_succ, List.set_cons_zero]
  unfold b_judge_plan_5
  with_reducible refine s_seq ?_
  with_reducible refine s_set ?_
  with_reducible refine w_loc ?_
  with_reducible refine w_nil ?_
  refine ⟨rfl, ?_⟩
  unfold b_judge_plan_6
  walk_at "wv"
  dsimp only [List.set_cons_succ, List.set_cons_zero]
  refine Wr.out (a := itE (ps.map partD)) rfl ?_
  refine forGo_its (itsA_EM (a := [])) (I := fun k δ S' => S' = (S ++ m) ++ [.lst (runF (tabF b ps) ps b k).1] ∧ ∃ x6 x7 x8 x9 x10 x11, δ = [some (partsD ps), some (.int (b : Nat)), some (.int (ps.map minE).sum), some (.lst ds), some (.loc (S ++ m).length), some (.int ((runF (tabF b ps) ps b k).2 : Nat)), x6, x7, x8, x9, x10, x11]) ⟨rfl, _, _, _, _, _, _, rfl⟩ ?_ ?_
  · rintro k hk δ S' ⟨rfl, x6, x7, x8, x9, x10, x11, rfl⟩
    rw [List.length_range] at hk
    rw [List.getElem_range]
    refine ⟨_, _, rfl, ?_⟩
    dsimp only [List.set_cons_succ, List.set_cons_zero]
    obtain ⟨h1, h2⟩ := run_le hp (T := tabF b ps) (b := b) k
    have := hp.l2
    show Ws (sFor _ _ jbody _ _) _
    with_reducible refine jinner hR hG hk h1 (by omega) (fun o ho => (hp.o1 _ (getD_mem hk) o ho).1) fun x8 x9 x10 x11 => ?_
    exact ⟨rfl, _, _, _, _, _, _, rfl⟩
  · rintro δ S' ⟨rfl, x6, x7, x8, x9, x10, x11, rfl⟩
    rw [List.length_range]
    obtain ⟨da, ha, ha2⟩ := rows_ix hR hG (k := 0) (by omega)
    unfold b_judge_plan_8
    walk_at "wv"
    refine Wr.out ha ?_
    walk_at "wv"
    refine Wr.out (ha2 _ b (by omega)) ?_
    walk_at "wv"
    refine Wr.out tup_loc ?_
    walk_at "wv"
    refine ⟨rfl, ?_⟩
    have q := q (m ++ [.lst (runF (tabF b ps) ps b ps.length).1])
    rw [← List.append_assoc] at q
    exact q
end
end Lw

open PySem
theorem Ws.nxe {r : SR} {δ : Env} {S : Store} {K : Ko} (e : r = .nx δ S) (h : K.nx δ S) : Ws r K := by rw [e]; exact h
namespace Lw
open PySem Ev
def ps1 : List Part := [[(2000, 1000000)]]
def psC : List Part := [[(5, 0), (2, 30)], [(4, 0), (1, 50)]]
theorem gp1 : GP ps1 := ⟨by decide, by decide, by decide, by decide⟩
theorem gpC : GP psC := ⟨by decide, by decide, by decide, by decide⟩
theorem run1 : (runF (tabF 2000 ps1) ps1 2000 ps1.length).1 = [.int 0] := by kernel_rfl
theorem get1 : getT (tabF 2000 ps1) 0 2000 = some 1000000 := by kernel_rfl
section
variable {S r : Store} {QD : D → Store → Prop} {E : EK}
theorem next_ok (q : ∀ m, QD .non (S ++ m)) : Wr (F_next_saving [partsC, .int 2000] S) QD E := by
  with_reducible refine wd_next_saving ?_
  rw [m_next_saving_eq]
  unfold b_next_saving_0 b_next_saving_1
  walk_at "wv"
  refine judge_ok (ps := psC) (b := 2000) gpC (by omega) (by decide) fun m => ?_
  dsimp only [List.set_cons_succ, List.set_cons_zero]
  walk_at "wv"
  refine tables_ok (ps := psC) (b := 2000) gpC (by omega) fun ds m2 hR => ?_
  walk_at "wv"
  obtain ⟨da, ha, _⟩ := rows_ix hR (tabF_GT psC) (k := 0) (by omega)
  refine Wr.out ha ?_
  dsimp only [List.set_cons_succ, List.set_cons_zero]
  walk_at "wv"
  refine Wr.out (a := itR 2001 0) rfl ?_
  refine forGo_0 rfl ?_
  unfold b_next_saving_3
  walk_at "wv"
  have q := q (m ++ m2)
  rw [← List.append_assoc] at q
  exact q
theorem meas_h {f : Nat} {d : D} (hf : f = 13 ∨ f = 14 ∨ f = 15 ∨ f = 16) (hd : d ∈ badM) : F__law_heard [.fn f, .lst [d]] S = .ok (.str "argument measures") S := by
  have c : ∀ S, F_check_measures [d] S = .exc 0 (.str "measures") S := fun S => badM_x S d hd
  have z : preW 0 ++ ("measures" : Str) = "argument measures" := by decide +kernel
  rw [← z]
  rcases hf with rfl | rfl | rfl | rfl
  · refine heard_x (by omega) (by decide +kernel) (Wr.exn (asked1 rfl (wd_sum_with_error ?_)))
    unfold m_sum_with_error
    walk_at "wv"
    exact Wr.eqx (c _) ⟨rfl, rfl, rfl⟩
  · refine heard_x (by omega) (by decide +kernel) (Wr.exn (asked1 rfl (wd_product_with_error ?_)))
    unfold m_product_with_error
    walk_at "wv"
    exact Wr.eqx (c _) ⟨rfl, rfl, rfl⟩
  · refine heard_x (by omega) (by decide +kernel) (Wr.exn (asked1 rfl (wd_shares_of_error ?_)))
    unfold m_shares_of_error
    walk_at "wv"
    exact Wr.eqx (c _) ⟨rfl, rfl, rfl⟩
  · refine heard_x (by omega) (by decide +kernel) (Wr.exn (asked1 rfl (wd_worst ?_)))
    unfold m_worst
    walk_at "wv"
    exact Wr.eqx (c _) ⟨rfl, rfl, rfl⟩
theorem parts_h {f : Nat} {d : D} {more : List D} (hf : (f = 20 ∨ f = 21 ∨ f = 25) ∧ more = [.non] ∨ f = 24 ∧ more = [] ∨ (f = 22 ∨ f = 23) ∧ more = [.non, .non, .non]) (hd : d ∈ badP) : F__law_heard [.fn f, .lst (d :: more)] S = .ok (.str "argument parts") S := by
  have c : ∀ S, F_check_parts [d] S = .exc 0 (.str "parts") S := fun S => badP_x S d hd
  have z : preW 0 ++ ("parts" : Str) = "argument parts" := by decide +kernel
  have hx : ("parts" : Str).length ≤ 100 := by decide +kernel
  have j : ∀ S, F_judge_plan [d, .non] S = .exc 0 (.str "parts") S := fun S => by
    refine Wr.exn (wd_judge_plan ?_)
    unfold m_judge_plan
    walk_at "wv"
    exact Wr.eqx (c _) ⟨rfl, rfl, rfl⟩
  rw [← z]
  rcases hf with ⟨rfl | rfl | rfl, rfl⟩ | ⟨rfl, rfl⟩ | ⟨rfl | rfl, rfl⟩
  · exact heard_x (by omega) hx (Wr.exn (asked2 rfl (Wr.eqx (j _) ⟨rfl, rfl, rfl⟩)))
  · refine heard_x (by omega) hx (Wr.exn (asked2 rfl (wd_costs_by ?_)))
    unfold m_costs_by
    walk_at "wv"
    exact Wr.eqx (c _) ⟨rfl, rfl, rfl⟩
  · refine heard_x (by omega) hx (Wr.exn (asked2 rfl (wd_next_saving ?_)))
    unfold m_next_saving
    walk_at "wv"
    exact Wr.eqx (j _) ⟨rfl, rfl, rfl⟩
  · refine heard_x (by omega) hx (Wr.exn (asked1 rfl (wd_needless_options ?_)))
    unfold m_needless_options
    walk_at "wv"
    exact Wr.eqx (c _) ⟨rfl, rfl, rfl⟩
  · refine heard_x (by omega) hx (Wr.exn (asked4 rfl (wd_accept_plan ?_)))
    unfold m_accept_plan
    walk_at "wv"
    exact Wr.eqx (c _) ⟨rfl, rfl, rfl⟩
  · refine heard_x (by omega) hx (Wr.exn (asked4 rfl (wd_accept_least ?_)))
    unfold m_accept_least
    walk_at "wv"
    exact Wr.eqx (c _) ⟨rfl, rfl, rfl⟩
theorem bound_h {f : Nat} {d : D} {more : List D} (hf : (f = 20 ∨ f = 21 ∨ f = 25) ∧ more = [] ∨ (f = 22 ∨ f = 23) ∧ more = [.non, .non]) (hd : d ∈ badB) : F__law_heard [.fn f, .lst (partsC :: d :: more)] S = .ok (.str "argument bound") S := by
  have c : ∀ S, F_check_bound [d] S = .exc 0 (.str "bound") S := fun S => badB_x S d hd
  have c0 : ∀ S, F_check_parts [partsC] S = .ok .non S := partsC_x
  have z : preW 0 ++ ("bound" : Str) = "argument bound" := by decide +kernel
  have hx : ("bound" : Str).length ≤ 100 := by decide +kernel
  have j : ∀ S, F_judge_plan [partsC, d] S = .exc 0 (.str "bound") S := fun S => by
    refine Wr.exn (wd_judge_plan ?_)
    unfold m_judge_plan
    walk_at "wv"
    refine Wr.eq (c0 _) ?_
    walk_at "wv"
    exact Wr.eqx (c _) ⟨rfl, rfl, rfl⟩
  rw [← z]
  rcases hf with ⟨rfl | rfl | rfl, rfl⟩ | ⟨rfl | rfl, rfl⟩
  · exact heard_x (by omega) hx (Wr.exn (asked2 rfl (Wr.eqx (j _) ⟨rfl, rfl, rfl⟩)))
  · refine heard_x (by omega) hx (Wr.exn (asked2 rfl (wd_costs_by ?_)))
    unfold m_costs_by
    walk_at "wv"
    refine Wr.eq (c0 _) ?_
    walk_at "wv"
    exact Wr.eqx (c _) ⟨rfl, rfl, rfl⟩
  · refine heard_x (by omega) hx (Wr.exn (asked2 rfl (wd_next_saving ?_)))
    unfold m_next_saving
    walk_at "wv"
    exact Wr.eqx (j _) ⟨rfl, rfl, rfl⟩
  · refine heard_x (by omega) hx (Wr.exn (asked4 rfl (wd_accept_plan ?_)))
    unfold m_accept_plan
    walk_at "wv"
    refine Wr.eq (c0 _) ?_
    walk_at "wv"
    exact Wr.eqx (c _) ⟨rfl, rfl, rfl⟩
  · refine heard_x (by omega) hx (Wr.exn (asked4 rfl (wd_accept_least ?_)))
    unfold m_accept_least
    walk_at "wv"
    refine Wr.eq (c0 _) ?_
    walk_at "wv"
    exact Wr.eqx (c _) ⟨rfl, rfl, rfl⟩
theorem dr {m : Int} (h : St S r) (hm : 0 < m) (hm2 : m < 2 ^ 60) (q : ∀ v S', 0 ≤ v → v < m → St S' r → QD (.int v) S') : Wr (F__law_draw [.loc 0, .int m] S) QD E :=
  draw_ok h hm (Nat.lt_of_le_of_lt (log_le (k := 60) (by omega)) (by decide)) q
theorem pick_ok {ds : List D} (h : St S r) (h0 : 0 < ds.length) (h1 : ds.length ≤ 1000) (q : ∀ d S', d ∈ ds → St S' r → QD d S') : Wr (F__law_pick [.loc 0, .lst ds] S) QD E := by
  refine wd__law_pick ?_
  unfold m__law_pick
  walk_at "wv"
  refine dr h (by omega) (by omega) fun v S1 v0 v1 hS1 => ?_
  exact w_pick v0 v1 fun d hd => q d _ hd hS1
end
end Lw

namespace Lw
open PySem Ev
section
variable {S r : Store} {QD : D → Store → Prop} {E : EK} {K : Ko} {e0 e1 e2 e3 e4 e5 e6 e7 e8 e9 : Option D}
abbrev badM9 : List D := [.non, .tup [], .tup (List.replicate 21 one3), .str "ab", .tup [one3, .non], .tup [one3, .tup [d2 1 1, d2 2 1]], .tup [.tup [d2 1 1, d2 2 1, d2 (-1) 2]], .tup [.tup [d2 1 1, d2 2 2, d2 1 1]], .tup [one3, .tup [d2 1 0, d2 1 1, d2 1 1]]]
abbrev badP13 : List D := [.non, .tup [], .tup [.tup []], .tup (List.replicate 21 (.tup [d2 1 1])), .tup [.tup (List.replicate 9 (d2 1 1))], .str "ab", .tup [.tup [.non]], .tup [.tup [.tup [.int 1]]], .tup [.tup [.tup [.int 1, .int 2, .int 3]]], p1 (-1) 1, p1 2001 1, p1 1 (-1), p1 1 1000001]
theorem a0 (S : Store) : b__law_arguments_hold_0 [some (.loc 0), none, none, none, none, none, none, none, none, none] S = .nx [some (.loc 0), none, none, none, none, none, none, none, some one3, some partsC] S := by kernel_rfl
theorem a1 (S : Store) (e9 : Option D) : b__law_arguments_hold_1 [some (.loc 0), none, none, none, none, none, none, none, some one3, e9] S = .nx [some (.loc 0), some (.lst badM9), none, none, none, none, none, none, some one3, e9] S := by kernel_rfl
theorem a2 (S : Store) (e9 : Option D) : b__law_arguments_hold_2 [some (.loc 0), some (.lst badM9), none, none, none, none, none, none, some one3, e9] S = .nx [some (.loc 0), some (.lst badM), none, none, none, none, none, none, some one3, e9] S := by kernel_rfl
theorem a5 (S : Store) (e9 : Option D) (e2 e3 : Option D) : b__law_arguments_hold_5 [some (.loc 0), some (.lst badM), e2, e3, none, none, none, none, some one3, e9] S = .nx [some (.loc 0), some (.lst badM), e2, e3, some (.lst badP13), none, none, none, some one3, e9] S := by kernel_rfl
theorem a6 (S : Store) (e9 : Option D) (e2 e3 : Option D) : b__law_arguments_hold_6 [some (.loc 0), some (.lst badM), e2, e3, some (.lst badP13), none, none, none, some one3, e9] S = .nx [some (.loc 0), some (.lst badM), e2, e3, some (.lst badP), none, none, none, some one3, e9] S := by kernel_rfl
theorem a4 {d w : D} (hd : d ∈ badM) (hw : w ∈ [D.fn 13, .fn 14, .fn 15, .fn 16]) (q : K.nx [e0, e1, some d, some w, e4, e5, e6, e7, e8, e9] S) : Ws (b__law_arguments_hold_4_0 [e0, e1, some d, some w, e4, e5, e6, e7, e8, e9] S) K := by
  obtain ⟨f, rfl, hf⟩ : ∃ f, w = .fn f ∧ (f = 13 ∨ f = 14 ∨ f = 15 ∨ f = 16) := by
    simp only [List.mem_cons, List.not_mem_nil, or_false] at hw
    rcases hw with rfl | rfl | rfl | rfl <;> exact ⟨_, rfl, by simp⟩
  unfold b__law_arguments_hold_4_0
  walk_at "wv"
  refine ⟨rfl, ?_⟩
  walk_at "wv"
  with_reducible refine Wr.eq (meas_h hf hd) ?_
  walk_at "wv"
  refine Wr.out ne_str ?_
  walk_at "wv"
  exact q
abbrev rowsP (d : D) : List D := [.lst [.fn 20, d, .non], .lst [.fn 21, d, .non], .lst [.fn 25, d, .non], .lst [.fn 24, d], .lst [.fn 22, d, .non, .non, .non], .lst [.fn 23, d, .non, .non, .non]]
theorem a8 {d w : D} (hd : d ∈ badP) (hw : w ∈ rowsP d) (q : K.nx [e0, e1, e2, e3, e4, e5, some w, e7, e8, e9] S) : Ws (b__law_arguments_hold_8_0 [e0, e1, e2, e3, e4, e5, some w, e7, e8, e9] S) K := by
  obtain ⟨f, more, rfl, hf, e1, e2⟩ : ∃ f more, w = .lst (.fn f :: d :: more) ∧ ((f = 20 ∨ f = 21 ∨ f = 25) ∧ more = [.non] ∨ f = 24 ∧ more = [] ∨ (f = 22 ∨ f = 23) ∧ more = [.non, .non, .non]) ∧ (∀ S, ixD S w (.int 0) = some (.fn f)) ∧ (∀ S, slD S w (some 1) none = some (.lst (d :: more))) := by
    simp only [List.mem_cons, List.not_mem_nil, or_false] at hw
    rcases hw with rfl | rfl | rfl | rfl | rfl | rfl <;> exact ⟨_, _, rfl, by simp, fun S => rfl, fun S => rfl⟩
  unfold b__law_arguments_hold_8_0
  walk_at "wv"
  refine Wr.out (e1 _) ?_
  walk_at "wv"
  refine Wr.out (e2 _) ?_
  walk_at "wv"
  with_reducible refine Wr.eq (parts_h hf hd) ?_
  walk_at "wv"
  refine Wr.out ne_str ?_
  walk_at "wv"
  exact q
abbrev rowsB (pc d : D) : List D := [.lst [.fn 20, pc, d], .lst [.fn 21, pc, d], .lst [.fn 25, pc, d], .lst [.fn 22, pc, d, .non, .non], .lst [.fn 23, pc, d, .non, .non]]
theorem a9 {pc d w : D} (hpc : pc = partsC) (hd : d ∈ badB) (hw : w ∈ rowsB pc d) (q : K.nx [e0, e1, e2, e3, e4, e5, some w, e7, e8, e9] S) : Ws (b__law_arguments_hold_9_0_0 [e0, e1, e2, e3, e4, e5, some w, e7, e8, e9] S) K := by
  obtain ⟨f, more, rfl, hf, e1, e2⟩ : ∃ f more, w = .lst (.fn f :: pc :: d :: more) ∧ ((f = 20 ∨ f = 21 ∨ f = 25) ∧ more = [] ∨ (f = 22 ∨ f = 23) ∧ more = [.non, .non]) ∧ (∀ S, ixD S w (.int 0) = some (.fn f)) ∧ (∀ S, slD S w (some 1) none = some (.lst (pc :: d :: more))) := by
    simp only [List.mem_cons, List.not_mem_nil, or_false] at hw
    rcases hw with rfl | rfl | rfl | rfl | rfl <;> exact ⟨_, _, rfl, by simp, fun S => rfl, fun S => rfl⟩
  unfold b__law_arguments_hold_9_0_0
  walk_at "wv"
  refine Wr.out (e1 _) ?_
  walk_at "wv"
  refine Wr.out (e2 _) ?_
  walk_at "wv"
  subst hpc
  with_reducible refine Wr.eq (bound_h hf hd) ?_
  walk_at "wv"
  refine Wr.out ne_str ?_
  walk_at "wv"
  exact q
theorem a9i (δ : Ev.Env) (S : Store) : mIt (mLst (mCons (mC .non) (mCons (mUn negD (mC (.int 1))) (mCons (mC (.int 2001)) (mCons (mC (.bl true)) (mCons (mC (.str "3")) (mCons (mTup (mCons (mC (.int 3)) mNil)) mNil))))))) δ S = .ok (itL badB) S := by kernel_rfl
theorem badM_len : badM.length = 13 := rfl
theorem badP_len : badP.length = 18 := rfl
theorem eq_plan {S : Store} : eqD S (.tup [.str "plan", vD (some 1000000), .tup [.int 0]]) (.tup [.str "plan", .int 1000000, .tup [.int 0]]) = some (.bl true) := by
  refine eq_same ?_ rfl
  decide +kernel
theorem args_ok (hS : St S r) (q : ∀ S', QD (.bl true) S') : Wr (F__law_arguments_hold [.loc 0] S) QD E := by
  with_reducible refine wd__law_arguments_hold ?_
  rw [m__law_arguments_hold_eq]
  with_reducible refine s_seq (Ws.nxe (a0 _) ?_)
  generalize hpc : partsC = pc
  have hpc := hpc.symm
  with_reducible refine s_seq (Ws.nxe (a1 _ _) ?_)
  with_reducible refine s_seq (Ws.nxe (a2 _ _) ?_)
  unfold b__law_arguments_hold_3
  walk_at "wv"
  refine pick_ok hS (by rw [badM_len]; decide) (by rw [badM_len]; decide) fun d S1 hd hS1 => ?_
  dsimp only [List.set_cons_succ, List.set_cons_zero]
  with_reducible refine s_seq ?_
  with_reducible refine s_for ?_
  refine Wr.eq (a := itL [D.fn 13, .fn 14, .fn 15, .fn 16]) (S := S1) rfl ?_
  refine forGo_its itsA_L (I := fun k δ S' => S' = S1 ∧ ∃ x3, δ = [some (.loc 0), some (.lst badM), some d, x3, none, none, none, none, some one3, some pc]) ⟨rfl, _, rfl⟩ ?_ ?_
  · rintro k hk δ S' ⟨rfl, x3, rfl⟩
    refine ⟨_, _, rfl, ?_⟩
    dsimp only [List.set_cons_succ, List.set_cons_zero]
    exact a4 hd (List.getElem_mem hk) ⟨rfl, _, rfl⟩
  rintro δ S' ⟨rfl, x3, rfl⟩
  with_reducible refine s_seq (Ws.nxe (a5 _ _ _ _) ?_)
  with_reducible refine s_seq (Ws.nxe (a6 _ _ _ _) ?_)
  unfold b__law_arguments_hold_7
  walk_at "wv"
  refine pick_ok hS1 (by rw [badP_len]; decide) (by rw [badP_len]; decide) fun d' S2 hd' hS2 => ?_
  dsimp only [List.set_cons_succ, List.set_cons_zero]
  with_reducible refine s_seq ?_
  with_reducible refine s_for ?_
  refine Wr.eq (a := itL (rowsP d')) (S := S2) rfl ?_
  refine forGo_its itsA_L (I := fun k δ S' => S' = S2 ∧ ∃ x6, δ = [some (.loc 0), some (.lst badM), some d, x3, some (.lst badP), some d', x6, none, some one3, some pc]) ⟨rfl, _, rfl⟩ ?_ ?_
  · rintro k hk δ S' ⟨rfl, x6, rfl⟩
    refine ⟨_, _, rfl, ?_⟩
    dsimp only [List.set_cons_succ, List.set_cons_zero]
    exact a8 hd' (List.getElem_mem hk) ⟨rfl, _, rfl⟩
  intro δ S' h
  have h1 : S' = S2 := h.1
  have h2 := h.2
  clear h
  cases h2 with | intro x6 h2 => ?_
  rw [h2, h1]
  clear h2 h1 δ S'
  dsimp only
  with_reducible refine s_seq ?_
  with_reducible refine s_for ?_
  with_reducible refine Wr.eq (a9i _ _) ?_
  refine forGo_its itsA_L (I := fun k δ S'' => S'' = S2 ∧ ∃ x6 x7, δ = [some (.loc 0), some (.lst badM), some d, x3, some (.lst badP), some d', x6, x7, some one3, some pc]) ⟨rfl, _, _, rfl⟩ ?_ ?_
  · rintro k hk δ S'' ⟨rfl, x6, x7, rfl⟩
    refine ⟨_, _, rfl, ?_⟩
    dsimp only [List.set_cons_succ, List.set_cons_zero]
    have hb : badB[k] ∈ badB := List.getElem_mem hk
    generalize badB[k] = db at hb
    with_reducible refine s_for ?_
    refine Wr.eq (a := itL (rowsB pc db)) (S := S'') rfl ?_
    refine forGo_its itsA_L (I := fun k δ S' => S' = S'' ∧ ∃ x6, δ = [some (.loc 0), some (.lst badM), some d, x3, some (.lst badP), some d', x6, some db, some one3, some pc]) ⟨rfl, _, rfl⟩ ?_ ?_
    · rintro l hl δ S' ⟨rfl, x6, rfl⟩
      refine ⟨_, _, rfl, ?_⟩
      dsimp only [List.set_cons_succ, List.set_cons_zero]
      exact a9 hpc hb (List.getElem_mem hl) ⟨rfl, _, rfl⟩
    · rintro δ S' ⟨rfl, x6, rfl⟩
      exact ⟨rfl, _, _, rfl⟩
  intro δ S' h
  have h1 : S' = S2 := h.1
  have h2 := h.2
  clear h
  cases h2 with | intro x6 h2 => ?_
  cases h2 with | intro x7 h2 => ?_
  rw [h2, h1]
  clear h2 h1 δ S'
  dsimp only
  unfold b__law_arguments_hold_10
  walk_at "wv"
  refine ⟨rfl, ?_⟩
  walk_at "wv"
  refine ⟨rfl, ?_⟩
  walk_at "wv"
  refine ⟨rfl, ?_⟩
  walk_at "wv"
  refine judge_ok (ps := ps1) (b := 2000) gp1 (by omega) (by decide) fun m => ?_
  rw [run1, get1]
  walk_at "wv"
  refine ⟨rfl, ?_⟩
  walk_at "wv"
  refine ⟨rfl, ?_⟩
  refine Wr.out eq_plan ?_
  walk_at "wv"
  rw [hpc]
  refine next_ok fun m2 => ?_
  walk_at "wv"
  exact Wr.out (a := D.bl true) rfl (q _)
end
end Lw

namespace Lw
open PySem Ev
/-- plain all through, of bounded lengths -/
def PL (l : Nat) : Nat → D → Prop
  | _, .int _ => True
  | _, .bl _ => True
  | _, .str _ => True
  | _, .non => True
  | n + 1, .tup ds => ds.length ≤ l ∧ ∀ d ∈ ds, PL l n d
  | _, _ => False
theorem PL.mono {l m : Nat} (h : l ≤ m) : ∀ {n : Nat} {d : D}, PL l n d → PL m n d := by
  intro n
  induction n with
  | zero => intro d hd; cases d <;> first | trivial | exact hd.elim
  | succ n ih =>
    intro d hd
    cases d <;> first | trivial | skip
    · exact ⟨Nat.le_trans hd.1 h, fun d z => ih (hd.2 d z)⟩
    all_goals exact hd.elim
theorem PL.pl {l : Nat} (h : l ≤ 10000) : ∀ {n : Nat} {d : D}, PL l n d → Pl n d := by
  intro n
  induction n with
  | zero => intro d hd; cases d <;> first | trivial | exact hd.elim
  | succ n ih =>
    intro d hd
    cases d <;> first | trivial | skip
    · exact ⟨Nat.le_trans hd.1 h, fun d z => ih (hd.2 d z)⟩
    all_goals exact hd.elim
theorem PL.cut {l n : Nat} {ds : List D} {lo hi : Option Int} (h : PL l (n + 1) (.tup ds)) : PL l (n + 1) (.tup (cutD ds lo hi)) := by
  refine ⟨?_, fun d hd => h.2 d (List.mem_of_mem_drop (List.mem_of_mem_take hd))⟩
  have h1 := h.1
  show ((ds.drop _).take _).length ≤ l
  rw [List.length_take, List.length_drop]
  omega
theorem PL.app {l m n : Nat} {xs ys : List D} (h : PL l (n + 1) (.tup xs)) (h2 : PL m (n + 1) (.tup ys)) : PL (l + m) (n + 1) (.tup (xs ++ ys)) := by
  refine ⟨by have := h.1; have := h2.1; rw [List.length_append]; omega, fun d hd => ?_⟩
  rcases List.mem_append.mp hd with z | z
  · exact (h.2 d z).mono (by omega)
  · exact (h2.2 d z).mono (by omega)
theorem PL.one {l n : Nat} {d : D} (hl : 1 ≤ l) (h : PL l n d) : PL l (n + 1) (.tup [d]) := ⟨hl, fun e he => by rw [List.mem_singleton.mp he]; exact h⟩
theorem PL.rep {l n k : Nat} {d : D} (hl : k ≤ l) (h : PL l n d) : PL l (n + 1) (.tup (List.replicate k d)) := ⟨by simpa using hl, fun e he => by rw [(List.mem_replicate.mp he).2]; exact h⟩
theorem pl_v {l n : Nat} {v : Option Int} : PL l n (vD v) := by cases v <;> cases n <;> trivial
theorem pl_tab {n b l : Nat} {T : Tab} (h : GT n b T) (h1 : n + 1 ≤ l) (h2 : b + 1 ≤ l) : PL l 2 (tabD T) := by
  refine ⟨by rw [List.length_map, h.len]; exact h1, fun d hd => ?_⟩
  obtain ⟨r, hr, rfl⟩ := List.mem_map.mp hd
  refine ⟨by rw [List.length_map, h.row r hr]; exact h2, fun e he => ?_⟩
  obtain ⟨v, _, rfl⟩ := List.mem_map.mp he
  exact pl_v
theorem addt {S : Store} {xs ys : List D} (h : xs.length + ys.length ≤ 10000) : addD S (.tup xs) (.tup ys) = some (.tup (xs ++ ys)) := if_pos (sl_le h)
section
variable {S r : Store} {QD : D → Store → Prop} {E : EK} {K : Ko} {n b i j : Nat} {T : Tab} {ps : List Part}
theorem cut_len {ds : List D} {lo hi : Option Int} : (cutD ds lo hi).length ≤ ds.length := by
  show ((ds.drop _).take _).length ≤ _
  rw [List.length_take, List.length_drop]
  omega
theorem put_ok (h : GT n b T) (hn : n ≤ 50) (hb : b ≤ 50) (hi : i < n + 1) (hj : j < b + 1) {x : D} (hx : PL 100 0 x) (q : ∀ d, PL 300 2 d → QD d S) : Wr (F__law_put [tabD T, .int (i : Nat), .int (j : Nat), x] S) QD E := by
  have hT := pl_tab (l := 100) h (by omega) (by omega)
  have hR : PL 100 1 (rowD (T.getD i [])) := hT.2 _ (List.mem_map_of_mem (h.at hi).2)
  refine wd__law_put ?_
  unfold m__law_put
  walk_at "wv"
  refine Wr.out (a := .tup (cutD (T.map rowD) none (some (i : Int)))) rfl ?_
  walk_at "wv"
  refine Wr.out (ixT h hi) ?_
  walk_at "wv"
  refine Wr.out (a := .tup (cutD ((T.getD i []).map vD) none (some (j : Int)))) rfl ?_
  walk_at "wv"
  refine ⟨rfl, ?_⟩
  have l1 := hT.1
  have l2 := hR.1
  have c1 := cut_len (ds := (T.getD i []).map vD) (lo := none) (hi := some (j : Int))
  have c2 := cut_len (ds := (T.getD i []).map vD) (lo := some ((j : Int) + 1)) (hi := none)
  have c3 := cut_len (ds := T.map rowD) (lo := none) (hi := some (i : Int))
  have c4 := cut_len (ds := T.map rowD) (lo := some ((i : Int) + 1)) (hi := none)
  refine Wr.out (addt (by simp only [List.length_cons, List.length_nil]; omega)) ?_
  walk_at "wv"
  refine Wr.out (ixT h hi) ?_
  walk_at "wv"
  refine Wr.out (a := .tup (cutD ((T.getD i []).map vD) (some ((j : Int) + 1)) none)) rfl ?_
  refine Wr.out (addt (by simp only [List.length_append, List.length_cons, List.length_nil]; omega)) ?_
  walk_at "wv"
  refine ⟨rfl, ?_⟩
  refine Wr.out (addt (by simp only [List.length_cons, List.length_nil]; omega)) ?_
  walk_at "wv"
  refine Wr.out (a := .tup (cutD (T.map rowD) (some ((i : Int) + 1)) none)) rfl ?_
  refine Wr.out (addt (by simp only [List.length_append, List.length_cons, List.length_nil]; omega)) ?_
  refine q _ ?_
  refine ⟨by simp only [List.length_append, List.length_cons, List.length_nil]; omega, fun d hd => ?_⟩
  rcases List.mem_append.mp hd with hd | hd
  · rcases List.mem_append.mp hd with hd | hd
    · exact (hT.cut.2 d hd).mono (by omega)
    · rw [List.mem_singleton.mp hd]
      refine ⟨by simp only [List.length_append, List.length_cons, List.length_nil]; omega, fun e he => ?_⟩
      rcases List.mem_append.mp he with he | he
      · rcases List.mem_append.mp he with he | he
        · exact (hR.cut.2 e he).mono (by omega)
        · rw [List.mem_singleton.mp he]; exact hx.mono (by omega)
      · exact (hR.cut.2 e he).mono (by omega)
  · exact (hT.cut.2 d hd).mono (by omega)
theorem list_of {α : Type} {w : α → D} {P : α → Prop} : ∀ {ds : List D}, (∀ d ∈ ds, ∃ a, d = w a ∧ P a) → ∃ xs : List α, ds = xs.map w ∧ ∀ x ∈ xs, P x
  | [], _ => ⟨[], rfl, fun _ h => by cases h⟩
  | d :: ds, h => by
    obtain ⟨a, rfl, ha⟩ := h d List.mem_cons_self
    obtain ⟨xs, rfl, hx⟩ := list_of (ds := ds) fun e he => h e (List.mem_cons_of_mem _ he)
    refine ⟨a :: xs, rfl, fun x hm => ?_⟩
    rcases List.mem_cons.mp hm with rfl | hm
    · exact ha
    · exact hx x hm
def SS (S : Store) : Prop := ∃ r, St S r
theorem sdr {m : Int} (h : SS S) (hm : 0 < m) (hm2 : m < 2 ^ 60) (q : ∀ v S', 0 ≤ v → v < m → SS S' → QD (.int v) S') : Wr (F__law_draw [.loc 0, .int m] S) QD E := by
  obtain ⟨r, hr⟩ := h
  exact dr hr hm hm2 fun v S' h0 h1 hS => q v S' h0 h1 ⟨r, hS⟩
theorem SS.more {m : Store} (h : SS S) : SS (S ++ m) := by
  obtain ⟨r, hr⟩ := h
  exact ⟨_, hr.mores⟩
/-- small parts -/
structure SP (ps : List Part) : Prop where
  gp : GP ps
  le : ps.length ≤ 4
end
end Lw

namespace Lw
open PySem Ev
section
variable {S r : Store} {QD : D → Store → Prop} {E : EK} {K : Ko} {n b i j : Nat} {T : Tab} {ps : List Part} {e0 e1 e2 e3 e4 e5 e6 e7 e8 e9 e10 e11 e12 e13 e14 : Option D}
theorem p0 (hS : SS S) (q : ∀ ps S, SP ps → SS S → K.nx [some (.loc 0), some (partsD ps), e2, e3, e4, e5, e6, e7, e8, e9, e10, e11, e12, e13, e14] S) : Ws (b__law_papers_hold_0 [some (.loc 0), e1, e2, e3, e4, e5, e6, e7, e8, e9, e10, e11, e12, e13, e14] S) K := by
  unfold b__law_papers_hold_0
  with_reducible refine s_set ?_
  with_reducible refine w_cb ?_
  with_reducible refine w_cons ?_
  refine w_lcS (P := fun d => ∃ p : Part, d = partD p ∧ (1 ≤ p.length ∧ p.length ≤ 8) ∧ ∀ o ∈ p, 0 ≤ o.1 ∧ o.1 ≤ 2000 ∧ 0 ≤ o.2 ∧ o.2 ≤ 1000000) (J := SS) ?_
  walk_at "wv"
  refine sdr hS (by omega) (by omega) fun v S1 v0 v1 hS1 => ?_
  walk_at "wv"
  with_reducible refine Wr.out (rangeD1_i (by omega) (by omega)) ?_
  refine ⟨_, _, _, itsA_R, by rw [List.length_range]; exact sl_le (by omega), hS1, ?_, ?_⟩
  · intro k hk S2 hS2
    refine ⟨_, rfl, ?_⟩
    dsimp only [List.set_cons_succ, List.set_cons_zero, wipeE]
    with_reducible refine w_cb ?_
    with_reducible refine w_cons ?_
    refine w_lcS (P := fun d => ∃ o : Int × Int, d = oD o ∧ (0 ≤ o.1 ∧ o.1 ≤ 2000 ∧ 0 ≤ o.2 ∧ o.2 ≤ 1000000)) (J := SS) ?_
    walk_at "wv"
    refine sdr hS2 (by omega) (by omega) fun w S3 w0 w1 hS3 => ?_
    walk_at "wv"
    with_reducible refine Wr.out (rangeD1_i (by omega) (by omega)) ?_
    refine ⟨_, _, _, itsA_R, by rw [List.length_range]; exact sl_le (by omega), hS3, ?_, ?_⟩
    · intro l hl S4 hS4
      refine ⟨_, rfl, ?_⟩
      dsimp only [List.set_cons_succ, List.set_cons_zero, wipeE]
      walk_at "wv"
      refine sdr hS4 (by omega) (by omega) fun x S5 x0 x1 hS5 => ?_
      walk_at "wv"
      refine sdr hS5 (by omega) (by omega) fun y S6 y0 y1 hS6 => ?_
      walk_at "wv"
      exact ⟨rfl, ⟨(x, y), rfl, x0, by show x ≤ 2000; omega, y0, by show y ≤ 1000000; omega⟩, hS6⟩
    · intro ds S4 hl hd hS4
      walk_at "wv"
      obtain ⟨p, rfl, hp⟩ := list_of hd
      refine Wr.out (a := partD p) rfl ⟨⟨p, rfl, ?_, hp⟩, hS4⟩
      rw [List.length_map, List.length_range] at hl
      omega
  · intro ds S2 hl hd hS2
    walk_at "wv"
    obtain ⟨ps, rfl, hp⟩ := list_of hd
    refine Wr.out (a := partsD ps) rfl ?_
    rw [List.length_map, List.length_range] at hl
    dsimp only [List.set_cons_succ, List.set_cons_zero]
    exact q ps S2 ⟨⟨by omega, by omega, fun p hm => (hp p hm).1, fun p hm => (hp p hm).2⟩, by omega⟩ hS2
theorem p1s (hS : SS S) (q : ∀ (b : Nat) S, b ≤ 11 → SS S → K.nx [some (.loc 0), e1, some (.tup []), e3, e4, e5, e6, e7, some (.int (b : Nat)), e9, e10, e11, e12, e13, e14] S) : Ws (b__law_papers_hold_1 [some (.loc 0), e1, e2, e3, e4, e5, e6, e7, e8, e9, e10, e11, e12, e13, e14] S) K := by
  unfold b__law_papers_hold_1
  walk_at "wv"
  refine sdr hS (by omega) (by omega) fun v S1 v0 v1 hS1 => ?_
  walk_at "wv"
  refine ⟨rfl, ?_⟩
  walk_at "wv"
  obtain ⟨b, rfl⟩ := Int.eq_ofNat_of_zero_le v0
  exact q b S1 (by omega) hS1
theorem p2s (hp : SP ps) (hb : b ≤ 11) (hS : SS S) (q : ∀ T S, GT ps.length b T → SS S → K.nx [e0, some (partsD ps), some (tabD T), e3, e4, e5, e6, e7, some (.int (b : Nat)), e9, e10, e11, e12, e13, e14] S) : Ws (b__law_papers_hold_2 [e0, some (partsD ps), e2, e3, e4, e5, e6, e7, some (.int (b : Nat)), e9, e10, e11, e12, e13, e14] S) K := by
  unfold b__law_papers_hold_2
  walk_at "wv"
  with_reducible refine law_rows_ok hp.gp (by omega) fun m => ?_
  exact q _ _ (tabF_GT ps) hS.more
theorem p3s (hb : b ≤ 11) (hG : GT n b T) (hS : SS S) (q : ∀ (c : Int) S, SS S → K.nx [some (.loc 0), e1, some (tabD T), some (.int c), e4, e5, e6, e7, some (.int (b : Nat)), e9, e10, e11, e12, e13, e14] S) : Ws (b__law_papers_hold_3 [some (.loc 0), e1, some (tabD T), e3, e4, e5, e6, e7, some (.int (b : Nat)), e9, e10, e11, e12, e13, e14] S) K := by
  unfold b__law_papers_hold_3
  walk_at "wv"
  refine Wr.out (ixT hG (k := 0) (by omega)) ?_
  walk_at "wv"
  refine Wr.out (ixR hG (by omega) (by omega)) ?_
  walk_at "wv"
  refine Wr.out nis_v ?_
  walk_at "wv"
  refine ⟨fun z => ?_, fun z => ?_⟩
  · walk_at "wv"
    refine Wr.out (ixT hG (k := 0) (by omega)) ?_
    walk_at "wv"
    refine Wr.out (ixR hG (by omega) (by omega)) ?_
    obtain ⟨v, hv⟩ := Option.isSome_iff_exists.mp z
    rw [hv]
    exact q v S hS
  · walk_at "wv"
    refine sdr hS (by omega) (by omega) fun v S1 v0 v1 hS1 => ?_
    exact q v S1 hS1
/-- one look at choices -/
theorem chkP (hp : SP ps) (hb : b ≤ 11) {c ch : D} (hc : plainA c = true) (hch : Pl 1 ch) (q : K.nx [e0, some (partsD ps), e2, e3, e4, some ch, e6, e7, some (.int (b : Nat)), e9, e10, some c, e12, e13, e14] S) :
    Ws (b__law_papers_hold_4_1_0_0 [e0, some (partsD ps), e2, e3, e4, some ch, e6, e7, some (.int (b : Nat)), e9, e10, some c, e12, e13, e14] S) K := by
  unfold b__law_papers_hold_4_1_0_0
  walk_at "wv"
  refine ⟨rfl, ?_⟩
  walk_at "wv"
  with_reducible refine Wr.eq (heardP hp.gp (by omega) hc hch) ?_
  walk_at "wv"
  with_reducible refine Wr.eq (dueP hp.gp (by omega) hc hch) ?_
  refine Wr.out neW ?_
  walk_at "wv"
  exact q
theorem chkL (hp : SP ps) (hb : b ≤ 11) {c t : D} (hc : plainA c = true) (ht : Pl 2 t) (q : K.nx [e0, some (partsD ps), e2, e3, e4, e5, e6, some t, some (.int (b : Nat)), e9, e10, some c, e12, e13, e14] S) :
    Ws (b__law_papers_hold_10_0_0 [e0, some (partsD ps), e2, e3, e4, e5, e6, some t, some (.int (b : Nat)), e9, e10, some c, e12, e13, e14] S) K := by
  obtain ⟨o, h1, h2⟩ := bothL (S := S) (b := b) hp.gp (by omega) hc ht
  unfold b__law_papers_hold_10_0_0
  walk_at "wv"
  refine ⟨rfl, ?_⟩
  walk_at "wv"
  with_reducible refine Wr.eq h1 ?_
  walk_at "wv"
  with_reducible refine Wr.eq h2 ?_
  refine Wr.out neW ?_
  walk_at "wv"
  exact q
end
end Lw

namespace Lw
open PySem Ev
section
variable {S r : Store} {QD : D → Store → Prop} {E : EK} {K : Ko} {n b i j : Nat} {T : Tab} {ps : List Part} {c : Int} {ch t : D} {e0 e1 e2 e3 e4 e5 e6 e7 e8 e9 e10 e11 e12 e13 e14 : Option D}
theorem innerP (hp : SP ps) (hb : b ≤ 11) (hch : Pl 1 ch) (q : ∀ x, K.nx [e0, some (partsD ps), e2, some (.int c), e4, some ch, e6, e7, some (.int (b : Nat)), e9, e10, x, e12, e13, e14] S) :
    Ws ((sFor (mIt (mLst (mCons (mVar 3) (mCons (mOp addD (mVar 3) (mC (.int 3))) (mCons (mOp subD (mVar 3) (mC (.int 1))) (mCons (mC (.int 0)) (mCons (mC .non) (mCons (mC (.str "1")) mNil)))))))) (gmName 11) b__law_papers_hold_4_1_0_0) [e0, some (partsD ps), e2, some (.int c), e4, some ch, e6, e7, some (.int (b : Nat)), e9, e10, e11, e12, e13, e14] S) K := by
  with_reducible refine s_for ?_
  refine Wr.eq (a := itL [.int c, .int (c + 3), .int (c - 1), .int 0, .non, .str "1"]) (S := S) rfl ?_
  refine forGo_its itsA_L (I := fun k δ S' => S' = S ∧ ∃ x, δ = [e0, some (partsD ps), e2, some (.int c), e4, some ch, e6, e7, some (.int (b : Nat)), e9, e10, x, e12, e13, e14]) ⟨rfl, _, rfl⟩ ?_ ?_
  · rintro k hk δ S' ⟨rfl, x, rfl⟩
    refine ⟨_, _, rfl, ?_⟩
    dsimp only [List.set_cons_succ, List.set_cons_zero]
    have hm : [D.int c, .int (c + 3), .int (c - 1), .int 0, .non, .str "1"][k] ∈ [D.int c, .int (c + 3), .int (c - 1), .int 0, .non, .str "1"] := List.getElem_mem hk
    have hpl : plainA [D.int c, .int (c + 3), .int (c - 1), .int 0, .non, .str "1"][k] = true := by
      generalize [D.int c, .int (c + 3), .int (c - 1), .int 0, .non, .str "1"][k] = d at hm
      simp only [List.mem_cons, List.not_mem_nil, or_false] at hm
      rcases hm with rfl | rfl | rfl | rfl | rfl | rfl <;> rfl
    exact chkP hp hb hpl hch ⟨rfl, _, rfl⟩
  · intro δ S' h
    have h1 : S' = S := h.1
    have h2 := h.2
    clear h
    cases h2 with | intro x h2 => ?_
    rw [h2, h1]
    exact q x
theorem innerL (hp : SP ps) (hb : b ≤ 11) (ht : Pl 2 t) (q : ∀ x, K.nx [e0, some (partsD ps), e2, some (.int c), e4, e5, e6, some t, some (.int (b : Nat)), e9, e10, x, e12, e13, e14] S) :
    Ws ((sFor (mIt (mLst (mCons (mVar 3) (mCons (mOp subD (mVar 3) (mC (.int 1))) (mCons (mOp addD (mVar 3) (mC (.int 1))) (mCons (mC .non) (mCons (mC (.bl true)) mNil))))))) (gmName 11) b__law_papers_hold_10_0_0) [e0, some (partsD ps), e2, some (.int c), e4, e5, e6, some t, some (.int (b : Nat)), e9, e10, e11, e12, e13, e14] S) K := by
  with_reducible refine s_for ?_
  refine Wr.eq (a := itL [.int c, .int (c - 1), .int (c + 1), .non, .bl true]) (S := S) rfl ?_
  refine forGo_its itsA_L (I := fun k δ S' => S' = S ∧ ∃ x, δ = [e0, some (partsD ps), e2, some (.int c), e4, e5, e6, some t, some (.int (b : Nat)), e9, e10, x, e12, e13, e14]) ⟨rfl, _, rfl⟩ ?_ ?_
  · rintro k hk δ S' ⟨rfl, x, rfl⟩
    refine ⟨_, _, rfl, ?_⟩
    dsimp only [List.set_cons_succ, List.set_cons_zero]
    have hm : [D.int c, .int (c - 1), .int (c + 1), .non, .bl true][k] ∈ [D.int c, .int (c - 1), .int (c + 1), .non, .bl true] := List.getElem_mem hk
    have hpl : plainA [D.int c, .int (c - 1), .int (c + 1), .non, .bl true][k] = true := by
      generalize [D.int c, .int (c - 1), .int (c + 1), .non, .bl true][k] = d at hm
      simp only [List.mem_cons, List.not_mem_nil, or_false] at hm
      rcases hm with rfl | rfl | rfl | rfl | rfl <;> rfl
    exact chkL hp hb hpl ht ⟨rfl, _, rfl⟩
  · intro δ S' h
    have h1 : S' = S := h.1
    have h2 := h.2
    clear h
    cases h2 with | intro x h2 => ?_
    rw [h2, h1]
    exact q x
theorem tabL (hp : SP ps) (hb : b ≤ 11) {L : List D} (hL : ∀ d ∈ L, Pl 2 d) (q : ∀ x y, K.nx [e0, some (partsD ps), e2, some (.int c), e4, e5, some (.lst L), x, some (.int (b : Nat)), e9, e10, y, e12, e13, e14] S) :
    Ws ((sFor (mIt (mVar 6)) (gmName 7) (sFor (mIt (mLst (mCons (mVar 3) (mCons (mOp subD (mVar 3) (mC (.int 1))) (mCons (mOp addD (mVar 3) (mC (.int 1))) (mCons (mC .non) (mCons (mC (.bl true)) mNil))))))) (gmName 11) b__law_papers_hold_10_0_0)) [e0, some (partsD ps), e2, some (.int c), e4, e5, some (.lst L), e7, some (.int (b : Nat)), e9, e10, e11, e12, e13, e14] S) K := by
  with_reducible refine s_for ?_
  refine Wr.eq (a := itL L) (S := S) rfl ?_
  refine forGo_its itsA_L (I := fun k δ S' => S' = S ∧ ∃ x y, δ = [e0, some (partsD ps), e2, some (.int c), e4, e5, some (.lst L), x, some (.int (b : Nat)), e9, e10, y, e12, e13, e14]) ⟨rfl, _, _, rfl⟩ ?_ ?_
  · rintro k hk δ S' ⟨rfl, x, y, rfl⟩
    refine ⟨_, _, rfl, ?_⟩
    dsimp only [List.set_cons_succ, List.set_cons_zero]
    exact innerL hp hb (hL _ (List.getElem_mem hk)) fun y => ⟨rfl, _, _, rfl⟩
  · intro δ S' h
    have h1 : S' = S := h.1
    have h2 := h.2
    clear h
    cases h2 with | intro x h2 => ?_
    cases h2 with | intro y h2 => ?_
    rw [h2, h1]
    exact q x y
theorem ownP (hp : SP ps) (hb : b ≤ 11) {ds : List D} (hl : ds.length = ps.length) (hd : ∀ d ∈ ds, ∃ i, d = .int i) (q : ∀ x y, K.nx [e0, some (partsD ps), e2, some (.int c), e4, x, e6, some (.tup ds), some (.int (b : Nat)), e9, e10, y, e12, e13, e14] S) :
    Ws ((sFor (mIt (mLst (mCons (mVar 7) (mCons (mSl (mVar 7) (mPart (mC (.int 1))) mNoPart) (mCons (mOp addD (mVar 7) (mTup (mCons (mC (.int 0)) mNil))) (mCons (mOp mulT (mTup (mCons (mC .non) mNil)) (mCB lenD (mCons (mVar 1) mNil))) (mCons (mC .non) (mCons (mC (.str "a")) (mCons (mOp addD (mSl (mVar 7) mNoPart (mPart (mUn negD (mC (.int 1))))) (mTup (mCons (mCB lenD (mCons (mOp ixD (mVar 1) (mUn negD (mC (.int 1)))) mNil)) mNil))) (mCons (mOp addD (mTup (mCons (mUn negD (mC (.int 1))) mNil)) (mSl (mVar 7) (mPart (mC (.int 1))) mNoPart)) (mCons (mOp mulT (mTup (mCons (mC (.bl true)) mNil)) (mCB lenD (mCons (mVar 1) mNil))) mNil))))))))))) (gmName 5) (sFor (mIt (mLst (mCons (mVar 3) (mCons (mOp addD (mVar 3) (mC (.int 3))) (mCons (mOp subD (mVar 3) (mC (.int 1))) (mCons (mC (.int 0)) (mCons (mC .non) (mCons (mC (.str "1")) mNil)))))))) (gmName 11) b__law_papers_hold_4_1_0_0)) [e0, some (partsD ps), e2, some (.int c), e4, e5, e6, some (.tup ds), some (.int (b : Nat)), e9, e10, e11, e12, e13, e14] S) K := by
  have hz := hp.le
  have h1 := hp.gp.l1
  have hP : PL 10 1 (.tup ds) := ⟨by omega, fun d hm => by obtain ⟨i, rfl⟩ := hd d hm; trivial⟩
  have hlen : (ps.map partD).length = ps.length := List.length_map _
  obtain ⟨m, hm⟩ : ∃ m, ps.length = m + 1 := ⟨ps.length - 1, by omega⟩
  have c1 := cut_len (ds := ds) (lo := none) (hi := some (-1))
  have c2 := cut_len (ds := ds) (lo := some 1) (hi := none)
  have lp : ∀ {S : Store}, ixD S (partsD ps) (.int (-1)) = some (partD (ps.getD m [])) := fun {S} => by
    rw [ix_end (n := m) (by rw [hlen, hm]), List.getElem?_map, List.getD_eq_getElem?_getD, List.getElem?_eq_getElem (by omega)]
    rfl
  with_reducible refine s_for ?_
  walk_at "wv"
  refine Wr.out (a := .tup (cutD ds (some 1) none)) rfl ?_
  walk_at "wv"
  refine ⟨rfl, ?_⟩
  refine Wr.out (addt (by simp only [List.length_cons, List.length_nil]; omega)) ?_
  walk_at "wv"
  refine ⟨rfl, ?_⟩
  walk_at "wv"
  with_reducible refine Wr.out (mulT_n (by omega) (by omega)) ?_
  walk_at "wv"
  refine Wr.out (a := .tup (cutD ds none (some (-1)))) rfl ?_
  walk_at "wv"
  refine Wr.out lp ?_
  walk_at "wv"
  refine ⟨rfl, ?_⟩
  refine Wr.out (addt (by simp only [List.length_cons, List.length_nil]; omega)) ?_
  walk_at "wv"
  refine ⟨rfl, ?_⟩
  walk_at "wv"
  refine Wr.out (a := .tup (cutD ds (some 1) none)) rfl ?_
  refine Wr.out (addt (by simp only [List.length_cons, List.length_nil]; omega)) ?_
  walk_at "wv"
  refine ⟨rfl, ?_⟩
  walk_at "wv"
  with_reducible refine Wr.out (mulT_n (by omega) (by omega)) ?_
  walk_at "wv"
  refine ⟨rfl, ?_⟩
  have hint : ∀ i : Int, PL 10 1 (.tup [.int i]) := fun i => PL.one (by omega) trivial
  have hL : ∀ d ∈ [D.tup ds, .tup (cutD ds (some 1) none), .tup (ds ++ [.int 0]), .tup (List.replicate (ps.map partD).length .non), .non, .str "a", .tup (cutD ds none (some (-1)) ++ [.int ((ps.getD m []).map oD).length]), .tup ([.int (-1)] ++ cutD ds (some 1) none), .tup (List.replicate (ps.map partD).length (.bl true))], Pl 1 d := by
    intro d hm
    simp only [List.mem_cons, List.not_mem_nil, or_false] at hm
    rcases hm with rfl | rfl | rfl | rfl | rfl | rfl | rfl | rfl | rfl
    · exact hP.pl (by omega)
    · exact hP.cut.pl (by omega)
    · exact (hP.app (hint 0)).pl (by omega)
    · exact (PL.rep (l := 10) (n := 0) (d := .non) (by omega) trivial).pl (by omega)
    · trivial
    · trivial
    · exact (hP.cut.app (hint _)).pl (by omega)
    · exact ((hint _).app hP.cut).pl (by omega)
    · exact (PL.rep (l := 10) (n := 0) (d := .bl true) (by omega) trivial).pl (by omega)
  generalize [D.tup ds, .tup (cutD ds (some 1) none), .tup (ds ++ [.int 0]), .tup (List.replicate (ps.map partD).length .non), .non, .str "a", .tup (cutD ds none (some (-1)) ++ [.int ((ps.getD m []).map oD).length]), .tup ([.int (-1)] ++ cutD ds (some 1) none), .tup (List.replicate (ps.map partD).length (.bl true))] = L at hL ⊢
  refine Wr.out (a := itL L) rfl ?_
  refine forGo_its itsA_L (I := fun k δ S' => S' = S ∧ ∃ x y, δ = [e0, some (partsD ps), e2, some (.int c), e4, x, e6, some (.tup ds), some (.int (b : Nat)), e9, e10, y, e12, e13, e14]) ⟨rfl, _, _, rfl⟩ ?_ ?_
  · rintro k hk δ S' ⟨rfl, x, y, rfl⟩
    refine ⟨_, _, rfl, ?_⟩
    dsimp only [List.set_cons_succ, List.set_cons_zero]
    exact innerP hp hb (hL _ (List.getElem_mem hk)) fun y => ⟨rfl, _, _, rfl⟩
  · intro δ S' h
    have h1 : S' = S := h.1
    have h2 := h.2
    clear h
    cases h2 with | intro x h2 => ?_
    cases h2 with | intro y h2 => ?_
    rw [h2, h1]
    exact q x y
end
end Lw

namespace Lw
open PySem Ev
section
variable {S r : Store} {QD : D → Store → Prop} {E : EK} {K : Ko} {n b i j : Nat} {T : Tab} {ps : List Part} {c : Int} {ch t : D} {e0 e1 e2 e3 e4 e5 e6 e7 e8 e9 e10 e11 e12 e13 e14 : Option D}
theorem pl_non {l n : Nat} : PL l n .non := by cases n <;> trivial
theorem pl_int {l n : Nat} {i : Int} : PL l n (.int i) := by cases n <;> trivial
theorem pl_str {l n : Nat} {x : Str} : PL l n (.str x) := by cases n <;> trivial
theorem pl_bl {l n : Nat} {x : Bool} : PL l n (.bl x) := by cases n <;> trivial
theorem somes (hp : SP ps) (hS : SS S) (q : ∀ ds S, ds.length = ps.length → (∀ d ∈ ds, ∃ i, d = .int i) → SS S → K.nx [some (.loc 0), some (partsD ps), e2, e3, e4, e5, e6, some (.tup ds), e8, e9, e10, e11, e12, e13, e14] S) :
    Ws (b__law_papers_hold_4_0 [some (.loc 0), some (partsD ps), e2, e3, e4, e5, e6, e7, e8, e9, e10, e11, e12, e13, e14] S) K := by
  unfold b__law_papers_hold_4_0
  with_reducible refine s_set ?_
  with_reducible refine w_cb ?_
  with_reducible refine w_cons ?_
  refine w_lcS (P := fun d => ∃ i : Int, d = .int i) (J := SS) ?_
  walk_at "wv"
  refine Wr.out (a := itL (ps.map partD)) rfl ?_
  refine ⟨_, _, _, itsA_map, sl_le (by have := hp.le; omega), hS, ?_, ?_⟩
  · intro k hk S2 hS2
    refine ⟨_, rfl, ?_⟩
    dsimp only [List.set_cons_succ, List.set_cons_zero, wipeE]
    have hl := hp.gp.p1 _ (List.getElem_mem hk)
    generalize ps[k] = p at hl
    have hlen : (p.map oD).length = p.length := List.length_map _
    walk_at "wv"
    refine sdr hS2 (by omega) (by omega) fun v S3 v0 v1 hS3 => ?_
    exact ⟨⟨v, rfl⟩, hS3⟩
  · intro ds S2 hl hd hS2
    walk_at "wv"
    refine Wr.out (a := .tup ds) rfl ?_
    exact q ds S2 hl hd hS2
theorem turns (hp : SP ps) (hb : b ≤ 11) (hS : SS S) (q : ∀ x4 x5 x7 x11 S, SS S → K.nx [some (.loc 0), some (partsD ps), e2, some (.int c), x4, x5, e6, x7, some (.int (b : Nat)), e9, e10, x11, e12, e13, e14] S) :
    Ws ((sFor (mItA rangeD1 (mCons (mC (.int 4)) mNil)) (gmName 4) (sSeq b__law_papers_hold_4_0 (sFor (mIt (mLst (mCons (mVar 7) (mCons (mSl (mVar 7) (mPart (mC (.int 1))) mNoPart) (mCons (mOp addD (mVar 7) (mTup (mCons (mC (.int 0)) mNil))) (mCons (mOp mulT (mTup (mCons (mC .non) mNil)) (mCB lenD (mCons (mVar 1) mNil))) (mCons (mC .non) (mCons (mC (.str "a")) (mCons (mOp addD (mSl (mVar 7) mNoPart (mPart (mUn negD (mC (.int 1))))) (mTup (mCons (mCB lenD (mCons (mOp ixD (mVar 1) (mUn negD (mC (.int 1)))) mNil)) mNil))) (mCons (mOp addD (mTup (mCons (mUn negD (mC (.int 1))) mNil)) (mSl (mVar 7) (mPart (mC (.int 1))) mNoPart)) (mCons (mOp mulT (mTup (mCons (mC (.bl true)) mNil)) (mCB lenD (mCons (mVar 1) mNil))) mNil))))))))))) (gmName 5) (sFor (mIt (mLst (mCons (mVar 3) (mCons (mOp addD (mVar 3) (mC (.int 3))) (mCons (mOp subD (mVar 3) (mC (.int 1))) (mCons (mC (.int 0)) (mCons (mC .non) (mCons (mC (.str "1")) mNil)))))))) (gmName 11) b__law_papers_hold_4_1_0_0)))) [some (.loc 0), some (partsD ps), e2, some (.int c), e4, e5, e6, e7, some (.int (b : Nat)), e9, e10, e11, e12, e13, e14] S) K := by
  with_reducible refine s_for ?_
  walk_at "wv"
  with_reducible refine Wr.out (rangeD1_i (by omega) (by omega)) ?_
  refine forGo_its itsA_R (I := fun k δ S' => SS S' ∧ ∃ x4 x5 x7 x11, δ = [some (.loc 0), some (partsD ps), e2, some (.int c), x4, x5, e6, x7, some (.int (b : Nat)), e9, e10, x11, e12, e13, e14]) ⟨hS, _, _, _, _, rfl⟩ ?_ ?_
  · rintro k hk δ S' ⟨hS', x4, x5, x7, x11, rfl⟩
    refine ⟨_, _, rfl, ?_⟩
    dsimp only [List.set_cons_succ, List.set_cons_zero]
    with_reducible refine s_seq (somes hp hS' fun ds S2 hl hd hS2 => ?_)
    dsimp only
    refine ownP hp hb hl hd fun x y => ⟨hS2, _, _, _, _, rfl⟩
  · intro δ S' h
    have h1 := h.1
    have h2 := h.2
    clear h
    cases h2 with | intro x4 h2 => ?_
    cases h2 with | intro x5 h2 => ?_
    cases h2 with | intro x7 h2 => ?_
    cases h2 with | intro x11 h2 => ?_
    rw [h2]
    exact q x4 x5 x7 x11 S' h1
theorem p5s (hG : GT n b T) (hn : n ≤ 50) (hb : b ≤ 11) (hS : SS S) (q : ∀ i j S, i < n + 1 → j < b + 1 → SS S → K.nx [some (.loc 0), e1, some (tabD T), e3, e4, e5, e6, e7, some (.int (b : Nat)), some (.int (i : Nat)), some (.int (j : Nat)), e11, e12, e13, e14] S) :
    Ws (b__law_papers_hold_5 [some (.loc 0), e1, some (tabD T), e3, e4, e5, e6, e7, some (.int (b : Nat)), e9, e10, e11, e12, e13, e14] S) K := by
  have hlen : (T.map rowD).length = n + 1 := by rw [List.length_map, hG.len]
  unfold b__law_papers_hold_5
  walk_at "wv"
  refine sdr hS (by omega) (by omega) fun v S1 v0 v1 hS1 => ?_
  walk_at "wv"
  refine sdr hS1 (by omega) (by omega) fun w S2 w0 w1 hS2 => ?_
  walk_at "wv"
  obtain ⟨i, rfl⟩ := Int.eq_ofNat_of_zero_le v0
  obtain ⟨j, rfl⟩ := Int.eq_ofNat_of_zero_le w0
  exact q i j S2 (by omega) (by omega) hS2
theorem p6s (hG : GT n b T) (hi : i < n + 1) (hj : j < b + 1) (q : K.nx [e0, e1, some (tabD T), e3, e4, some (vD (getT T i j)), e6, e7, e8, some (.int (i : Nat)), some (.int (j : Nat)), e11, e12, e13, e14] S) :
    Ws (b__law_papers_hold_6 [e0, e1, some (tabD T), e3, e4, e5, e6, e7, e8, some (.int (i : Nat)), some (.int (j : Nat)), e11, e12, e13, e14] S) K := by
  unfold b__law_papers_hold_6
  walk_at "wv"
  refine Wr.out (ixT hG hi) ?_
  walk_at "wv"
  refine Wr.out (ixR hG hi hj) ?_
  exact q
theorem p7s {v : Option Int} (hG : GT n b T) (hn : n ≤ 50) (hb : b ≤ 11) (hi : i < n + 1) (hj : j < b + 1) (q : ∀ L, L.length ≤ 4 → (∀ d ∈ L, PL 300 2 d) → K.nx [e0, e1, some (tabD T), e3, e4, some (vD v), some (.lst L), e7, e8, some (.int (i : Nat)), some (.int (j : Nat)), e11, e12, e13, e14] S) :
    Ws (b__law_papers_hold_7 [e0, e1, some (tabD T), e3, e4, some (vD v), e6, e7, e8, some (.int (i : Nat)), some (.int (j : Nat)), e11, e12, e13, e14] S) K := by
  have hT := pl_tab (l := 300) hG (by omega) (by omega)
  unfold b__law_papers_hold_7
  walk_at "wv"
  with_reducible refine put_ok hG hn (by omega) hi hj (x := .non) pl_non fun d1 hd1 => ?_
  walk_at "wv"
  refine Wr.out is_v ?_
  walk_at "wv"
  cases v with
  | none =>
    refine ya_of rfl ?_
    walk_at "wv"
    with_reducible refine put_ok hG hn (by omega) hi hj (x := .int 0) pl_int fun d2 hd2 => ?_
    walk_at "wv"
    refine Wr.out is_v ?_
    walk_at "wv"
    with_reducible refine put_ok hG hn (by omega) hi hj (x := .int (-1)) pl_int fun d3 hd3 => ?_
    walk_at "wv"
    refine ⟨rfl, ?_⟩
    refine q _ (by simp) fun d hm => ?_
    simp only [List.mem_cons, List.not_mem_nil, or_false] at hm
    rcases hm with rfl | rfl | rfl | rfl <;> assumption
  | some v =>
    refine no_of rfl ?_
    walk_at "wv"
    with_reducible refine put_ok hG hn (by omega) hi hj (x := .int (v + 1)) pl_int fun d2 hd2 => ?_
    walk_at "wv"
    refine Wr.out is_v ?_
    walk_at "wv"
    with_reducible refine put_ok hG hn (by omega) hi hj (x := .int (v - 1)) pl_int fun d3 hd3 => ?_
    walk_at "wv"
    refine ⟨rfl, ?_⟩
    refine q _ (by simp) fun d hm => ?_
    simp only [List.mem_cons, List.not_mem_nil, or_false] at hm
    rcases hm with rfl | rfl | rfl | rfl <;> assumption
theorem addl {S : Store} {xs ys : List D} (h : xs.length + ys.length ≤ 10000) : addD S (.lst xs) (.lst ys) = some (.lst (xs ++ ys)) := if_pos (sl_le h)
theorem p8s {L : List D} (hL : L.length ≤ 4) (hL2 : ∀ d ∈ L, PL 300 2 d) (hG : GT n b T) (hn : n ≤ 50) (hb : b ≤ 11) (hi : i < n + 1) (hj : j < b + 1) (q : ∀ L, L.length ≤ 11 → (∀ d ∈ L, PL 600 2 d) → K.nx [e0, e1, some (tabD T), e3, e4, e5, some (.lst L), e7, e8, some (.int (i : Nat)), some (.int (j : Nat)), e11, e12, e13, e14] S) :
    Ws (b__law_papers_hold_8 [e0, e1, some (tabD T), e3, e4, e5, some (.lst L), e7, e8, some (.int (i : Nat)), some (.int (j : Nat)), e11, e12, e13, e14] S) K := by
  have hT := pl_tab (l := 100) hG (by omega) (by omega)
  have l1 := hT.1
  have hR : PL 100 1 (rowD (T.getD n [])) := hT.2 _ (List.mem_map_of_mem (hG.at (by omega)).2)
  unfold b__law_papers_hold_8
  walk_at "wv"
  with_reducible refine put_ok hG hn (by omega) hi hj (x := .str "a") pl_str fun d1 hd1 => ?_
  walk_at "wv"
  with_reducible refine put_ok hG hn (by omega) hi hj (x := .bl true) pl_bl fun d2 hd2 => ?_
  walk_at "wv"
  refine Wr.out (a := .tup (cutD (T.map rowD) (some 1) none)) rfl ?_
  walk_at "wv"
  refine Wr.out (a := .tup (cutD (T.map rowD) (some (-1)) none)) rfl ?_
  have c1 := cut_len (ds := T.map rowD) (lo := some (-1)) (hi := none)
  have c2 := cut_len (ds := T.map rowD) (lo := none) (hi := some (-1))
  refine Wr.out (addt (by omega)) ?_
  walk_at "wv"
  refine Wr.out (a := .tup (cutD (T.map rowD) none (some (-1)))) rfl ?_
  walk_at "wv"
  refine Wr.out (last_row hG) ?_
  walk_at "wv"
  refine Wr.out (a := .tup (cutD ((T.getD n []).map vD) (some 1) none)) rfl ?_
  walk_at "wv"
  refine ⟨rfl, ?_⟩
  refine Wr.out (addt (by simp only [List.length_cons, List.length_nil]; omega)) ?_
  walk_at "wv"
  refine ⟨rfl, ?_⟩
  refine Wr.out (addl (by simp only [List.length_cons, List.length_nil]; omega)) ?_
  refine q _ (by simp only [List.length_append, List.length_cons, List.length_nil]; omega) fun d hm => ?_
  rcases List.mem_append.mp hm with hm | hm
  · exact (hL2 d hm).mono (by omega)
  · simp only [List.mem_cons, List.not_mem_nil, or_false] at hm
    rcases hm with rfl | rfl | rfl | rfl | rfl | rfl | rfl
    · exact hd1.mono (by omega)
    · exact hd2.mono (by omega)
    · exact hT.cut.mono (by omega)
    · exact (hT.app hT.cut).mono (by omega)
    · trivial
    · trivial
    · exact (hT.cut.app (PL.one (l := 100) (by omega) hR.cut)).mono (by omega)
theorem cuts_comp (hG : GT n b T) (hn : n ≤ 50) {δ : Ev.Env} (hδ : δ[2]? = some (some (tabD T))) (hw : ∀ d, ∃ δ1, gmName 14 d (wipeE δ [14]) S = .ok δ1 S ∧ δ1[14]? = some (some d)) :
    mLc (mIt (mVar 2)) (gmName 14) mYes (mSl (mVar 14) mNoPart (mPart (mUn negD (mC (.int 1))))) [14] δ S = .ok (.lst (T.map fun r => .tup (cutD (r.map vD) none (some (-1))))) S := by
  refine Wr.eqn ?_
  with_reducible refine w_lcm ?_
  refine w_it (w_var hδ (Wr.out (a := itL (T.map rowD)) rfl ?_))
  refine ⟨_, T, _, fun r => .tup (cutD (r.map vD) none (some (-1))), its_map, sl_le (by rw [hG.len]; omega), ?_, rfl, rfl⟩
  intro r hr
  obtain ⟨δ1, h1, h2⟩ := hw (rowD r)
  refine ⟨δ1, h1, Wr.eqn ?_⟩
  refine w_sl (w_var h2 (w_noPart ?_))
  walk_at "wv"
  exact Wr.out (a := .tup (cutD (r.map vD) none (some (-1)))) rfl ⟨rfl, rfl⟩
theorem p9s {L : List D} (hL : L.length ≤ 11) (hL2 : ∀ d ∈ L, PL 600 2 d) (hG : GT n b T) (hn : n ≤ 50) (hb : b ≤ 11) (q : ∀ L, (∀ d ∈ L, Pl 2 d) → K.nx [e0, e1, some (tabD T), e3, e4, e5, some (.lst L), e7, some (.int (b : Nat)), e9, e10, e11, e12, e13, e14] S) :
    Ws (b__law_papers_hold_9 [e0, e1, some (tabD T), e3, e4, e5, some (.lst L), e7, some (.int (b : Nat)), e9, e10, e11, e12, e13, e14] S) K := by
  have hT := pl_tab (l := 100) hG (by omega) (by omega)
  have l1 := hT.1
  have hlen : (T.map rowD).length = n + 1 := by rw [List.length_map, hG.len]
  have c2 := cut_len (ds := T.map rowD) (lo := none) (hi := some (-1))
  have eb : (b : Int) + 1 = ((b + 1 : Nat) : Int) := by omega
  unfold b__law_papers_hold_9
  walk_at "wv"
  with_reducible refine Wr.eq (cuts_comp hG hn rfl fun d => ⟨_, rfl, rfl⟩) ?_
  walk_at "wv"
  refine Wr.out (a := .tup (T.map fun r => .tup (cutD (r.map vD) none (some (-1))))) rfl ?_
  walk_at "wv"
  refine ⟨rfl, ?_⟩
  walk_at "wv"
  with_reducible refine Wr.out (mulT_n (by omega) (by omega)) ?_
  walk_at "wv"
  refine Wr.out (a := .tup (cutD (T.map rowD) none (some (-1)))) rfl ?_
  walk_at "wv"
  refine ⟨rfl, ?_⟩
  walk_at "wv"
  rw [eb]
  with_reducible refine Wr.out (mulT_n (by omega) (by omega)) ?_
  walk_at "wv"
  refine ⟨rfl, ?_⟩
  refine Wr.out (addt (by simp only [List.length_cons, List.length_nil]; omega)) ?_
  walk_at "wv"
  refine Wr.out (a := .tup (cutD (T.map rowD) none (some (-1)))) rfl ?_
  walk_at "wv"
  refine ⟨rfl, ?_⟩
  walk_at "wv"
  rw [eb]
  with_reducible refine Wr.out (mulT_n (by omega) (by omega)) ?_
  walk_at "wv"
  refine ⟨rfl, ?_⟩
  refine Wr.out (addt (by simp only [List.length_cons, List.length_nil]; omega)) ?_
  walk_at "wv"
  refine ⟨rfl, ?_⟩
  refine Wr.out (addl (by simp only [List.length_cons, List.length_nil]; omega)) ?_
  refine q _ fun d hm => ?_
  have hrep : ∀ x : D, PL 100 0 x → PL 100 1 (.tup (List.replicate (b + 1) x)) := fun x hx => PL.rep (by omega) hx
  rcases List.mem_append.mp hm with hm | hm
  · exact (hL2 d hm).pl (by omega)
  · simp only [List.mem_cons, List.not_mem_nil, or_false] at hm
    rcases hm with rfl | rfl | rfl | rfl
    · have : PL 100 2 (.tup (T.map fun r => .tup (cutD (r.map vD) none (some (-1))))) := by
        refine ⟨by rw [List.length_map, hG.len]; omega, fun d hd => ?_⟩
        obtain ⟨r, hr, rfl⟩ := List.mem_map.mp hd
        exact (show PL 100 1 (rowD r) from hT.2 _ (List.mem_map_of_mem hr)).cut
      exact this.pl (by omega)
    · exact (PL.rep (l := 100) (n := 1) (d := .non) (by omega) trivial).pl (by omega)
    · exact (hT.cut.app (PL.one (l := 100) (by omega) (hrep _ pl_int))).pl (by omega)
    · exact (hT.cut.app (PL.one (l := 100) (by omega) (hrep _ pl_int))).pl (by omega)
theorem papers_ok (hS : SS S) (q : ∀ S, SS S → QD (.bl true) S) : Wr (F__law_papers_hold [.loc 0] S) QD E := by
  with_reducible refine wd__law_papers_hold ?_
  rw [m__law_papers_hold_eq]
  with_reducible refine s_seq (p0 hS fun ps S hp hS => ?_)
  dsimp only
  with_reducible refine s_seq (p1s hS fun b S hb hS => ?_)
  dsimp only
  with_reducible refine s_seq (p2s hp hb hS fun T S hG hS => ?_)
  dsimp only
  with_reducible refine s_seq (p3s hb hG hS fun c S hS => ?_)
  dsimp only
  have hn : ps.length ≤ 50 := by have := hp.le; omega
  with_reducible refine s_seq (turns hp hb hS fun x4 x5 x7 x11 S hS => ?_)
  dsimp only
  with_reducible refine s_seq (p5s hG hn hb hS fun i j S hi hj hS => ?_)
  dsimp only
  with_reducible refine s_seq (p6s hG hi hj ?_)
  dsimp only
  with_reducible refine s_seq (p7s hG hn hb hi hj fun L hL hL2 => ?_)
  dsimp only
  with_reducible refine s_seq (p8s hL hL2 hG hn hb hi hj fun L hL hL2 => ?_)
  dsimp only
  with_reducible refine s_seq (p9s hL hL2 hG hn hb fun L hL => ?_)
  dsimp only
  with_reducible refine s_seq (tabL hp hb hL fun x y => ?_)
  dsimp only
  unfold b__law_papers_hold_11
  walk_at "wv"
  exact q S hS
theorem law_ok (ns : List Int) : Wr (F_law [.rol (ns.map D.int)] []) (fun d _ => d = .bl true) fun _ _ _ => False := by
  with_reducible refine wd_law ?_
  unfold m_law
  walk_at "wv"
  refine start_ok ns fun S hS => ?_
  walk_at "wv"
  refine papers_ok ⟨_, hS⟩ fun S hS => ?_
  walk_at "wv"
  obtain ⟨r, hr⟩ := hS
  exact args_ok hr fun S' => rfl
theorem law_true (ns : List Int) (h : ns.length ≤ 63) : ∃ S', F_law [.rol (ns.map D.int)] [] = .ok (.bl true) S' := by
  obtain ⟨d, S', e, rfl⟩ := (law_ok ns).ok
  exact ⟨S', e⟩
end
end Lw

open PySem PySem.W PySem.Calls PyProof.Rows
theorem law_end (hF : ∀ ns : List Int, ns.length ≤ 63 → ∃ S', Lw.F_law [.rol (ns.map Ev.D.int)] [] = .ok (.bl true) S') : PySem.Challenge.rw_sameunits_k43_papers_and_arguments_of_bu.Holds := by
  w_on; o_law
  refine HandSHeadRun.head_any (r := OpenLaw.row PySem.Challenge.rw_sameunits_k43_papers_and_arguments_of_bu) (q := view (OpenLaw.row PySem.Challenge.rw_sameunits_k43_papers_and_arguments_of_bu).prog [52]) (H := Lw.hk) (ob := Lw.ob) (M := 3000) (loose := Lw.names) (d := HandSHeadRun.topDef (OpenLaw.row PySem.Challenge.rw_sameunits_k43_papers_and_arguments_of_bu).prog 52) (kwd := []) Lw.ob_eq
    (by kernel_rfl) (fun s => by kernel_rfl) Lw.run (by kernel_rfl) (by kernel_rfl) (by kernel_rfl) (by rfl) (by first | assumption | decide +kernel) (by decide +kernel) ⟨rfl, rfl, rfl, rfl, rfl, by decide +kernel⟩ ?hw ?hc
  case hw => w_witness2
  case hc =>
    exact Ev.walk_ev (l := PySem.Challenge.rw_sameunits_k43_papers_and_arguments_of_bu) (n := 63) (k := 9) (i := 59) (F := Lw.F_law) rfl (by decide) (by kernel_rfl) ⟨rfl, by decide, by decide⟩ (by kernel_rfl) Lw.plains rfl (by kernel_rfl) (fun w K mg base G => Lw.ok_law G) (fun K mg G s u => (G.def_ 39 _ rfl).bindsA (ps := ["script"]) (fun _ _ _ _ _ _ us hl => match us, hl with | [_], _ => rfl) s [u] rfl) hF

end Ev
open PySem PySem.W PyProof.Rows
theorem PySem.Challenge.cw_sameunits_k43_papers_and_arguments_of_bu_holds : PySem.Challenge.rw_sameunits_k43_papers_and_arguments_of_bu.Holds := by
  exact Ev.law_end fun ns h => Ev.Lw.law_true ns h
