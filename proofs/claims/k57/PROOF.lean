import PyProof.Rows.All
import Wide.All
import OpenK.AllK
import Wide.FinOn
import HandS.ForMost
import HandS.Exc
import HandS.Defaults
import HandS.Wide
import HandS.TupAny
import HandS.TupMul
import HandS.TupLe
import HandS.Deep
import HandS.Flow
import HandS.Walk
import HandS.Style
import HandS.Rev
import HandS.Text
import HandS.Words
import HandS.WordsList
import HandS.WordsDict
import HandS.Conv
import HandS.Dict
import HandS.Comp
import HandS.AnyAll
import HandS.Zip
import HandS.ExcOwn
import HandS.CallSlots
import KE.KExcSuper
import KE.KSuper
import HandS.ExcInit
import HandS.RaiseMore
import HandS.TryMany
import HandS.ExcField
import HandS.ExcIs
import HandS.IsInst
import KE.KExcIs
import HandS.SetFor
import HandS.Steps
import HandS.Replace
import HandS.More
import PyProof.Draws
import PyProof.EnumMake
import PyProof.EnumFor
import HandS.Zip0
import HandS.Iter
import PyProof.SliceStr2
import HandS.NoneIn
import KE.KStateDown
import HandS.Head0
import HandS.Head1
import HandS.Head2
import HandS.HeadEnd
import HandS.HeadHook1
import HandS.HeadHook2
import PySem.Challenge.RW_sameunits_k57_papers_and_arguments_of_si
set_option Elab.async false
set_option linter.all false
set_option maxRecDepth 100000
set_option maxHeartbeats 0
set_option autoImplicit false
namespace Ev
open PySem PySem.Spec PyProof.Rows L2

/-- data values: lists that never change again are values; a list that changes is a place (loc) in the store -/
inductive D where
  | non | bl (b : Bool) | int (i : Int) | str (x : Str) | tup (ds : List D) | lst (ds : List D) | rol (ds : List D) | loc (l : Nat) | fn (f : Nat) | err (c : Nat) (d : D)

inductive Cell where
  | lst (ds : List D)
  | dic (kvs : List (Key × D))

abbrev Store := List Cell

/-- what does not change while a law runs -/
structure Cst where
  K : PySem.W.Frag
  fa : Nat → Addr
  ca : Nat → Addr
  fld : Nat → Str

/-- the store's places, the hidden addresses, the handled error -/
structure Pl where
  ρ : List Addr
  hid : List Addr
  π : Option (Addr × Obj)

/-- the handled error's object -/
def ErrRep (C : Cst) (π : Option (Addr × Obj)) (H : Hp) (c : Nat) (P : V → Prop) (v : V) : Prop :=
  ∃ p dx u vs, π = some p ∧ v = .ref p.1 ∧ Zc (.ref (C.ca c)) (some dx) p.2 ∧ p.2.data = .fields vs ∧ H dx = some (.xd [(C.fld c, u)]) ∧ P u

/-- a list that nobody of ours writes: the script, a list of the module -/
def WrL (K : PySem.W.Frag) (a : Addr) (xs : List V) : Prop :=
  ∃ (o : Obj) (its : Array Value) (n : Nat), K.lookup a = some o ∧ o.cls = .type "list" ∧ o.dict = none ∧ o.data = .seq its n ∧ its.size ≤ sizeLine ∧ Vals xs its.toList
def RolAt (K : PySem.W.Frag) (p : Pl) (H : Hp) (a : Addr) (vs : List V) : Prop :=
  (H a = some (.lst vs) ∧ a ∉ p.ρ ∧ a ∉ p.hid) ∨ (∃ o, H a = some (.frz o (.lst vs))) ∨ WrL K a vs
theorem RolAt.sq {K : PySem.W.Frag} {p : Pl} {H : Hp} {a : Addr} {vs : List V} (h : RolAt K p H a vs) : SqL K H a vs := by
  rcases h with h | h | h
  · exact .inl (.inl h.1)
  · exact .inl (.inr h)
  · exact .inr h

mutual
def Rep (C : Cst) (p : Pl) (H : Hp) : D → V → Prop
  | .non, v => v = .non
  | .bl b, v => v = .bl b
  | .int i, v => v = .int i
  | .str x, v => v = .str x
  | .tup ds, v => ∃ a vs, v = .ref a ∧ SqT C.K H a vs ∧ RepL C p H ds vs
  | .lst ds, v => ∃ a vs, v = .ref a ∧ a ∉ p.ρ ∧ a ∉ p.hid ∧ H a = some (.lst vs) ∧ RepL C p H ds vs
  | .rol ds, v => ∃ a vs, v = .ref a ∧ RolAt C.K p H a vs ∧ RepL C p H ds vs
  | .loc l, v => ∃ a, v = .ref a ∧ p.ρ[l]? = some a
  | .fn f, v => v = .ref (C.fa f)
  | .err c d, v => ErrRep C p.π H c (Rep C p H d) v
def RepL (C : Cst) (p : Pl) (H : Hp) : List D → List V → Prop
  | [], vs => vs = []
  | d :: ds, vs => ∃ v r, vs = v :: r ∧ Rep C p H d v ∧ RepL C p H ds r
end

def RepKV (C : Cst) (p : Pl) (H : Hp) : List (Key × D) → List (Key × V) → Prop
  | [], vs => vs = []
  | (k, d) :: ds, vs => ∃ v r, vs = (k, v) :: r ∧ Rep C p H d v ∧ RepKV C p H ds r

def CellRep (C : Cst) (p : Pl) (H : Hp) (a : Addr) : Cell → Prop
  | .lst ds => ∃ vs, H a = some (.lst vs) ∧ RepL C p H ds vs
  | .dic kvs => ∃ vs, H a = some (.dK vs) ∧ RepKV C p H kvs vs

/-- the heap bears the store -/
structure Ok (C : Cst) (p : Pl) (S : Store) (H : Hp) : Prop where
  len : p.ρ.length = S.length
  nd : p.ρ.Nodup
  cell : ∀ (l : Nat) c, S[l]? = some c → ∃ a, p.ρ[l]? = some a ∧ CellRep C p H a c
  hid : ∀ a ∈ p.hid, a ∉ p.ρ ∧ ∃ o, H a = some o

/-- from one moment to a later one -/
structure Step (p : Pl) (H : Hp) (p' : Pl) (H' : Hp) : Prop where
  pre : ∃ more, p'.ρ = p.ρ ++ more
  hid : p'.hid = p.hid
  err : p'.π = p.π
  frz : ∀ a o, H a = some o → a ∉ p.ρ → H' a = some o
  new : ∀ a ∈ p'.ρ, a ∉ p.ρ → H a = none

theorem Step.refl (p : Pl) (H : Hp) : Step p H p H := ⟨⟨[], by simp⟩, rfl, rfl, fun _ _ h _ => h, fun _ h h' => absurd h h'⟩
theorem Step.trans {p p' p'' : Pl} {H H' H'' : Hp} (a : Step p H p' H') (b : Step p' H' p'' H'') : Step p H p'' H'' := by
  obtain ⟨m1, e1⟩ := a.pre
  obtain ⟨m2, e2⟩ := b.pre
  have mem : ∀ x, x ∈ p.ρ → x ∈ p'.ρ := fun x h => by rw [e1]; exact List.mem_append_left _ h
  have old : ∀ x o, H x = some o → x ∉ p.ρ → x ∉ p'.ρ := fun x o h h' h2 => by
    have := a.new x h2 h'
    rw [h] at this; cases this
  refine ⟨⟨m1 ++ m2, by rw [e2, e1, List.append_assoc]⟩, b.hid.trans a.hid, b.err.trans a.err, fun x o h h' => b.frz x o (a.frz x o h h') (old x o h h'), fun x h h' => ?_⟩
  by_cases h2 : x ∈ p'.ρ
  · exact a.new x h2 h'
  · have h3 := b.new x h h2
    cases e : H x with
    | none => rfl
    | some o =>
      have := a.frz x o e h'
      rw [h3] at this; cases this

theorem Step.get {p p' : Pl} {H H' : Hp} (s : Step p H p' H') {l : Nat} {a : Addr} (h : p.ρ[l]? = some a) : p'.ρ[l]? = some a := by
  obtain ⟨m, e⟩ := s.pre
  have hl := (List.getElem?_eq_some_iff.mp h).1
  rw [e, List.getElem?_append_left hl]
  exact h

/-- what is kept of the heap, so that values stay what they are -/
structure Keep (K : PySem.W.Frag) (p : Pl) (H : Hp) (p' : Pl) (H' : Hp) : Prop where
  get : ∀ (l : Nat) a, p.ρ[l]? = some a → p'.ρ[l]? = some a
  hid : ∀ a o, H a = some o → a ∉ p.ρ → a ∉ p.hid → a ∉ p'.hid
  err : p'.π = p.π
  tup : ∀ a xs, H a = some (.tup xs) → H' a = some (.tup xs)
  ftup : ∀ a o xs, H a = some (.frz o (.tup xs)) → H' a = some (.frz o (.tup xs))
  xd : ∀ a xs, H a = some (.xd xs) → H' a = some (.xd xs)
  lst : ∀ a vs, H a = some (.lst vs) → a ∉ p.ρ → a ∉ p.hid → H' a = some (.lst vs) ∧ a ∉ p'.ρ
  rol : ∀ a vs, RolAt K p H a vs → RolAt K p' H' a vs

theorem sqT_keep {K : PySem.W.Frag} {p p' : Pl} {H H' : Hp} (k : Keep K p H p' H') {a : Addr} {vs : List V} (h : SqT K H a vs) : SqT K H' a vs := by
  rcases h with h | h
  · rcases h with h | ⟨o, h⟩
    · exact .inl (.inl (k.tup a vs h))
    · exact .inl (.inr ⟨o, k.ftup a o vs h⟩)
  · exact .inr h

mutual
theorem Rep.keep {C : Cst} {p p' : Pl} {H H' : Hp} (k : Keep C.K p H p' H') : ∀ (d : D) (v : V), Rep C p H d v → Rep C p' H' d v
  | .non, v, h => by simpa only [Rep] using h
  | .bl b, v, h => by simpa only [Rep] using h
  | .int b, v, h => by simpa only [Rep] using h
  | .str b, v, h => by simpa only [Rep] using h
  | .fn b, v, h => by simpa only [Rep] using h
  | .loc l, v, h => by
    simp only [Rep] at h ⊢
    obtain ⟨a, e, h⟩ := h
    exact ⟨a, e, k.get l a h⟩
  | .tup ds, v, h => by
    simp only [Rep] at h ⊢
    obtain ⟨a, vs, e, h, h2⟩ := h
    exact ⟨a, vs, e, sqT_keep k h, RepL.keep k ds vs h2⟩
  | .lst ds, v, h => by
    simp only [Rep] at h ⊢
    obtain ⟨a, vs, e, n1, n2, h, h2⟩ := h
    obtain ⟨q1, q2⟩ := k.lst a vs h n1 n2
    exact ⟨a, vs, e, q2, k.hid a _ h n1 n2, q1, RepL.keep k ds vs h2⟩
  | .rol ds, v, h => by
    simp only [Rep] at h ⊢
    obtain ⟨a, vs, e, h, h2⟩ := h
    exact ⟨a, vs, e, k.rol a vs h, RepL.keep k ds vs h2⟩
  | .err c d, v, h => by
    simp only [Rep] at h ⊢
    obtain ⟨q, dx, u, vs, e1, e2, e3, e4, e5, e6⟩ := h
    exact ⟨q, dx, u, vs, k.err.trans e1, e2, e3, e4, k.xd _ _ e5, Rep.keep k d u e6⟩
theorem RepL.keep {C : Cst} {p p' : Pl} {H H' : Hp} (k : Keep C.K p H p' H') : ∀ (ds : List D) (vs : List V), RepL C p H ds vs → RepL C p' H' ds vs
  | [], vs, h => by simpa only [RepL] using h
  | d :: ds, vs, h => by
    simp only [RepL] at h ⊢
    obtain ⟨v, r, e, h1, h2⟩ := h
    exact ⟨v, r, e, Rep.keep k d v h1, RepL.keep k ds r h2⟩
end
theorem RepKV.keep {C : Cst} {p p' : Pl} {H H' : Hp} (k : Keep C.K p H p' H') : ∀ (ds : List (Key × D)) (vs : List (Key × V)), RepKV C p H ds vs → RepKV C p' H' ds vs
  | [], vs, h => by simpa only [RepKV] using h
  | (x, d) :: ds, vs, h => by
    simp only [RepKV] at h ⊢
    obtain ⟨v, r, e, h1, h2⟩ := h
    exact ⟨v, r, e, Rep.keep k d v h1, RepKV.keep k ds r h2⟩

theorem Ok.locNot {C : Cst} {p : Pl} {S : Store} {H : Hp} (o : Ok C p S H) {a : Addr} (h : a ∈ p.ρ) : (∃ vs, H a = some (.lst vs)) ∨ ∃ kvs, H a = some (.dK kvs) := by
  obtain ⟨l, hl⟩ := List.mem_iff_getElem?.mp h
  have hlt := (List.getElem?_eq_some_iff.mp hl).1
  rw [o.len] at hlt
  obtain ⟨c, hc⟩ : ∃ c, S[l]? = some c := ⟨S[l], by simp [hlt]⟩
  obtain ⟨b, hb, r⟩ := o.cell l c hc
  rw [hl] at hb; cases hb
  cases c with
  | lst ds => obtain ⟨vs, e, _⟩ := r; exact .inl ⟨vs, e⟩
  | dic kvs => obtain ⟨vs, e, _⟩ := r; exact .inr ⟨vs, e⟩

/-- a step keeps values -/
theorem Step.keep {C : Cst} {p p' : Pl} {S : Store} {H H' : Hp} (o : Ok C p S H) (s : Step p H p' H') : Keep C.K p H p' H' where
  get := fun l a h => s.get h
  hid := fun a o' h n1 n2 => by rw [s.hid]; exact n2
  err := s.err
  tup := fun a xs h => s.frz a _ h fun m => by
    rcases o.locNot m with ⟨vs, e⟩ | ⟨vs, e⟩ <;> (rw [h] at e; cases e)
  ftup := fun a ob xs h => s.frz a _ h fun m => by
    rcases o.locNot m with ⟨vs, e⟩ | ⟨vs, e⟩ <;> (rw [h] at e; cases e)
  xd := fun a xs h => s.frz a _ h fun m => by
    rcases o.locNot m with ⟨vs, e⟩ | ⟨vs, e⟩ <;> (rw [h] at e; cases e)
  lst := fun a vs h n1 n2 => by
    refine ⟨s.frz a _ h n1, fun m => ?_⟩
    have z := s.new a m n1
    rw [h] at z; cases z
  rol := fun a vs h => by
    rcases h with ⟨h, n1, n2⟩ | ⟨ob, h⟩ | h
    · refine .inl ⟨s.frz a _ h n1, fun m => ?_, by rw [s.hid]; exact n2⟩
      have z := s.new a m n1
      rw [h] at z; cases z
    · exact .inr (.inl ⟨ob, s.frz a _ h fun m => by
        rcases o.locNot m with ⟨vs, e⟩ | ⟨vs, e⟩ <;> (rw [h] at e; cases e)⟩)
    · exact .inr (.inr h)

/-! ### results -/
inductive Res (α : Type) where
  | ok (a : α) (S : Store)
  | exc (c : Nat) (d : D) (S : Store)
  | stuck
abbrev Env := List (Option D)
abbrev M (α : Type) := Store → Res α

def Res.bind {α β : Type} (r : Res α) (f : α → M β) : Res β := match r with
  | .ok a S => f a S
  | .exc c d S => .exc c d S
  | .stuck => .stuck

/-- the slots bear the values -/
def REnv (C : Cst) (p : Pl) (H : Hp) (δ : Env) (σ : L2.St) : Prop := δ.length = σ.length ∧ ∀ (i : Nat) d, δ[i]? = some (some d) → ∃ v, σ[i]? = some (some v) ∧ Rep C p H d v

theorem REnv.keep {C : Cst} {p p' : Pl} {H H' : Hp} {δ : Env} {σ : L2.St} (k : Keep C.K p H p' H') (r : REnv C p H δ σ) : REnv C p' H' δ σ :=
  ⟨r.1, fun i d h => let ⟨v, e, q⟩ := r.2 i d h; ⟨v, e, Rep.keep k d v q⟩⟩

/-- an error's dict -/
def XRep (C : Cst) (p : Pl) (H : Hp) (c : Nat) (d : D) (dx : Addr) : Prop := ∃ u, H dx = some (.xd [(C.fld c, u)]) ∧ Rep C p H d u

/-- what is wanted behind an expression -/
def Post {α β : Type} (C : Cst) (W : WX) (p : Pl) (H : Hp) (σ : L2.St) (R : Pl → Hp → α → β → Prop) (Q : β → Hp → Prop) : Res α → Prop
  | .ok a S' => ∀ p' H' b, Step p H p' H' → Ok C p' S' H' → R p' H' a b → Q b H'
  | .exc c d S' => ∀ p' H' dx, Step p H p' H' → Ok C p' S' H' → XRep C p' H' c d dx → W (.ref (C.ca c)) (some dx) σ H'
  | .stuck => False

theorem Post.mono {α β : Type} {C : Cst} {W : WX} {p : Pl} {H : Hp} {σ : L2.St} {R : Pl → Hp → α → β → Prop} {Q Q' : β → Hp → Prop} {r : Res α} (h : Post C W p H σ R Q r) (hq : ∀ b H', Q b H' → Q' b H') : Post C W p H σ R Q' r := by
  cases r with
  | ok a S => exact fun p' H' b s o q => hq b H' (h p' H' b s o q)
  | exc c d S => exact h
  | stuck => exact h
theorem Post.step {α β : Type} {C : Cst} {W : WX} {p p' : Pl} {H H' : Hp} {σ : L2.St} {R : Pl → Hp → α → β → Prop} {Q : β → Hp → Prop} {r : Res α} (s : Step p H p' H') (h : Post C W p H σ R Q r) : Post C W p' H' σ R Q r := by
  cases r with
  | ok a S => exact fun p2 H2 b s2 o q => h p2 H2 b (s.trans s2) o q
  | exc c d S => exact fun p2 H2 dx s2 o q => h p2 H2 dx (s.trans s2) o q
  | stuck => exact h

/-- an expression's reading by the evaluator -/
def TEe (C : Cst) (π : Option (Addr × Obj)) (W : WX) (m : Env → M D) : TE := fun σ H Q =>
  ∃ p S δ, p.π = π ∧ Ok C p S H ∧ REnv C p H δ σ ∧ Post C W p H σ (Rep C) Q (m δ S)
def TTe (C : Cst) (π : Option (Addr × Obj)) (W : WX) (m : Env → M Bool) : TT := fun σ H Q =>
  ∃ p S δ, p.π = π ∧ Ok C p S H ∧ REnv C p H δ σ ∧ Post C W p H σ (fun _ _ a b => a = b) Q (m δ S)
def TAe (C : Cst) (π : Option (Addr × Obj)) (W : WX) (m : Env → M (List D)) : TA := fun σ H Q =>
  ∃ p S δ, p.π = π ∧ Ok C p S H ∧ REnv C p H δ σ ∧ Post C W p H σ (RepL C) Q (m δ S)

open PySem PySem.Spec PyProof.Rows L2

/-! ### a new object -/
theorem Step.alloc {p : Pl} {H : Hp} {q : Addr} {o : HO} (hq : H q = none) : Step p H p (upd H q o) :=
  ⟨⟨[], by simp⟩, rfl, rfl, fun a ob h _ => by rw [upd_ne (ne_of_none h hq)]; exact h, fun _ h h' => absurd h h'⟩
theorem CellRep.keep {C : Cst} {p p' : Pl} {H H' : Hp} {a : Addr} {c : Cell} (k : Keep C.K p H p' H') (r : CellRep C p H a c) (e : ∀ o, H a = some o → H' a = some o) : CellRep C p' H' a c := by
  cases c with
  | lst ds => obtain ⟨vs, h, q⟩ := r; exact ⟨vs, e _ h, RepL.keep k ds vs q⟩
  | dic kvs => obtain ⟨vs, h, q⟩ := r; exact ⟨vs, e _ h, RepKV.keep k kvs vs q⟩
theorem CellRep.there {C : Cst} {p : Pl} {H : Hp} {a : Addr} {c : Cell} (r : CellRep C p H a c) : ∃ o, H a = some o := by
  cases c with
  | lst ds => obtain ⟨vs, h, q⟩ := r; exact ⟨_, h⟩
  | dic kvs => obtain ⟨vs, h, q⟩ := r; exact ⟨_, h⟩
theorem Ok.alloc {C : Cst} {p : Pl} {S : Store} {H : Hp} {q : Addr} {o : HO} (ok : Ok C p S H) (hq : H q = none) : Ok C p S (upd H q o) := by
  have k := (Step.alloc (p := p) (o := o) hq).keep ok
  refine ⟨ok.len, ok.nd, fun l c h => ?_, fun a h => ?_⟩
  · obtain ⟨a, e, r⟩ := ok.cell l c h
    exact ⟨a, e, r.keep k fun ob h => by rw [upd_ne (ne_of_none h hq)]; exact h⟩
  · obtain ⟨n, ob, e⟩ := ok.hid a h
    exact ⟨n, ob, by rw [upd_ne (ne_of_none e hq)]; exact e⟩

/-- what is wanted of a value that comes, the store as it was -/
abbrev Wants (C : Cst) (p : Pl) (S : Store) (H : Hp) (d : D) (Q : VK) : Prop := ∀ p' H' v, Step p H p' H' → Ok C p' S H' → Rep C p' H' d v → Q v H'

section
variable {C : Cst} {p : Pl} {S : Store} {H : Hp} {Q : VK}
theorem Wants.here {d : D} {v : V} (w : Wants C p S H d Q) (ok : Ok C p S H) (r : Rep C p H d v) : Q v H := w p H v (Step.refl _ _) ok r
theorem Wants.tup {ds : List D} {vs : List V} {q : Addr} (w : Wants C p S H (.tup ds) Q) (ok : Ok C p S H) (r : RepL C p H ds vs) (hq : H q = none) : Q (.ref q) (upd H q (.tup vs)) := by
  refine w p _ _ (Step.alloc hq) (ok.alloc hq) ?_
  simp only [Rep]
  exact ⟨q, vs, rfl, .inl (.inl upd_same), RepL.keep ((Step.alloc hq).keep ok) ds vs r⟩
theorem Wants.lst {ds : List D} {vs : List V} {q : Addr} (w : Wants C p S H (.lst ds) Q) (ok : Ok C p S H) (r : RepL C p H ds vs) (hq : H q = none) : Q (.ref q) (upd H q (.lst vs)) := by
  refine w p _ _ (Step.alloc hq) (ok.alloc hq) ?_
  simp only [Rep]
  refine ⟨q, vs, rfl, fun m => ?_, fun m => ?_, upd_same, RepL.keep ((Step.alloc hq).keep ok) ds vs r⟩
  · rcases ok.locNot m with ⟨vs, e⟩ | ⟨vs, e⟩ <;> (rw [hq] at e; cases e)
  · obtain ⟨_, o, e⟩ := ok.hid q m
    rw [hq] at e; cases e
end

theorem RepL.length {C : Cst} {p : Pl} {H : Hp} : ∀ {ds : List D} {vs : List V}, RepL C p H ds vs → ds.length = vs.length
  | [], vs, h => by simp only [RepL] at h; rw [h]; rfl
  | d :: ds, vs, h => by
    simp only [RepL] at h
    obtain ⟨v, r, rfl, _, h2⟩ := h
    simp [RepL.length h2]
theorem RepL.append {C : Cst} {p : Pl} {H : Hp} : ∀ {ds es : List D} {vs ws : List V}, RepL C p H ds vs → RepL C p H es ws → RepL C p H (ds ++ es) (vs ++ ws)
  | [], es, vs, ws, h, g => by simp only [RepL] at h; rw [h]; exact g
  | d :: ds, es, vs, ws, h, g => by
    simp only [RepL] at h
    obtain ⟨v, r, rfl, h1, h2⟩ := h
    show RepL C p H (d :: (ds ++ es)) (v :: (r ++ ws))
    simp only [RepL]
    exact ⟨v, r ++ ws, rfl, h1, RepL.append h2 g⟩
theorem RepL.get {C : Cst} {p : Pl} {H : Hp} : ∀ {ds : List D} {vs : List V} {i : Nat} {d : D}, RepL C p H ds vs → ds[i]? = some d → ∃ v, vs[i]? = some v ∧ Rep C p H d v
  | [], vs, i, d, h, e => by simp at e
  | d :: ds, vs, 0, d', h, e => by
    simp only [RepL] at h
    obtain ⟨v, r, rfl, h1, h2⟩ := h
    simp at e; subst e
    exact ⟨v, rfl, h1⟩
  | d :: ds, vs, i + 1, d', h, e => by
    simp only [RepL] at h
    obtain ⟨v, r, rfl, h1, h2⟩ := h
    obtain ⟨v', e', r'⟩ := RepL.get (i := i) (d := d') h2 (by simpa using e)
    exact ⟨v', by simpa using e', r'⟩
theorem RepL.take {C : Cst} {p : Pl} {H : Hp} : ∀ {ds : List D} {vs : List V} (n : Nat), RepL C p H ds vs → RepL C p H (ds.take n) (vs.take n)
  | ds, vs, 0, h => by simp [RepL]
  | [], vs, n + 1, h => by simp only [RepL] at h; rw [h]; simp [RepL]
  | d :: ds, vs, n + 1, h => by
    simp only [RepL] at h
    obtain ⟨v, r, rfl, h1, h2⟩ := h
    simp only [List.take_succ_cons, RepL]
    exact ⟨v, _, rfl, h1, RepL.take n h2⟩
theorem RepL.drop {C : Cst} {p : Pl} {H : Hp} : ∀ {ds : List D} {vs : List V} (n : Nat), RepL C p H ds vs → RepL C p H (ds.drop n) (vs.drop n)
  | ds, vs, 0, h => h
  | [], vs, n + 1, h => by simp only [RepL] at h; rw [h]; simp [RepL]
  | d :: ds, vs, n + 1, h => by
    simp only [RepL] at h
    obtain ⟨v, r, rfl, h1, h2⟩ := h
    exact RepL.drop n h2
theorem RepL.set {C : Cst} {p : Pl} {H : Hp} {d : D} {v : V} (q : Rep C p H d v) : ∀ {ds : List D} {vs : List V} (n : Nat), RepL C p H ds vs → RepL C p H (ds.set n d) (vs.set n v)
  | [], vs, n, h => by simp only [RepL] at h; rw [h]; simp [RepL]
  | d' :: ds, vs, 0, h => by
    simp only [RepL] at h
    obtain ⟨v', r, rfl, h1, h2⟩ := h
    simp only [List.set_cons_zero, RepL]
    exact ⟨v, r, rfl, q, h2⟩
  | d' :: ds, vs, n + 1, h => by
    simp only [RepL] at h
    obtain ⟨v', r, rfl, h1, h2⟩ := h
    simp only [List.set_cons_succ, RepL]
    exact ⟨v', _, rfl, h1, RepL.set q n h2⟩
theorem RepL.one {C : Cst} {p : Pl} {H : Hp} {d : D} {vs : List V} (h : RepL C p H [d] vs) : ∃ v, vs = [v] ∧ Rep C p H d v := by
  simp only [RepL] at h
  obtain ⟨v, r, rfl, h1, rfl⟩ := h
  exact ⟨v, rfl, h1⟩
theorem RepL.two {C : Cst} {p : Pl} {H : Hp} {d e : D} {vs : List V} (h : RepL C p H [d, e] vs) : ∃ v w, vs = [v, w] ∧ Rep C p H d v ∧ Rep C p H e w := by
  simp only [RepL] at h
  obtain ⟨v, r, rfl, h1, w, r2, rfl, h2, rfl⟩ := h
  exact ⟨v, w, rfl, h1, h2⟩
theorem RepL.ints {C : Cst} {p : Pl} {H : Hp} : ∀ {is : List Int} {vs : List V}, RepL C p H (is.map D.int) vs → vs = is.map V.int
  | [], vs, h => by simpa only [List.map, RepL] using h
  | i :: is, vs, h => by
    simp only [List.map, RepL, Rep] at h
    obtain ⟨v, r, rfl, h1, h2⟩ := h
    rw [h1, RepL.ints h2]; rfl
theorem RepL.strs {C : Cst} {p : Pl} {H : Hp} : ∀ {is : List Str} {vs : List V}, RepL C p H (is.map D.str) vs → vs = is.map V.str
  | [], vs, h => by simpa only [List.map, RepL] using h
  | i :: is, vs, h => by
    simp only [List.map, RepL, Rep] at h
    obtain ⟨v, r, rfl, h1, h2⟩ := h
    rw [h1, RepL.strs h2]; rfl
theorem RepL.bls {C : Cst} {p : Pl} {H : Hp} : ∀ {is : List Bool} {vs : List V}, RepL C p H (is.map D.bl) vs → vs = is.map V.bl
  | [], vs, h => by simpa only [List.map, RepL] using h
  | i :: is, vs, h => by
    simp only [List.map, RepL, Rep] at h
    obtain ⟨v, r, rfl, h1, h2⟩ := h
    rw [h1, RepL.bls h2]; rfl

/-! ### what is in a row -/
/-- the items of a list -/
def listOf (S : Store) : D → Option (List D)
  | .lst ds => some ds
  | .rol ds => some ds
  | .loc l => match S[l]? with
    | some (.lst ds) => some ds
    | _ => none
  | _ => none
/-- the items of a list that is no read-only one -/
def listW (S : Store) : D → Option (List D)
  | .lst ds => some ds
  | .loc l => match S[l]? with
    | some (.lst ds) => some ds
    | _ => none
  | _ => none
section
variable {C : Cst} {p : Pl} {S : Store} {H : Hp}
theorem locAt {l : Nat} {v : V} {c : Cell} (ok : Ok C p S H) (r : Rep C p H (.loc l) v) (e : S[l]? = some c) : ∃ a, v = .ref a ∧ p.ρ[l]? = some a ∧ CellRep C p H a c := by
  simp only [Rep] at r
  obtain ⟨a, rfl, h⟩ := r
  obtain ⟨b, h2, q⟩ := ok.cell l c e
  rw [h] at h2; cases h2
  exact ⟨a, rfl, h, q⟩
theorem listW_rep {d : D} {v : V} {ds : List D} (ok : Ok C p S H) (r : Rep C p H d v) (e : listW S d = some ds) : ∃ a vs, v = .ref a ∧ H a = some (.lst vs) ∧ RepL C p H ds vs := by
  cases d with
  | lst es =>
    simp only [listW, Option.some.injEq] at e; subst e
    simp only [Rep] at r
    obtain ⟨a, vs, h1, _, _, h2, h3⟩ := r
    exact ⟨a, vs, h1, h2, h3⟩
  | loc l =>
    simp only [listW] at e
    split at e
    · rename_i es hs
      cases e
      obtain ⟨a, h1, _, vs, h2, h3⟩ := locAt ok r hs
      exact ⟨a, vs, h1, h2, h3⟩
    · cases e
  | _ => simp [listW] at e
theorem listOf_rep {d : D} {v : V} {ds : List D} (ok : Ok C p S H) (r : Rep C p H d v) (e : listOf S d = some ds) : ∃ a vs, v = .ref a ∧ SqL C.K H a vs ∧ RepL C p H ds vs := by
  cases d with
  | lst es =>
    obtain ⟨a, vs, h1, h2, h3⟩ := listW_rep ok r (show listW S (.lst es) = some ds from e)
    exact ⟨a, vs, h1, .of h2, h3⟩
  | rol es =>
    simp only [listOf, Option.some.injEq] at e; subst e
    simp only [Rep] at r
    obtain ⟨a, vs, h1, h2, h3⟩ := r
    exact ⟨a, vs, h1, h2.sq, h3⟩
  | loc l =>
    obtain ⟨a, vs, h1, h2, h3⟩ := listW_rep ok r (show listW S (.loc l) = some ds from e)
    exact ⟨a, vs, h1, .of h2, h3⟩
  | _ => simp [listOf] at e
theorem tup_rep {ds : List D} {v : V} (r : Rep C p H (.tup ds) v) : ∃ a vs, v = .ref a ∧ SqT C.K H a vs ∧ RepL C p H ds vs := by
  simpa only [Rep] using r
end

/-! ### operators by values -/
def rV2 (C : Cst) (g : Store → D → D → Option D) : R2 := fun x y H Q => ∃ p S dx dy d, Ok C p S H ∧ Rep C p H dx x ∧ Rep C p H dy y ∧ g S dx dy = some d ∧ Wants C p S H d Q
def rV1 (C : Cst) (g : Store → D → Option D) : V → Hp → VK → Prop := fun x H Q => ∃ p S dx d, Ok C p S H ∧ Rep C p H dx x ∧ g S dx = some d ∧ Wants C p S H d Q
def rVs (C : Cst) (g : Store → List D → Option D) : List V → Hp → VK → Prop := fun xs H Q => ∃ p S ds d, Ok C p S H ∧ RepL C p H ds xs ∧ g S ds = some d ∧ Wants C p S H d Q

def addD (S : Store) (a b : D) : Option D := match a, b with
  | .int i, .int j => some (.int (i + j))
  | .str x, .str y => if x.length + y.length ≤ sizeLine then some (.str (x ++ y)) else none
  | .tup xs, .tup ys => if xs.length + ys.length ≤ sizeLine then some (.tup (xs ++ ys)) else none
  | a, b => match listW S a, listW S b with
    | some xs, some ys => if xs.length + ys.length ≤ sizeLine then some (.lst (xs ++ ys)) else none
    | _, _ => none
def subD (_ : Store) (a b : D) : Option D := match a, b with
  | .int i, .int j => some (.int (i - j))
  | _, _ => none
def smallB (i : Int) (k : Nat) : Bool := decide (i.natAbs.log2 < k)
def mulD (S : Store) (a b : D) : Option D := match a, b with
  | .int i, .int j => if i.natAbs.log2 + j.natAbs.log2 < 1000000 then some (.int (i * j)) else none
  | .tup xs, .int k => if xs = [] then none else if 1 ≤ k ∧ k ≤ 1000 ∧ xs.length ≤ 1000 then some (.tup (List.replicate k.toNat xs).flatten) else none
  | a, .int k => match listW S a with
    | some xs => if -(2 ^ 63) ≤ k ∧ k < 2 ^ 63 ∧ xs.length * k.toNat ≤ sizeLine then some (.lst (List.replicate k.toNat xs).flatten) else none
    | none => none
  | _, _ => none
def fdivD (_ : Store) (a b : D) : Option D := match a, b with
  | .int i, .int j => if 0 < j ∧ j.natAbs.log2 < 9000 then some (.int (i / j)) else none
  | _, _ => none
def modD (_ : Store) (a b : D) : Option D := match a, b with
  | .int i, .int j => if 0 < j then some (.int (i % j)) else none
  | _, _ => none
def powD (_ : Store) (a b : D) : Option D := match a, b with
  | .int i, .int j => if 0 ≤ j ∧ j ≤ 1000000 ∧ i.natAbs < 2 ^ 64 then some (.int (i ^ j.toNat)) else none
  | _, _ => none
def ltD (S : Store) (a b : D) : Option D := match a, b with
  | .int i, .int j => some (.bl (decide (i < j)))
  | .str x, .str y => some (.bl (decide (x.cps.toList < y.cps.toList)))
  | _, _ => none
def leD (S : Store) (a b : D) : Option D := match a, b with
  | .int i, .int j => some (.bl (decide (i ≤ j)))
  | _, _ => none
def gtD (S : Store) (a b : D) : Option D := match a, b with
  | .int i, .int j => some (.bl (decide (j < i)))
  | _, _ => none
def geD (S : Store) (a b : D) : Option D := match a, b with
  | .int i, .int j => some (.bl (decide (j ≤ i)))
  | _, _ => none
def isD (_ : Store) (a b : D) : Option D := match a, b with
  | .non, .non => some (.bl true)
  | .bl x, .bl y => some (.bl (decide (x = y)))
  | .err _ _, .non => some (.bl false)
  | .int _, .non => some (.bl false)
  | .str _, .non => some (.bl false)
  | .tup _, .non => some (.bl false)
  | .lst _, .non => some (.bl false)
  | .rol _, .non => some (.bl false)
  | .loc _, .non => some (.bl false)
  | .bl _, .non => some (.bl false)
  | _, _ => none

section
variable {X : Cx} {C : Cst}
theorem RepL.rep {p : Pl} {H : Hp} {ds : List D} {vs : List V} (h : RepL C p H ds vs) : ∀ k : Nat, RepL C p H (List.replicate k ds).flatten (List.replicate k vs).flatten
  | 0 => by simp [RepL]
  | k + 1 => by
    rw [List.replicate_succ, List.replicate_succ, List.flatten_cons, List.flatten_cons]
    exact RepL.append h (RepL.rep h k)
theorem listW_notStr {S : Store} {x : Str} : listW S (.str x) = none := rfl
theorem add_ok (hK : X.K = C.K) : OpR X (binaryOp .Add) (rV2 C addD) := by
  intro pins s σ H x y v u Q I rx ry h
  obtain ⟨p, S, dx, dy, d, ok, r1, r2, e, w⟩ := h
  have lists : ∀ xs ys, listW S dx = some xs → listW S dy = some ys → xs.length + ys.length ≤ sizeLine → d = .lst (xs ++ ys) → wpAny (model X.prog X.w) X.A (binaryOp .Add v u) (EP X pins σ Q) X.xe s := by
    intro xs ys h1 h2 hz hd
    subst hd
    obtain ⟨a, vs, rfl, ha, q1⟩ := listW_rep ok r1 h1
    obtain ⟨b, ws, rfl, hb, q2⟩ := listW_rep ok r2 h2
    refine op_cat pins s σ H _ _ v u Q I rx ry ⟨a, b, vs, ws, rfl, rfl, ha, hb, by rw [← q1.length, ← q2.length]; exact hz, fun q hq => ?_⟩
    exact w.lst ok (q1.append q2) hq
  cases dx with
  | int i =>
    cases dy with
    | int j =>
      simp only [addD, Option.some.injEq] at e; subst e
      simp only [Rep] at r1 r2
      exact op_add pins s σ H x y v u Q I rx ry ⟨i, j, r1, r2, w.here ok (by simp only [Rep])⟩
    | _ => simp [addD, listW] at e
  | str i =>
    cases dy with
    | str j =>
      simp only [addD] at e
      split at e
      · rename_i hz
        cases e
        simp only [Rep] at r1 r2
        exact op_add_str pins s σ H x y v u Q I rx ry ⟨i, j, r1, r2, hz, w.here ok (by simp only [Rep])⟩
      · cases e
    | _ => simp [addD, listW] at e
  | tup xs =>
    cases dy with
    | tup ys =>
      simp only [addD] at e
      split at e
      · rename_i hz
        cases e
        obtain ⟨a, vs, rfl, ha, q1⟩ := tup_rep r1
        obtain ⟨b, ws, rfl, hb, q2⟩ := tup_rep r2
        refine op_catA pins s σ H _ _ v u Q I rx ry ⟨a, b, vs, ws, rfl, rfl, by rw [hK]; exact ha, by rw [hK]; exact hb, by rw [← q1.length, ← q2.length]; exact hz, fun hv => ?_, fun _ hw => ?_, fun _ _ q hq => w.tup ok (q1.append q2) hq⟩
        · have e1 := q1.length
          rw [hv] at e1
          have e2 : xs = [] := List.eq_nil_of_length_eq_zero e1
          subst e2
          exact w.here ok (by simpa using r2)
        · have e1 := q2.length
          rw [hw] at e1
          have e2 : ys = [] := List.eq_nil_of_length_eq_zero e1
          subst e2
          exact w.here ok (by simpa using r1)
      · cases e
    | _ => simp [addD, listW] at e
  | lst xs =>
    simp only [addD] at e
    split at e
    · rename_i xs ys h1 h2
      split at e
      · rename_i hz
        cases e
        exact lists _ _ h1 h2 hz rfl
      · cases e
    · cases e
  | loc l =>
    simp only [addD] at e
    split at e
    · rename_i xs ys h1 h2
      split at e
      · rename_i hz
        cases e
        exact lists _ _ h1 h2 hz rfl
      · cases e
    · cases e
  | _ => simp [addD, listW] at e
theorem sub_ok : OpR X (binaryOp .Sub) (rV2 C subD) := by
  intro pins s σ H x y v u Q I rx ry h
  obtain ⟨p, S, dx, dy, d, ok, r1, r2, e, w⟩ := h
  cases dx <;> cases dy <;> first | (simp [subD] at e; done) | skip
  simp only [subD, Option.some.injEq] at e; subst e
  simp only [Rep] at r1 r2
  exact op_sub pins s σ H x y v u Q I rx ry ⟨_, _, r1, r2, w.here ok (by simp only [Rep])⟩
theorem fdiv_ok : OpR X (binaryOp .FloorDiv) (rV2 C fdivD) := by
  intro pins s σ H x y v u Q I rx ry h
  obtain ⟨p, S, dx, dy, d, ok, r1, r2, e, w⟩ := h
  cases dx <;> cases dy <;> first | (simp [fdivD] at e; done) | skip
  simp only [fdivD] at e
  split at e
  · rename_i hz
    cases e
    simp only [Rep] at r1 r2
    exact op_fdivW pins s σ H x y v u Q I rx ry ⟨_, _, r1, r2, hz, w.here ok (by simp only [Rep])⟩
  · cases e
theorem mod_ok : OpR X (binaryOp .Mod) (rV2 C modD) := by
  intro pins s σ H x y v u Q I rx ry h
  obtain ⟨p, S, dx, dy, d, ok, r1, r2, e, w⟩ := h
  cases dx <;> cases dy <;> first | (simp [modD] at e; done) | skip
  simp only [modD] at e
  split at e
  · rename_i hz
    cases e
    simp only [Rep] at r1 r2
    exact op_mod pins s σ H x y v u Q I rx ry ⟨_, _, r1, r2, hz, w.here ok (by simp only [Rep])⟩
  · cases e
theorem pow_ok : OpR X (binaryOp .Pow) (rV2 C powD) := by
  intro pins s σ H x y v u Q I rx ry h
  obtain ⟨p, S, dx, dy, d, ok, r1, r2, e, w⟩ := h
  cases dx <;> cases dy <;> first | (simp [powD] at e; done) | skip
  simp only [powD] at e
  split at e
  · rename_i hz
    cases e
    simp only [Rep] at r1 r2
    exact op_pow pins s σ H x y v u Q I rx ry ⟨_, _, r1, r2, hz, w.here ok (by simp only [Rep])⟩
  · cases e
theorem lt_ok : OpR X (compareOp .Lt) (rV2 C ltD) := by
  intro pins s σ H x y v u Q I rx ry h
  obtain ⟨p, S, dx, dy, d, ok, r1, r2, e, w⟩ := h
  cases dx <;> cases dy <;> first | (simp [ltD] at e; done) | skip
  · simp only [ltD, Option.some.injEq] at e; subst e
    simp only [Rep] at r1 r2
    exact op_lt pins s σ H x y v u Q I rx ry ⟨_, _, r1, r2, w.here ok (by simp only [Rep])⟩
  · simp only [ltD, Option.some.injEq] at e; subst e
    simp only [Rep] at r1 r2
    exact op_lt_str pins s σ H x y v u Q I rx ry ⟨_, _, r1, r2, w.here ok (by simp only [Rep])⟩
theorem le_ok : OpR X (compareOp .LtE) (rV2 C leD) := by
  intro pins s σ H x y v u Q I rx ry h
  obtain ⟨p, S, dx, dy, d, ok, r1, r2, e, w⟩ := h
  cases dx <;> cases dy <;> first | (simp [leD] at e; done) | skip
  simp only [leD, Option.some.injEq] at e; subst e
  simp only [Rep] at r1 r2
  exact op_le pins s σ H x y v u Q I rx ry ⟨_, _, r1, r2, w.here ok (by simp only [Rep])⟩
theorem gt_ok : OpR X (compareOp .Gt) (rV2 C gtD) := by
  intro pins s σ H x y v u Q I rx ry h
  obtain ⟨p, S, dx, dy, d, ok, r1, r2, e, w⟩ := h
  cases dx <;> cases dy <;> first | (simp [gtD] at e; done) | skip
  simp only [gtD, Option.some.injEq] at e; subst e
  simp only [Rep] at r1 r2
  exact op_gt pins s σ H x y v u Q I rx ry ⟨_, _, r1, r2, w.here ok (by simp only [Rep])⟩
theorem ge_ok : OpR X (compareOp .GtE) (rV2 C geD) := by
  intro pins s σ H x y v u Q I rx ry h
  obtain ⟨p, S, dx, dy, d, ok, r1, r2, e, w⟩ := h
  cases dx <;> cases dy <;> first | (simp [geD] at e; done) | skip
  simp only [geD, Option.some.injEq] at e; subst e
  simp only [Rep] at r1 r2
  exact op_ge pins s σ H x y v u Q I rx ry ⟨_, _, r1, r2, w.here ok (by simp only [Rep])⟩
end

open PySem PySem.Spec PyProof.Rows L2

/-! ### how wants are handed on -/
theorem pe_mono {X : Cx} {e : Expr} {t t' : TE} (h : PE X e t) (k : ∀ σ H Q, t' σ H Q → t σ H Q) : PE X e t' := ⟨fun pins s σ H Q I hw => h.run pins s σ H Q I (k σ H Q hw)⟩
theorem pt_mono {X : Cx} {e : Expr} {t t' : TT} (h : PT X e t) (k : ∀ σ H Q, t' σ H Q → t σ H Q) : PT X e t' := ⟨fun pins s σ H Q I hw => h.run pins s σ H Q I (k σ H Q hw)⟩
theorem pa_mono {X : Cx} {es : List Expr} {t t' : TA} (h : PA X es t) (k : ∀ σ H Q, t' σ H Q → t σ H Q) : PA X es t' := ⟨fun pos pins s σ H Q I hw => h.run pos pins s σ H Q I (k σ H Q hw)⟩

/-- a reading, whatever it gives -/
def TRe {α β : Type} (C : Cst) (π : Option (Addr × Obj)) (W : WX) (R : Pl → Hp → α → β → Prop) (m : Env → M α) : L2.St → Hp → (β → Hp → Prop) → Prop := fun σ H Q =>
  ∃ p S δ, p.π = π ∧ Ok C p S H ∧ REnv C p H δ σ ∧ Post C W p H σ R Q (m δ S)

section
variable {α β γ ε : Type} {C : Cst} {π : Option (Addr × Obj)} {W : WX} {p : Pl} {S : Store} {H : Hp} {σ : L2.St} {δ : Env}
theorem Post.bind {R : Pl → Hp → γ → ε → Prop} {R1 : Pl → Hp → α → β → Prop} {Q : ε → Hp → Prop} {Q1 : β → Hp → Prop} {r : Res α} {f : α → M γ} (h : Post C W p H σ R Q (r.bind f))
    (k : ∀ a S1 p' H' b, Step p H p' H' → Ok C p' S1 H' → R1 p' H' a b → Post C W p' H' σ R Q (f a S1) → Q1 b H') : Post C W p H σ R1 Q1 r := by
  cases r with
  | ok a S1 => exact fun p' H' b s o q => k a S1 p' H' b s o q (Post.step s h)
  | exc c d S1 => exact h
  | stuck => exact h.elim
theorem TRe.of {R : Pl → Hp → α → β → Prop} {m : Env → M α} {Q : β → Hp → Prop} (hp : p.π = π) (ok : Ok C p S H) (re : REnv C p H δ σ) (po : Post C W p H σ R Q (m δ S)) : TRe C π W R m σ H Q := ⟨p, S, δ, hp, ok, re, po⟩
/-- one reading behind another -/
theorem TRe.go {R : Pl → Hp → γ → ε → Prop} {R1 : Pl → Hp → α → β → Prop} {Q : ε → Hp → Prop} {Q1 : β → Hp → Prop} {m : Env → M α} {f : α → M γ} (hp : p.π = π) (ok : Ok C p S H) (re : REnv C p H δ σ) (po : Post C W p H σ R Q ((m δ S).bind f))
    (k : ∀ a S1 p' H' b, Keep C.K p H p' H' → Ok C p' S1 H' → p'.π = π → REnv C p' H' δ σ → R1 p' H' a b → Post C W p' H' σ R Q (f a S1) → Q1 b H') : TRe C π W R1 m σ H Q1 :=
  ⟨p, S, δ, hp, ok, re, Post.bind po fun a S1 p' H' b s o q po2 => k a S1 p' H' b (s.keep ok) o (s.err.trans hp) (re.keep (s.keep ok)) q po2⟩
end
theorem tee_eq {C : Cst} {π : Option (Addr × Obj)} {W : WX} {m : Env → M D} : TEe C π W m = TRe C π W (Rep C) m := rfl
theorem tte_eq {C : Cst} {π : Option (Addr × Obj)} {W : WX} {m : Env → M Bool} : TTe C π W m = TRe C π W (fun _ _ a b => a = b) m := rfl
theorem tae_eq {C : Cst} {π : Option (Addr × Obj)} {W : WX} {m : Env → M (List D)} : TAe C π W m = TRe C π W (RepL C) m := rfl

/-! ### what is reckoned -/
abbrev EM (α : Type) := Env → M α
def out {α : Type} (o : Option α) : M α := fun S => match o with
  | some d => .ok d S
  | none => .stuck
def mVar (i : Nat) : EM D := fun δ S => match δ[i]? with
  | some (some d) => .ok d S
  | _ => .stuck
def mC (d : D) : EM D := fun _ S => .ok d S
def mOp (g : Store → D → D → Option D) (a b : EM D) : EM D := fun δ S => (a δ S).bind fun x S1 => (b δ S1).bind fun y S2 => out (g S2 x y) S2
def mUn (g : Store → D → Option D) (a : EM D) : EM D := fun δ S => (a δ S).bind fun x S1 => out (g S1 x) S1
def mNil : EM (List D) := fun _ S => .ok [] S
def mCons (a : EM D) (b : EM (List D)) : EM (List D) := fun δ S => (a δ S).bind fun x S1 => (b δ S1).bind fun y S2 => .ok (x :: y) S2
def small (ds : List D) : Bool := decide (ds.length ≤ sizeLine)
def mTup (a : EM (List D)) : EM D := fun δ S => (a δ S).bind fun x S1 => if small x then .ok (.tup x) S1 else .stuck
def mLst (a : EM (List D)) : EM D := fun δ S => (a δ S).bind fun x S1 => if small x then .ok (.lst x) S1 else .stuck
def mLoc (a : EM (List D)) : EM D := fun δ S => (a δ S).bind fun x S1 => if small x then .ok (.loc S1.length) (S1 ++ [.lst x]) else .stuck
def mCB (g : Store → List D → Option D) (a : EM (List D)) : EM D := fun δ S => (a δ S).bind fun x S1 => out (g S1 x) S1
def mIf (t : EM Bool) (a b : EM D) : EM D := fun δ S => (t δ S).bind fun k S1 => if k = true then a δ S1 else b δ S1
def mTest (a : EM D) : EM Bool := fun δ S => (a δ S).bind fun x S1 => match x with
  | .bl k => .ok k S1
  | _ => .stuck
def mNot (t : EM Bool) : EM Bool := fun δ S => (t δ S).bind fun k S1 => .ok (!k) S1
def mAnd (t u : EM Bool) : EM Bool := fun δ S => (t δ S).bind fun k S1 => if k = true then u δ S1 else .ok false S1
def mOr (t u : EM Bool) : EM Bool := fun δ S => (t δ S).bind fun k S1 => if k = true then .ok true S1 else u δ S1
def truD (S : Store) : D → Option Bool
  | .non => some false
  | .bl b => some b
  | .int i => some (i != 0)
  | .str x => if x.length ≤ sizeLine then some ((x.length : Int) != 0) else none
  | .tup ds => some (!ds.isEmpty)
  | .lst ds => some (!ds.isEmpty)
  | .rol ds => some (!ds.isEmpty)
  | .loc l => match S[l]? with
    | some (.lst ds) => some (!ds.isEmpty)
    | some (.dic kvs) => some (!kvs.isEmpty)
    | none => none
  | _ => none
def mTru (a : EM D) : EM Bool := fun δ S => (a δ S).bind fun x S1 => out (truD S1 x) S1
/-- a and b, a or b, not a as values -/
def mAndV (a b : EM D) : EM D := fun δ S => (a δ S).bind fun x S1 => (out (truD S1 x) S1).bind fun k S2 => if k = true then b δ S2 else .ok x S2
def mOrV (a b : EM D) : EM D := fun δ S => (a δ S).bind fun x S1 => (out (truD S1 x) S1).bind fun k S2 => if k = true then .ok x S2 else b δ S2
def mNotV (a : EM D) : EM D := fun δ S => (a δ S).bind fun x S1 => (out (truD S1 x) S1).bind fun k S2 => .ok (.bl (!k)) S2
/-- a op1 b op2 c -/
def mChain (g g' : Store → D → D → Option D) (a b c : EM D) : EM D := fun δ S => (a δ S).bind fun x S1 => (b δ S1).bind fun y S2 => (out (g S2 x y) S2).bind fun z S3 => match z with
  | .bl k => if k = true then (c δ S3).bind fun w S4 => out (g' S4 y w) S4 else .ok (.bl false) S3
  | _ => .stuck

section
variable {X : Cx} {C : Cst} {π : Option (Addr × Obj)} {W : WX} {a b c : Expr} {ma mb mc : EM D} {pos : Pos}
theorem Post.out {α β : Type} {p : Pl} {S : Store} {H : Hp} {σ : L2.St} {R : Pl → Hp → α → β → Prop} {Q : β → Hp → Prop} {o : Option α} (h : Post C W p H σ R Q (Ev.out o S)) :
    ∃ d, o = some d ∧ ∀ p' H' b, Step p H p' H' → Ok C p' S H' → R p' H' d b → Q b H' := by
  cases o with
  | some d => exact ⟨d, rfl, h⟩
  | none => exact h.elim
theorem e_var {i : Nat} {x : Str} (hN : X.N[i]? = some x) (hv : Vis X.env.scope x) (hd : (x == ("__debug__" : Str)) = false := by decide) (hcd : (x == ("__classdict__" : Str)) = false := by decide) :
    PE X (.Name x pos) (TEe C π W (mVar i)) := pe_mono (pe_var hN hv hd hcd) fun σ H Q h => by
  obtain ⟨p, S, δ, hp, ok, re, po⟩ := h
  unfold mVar at po
  split at po
  · rename_i d e
    obtain ⟨v, e2, r⟩ := re.2 i d e
    exact ⟨v, e2, po p H v (Step.refl _ _) ok r⟩
  · exact po.elim
theorem e_c {e : Expr} {v : V} {d : D} (h : PE X e (tC v)) (r : ∀ p H, Rep C p H d v) : PE X e (TEe C π W (mC d)) := pe_mono h fun σ H Q h => by
  obtain ⟨p, S, δ, hp, ok, re, po⟩ := h
  exact po p H v (Step.refl _ _) ok (r p H)
theorem e_int {i j pos} : PE X (.Constant (.int i) j pos) (TEe C π W (mC (.int i))) := e_c pe_int fun _ _ => by simp only [Rep]
theorem e_bl {i j pos} : PE X (.Constant (.bool i) j pos) (TEe C π W (mC (.bl i))) := e_c pe_bl fun _ _ => by simp only [Rep]
theorem e_non {j pos} : PE X (.Constant .none j pos) (TEe C π W (mC .non)) := e_c pe_non fun _ _ => by simp only [Rep]
theorem e_str {i j pos} : PE X (.Constant (.str i) j pos) (TEe C π W (mC (.str i))) := e_c pe_str fun _ _ => by simp only [Rep]
theorem e_op {op : Operator} {g : Store → D → D → Option D} (ho : OpR X (binaryOp op) (rV2 C g)) (ha : PE X a (TEe C π W ma)) (hb : PE X b (TEe C π W mb)) : PE X (.BinOp a op b pos) (TEe C π W (mOp g ma mb)) :=
  pe_mono (pe_op ho ha hb) fun σ H Q ⟨p, S, δ, hp, ok, re, po⟩ => TRe.go hp ok re po fun x S1 p1 H1 v k1 ok1 hp1 re1 r1 po1 => TRe.go hp1 ok1 re1 po1 fun y S2 p2 H2 w k2 ok2 hp2 re2 r2 po2 => by
    obtain ⟨d, e, q⟩ := po2.out
    exact ⟨p2, S2, x, y, d, ok2, r1.keep k2, r2, e, q⟩
theorem e_un {op : UnaryOp} {g : Store → D → Option D} (ho : UnR X (unaryOp op) (rV1 C g)) (ha : PE X a (TEe C π W ma)) : PE X (.UnaryOp op a pos) (TEe C π W (mUn g ma)) :=
  pe_mono (pe_un ho ha) fun σ H Q ⟨p, S, δ, hp, ok, re, po⟩ => TRe.go hp ok re po fun x S1 p1 H1 v k1 ok1 hp1 re1 r1 po1 => by
    obtain ⟨d, e, q⟩ := po1.out
    exact ⟨p1, S1, x, d, ok1, r1, e, q⟩
theorem e_cmp {op : CmpOp} {g : Store → D → D → Option D} (ho : OpR X (compareOp op) (rV2 C g)) (ha : PE X a (TEe C π W ma)) (hb : PE X b (TEe C π W mb)) (hm : behindInMarks op b = false) : PE X (.Compare a [op] [b] pos) (TEe C π W (mOp g ma mb)) :=
  pe_mono (pe_cmpR ho ha hb hm) fun σ H Q ⟨p, S, δ, hp, ok, re, po⟩ => TRe.go hp ok re po fun x S1 p1 H1 v k1 ok1 hp1 re1 r1 po1 => TRe.go hp1 ok1 re1 po1 fun y S2 p2 H2 w k2 ok2 hp2 re2 r2 po2 => by
    obtain ⟨d, e, q⟩ := po2.out
    exact ⟨p2, S2, x, y, d, ok2, r1.keep k2, r2, e, q⟩
theorem e_chain {op op' : CmpOp} {g g' : Store → D → D → Option D} (ho : OpR X (compareOp op) (rV2 C g)) (ho' : OpR X (compareOp op') (rV2 C g')) (ha : PE X a (TEe C π W ma)) (hb : PE X b (TEe C π W mb)) (hc : PE X c (TEe C π W mc))
    (hm : lastMarks [op, op'] [b, c] = false := by with_unfolding_all rfl) : PE X (.Compare a [op, op'] [b, c] pos) (TEe C π W (mChain g g' ma mb mc)) :=
  pe_mono (pe_chain ho ho' ha hb hc hm) fun σ H Q ⟨p, S, δ, hp, ok, re, po⟩ => TRe.go hp ok re po fun x S1 p1 H1 v k1 ok1 hp1 re1 r1 po1 => TRe.go hp1 ok1 re1 po1 fun y S2 p2 H2 w k2 ok2 hp2 re2 r2 po2 => by
    cases e : g S2 x y with
    | none => rw [e] at po2; exact po2.elim
    | some z =>
      rw [e] at po2
      refine ⟨p2, S2, x, y, z, ok2, r1.keep k2, r2, e, fun p3 H3 zv s3 ok3 r3 => ?_⟩
      have k3 := s3.keep ok2
      have po3 := Post.step s3 po2
      cases z with
      | bl k =>
        simp only [Rep] at r3
        refine ⟨k, r3, ?_⟩
        cases k with
        | true =>
          show TEe C π W mc σ H3 _
          exact TRe.go (s3.err.trans hp2) ok3 (re2.keep k3) po3 fun w' S4 p4 H4 v4 k4 ok4 hp4 re4 r4 po4 => by
            obtain ⟨d, e4, q⟩ := po4.out
            exact ⟨p4, S4, y, w', d, ok4, (r2.keep k3).keep k4, r4, e4, q⟩
        | false => exact po3 p3 H3 _ (Step.refl _ _) ok3 (by simp only [Rep])
      | _ => exact po3.elim

/-! ### rows of arguments -/
variable {es : List Expr} {ms : EM (List D)}
theorem a_nil : PA X [] (TAe C π W mNil) := pa_mono pa_nil fun σ H Q ⟨p, S, δ, hp, ok, re, po⟩ => po p H [] (Step.refl _ _) ok (by simp only [RepL])
theorem a_cons (ha : PE X a (TEe C π W ma)) (hr : PA X es (TAe C π W ms)) (hs : starEach (a :: es) X.env = (false, eval a X.env) :: starEach es X.env := by rfl) : PA X (a :: es) (TAe C π W (mCons ma ms)) :=
  pa_mono (pa_cons ha hr hs) fun σ H Q ⟨p, S, δ, hp, ok, re, po⟩ => TRe.go hp ok re po fun x S1 p1 H1 v k1 ok1 hp1 re1 r1 po1 => TRe.go hp1 ok1 re1 po1 fun y S2 p2 H2 w k2 ok2 hp2 re2 r2 po2 =>
    po2 p2 H2 _ (Step.refl _ _) ok2 (by simp only [RepL]; exact ⟨v, w, rfl, r1.keep k2, r2⟩)
theorem e_tup {x1} (h : PA X es (TAe C π W ms)) : PE X (.Tuple es x1 pos) (TEe C π W (mTup ms)) :=
  pe_mono (pe_tup h) fun σ H Q ⟨p, S, δ, hp, ok, re, po⟩ => TRe.go hp ok re po fun x S1 p1 H1 v k1 ok1 hp1 re1 r1 po1 => by
    split at po1
    · rename_i z
      have w : Wants C p1 S1 H1 (.tup x) Q := fun p' H' v s o r => po1 p' H' v s o r
      exact ⟨by rw [← r1.length]; exact of_decide_eq_true z, fun q hq => w.tup ok1 r1 hq⟩
    · exact po1.elim
theorem e_lst (h : PA X es (TAe C π W ms)) : PE X (.List es pos) (TEe C π W (mLst ms)) :=
  pe_mono (pe_lst h) fun σ H Q ⟨p, S, δ, hp, ok, re, po⟩ => TRe.go hp ok re po fun x S1 p1 H1 v k1 ok1 hp1 re1 r1 po1 => by
    split at po1
    · rename_i z
      have w : Wants C p1 S1 H1 (.lst x) Q := fun p' H' v s o r => po1 p' H' v s o r
      exact ⟨by rw [← r1.length]; exact of_decide_eq_true z, fun q hq => w.lst ok1 r1 hq⟩
    · exact po1.elim

/-! ### a new list that will change -/
theorem Step.newLoc {p : Pl} {H : Hp} {q : Addr} {o : HO} (hq : H q = none) : Step p H { p with ρ := p.ρ ++ [q] } (upd H q o) where
  pre := ⟨[q], rfl⟩
  hid := rfl
  err := rfl
  frz := fun a ob h _ => by rw [upd_ne (ne_of_none h hq)]; exact h
  new := fun a h h' => by
    rcases List.mem_append.mp h with z | z
    · exact absurd z h'
    · have e : a = q := by simpa using z
      rw [e]; exact hq
theorem Ok.notρ {C : Cst} {p : Pl} {S : Store} {H : Hp} {q : Addr} (ok : Ok C p S H) (hq : H q = none) : q ∉ p.ρ := fun m => by
  rcases ok.locNot m with ⟨vs, e⟩ | ⟨vs, e⟩ <;> (rw [hq] at e; cases e)
theorem Ok.newLoc {C : Cst} {p : Pl} {S : Store} {H : Hp} {q : Addr} {o : HO} {c : Cell} (ok : Ok C p S H) (hq : H q = none) (r : CellRep C { p with ρ := p.ρ ++ [q] } (upd H q o) q c) : Ok C { p with ρ := p.ρ ++ [q] } (S ++ [c]) (upd H q o) := by
  have k := (Step.newLoc (p := p) (o := o) hq).keep ok
  refine ⟨by simp [ok.len], ?_, fun l c' h => ?_, fun a h => ?_⟩
  · show (p.ρ ++ [q]).Nodup
    rw [List.nodup_append]
    refine ⟨ok.nd, by simp, fun a ha b hb => ?_⟩
    have e : b = q := by simpa using hb
    rw [e]
    exact fun z => ok.notρ hq (z ▸ ha)
  · by_cases hl : l < S.length
    · rw [List.getElem?_append_left hl] at h
      obtain ⟨a, e, r'⟩ := ok.cell l c' h
      refine ⟨a, k.get l a e, r'.keep k fun ob h => by rw [upd_ne (ne_of_none h hq)]; exact h⟩
    · have hl' : l = S.length := by
        have := (List.getElem?_eq_some_iff.mp h).1
        simp at this; omega
      subst hl'
      simp at h
      subst h
      refine ⟨q, ?_, r⟩
      show (p.ρ ++ [q])[S.length]? = some q
      rw [← ok.len]; simp
  · obtain ⟨n, ob, e⟩ := ok.hid a h
    refine ⟨fun m => ?_, ob, by rw [upd_ne (ne_of_none e hq)]; exact e⟩
    rcases List.mem_append.mp m with z | z
    · exact n z
    · have e' : a = q := by simpa using z
      rw [e', hq] at e; cases e
theorem Rep.newLoc {C : Cst} {p : Pl} {S : Store} {H : Hp} {q : Addr} (ok : Ok C p S H) : Rep C { p with ρ := p.ρ ++ [q] } H (.loc S.length) (.ref q) := by
  simp only [Rep]
  exact ⟨q, rfl, by show (p.ρ ++ [q])[S.length]? = some q; rw [← ok.len]; simp⟩
theorem Rep.newLoc' {C : Cst} {p : Pl} {S : Store} {H H' : Hp} {q : Addr} (ok : Ok C p S H) : Rep C { p with ρ := p.ρ ++ [q] } H' (.loc S.length) (.ref q) := by
  simp only [Rep]
  exact ⟨q, rfl, by show (p.ρ ++ [q])[S.length]? = some q; rw [← ok.len]; simp⟩
theorem e_loc (h : PA X es (TAe C π W ms)) : PE X (.List es pos) (TEe C π W (mLoc ms)) :=
  pe_mono (pe_lst h) fun σ H Q ⟨p, S, δ, hp, ok, re, po⟩ => TRe.go hp ok re po fun x S1 p1 H1 v k1 ok1 hp1 re1 r1 po1 => by
    split at po1
    · rename_i z
      refine ⟨by rw [← r1.length]; exact of_decide_eq_true z, fun q hq => ?_⟩
      have s := Step.newLoc (p := p1) (o := .lst v) hq
      exact po1 _ _ _ s (ok1.newLoc hq ⟨v, upd_same, RepL.keep (s.keep ok1) x v r1⟩) (Rep.newLoc' ok1)
    · exact po1.elim

/-! ### tests -/
theorem truD_rep {p : Pl} {S : Store} {H : Hp} {d : D} {v : V} {k : Bool} (ok : Ok C p S H) (r : Rep C p H d v) (e : truD S d = some k) : TruV C.K v H k := by
  cases d with
  | non => simp only [Rep] at r; subst r; simp only [truD, Option.some.injEq] at e; exact e.symm
  | bl b => simp only [Rep] at r; subst r; simp only [truD, Option.some.injEq] at e; exact e.symm
  | int b => simp only [Rep] at r; subst r; simp only [truD, Option.some.injEq] at e; exact e.symm
  | str b =>
    simp only [Rep] at r; subst r; simp only [truD] at e
    split at e
    · rename_i z; cases e; exact ⟨z, rfl⟩
    · cases e
  | tup ds =>
    obtain ⟨a, vs, rfl, h, q⟩ := tup_rep r
    simp only [truD, Option.some.injEq] at e
    refine .inr (.inl ⟨vs, h, ?_⟩)
    rw [← e]
    have z := q.length
    cases ds <;> cases vs <;> first | rfl | simp at z
  | lst ds =>
    obtain ⟨a, vs, rfl, h, q⟩ := listOf_rep ok r (show listOf S (.lst ds) = some ds from rfl)
    simp only [truD, Option.some.injEq] at e
    refine .inl ⟨vs, h, ?_⟩
    rw [← e]
    have z := q.length
    cases ds <;> cases vs <;> first | rfl | simp at z
  | rol ds =>
    obtain ⟨a, vs, rfl, h, q⟩ := listOf_rep ok r (show listOf S (.rol ds) = some ds from rfl)
    simp only [truD, Option.some.injEq] at e
    refine .inl ⟨vs, h, ?_⟩
    rw [← e]
    have z := q.length
    cases ds <;> cases vs <;> first | rfl | simp at z
  | loc l =>
    simp only [truD] at e
    split at e
    · rename_i ds hl
      cases e
      obtain ⟨a, vs, rfl, h, q⟩ := listOf_rep ok r (show listOf S (.loc l) = some ds by simp only [listOf, hl])
      refine .inl ⟨vs, h, ?_⟩
      have z := q.length
      cases ds <;> cases vs <;> first | rfl | simp at z
    · rename_i kvs hl
      cases e
      obtain ⟨a, rfl, _, vs, h, q⟩ := locAt ok r hl
      refine .inr (.inr ⟨vs, h, ?_⟩)
      cases kvs with
      | nil => simp only [RepKV] at q; rw [q]; rfl
      | cons x kvs =>
        obtain ⟨x1, x2⟩ := x
        simp only [RepKV] at q
        obtain ⟨_, _, rfl, _⟩ := q
        rfl
    · cases e
  | _ => simp [truD] at e
variable {tA tB : EM Bool} {rest : List Expr}
theorem t_tru (hK : X.K = C.K) (ha : PE X a (TEe C π W ma)) (he : ∀ whole, isTrue a X.env whole = (do let v ← whole; standAt a.pos; holding [v] (truthy v))) : PT X a (TTe C π W (mTru ma)) :=
  pt_mono (pt_truth ha he) fun σ H Q ⟨p, S, δ, hp, ok, re, po⟩ => TRe.go hp ok re po fun x S1 p1 H1 v k1 ok1 hp1 re1 r1 po1 => by
    obtain ⟨d, e, q⟩ := po1.out
    exact ⟨d, by rw [hK]; exact truD_rep ok1 r1 e, q p1 H1 d (Step.refl _ _) ok1 rfl⟩
theorem t_cmp {op : CmpOp} {g : Store → D → D → Option D} (ho : OpR X (compareOp op) (rV2 C g)) (ha : PE X a (TEe C π W ma)) (hb : PE X b (TEe C π W mb)) (hm : behindInMarks op b = false) : PT X (.Compare a [op] [b] pos) (TTe C π W (mTest (mOp g ma mb))) :=
  pt_mono (pt_cmpR ho ha hb hm) fun σ H Q ⟨p, S, δ, hp, ok, re, po⟩ => by
    have po' : Post C W p H σ (fun _ _ a b => a = b) Q ((ma δ S).bind fun x S1 => (mb δ S1).bind fun y S2 => (out (g S2 x y) S2).bind fun x S1 => match x with
      | .bl k => Res.ok k S1
      | _ => .stuck) := by
      have e : mTest (mOp g ma mb) δ S = (ma δ S).bind fun x S1 => (mb δ S1).bind fun y S2 => (out (g S2 x y) S2).bind fun x S1 => match x with
        | .bl k => Res.ok k S1
        | _ => .stuck := by
        unfold mTest mOp
        cases ma δ S with
        | ok x S1 =>
          simp only [Res.bind]
          cases mb δ S1 <;> rfl
        | exc => rfl
        | stuck => rfl
      rw [← e]; exact po
    exact TRe.go hp ok re po' fun x S1 p1 H1 v k1 ok1 hp1 re1 r1 po1 => TRe.go hp1 ok1 re1 po1 fun y S2 p2 H2 w k2 ok2 hp2 re2 r2 po2 => by
      cases e : g S2 x y with
      | none => rw [e] at po2; exact po2.elim
      | some z =>
        rw [e] at po2
        refine ⟨p2, S2, x, y, z, ok2, r1.keep k2, r2, e, fun p3 H3 zv s3 ok3 r3 => ?_⟩
        have po3 := Post.step s3 po2
        cases z with
        | bl k =>
          simp only [Rep] at r3
          exact ⟨k, r3, po3 p3 H3 k (Step.refl _ _) ok3 rfl⟩
        | _ => exact po3.elim
/-- any other value that is a bool, as a test -/
theorem t_val (ha : PE X a (TEe C π W ma)) (he : ∀ whole, isTrue a X.env whole = (do let v ← whole; standAt a.pos; holding [v] (truthy v)) := by intro _; rfl) : PT X a (TTe C π W (mTest ma)) :=
  pt_mono (pt_val ha he) fun σ H Q ⟨p, S, δ, hp, ok, re, po⟩ => TRe.go hp ok re po fun x S1 p1 H1 v k1 ok1 hp1 re1 r1 po1 => by
    cases x with
    | bl k => simp only [Rep] at r1; exact ⟨k, r1, po1 p1 H1 k (Step.refl _ _) ok1 rfl⟩
    | _ => exact po1.elim
theorem pw_mono {X : Cx} {e : Expr} {t t' : TT} (h : PW X e t) (k : ∀ σ H Q, t' σ H Q → t σ H Q) : PW X e t' := ⟨fun wh pins s σ H Q I hw => h.run wh pins s σ H Q I (k σ H Q hw)⟩
theorem w_and (ha : PT X a (TTe C π W tA)) (hb : PW X (.BoolOp .And (b :: rest) pos) (TTe C π W tB)) : PW X (.BoolOp .And (a :: b :: rest) pos) (TTe C π W (mAnd tA tB)) :=
  pw_mono (pw_and ha hb) fun σ H Q ⟨p, S, δ, hp, ok, re, po⟩ => TRe.go hp ok re po fun x S1 p1 H1 v k1 ok1 hp1 re1 r1 po1 => by
    subst r1
    cases x with
    | true => exact ⟨p1, S1, δ, hp1, ok1, re1, po1⟩
    | false => exact po1 p1 H1 false (Step.refl _ _) ok1 rfl
theorem w_or (ha : PT X a (TTe C π W tA)) (hb : PW X (.BoolOp .Or (b :: rest) pos) (TTe C π W tB)) : PW X (.BoolOp .Or (a :: b :: rest) pos) (TTe C π W (mOr tA tB)) :=
  pw_mono (pw_or ha hb) fun σ H Q ⟨p, S, δ, hp, ok, re, po⟩ => TRe.go hp ok re po fun x S1 p1 H1 v k1 ok1 hp1 re1 r1 po1 => by
    subst r1
    cases x with
    | true => exact po1 p1 H1 true (Step.refl _ _) ok1 rfl
    | false => exact ⟨p1, S1, δ, hp1, ok1, re1, po1⟩
theorem t_not (ha : PT X a (TTe C π W tA)) : PT X (.UnaryOp .Not a pos) (TTe C π W (mNot tA)) :=
  pt_mono (pt_not ha) fun σ H Q ⟨p, S, δ, hp, ok, re, po⟩ => TRe.go hp ok re po fun x S1 p1 H1 v k1 ok1 hp1 re1 r1 po1 => by
    subst r1
    exact po1 p1 H1 _ (Step.refl _ _) ok1 rfl
theorem e_if {cnd : Expr} (hc : PT X cnd (TTe C π W tA)) (ha : PE X a (TEe C π W ma)) (hb : PE X b (TEe C π W mb)) : PE X (.IfExp cnd a b pos) (TEe C π W (mIf tA ma mb)) :=
  pe_mono (pe_ifExp hc ha hb) fun σ H Q ⟨p, S, δ, hp, ok, re, po⟩ => TRe.go hp ok re po fun x S1 p1 H1 v k1 ok1 hp1 re1 r1 po1 => by
    subst r1
    cases x with
    | true => exact ⟨p1, S1, δ, hp1, ok1, re1, po1⟩
    | false => exact ⟨p1, S1, δ, hp1, ok1, re1, po1⟩
theorem e_and (hK : X.K = C.K) (ha : PE X a (TEe C π W ma)) (hb : PE X (.BoolOp .And (b :: rest) pos) (TEe C π W mb)) : PE X (.BoolOp .And (a :: b :: rest) pos) (TEe C π W (mAndV ma mb)) :=
  pe_mono (pe_andT ha hb) fun σ H Q ⟨p, S, δ, hp, ok, re, po⟩ => TRe.go hp ok re po fun x S1 p1 H1 v k1 ok1 hp1 re1 r1 po1 => by
    cases e : truD S1 x with
    | none => rw [e] at po1; exact po1.elim
    | some k =>
      rw [e] at po1
      refine ⟨k, by rw [hK]; exact truD_rep ok1 r1 e, ?_⟩
      cases k with
      | true => exact ⟨p1, S1, δ, hp1, ok1, re1, po1⟩
      | false => exact po1 p1 H1 _ (Step.refl _ _) ok1 r1
theorem e_or (hK : X.K = C.K) (ha : PE X a (TEe C π W ma)) (hb : PE X (.BoolOp .Or (b :: rest) pos) (TEe C π W mb)) : PE X (.BoolOp .Or (a :: b :: rest) pos) (TEe C π W (mOrV ma mb)) :=
  pe_mono (pe_orT ha hb) fun σ H Q ⟨p, S, δ, hp, ok, re, po⟩ => TRe.go hp ok re po fun x S1 p1 H1 v k1 ok1 hp1 re1 r1 po1 => by
    cases e : truD S1 x with
    | none => rw [e] at po1; exact po1.elim
    | some k =>
      rw [e] at po1
      refine ⟨k, by rw [hK]; exact truD_rep ok1 r1 e, ?_⟩
      cases k with
      | true => exact po1 p1 H1 _ (Step.refl _ _) ok1 r1
      | false => exact ⟨p1, S1, δ, hp1, ok1, re1, po1⟩
theorem e_not (hK : X.K = C.K) (ha : PE X a (TEe C π W ma)) : PE X (.UnaryOp .Not a pos) (TEe C π W (mNotV ma)) :=
  pe_mono (pe_notT ha) fun σ H Q ⟨p, S, δ, hp, ok, re, po⟩ => TRe.go hp ok re po fun x S1 p1 H1 v k1 ok1 hp1 re1 r1 po1 => by
    cases e : truD S1 x with
    | none => rw [e] at po1; exact po1.elim
    | some k =>
      rw [e] at po1
      exact ⟨k, by rw [hK]; exact truD_rep ok1 r1 e, po1 p1 H1 _ (Step.refl _ _) ok1 (by simp only [Rep])⟩

/-! ### calls of what is built in -/
theorem e_cb {id : String} {x : Str} {g : Store → List D → Option D} {e : Expr} {p : Pos} (hc : CallR X (.builtin id) (rVs C g)) (hg : Gl X x) (hm : X.mg x = none) (hv : bootBuiltins x = some (.builtin id)) (ha : PA X (e :: es) (TAe C π W ms)) (hn : x ≠ "__name__" := by decide) (hdb : (x == ("__debug__" : Str)) = false := by decide)
    (he : starEach (e :: es) X.env = (false, eval e X.env) :: starEach es X.env := by rfl) (hpl : (backTo pos (starEach es X.env)).any (·.1) = false := by rfl) : PE X (.Call (.Name x p) (e :: es) [] pos) (TEe C π W (mCB g ms)) :=
  pe_mono (pe_callB hc hg hm hv ha hn hdb he hpl) fun σ H Q ⟨p, S, δ, hp, ok, re, po⟩ => TRe.go hp ok re po fun x S1 p1 H1 v k1 ok1 hp1 re1 r1 po1 => by
    obtain ⟨d, e, q⟩ := po1.out
    exact ⟨p1, S1, x, d, ok1, r1, e, q⟩
theorem e_ct {T : String} {x : Str} {g : Store → List D → Option D} {e : Expr} {p : Pos} (hc : CallR X (.type T) (rVs C g)) (hg : Gl X x) (hm : X.mg x = none) (hv : bootBuiltins x = some (.type T)) (ha : PA X (e :: es) (TAe C π W ms)) (hn : x ≠ "__name__" := by decide) (hdb : (x == ("__debug__" : Str)) = false := by decide)
    (he : starEach (e :: es) X.env = (false, eval e X.env) :: starEach es X.env := by rfl) (hpl : (backTo pos (starEach es X.env)).any (·.1) = false := by rfl) : PE X (.Call (.Name x p) (e :: es) [] pos) (TEe C π W (mCB g ms)) :=
  pe_mono (pe_callTy hc hg hm hv ha hn hdb he hpl) fun σ H Q ⟨p, S, δ, hp, ok, re, po⟩ => TRe.go hp ok re po fun x S1 p1 H1 v k1 ok1 hp1 re1 r1 po1 => by
    obtain ⟨d, e, q⟩ := po1.out
    exact ⟨p1, S1, x, d, ok1, r1, e, q⟩
/-- a[b] -/
theorem e_ix {g : Store → D → D → Option D} (hr : IxR X (rV2 C g)) (ha : PE X a (TEe C π W ma)) (hb : PE X b (TEe C π W mb)) (hs : PlainIx b) : PE X (.Subscript a b pos) (TEe C π W (mOp g ma mb)) :=
  pe_mono (pe_ix hr ha hb hs) fun σ H Q ⟨p, S, δ, hp, ok, re, po⟩ => TRe.go hp ok re po fun x S1 p1 H1 v k1 ok1 hp1 re1 r1 po1 => TRe.go hp1 ok1 re1 po1 fun y S2 p2 H2 w k2 ok2 hp2 re2 r2 po2 => by
    obtain ⟨d, e, q⟩ := po2.out
    exact ⟨p2, S2, x, y, d, ok2, r1.keep k2, r2, e, q⟩
end

open PySem PySem.Spec PyProof.Rows L2

/-! ### statements -/
inductive SR where
  | nx (δ : Env) (S : Store) | rt (d : D) (S : Store) | bk (δ : Env) (S : Store) | ct (δ : Env) (S : Store) | exc (c : Nat) (d : D) (δ : Env) (S : Store) | stuck
abbrev SM := Env → Store → SR
def SR.of {α : Type} (r : Res α) (δ : Env) (k : α → Store → SR) : SR := match r with
  | .ok a S => k a S
  | .exc c d S => .exc c d δ S
  | .stuck => .stuck
def PostS (C : Cst) (W : WX) (p : Pl) (H : Hp) (D : Ends) : SR → Prop
  | .nx δ' S' => ∀ p' H' σ', Step p H p' H' → Ok C p' S' H' → REnv C p' H' δ' σ' → D.nx σ' H'
  | .rt d S' => ∀ p' H' v, Step p H p' H' → Ok C p' S' H' → Rep C p' H' d v → D.rt v H'
  | .bk δ' S' => ∀ p' H' σ', Step p H p' H' → Ok C p' S' H' → REnv C p' H' δ' σ' → D.bk σ' H'
  | .ct δ' S' => ∀ p' H' σ', Step p H p' H' → Ok C p' S' H' → REnv C p' H' δ' σ' → D.ct σ' H'
  | .exc c d δ' S' => ∀ p' H' dx σ', Step p H p' H' → Ok C p' S' H' → REnv C p' H' δ' σ' → XRep C p' H' c d dx → W (.ref (C.ca c)) (some dx) σ' H'
  | .stuck => False
def TSe (C : Cst) (π : Option (Addr × Obj)) (W : WX) (m : SM) : TS := fun D σ H => ∃ p S δ, p.π = π ∧ Ok C p S H ∧ REnv C p H δ σ ∧ PostS C W p H D (m δ S)
section
variable {α β : Type} {C : Cst} {π : Option (Addr × Obj)} {W : WX} {p p' : Pl} {S : Store} {H H' : Hp} {σ : L2.St} {δ : Env} {D : Ends}
theorem PostS.step {r : SR} (s : Step p H p' H') (h : PostS C W p H D r) : PostS C W p' H' D r := by
  cases r with
  | nx δ S => exact fun p2 H2 b s2 o q => h p2 H2 b (s.trans s2) o q
  | rt d S => exact fun p2 H2 b s2 o q => h p2 H2 b (s.trans s2) o q
  | bk δ S => exact fun p2 H2 b s2 o q => h p2 H2 b (s.trans s2) o q
  | ct δ S => exact fun p2 H2 b s2 o q => h p2 H2 b (s.trans s2) o q
  | exc c d δ S => exact fun p2 H2 dx b s2 o q x => h p2 H2 dx b (s.trans s2) o q x
  | stuck => exact h
/-- an expression in a statement -/
theorem TRe.st {R1 : Pl → Hp → α → β → Prop} {Q1 : β → Hp → Prop} {m : Env → M α} {f : α → Store → SR} (hp : p.π = π) (ok : Ok C p S H) (re : REnv C p H δ σ) (po : PostS C W p H D (SR.of (m δ S) δ f))
    (k : ∀ a S1 p' H' b, Step p H p' H' → Keep C.K p H p' H' → Ok C p' S1 H' → p'.π = π → REnv C p' H' δ σ → R1 p' H' a b → PostS C W p' H' D (f a S1) → Q1 b H') : TRe C π W R1 m σ H Q1 := by
  refine ⟨p, S, δ, hp, ok, re, ?_⟩
  cases e : m δ S with
  | ok a S1 =>
    rw [e] at po
    exact fun p' H' b s o q => k a S1 p' H' b s (s.keep ok) o (s.err.trans hp) (re.keep (s.keep ok)) q (PostS.step s po)
  | exc c d S1 =>
    rw [e] at po
    exact fun p' H' dx s o x => po p' H' dx σ s o (re.keep (s.keep ok)) x
  | stuck =>
    rw [e] at po
    exact po.elim
end
theorem ps_mono {X : Cx} {st : Stmt} {t t' : TS} (h : PS X st t) (k : ∀ D σ H, t' D σ H → t D σ H) : PS X st t' := ⟨fun pins s σ H D I hw => h.run pins s σ H D I (k D σ H hw)⟩
theorem pss_mono {X : Cx} {st : List Stmt} {t t' : TS} (h : PSs X st t) (k : ∀ D σ H, t' D σ H → t D σ H) : PSs X st t' := ⟨fun pins s σ H D I hw => h.run pins s σ H D I (k D σ H hw)⟩

def sNext : SM := fun δ S => .nx δ S
def sSeq (a b : SM) : SM := fun δ S => match a δ S with
  | .nx δ' S' => b δ' S'
  | r => r
def sRet (e : EM D) : SM := fun δ S => SR.of (e δ S) δ fun d S1 => .rt d S1
def sRetN : SM := fun _ S => .rt .non S
def sDrop (e : EM D) : SM := fun δ S => SR.of (e δ S) δ fun _ S1 => .nx δ S1
def sIf (c : EM Bool) (a b : SM) : SM := fun δ S => SR.of (c δ S) δ fun k S1 => if k = true then a δ S1 else b δ S1
def sBrk : SM := fun δ S => .bk δ S
def sCt : SM := fun δ S => .ct δ S
def sStuck : SM := fun _ _ => .stuck

/-! ### targets -/
abbrev GM := D → Env → M Env
def gmName (i : Nat) : GM := fun d δ S => .ok (δ.set i (some d)) S
abbrev GMs := List D → Env → M Env
def gmNil : GMs := fun ds δ S => match ds with
  | [] => .ok δ S
  | _ => .stuck
def gmCons (g : GM) (h : GMs) : GMs := fun ds δ S => match ds with
  | d :: r => (g d δ S).bind fun δ1 S1 => h r δ1 S1
  | [] => .stuck
def gmTup (n : Nat) (g : GMs) : GM := fun d δ S => match d with
  | .tup ds => if ds.length = n then g ds δ S else .stuck
  | _ => .stuck
def PostG (C : Cst) (p : Pl) (H : Hp) (σ : L2.St) (ts : List Nat) (Q : L2.St → Hp → Prop) : Res Env → Prop
  | .ok δ' S' => ∀ p' H' σ', Step p H p' H' → Ok C p' S' H' → REnv C p' H' δ' σ' → wipe σ' ts = wipe σ ts → Q σ' H'
  | _ => False
/-- ts: the slots that are set -/
def TGe (C : Cst) (π : Option (Addr × Obj)) (ts : List Nat) (g : GM) : TG := fun v σ H Q => ∃ p S δ d, p.π = π ∧ Ok C p S H ∧ REnv C p H δ σ ∧ Rep C p H d v ∧ PostG C p H σ ts Q (g d δ S)
def TGse (C : Cst) (π : Option (Addr × Obj)) (ts : List Nat) (g : GMs) : TGs := fun vs σ H Q => ∃ p S δ ds, p.π = π ∧ Ok C p S H ∧ REnv C p H δ σ ∧ RepL C p H ds vs ∧ PostG C p H σ ts Q (g ds δ S)
theorem wipe_set {σ : L2.St} {i : Nat} {x : Option V} : ∀ {ts : List Nat}, i ∈ ts → wipe (σ.set i x) ts = wipe σ ts
  | t :: ts, h => by
    by_cases hi : i ∈ ts
    · show (wipe (σ.set i x) ts).set t none = (wipe σ ts).set t none
      rw [wipe_set hi]
    · have e : i = t := (List.mem_cons.mp h).elim id fun z => absurd z hi
      subst e
      have push : ∀ {ts : List Nat}, i ∉ ts → wipe (σ.set i x) ts = (wipe σ ts).set i x := fun {ts} => by
        induction ts with
        | nil => intro _; rfl
        | cons t ts ih =>
          intro h
          have h1 : i ≠ t := fun z => h (by simp [z])
          have h2 : i ∉ ts := fun z => h (List.mem_cons_of_mem _ z)
          show (wipe (σ.set i x) ts).set t none = ((wipe σ ts).set t none).set i x
          rw [ih h2, List.set_comm _ _ h1]
      show (wipe (σ.set i x) ts).set i none = (wipe σ ts).set i none
      rw [push hi, List.set_set]
theorem REnv.set {C : Cst} {p : Pl} {H : Hp} {δ : Env} {σ : L2.St} {d : D} {v : V} {i : Nat} (re : REnv C p H δ σ) (r : Rep C p H d v) : REnv C p H (δ.set i (some d)) (σ.set i (some v)) := by
  refine ⟨by simp [re.1], fun j e h => ?_⟩
  by_cases hj : j = i
  · subst hj
    have hl : j < δ.length := by
      have := (List.getElem?_eq_some_iff.mp h).1
      simpa using this
    rw [List.getElem?_set_self hl] at h
    cases h
    exact ⟨v, by rw [List.getElem?_set_self (by rw [← re.1]; exact hl)], r⟩
  · rw [List.getElem?_set_ne (Ne.symm hj)] at h
    obtain ⟨u, e2, q⟩ := re.2 j e h
    exact ⟨u, by rw [List.getElem?_set_ne (Ne.symm hj)]; exact e2, q⟩
theorem PostG.step {C : Cst} {p p' : Pl} {H H' : Hp} {Q : L2.St → Hp → Prop} {σ σ' : L2.St} {ts : List Nat} {r : Res Env} (s : Step p H p' H') (e : wipe σ' ts = wipe σ ts) (h : PostG C p H σ ts Q r) : PostG C p' H' σ' ts Q r := by
  cases r with
  | ok δ S => exact fun p2 H2 b s2 o q w => h p2 H2 b (s.trans s2) o q (w.trans e)
  | exc c d S => exact h
  | stuck => exact h
theorem pg_mono {X : Cx} {e : Expr} {t t' : TG} (h : PG X e t) (k : ∀ v σ H Q, t' v σ H Q → t v σ H Q) : PG X e t' := ⟨fun pins s σ H v u Q I r hw => h.run pins s σ H v u Q I r (k v σ H Q hw)⟩
theorem pgs_mono {X : Cx} {e : List Expr} {t t' : TGs} (h : PGs X e t) (k : ∀ v σ H Q, t' v σ H Q → t v σ H Q) : PGs X e t' := ⟨fun pins s σ H v u Q I r hw => h.run pins s σ H v u Q I r (k v σ H Q hw)⟩
section
variable {X : Cx} {C : Cst} {π : Option (Addr × Obj)} {W : WX} {pos : Pos} {e : Expr} {es : List Expr} {m : EM D} {g : GM} {gs : GMs} {ts : List Nat}
theorem g_name {i : Nat} {x : Str} (hN : X.N.Nodup) (hi : X.N[i]? = some x) (hx : Loc X.env.scope x) (hf : X.fn x = true ∨ X.env.scope.names.lookup x = some .local) (ht : i ∈ ts) : PG X (.Name x pos) (TGe C π ts (gmName i)) :=
  pg_mono (pg_name hN hi hx hf) fun v σ H Q ⟨p, S, δ, d, hp, ok, re, r, po⟩ => po p H _ (Step.refl _ _) ok (re.set r) (wipe_set ht)
theorem gs_nil : PGs X [] (TGse C π ts gmNil) := pgs_mono pgs_nil fun vs σ H Q ⟨p, S, δ, ds, hp, ok, re, r, po⟩ => by
  cases ds with
  | nil => simp only [RepL] at r; exact ⟨r, po p H σ (Step.refl _ _) ok re rfl⟩
  | cons d ds => exact po.elim
theorem gs_cons (h1 : PG X e (TGe C π ts g)) (h2 : PGs X es (TGse C π ts gs)) (hs : (assignEach (e :: es) X.env).map (·.2) = assign e X.env :: (assignEach es X.env).map (·.2) := by rfl) : PGs X (e :: es) (TGse C π ts (gmCons g gs)) :=
  pgs_mono (pgs_cons h1 h2 hs) fun vs σ H Q ⟨p, S, δ, ds, hp, ok, re, r, po⟩ => by
    cases ds with
    | nil => exact po.elim
    | cons d ds =>
      simp only [RepL] at r
      obtain ⟨v, vr, rfl, r1, r2⟩ := r
      refine ⟨v, vr, rfl, p, S, δ, d, hp, ok, re, r1, ?_⟩
      have po' : PostG C p H σ ts Q ((g d δ S).bind fun δ1 S1 => gs ds δ1 S1) := po
      cases e1 : g d δ S with
      | ok δ1 S1 =>
        rw [e1] at po'
        exact fun p' H' σ' s o q w => ⟨p', S1, δ1, ds, s.err.trans hp, o, q, RepL.keep (s.keep ok) ds vr r2, PostG.step s w po'⟩
      | exc => rw [e1] at po'; exact po'.elim
      | stuck => rw [e1] at po'; exact po'.elim
theorem g_tup {k n : Nat} (hK : X.K = C.K) (hc : X.calm = true) (h : PGs X es (TGse C π ts gs)) (hn : (assignEach es X.env).length = n := by rfl) (hst : (assignEach es X.env).findIdx? (·.1) = none := by rfl) : PG X (.Tuple es k pos) (TGe C π ts (gmTup n gs)) :=
  pg_mono (pg_tup hc h hn hst) fun v σ H Q ⟨p, S, δ, d, hp, ok, re, r, po⟩ => by
    cases d with
    | tup ds =>
      obtain ⟨a, vs, rfl, h1, h2⟩ := tup_rep r
      have po' : PostG C p H σ ts Q (if ds.length = n then gs ds δ S else .stuck) := po
      split at po'
      · rename_i z
        exact ⟨a, vs, rfl, by rw [hK]; exact h1, by rw [← h2.length]; exact z, p, S, δ, ds, hp, ok, re, h2, po'⟩
      · exact po'.elim
    | _ => exact po.elim

/-! ### small statements -/
variable {st : Stmt} {rest : List Stmt} {a b : SM}
theorem z_nil : PSs X [] (TSe C π W sNext) := pss_mono pss_nil fun D σ H ⟨p, S, δ, hp, ok, re, po⟩ => po p H σ (Step.refl _ _) ok re
theorem z_cons (h1 : PS X st (TSe C π W a)) (h2 : PSs X rest (TSe C π W b)) : PSs X (st :: rest) (TSe C π W (sSeq a b)) :=
  pss_mono (pss_cons h1 h2) fun D σ H ⟨p, S, δ, hp, ok, re, po⟩ => by
    refine ⟨p, S, δ, hp, ok, re, ?_⟩
    unfold sSeq at po
    cases e1 : a δ S with
    | nx δ' S' =>
      rw [e1] at po
      exact fun p' H' σ' s o q => ⟨p', S', δ', s.err.trans hp, o, q, PostS.step s po⟩
    | rt d S' => rw [e1] at po; exact po
    | bk δ' S' => rw [e1] at po; exact po
    | ct δ' S' => rw [e1] at po; exact po
    | exc c d δ' S' => rw [e1] at po; exact po
    | stuck => rw [e1] at po; exact po.elim
theorem z_one (h1 : PS X st (TSe C π W a)) : PSs X [st] (TSe C π W a) := pss_one h1
theorem z_pass : PS X (.Pass pos) (TSe C π W sNext) := ps_mono ps_pass fun D σ H ⟨p, S, δ, hp, ok, re, po⟩ => po p H σ (Step.refl _ _) ok re
theorem z_brk : PS X (.Break pos) (TSe C π W sBrk) := ps_mono ps_break fun D σ H ⟨p, S, δ, hp, ok, re, po⟩ => po p H σ (Step.refl _ _) ok re
theorem z_ct : PS X (.Continue pos) (TSe C π W sCt) := ps_mono ps_continue fun D σ H ⟨p, S, δ, hp, ok, re, po⟩ => po p H σ (Step.refl _ _) ok re
theorem z_doc {x j pos pos'} : PS X (.Expr (.Constant (.str x) j pos) pos') (TSe C π W sNext) := ps_mono ps_doc fun D σ H ⟨p, S, δ, hp, ok, re, po⟩ => po p H σ (Step.refl _ _) ok re
/-- a statement that is never come to -/
theorem z_never : PS X st (TSe C π W sStuck) := ps_mono ps_never fun D σ H ⟨p, S, δ, hp, ok, re, po⟩ => po.elim
theorem z_ret (he : PE X e (TEe C π W m)) : PS X (.Return (some e) pos) (TSe C π W (sRet m)) :=
  ps_mono (ps_ret he) fun D σ H ⟨p, S, δ, hp, ok, re, po⟩ => TRe.st hp ok re po fun d S1 p1 H1 v s1 k1 ok1 hp1 re1 r1 po1 => po1 p1 H1 v (Step.refl _ _) ok1 r1
theorem z_retN : PS X (.Return none pos) (TSe C π W sRetN) := ps_mono ps_retN fun D σ H ⟨p, S, δ, hp, ok, re, po⟩ => po p H .non (Step.refl _ _) ok (by simp only [Rep])
theorem z_expr (he : PE X e (TEe C π W m)) (hs : swapsWith e none pos.line X.env = pure false := by rfl) : PS X (.Expr e pos) (TSe C π W (sDrop m)) :=
  ps_mono (ps_expr he hs) fun D σ H ⟨p, S, δ, hp, ok, re, po⟩ => TRe.st hp ok re po fun d S1 p1 H1 v s1 k1 ok1 hp1 re1 r1 po1 => po1 p1 H1 σ (Step.refl _ _) ok1 re1
theorem z_if {c : Expr} {t : EM Bool} {s1 s2 : List Stmt} (hc : PT X c (TTe C π W t)) (ha : PSs X s1 (TSe C π W a)) (hb : PSs X s2 (TSe C π W b)) : PS X (.If c s1 s2 pos) (TSe C π W (sIf t a b)) :=
  ps_mono (ps_if hc ha hb) fun D σ H ⟨p, S, δ, hp, ok, re, po⟩ => TRe.st hp ok re po fun d S1 p1 H1 v s1 k1 ok1 hp1 re1 r1 po1 => by
    subst r1
    cases d with
    | true => exact ⟨p1, S1, δ, hp1, ok1, re1, po1⟩
    | false => exact ⟨p1, S1, δ, hp1, ok1, re1, po1⟩
/-- target = e -/
def sAsg (m : EM D) (g : GM) : SM := fun δ S => SR.of (m δ S) δ fun d S1 => match g d δ S1 with
  | .ok δ' S' => .nx δ' S'
  | _ => .stuck
theorem postG_of {C : Cst} {W : WX} {p : Pl} {H : Hp} {D : Ends} {σ : L2.St} {ts : List Nat} {r : Res Env} (h : PostS C W p H D (match r with | .ok δ' S' => SR.nx δ' S' | _ => SR.stuck)) : PostG C p H σ ts D.nx r := by
  cases r with
  | ok δ S => exact fun p' H' σ' s o q _ => h p' H' σ' s o q
  | exc => exact h.elim
  | stuck => exact h.elim
theorem z_asg {tg : Expr} (he : PE X e (TEe C π W m)) (hg : PG X tg (TGe C π ts g)) (hs : swapsWithSole [tg] e pos.line X.env = pure false := by rfl) (hw : swappedStores [tg] e X.env = pure none := by rfl) (h1 : (assignEach [tg] X.env).map (·.2) = [assign tg X.env] := by rfl) :
    PS X (.Assign [tg] e pos) (TSe C π W (sAsg m g)) :=
  ps_mono (ps_asg he hg hs hw h1) fun D σ H ⟨p, S, δ, hp, ok, re, po⟩ => TRe.st hp ok re po fun d S1 p1 H1 v s1 k1 ok1 hp1 re1 r1 po1 => ⟨p1, S1, δ, d, hp1, ok1, re1, r1, postG_of po1⟩
theorem z_set {i : Nat} {x : Str} {pos' : Pos} (hN : X.N.Nodup) (hi : X.N[i]? = some x) (hx : Loc X.env.scope x) (he : PE X e (TEe C π W m)) (hs : swapsWith e (some (.Name x pos')) pos.line X.env = pure false := by rfl) (hf : X.fn x = true ∨ X.env.scope.names.lookup x = some .local) :
    PS X (.Assign [.Name x pos'] e pos) (TSe C π W (sAsg m (gmName i))) :=
  ps_mono (ps_set hN hi hx he hs hf) fun D σ H ⟨p, S, δ, hp, ok, re, po⟩ => TRe.st hp ok re po fun d S1 p1 H1 v s1 k1 ok1 hp1 re1 r1 po1 => po1 p1 H1 _ (Step.refl _ _) ok1 (re1.set r1)
/-- x, y = a, b stored from the right -/
def sPar (i j : Nat) (ms : EM (List D)) : SM := fun δ S => SR.of (ms δ S) δ fun ds S1 => match ds with
  | [d, e] => .nx ((δ.set i (some d)).set j (some e)) S1
  | _ => .stuck
theorem z_par {i j : Nat} {x y : Str} {e1 e2 : Expr} {ms : EM (List D)} {px py pt : Pos} {kt k2 pt2} (hc : X.calm = true) (hN : X.N.Nodup) (hi : X.N[i]? = some x) (hj : X.N[j]? = some y) (hij : i ≠ j)
    (hx : X.env.scope.names.lookup x = some .local) (hy : X.env.scope.names.lookup y = some .local) (ha : PA X [e1, e2] (TAe C π W ms))
    (hw : swappedStores [.Tuple [.Name x px, .Name y py] kt pt] (.Tuple [e1, e2] k2 pt2) X.env = pure (some [x, y]))
    (hs : swapsWithSole [.Tuple [.Name x px, .Name y py] kt pt] (.Tuple [e1, e2] k2 pt2) pos.line X.env = pure false := by rfl) :
    PS X (.Assign [.Tuple [.Name x px, .Name y py] kt pt] (.Tuple [e1, e2] k2 pt2) pos) (TSe C π W (sPar i j ms)) :=
  ps_mono (ps_par hc hN hi hj hij hx hy ha hw hs) fun D σ H ⟨p, S, δ, hp, ok, re, po⟩ => TRe.st hp ok re po fun ds S1 p1 H1 vs s1 k1 ok1 hp1 re1 r1 po1 => by
    split at po1
    · rename_i d d2
      obtain ⟨v, w, rfl, q1, q2⟩ := r1.two
      exact ⟨v, w, rfl, po1 p1 H1 _ (Step.refl _ _) ok1 ((re1.set q1).set q2)⟩
    · exact po1.elim
/-- x op= e -/
def sAug (i : Nat) (g : Store → D → D → Option D) (m : EM D) : SM := fun δ S => match δ[i]? with
  | some (some x) => SR.of (m δ S) δ fun y S1 => match g S1 x y with
    | some z => .nx (δ.set i (some z)) S1
    | none => .stuck
  | _ => .stuck
theorem z_aug {i : Nat} {x : Str} {op : Operator} {gg : Store → D → D → Option D} {pos' : Pos} (hN : X.N.Nodup) (hi : X.N[i]? = some x) (hx : Loc X.env.scope x) (he : PE X e (TEe C π W m)) (ho : PIp X op (rV2 C gg)) (hf : X.fn x = true ∨ X.env.scope.names.lookup x = some .local) :
    PS X (.AugAssign (.Name x pos') op e pos) (TSe C π W (sAug i gg m)) :=
  ps_mono (ps_aug hN hi hx he ho hf) fun D σ H ⟨p, S, δ, hp, ok, re, po⟩ => by
    unfold sAug at po
    split at po
    · rename_i dx e1
      obtain ⟨v, ev, rv⟩ := re.2 i dx e1
      refine ⟨v, ev, TRe.st hp ok re po fun dy S1 p1 H1 w s1 k1 ok1 hp1 re1 r1 po1 => ?_⟩
      split at po1
      · rename_i z ez
        exact ⟨p1, S1, dx, dy, z, ok1, rv.keep k1, r1, ez, fun p' H' u s o r => po1 p' H' _ s o ((re1.keep (s.keep ok1)).set r)⟩
      · exact po1.elim
    · exact po.elim

/-! ### while -/
def sWhile (c : EM Bool) (b : SM) : Nat → SM
  | 0 => fun _ _ => .stuck
  | n + 1 => fun δ S => SR.of (c δ S) δ fun k S1 => if k = true then (match b δ S1 with
    | .nx δ' S' => sWhile c b n δ' S'
    | .ct δ' S' => sWhile c b n δ' S'
    | .bk δ' S' => .nx δ' S'
    | r => r) else .nx δ S1
theorem z_while {c : Expr} {t : EM Bool} {body : List Stmt} (n : Nat) (hp : PassesOwn (model X.prog X.w) X.A X.env X.xe) (hc : PT X c (TTe C π W t)) (hb : PSs X body (TSe C π W b)) : PS X (.While c body [] pos) (TSe C π W (sWhile t b n)) :=
  ps_mono (ps_while hp hc hb) fun D σ H ⟨p, S, δ, hpi, ok, re, po⟩ => by
    refine ⟨fun k σ H => ∃ p S δ, p.π = π ∧ Ok C p S H ∧ REnv C p H δ σ ∧ PostS C W p H D (sWhile t b k δ S), ⟨n, p, S, δ, hpi, ok, re, po⟩, ?_⟩
    rintro k σ H ⟨p, S, δ, hpi, ok, re, po⟩
    cases k with
    | zero => exact po.elim
    | succ k =>
      refine TRe.st hpi ok re po fun d S1 p1 H1 v s1 k1 ok1 hp1 re1 r1 po1 => ?_
      subst r1
      cases d with
      | false => exact po1 p1 H1 σ (Step.refl _ _) ok1 re1
      | true =>
        refine ⟨fun σ H => ∃ p S δ, p.π = π ∧ Ok C p S H ∧ REnv C p H δ σ ∧ PostS C W p H D (sWhile t b k δ S), fun σ' H' h => ⟨k, Nat.lt_succ_self _, h⟩, p1, S1, δ, hp1, ok1, re1, ?_⟩
        have po2 : PostS C W p1 H1 D (match b δ S1 with
          | .nx δ' S' => sWhile t b k δ' S'
          | .ct δ' S' => sWhile t b k δ' S'
          | .bk δ' S' => .nx δ' S'
          | r => r) := po1
        cases e1 : b δ S1 with
        | nx δ' S' => rw [e1] at po2; exact fun p' H' σ' s o q => ⟨p', S', δ', s.err.trans hp1, o, q, PostS.step s po2⟩
        | ct δ' S' => rw [e1] at po2; exact fun p' H' σ' s o q => ⟨p', S', δ', s.err.trans hp1, o, q, PostS.step s po2⟩
        | bk δ' S' => rw [e1] at po2; exact po2
        | rt d S' => rw [e1] at po2; exact po2
        | exc c d δ' S' => rw [e1] at po2; exact po2
        | stuck => rw [e1] at po2; exact po2.elim
end

open PySem PySem.Spec PyProof.Rows L2

/-! ### what is walked -/
structure ItD where
  n : Nat
  item : Nat → Store → Option (Option D)
structure WalkOk (C : Cst) (p0 : Pl) (H0 : Hp) (it : ItD) (J : It) : Prop where
  stop : ∀ i p S H, Keep C.K p0 H0 p H → Ok C p S H → it.item i S = some none → J.stop i H
  go : ∀ i p S H d, Keep C.K p0 H0 p H → Ok C p S H → it.item i S = some (some d) → J.go i H
  yields : ∀ i p S H d x H', Keep C.K p0 H0 p H → Ok C p S H → it.item i S = some (some d) → J.yld i H x H' → Step p H p H' ∧ Ok C p S H' ∧ Rep C p H' d x
def PostI (C : Cst) (W : WX) (p : Pl) (H : Hp) (σ : L2.St) (R : It → Hp → Prop) : Res ItD → Prop
  | .ok it S' => ∀ p' H' J, Step p H p' H' → Ok C p' S' H' → WalkOk C p' H' it J → R J H'
  | .exc c d S' => ∀ p' H' dx, Step p H p' H' → Ok C p' S' H' → XRep C p' H' c d dx → W (.ref (C.ca c)) (some dx) σ H'
  | .stuck => False
def TIe (C : Cst) (π : Option (Addr × Obj)) (W : WX) (m : Env → M ItD) : TI := fun σ H R => ∃ p S δ, p.π = π ∧ Ok C p S H ∧ REnv C p H δ σ ∧ PostI C W p H σ R (m δ S)
theorem pi_mono {X : Cx} {tg e : Expr} {t t' : TI} (h : PI X tg e t) (k : ∀ σ H R, t' σ H R → t σ H R) : PI X tg e t' := ⟨fun pins s σ H R I hw => h.run pins s σ H R I (k σ H R hw)⟩
theorem pi_or {X : Cx} {tg e : Expr} {t t' : TI} (h : PI X tg e t) (h' : PI X tg e t') : PI X tg e (fun σ H R => t σ H R ∨ t' σ H R) := ⟨fun pins s σ H R I hw => hw.elim (h.run pins s σ H R I) (h'.run pins s σ H R I)⟩

def chars (x : Str) : List D := x.cps.toList.map fun c => .str ⟨#[c]⟩
def itL (ds : List D) : ItD := ⟨ds.length, fun i _ => some ds[i]?⟩
def itLoc (n l : Nat) : ItD := ⟨n, fun i S => match S[l]? with
  | some (.lst ds) => some ds[i]?
  | _ => none⟩
def itR (lo : Int) (n : Nat) : ItD := ⟨n, fun i _ => some (if i < n then some (.int (lo + i)) else none)⟩
def iterD (S : Store) : D → Option ItD
  | .tup ds => some (itL ds)
  | .lst ds => some (itL ds)
  | .rol ds => some (itL ds)
  | .str x => some (itL (chars x))
  | .loc l => match S[l]? with
    | some (.lst ds) => some (itLoc ds.length l)
    | _ => none
  | _ => none
def mIt (m : EM D) : EM ItD := fun δ S => (m δ S).bind fun d S1 => out (iterD S1 d) S1
def rangeD1 : List D → Option ItD
  | [.int j] => if -(2 ^ 62) ≤ j ∧ j < 2 ^ 62 then some (itR 0 j.toNat) else none
  | _ => none
def rangeD2 : List D → Option ItD
  | [.int i, .int j] => if -(2 ^ 62) ≤ i ∧ i < 2 ^ 62 ∧ -(2 ^ 62) ≤ j ∧ j < 2 ^ 62 then some (itR i (j - i).toNat) else none
  | _ => none
def mItA (g : List D → Option ItD) (m : EM (List D)) : EM ItD := fun δ S => (m δ S).bind fun d S1 => out (g d) S1

section
variable {C : Cst} {π : Option (Addr × Obj)} {W : WX} {p : Pl} {S : Store} {H : Hp} {σ : L2.St} {δ : Env}
theorem PostI.bind {α β : Type} {R1 : Pl → Hp → α → β → Prop} {R : It → Hp → Prop} {Q1 : β → Hp → Prop} {r : Res α} {f : α → M ItD} (h : PostI C W p H σ R (r.bind f))
    (k : ∀ a S1 p' H' b, Step p H p' H' → Ok C p' S1 H' → R1 p' H' a b → PostI C W p' H' σ R (f a S1) → Q1 b H') : Post C W p H σ R1 Q1 r := by
  cases r with
  | ok a S1 =>
    refine fun p' H' b s o q => k a S1 p' H' b s o q ?_
    have h' : PostI C W p H σ R (f a S1) := h
    cases e : f a S1 with
    | ok it S2 => rw [e] at h'; exact fun p2 H2 J s2 o2 w => h' p2 H2 J (s.trans s2) o2 w
    | exc c d S2 => rw [e] at h'; exact fun p2 H2 dx s2 o2 w => h' p2 H2 dx (s.trans s2) o2 w
    | stuck => rw [e] at h'; exact h'.elim
  | exc c d S1 => exact h
  | stuck => exact h.elim
theorem walk_seqL {K : PySem.W.Frag} {a : Addr} {vs : List V} {ds : List D} (hK : K = C.K) (h : ∀ p' H', Keep C.K p H p' H' → SqL K H' a vs) (r : RepL C p H ds vs) : WalkOk C p H (itL ds) (Itl K a) where
  stop := fun i p' S' H' k o e => ⟨vs, h p' H' k, by
    simp only [itL, Option.some.injEq] at e
    rw [← r.length]
    exact List.getElem?_eq_none_iff.mp e⟩
  go := fun i p' S' H' d k o e => by
    simp only [itL, Option.some.injEq] at e
    obtain ⟨v, ev, _⟩ := r.get e
    exact ⟨vs, v, h p' H' k, ev⟩
  yields := fun i p' S' H' d x H2 k o e y => by
    simp only [itL, Option.some.injEq] at e
    obtain ⟨v, ev, rv⟩ := r.get e
    obtain ⟨rfl, y2⟩ := y
    have z := y2 vs (h p' _ k)
    rw [ev] at z; cases z
    exact ⟨Step.refl _ _, o, rv.keep k⟩
theorem walk_seqT {K : PySem.W.Frag} {a : Addr} {vs : List V} {ds : List D} (h : ∀ p' H', Keep C.K p H p' H' → SqT K H' a vs) (r : RepL C p H ds vs) : WalkOk C p H (itL ds) (Itt K a) where
  stop := fun i p' S' H' k o e => ⟨vs, h p' H' k, by
    simp only [itL, Option.some.injEq] at e
    rw [← r.length]
    exact List.getElem?_eq_none_iff.mp e⟩
  go := fun i p' S' H' d k o e => by
    simp only [itL, Option.some.injEq] at e
    obtain ⟨v, ev, _⟩ := r.get e
    exact ⟨vs, v, h p' H' k, ev⟩
  yields := fun i p' S' H' d x H2 k o e y => by
    simp only [itL, Option.some.injEq] at e
    obtain ⟨v, ev, rv⟩ := r.get e
    obtain ⟨rfl, y2⟩ := y
    have z := y2 vs (h p' _ k)
    rw [ev] at z; cases z
    exact ⟨Step.refl _ _, o, rv.keep k⟩
theorem walk_loc {K : PySem.W.Frag} {a : Addr} {l n : Nat} (h : p.ρ[l]? = some a) : WalkOk C p H (itLoc n l) (Itl K a) where
  stop := fun i p' S' H' k o e => by
    simp only [itLoc] at e
    split at e
    · rename_i ds hs
      simp only [Option.some.injEq] at e
      obtain ⟨b, hb, vs, hv, r⟩ := o.cell l _ hs
      rw [k.get l a h] at hb; cases hb
      exact ⟨vs, .of hv, by rw [← r.length]; exact List.getElem?_eq_none_iff.mp e⟩
    · cases e
  go := fun i p' S' H' d k o e => by
    simp only [itLoc] at e
    split at e
    · rename_i ds hs
      simp only [Option.some.injEq] at e
      obtain ⟨b, hb, vs, hv, r⟩ := o.cell l _ hs
      rw [k.get l a h] at hb; cases hb
      obtain ⟨v, ev, _⟩ := r.get e
      exact ⟨vs, v, .of hv, ev⟩
    · cases e
  yields := fun i p' S' H' d x H2 k o e y => by
    simp only [itLoc] at e
    split at e
    · rename_i ds hs
      simp only [Option.some.injEq] at e
      obtain ⟨b, hb, vs, hv, r⟩ := o.cell l _ hs
      rw [k.get l a h] at hb; cases hb
      obtain ⟨v, ev, rv⟩ := r.get e
      obtain ⟨rfl, y2⟩ := y
      have z := y2 vs (.of hv)
      rw [ev] at z; cases z
      exact ⟨Step.refl _ _, o, rv⟩
    · cases e
theorem walk_rng {lo : Int} {n : Nat} : WalkOk C p H (itR lo n) (Itr lo n) where
  stop := fun i p' S' H' k o e => by
    simp only [itR, Option.some.injEq] at e
    split at e
    · cases e
    · rename_i z; exact Nat.le_of_not_lt z
  go := fun i p' S' H' d k o e => by
    simp only [itR, Option.some.injEq] at e
    split at e
    · rename_i z; exact z
    · cases e
  yields := fun i p' S' H' d x H2 k o e y => by
    simp only [itR, Option.some.injEq] at e
    split at e
    · cases e
      obtain ⟨rfl, rfl⟩ := y
      exact ⟨Step.refl _ _, o, by simp only [Rep]⟩
    · cases e
theorem walk_chars {x : Str} : WalkOk C p H (itL (chars x)) (Its x) where
  stop := fun i p' S' H' k o e => by
    simp only [itL, chars, Option.some.injEq, List.getElem?_map, Option.map_eq_none_iff] at e
    show x.cps.size ≤ i
    have := List.getElem?_eq_none_iff.mp e
    simpa using this
  go := fun i p' S' H' d k o e => by
    simp only [itL, chars, Option.some.injEq, List.getElem?_map, Option.map_eq_some_iff] at e
    obtain ⟨c, e, _⟩ := e
    show i < x.cps.size
    have := (List.getElem?_eq_some_iff.mp e).1
    simpa using this
  yields := fun i p' S' H' d v H2 k o e y => by
    simp only [itL, chars, Option.some.injEq, List.getElem?_map, Option.map_eq_some_iff] at e
    obtain ⟨c, e, rfl⟩ := e
    obtain ⟨rfl, c', e', rfl⟩ := y
    have z : x.cps[i]? = some c := by simpa using e
    rw [z] at e'; cases e'
    exact ⟨Step.refl _ _, o, by simp only [Rep]⟩
end
section
variable {X : Cx} {C : Cst} {π : Option (Addr × Obj)} {W : WX} {pos : Pos} {tg e : Expr} {m : EM D} {ms : EM (List D)}
/-- a tuple, a list, a text -/
theorem i_seq (hK : X.K = C.K) (he : PE X e (TEe C π W m)) : PI X tg e (TIe C π W (mIt m)) := by
  refine pi_mono (pi_or (pi_list he) (pi_or (pi_tup he) (pi_str he))) fun σ H R ⟨p, S, δ, hp, ok, re, po⟩ => ?_
  have lists : ∀ (Q : VK), (∀ d S1 p1 H1 v, Keep C.K p H p1 H1 → Ok C p1 S1 H1 → Rep C p1 H1 d v → PostI C W p1 H1 σ R (out (iterD S1 d) S1) → (m δ S = .ok d S1) → Q v H1) → TEe C π W m σ H Q := fun Q k => by
    refine ⟨p, S, δ, hp, ok, re, ?_⟩
    have po' : PostI C W p H σ R ((m δ S).bind fun d S1 => out (iterD S1 d) S1) := po
    cases e1 : m δ S with
    | ok d S1 =>
      rw [e1] at po'
      have po2 : PostI C W p H σ R (out (iterD S1 d) S1) := po'
      refine fun p' H' v s o r => k d S1 p' H' v (s.keep ok) o r ?_ e1
      cases e2 : iterD S1 d with
      | none => rw [e2] at po2; exact po2.elim
      | some it => rw [e2] at po2; exact fun p2 H2 J s2 o2 w => po2 p2 H2 J (s.trans s2) o2 w
    | exc c d S1 => rw [e1] at po'; exact po'
    | stuck => rw [e1] at po'; exact po'.elim
  have go : ∀ {d : D} {S1 : Store}, m δ S = .ok d S1 → iList X.K (TEe C π W m) σ H R ∨ iTup X.K (TEe C π W m) σ H R ∨ iStr (TEe C π W m) σ H R := fun {d S1} e1 => by
    cases d with
    | tup ds =>
      refine .inr (.inl (lists _ fun d' S1' p1 H1 v k1 ok1 r1 po1 e1' => ?_))
      rw [e1] at e1'; cases e1'
      obtain ⟨a, vs, rfl, h, q⟩ := tup_rep r1
      exact ⟨a, rfl, ⟨vs, by rw [hK]; exact h⟩, po1 p1 H1 _ (Step.refl _ _) ok1 (walk_seqT (fun p' H' k => by rw [hK]; exact sqT_keep k h) q)⟩
    | str x =>
      refine .inr (.inr (lists _ fun d' S1' p1 H1 v k1 ok1 r1 po1 e1' => ?_))
      rw [e1] at e1'; cases e1'
      simp only [Rep] at r1
      exact ⟨x, r1, po1 p1 H1 _ (Step.refl _ _) ok1 walk_chars⟩
    | lst ds =>
      refine .inl (lists _ fun d' S1' p1 H1 v k1 ok1 r1 po1 e1' => ?_)
      rw [e1] at e1'; cases e1'
      have r1' := r1
      simp only [Rep] at r1'
      obtain ⟨a, vs, rfl, n1, n2, h, q⟩ := r1'
      exact ⟨a, rfl, ⟨vs, .of h⟩, po1 p1 H1 _ (Step.refl _ _) ok1 (walk_seqL hK (fun p' H' k => .of (k.lst a vs h n1 n2).1) q)⟩
    | rol ds =>
      refine .inl (lists _ fun d' S1' p1 H1 v k1 ok1 r1 po1 e1' => ?_)
      rw [e1] at e1'; cases e1'
      have r1' := r1
      simp only [Rep] at r1'
      obtain ⟨a, vs, rfl, h, q⟩ := r1'
      exact ⟨a, rfl, ⟨vs, by rw [hK]; exact h.sq⟩, po1 p1 H1 _ (Step.refl _ _) ok1 (walk_seqL hK (fun p' H' k => by rw [hK]; exact (k.rol a vs h).sq) q)⟩
    | loc l =>
      refine .inl (lists _ fun d' S1' p1 H1 v k1 ok1 r1 po1 e1' => ?_)
      rw [e1] at e1'; cases e1'
      simp only [iterD] at po1
      split at po1
      · rename_i ds hs
        obtain ⟨a, rfl, ha, vs, hv, q⟩ := locAt ok1 r1 hs
        exact ⟨a, rfl, ⟨vs, .of hv⟩, po1 p1 H1 _ (Step.refl _ _) ok1 (walk_loc ha)⟩
      · exact po1.elim
    | _ =>
      exfalso
      have po' : PostI C W p H σ R ((m δ S).bind fun d S1 => out (iterD S1 d) S1) := po
      rw [e1] at po'
      exact po'.elim
  cases e1 : m δ S with
  | ok d S1 => exact go e1
  | exc c d S1 =>
    refine .inl (lists _ fun d' S1' p1 H1 v k1 ok1 r1 po1 e1' => ?_)
    rw [e1] at e1'; cases e1'
  | stuck =>
    have po' : PostI C W p H σ R ((m δ S).bind fun d S1 => out (iterD S1 d) S1) := po
    rw [e1] at po'; exact po'.elim
theorem TIe.go {α β : Type} {R1 : Pl → Hp → α → β → Prop} {p : Pl} {S : Store} {H : Hp} {σ : L2.St} {δ : Env} {R : It → Hp → Prop} {Q1 : β → Hp → Prop} {m : Env → M α} {f : α → M ItD} (hp : p.π = π) (ok : Ok C p S H) (re : REnv C p H δ σ) (po : PostI C W p H σ R ((m δ S).bind f))
    (k : ∀ a S1 p' H' b, Keep C.K p H p' H' → Ok C p' S1 H' → R1 p' H' a b → PostI C W p' H' σ R (f a S1) → Q1 b H') : TRe C π W R1 m σ H Q1 :=
  ⟨p, S, δ, hp, ok, re, PostI.bind po fun a S1 p' H' b s o q po2 => k a S1 p' H' b (s.keep ok) o q po2⟩
theorem i_rng1 {a : Expr} {q : Pos} (hg : Gl X "range") (hm : X.mg "range" = none) (ha : PA X [a] (TAe C π W ms)) (hs : starEach [a] X.env = [(false, eval a X.env)] := by rfl) : PI X tg (.Call (.Name "range" q) [a] [] pos) (TIe C π W (mItA rangeD1 ms)) :=
  pi_mono (pi_range1 hg hm ha hs) fun σ H R ⟨p, S, δ, hp, ok, re, po⟩ => TIe.go hp ok re po fun ds S1 p1 H1 vs k1 ok1 r1 po1 => by
    unfold rangeD1 at po1
    split at po1
    · rename_i j
      split at po1
      · rename_i z
        obtain ⟨v, rfl, rv⟩ := r1.one
        simp only [Rep] at rv; subst rv
        exact ⟨j, rfl, z.1, z.2, po1 p1 H1 _ (Step.refl _ _) ok1 walk_rng⟩
      · exact po1.elim
    · exact po1.elim
theorem i_rng2 {a b : Expr} {q : Pos} (hg : Gl X "range") (hm : X.mg "range" = none) (ha : PA X [a, b] (TAe C π W ms)) (hs : starEach [a, b] X.env = [(false, eval a X.env), (false, eval b X.env)] := by rfl) (hs2 : starEach [b] X.env = [(false, eval b X.env)] := by rfl) :
    PI X tg (.Call (.Name "range" q) [a, b] [] pos) (TIe C π W (mItA rangeD2 ms)) :=
  pi_mono (pi_range2 hg hm ha hs hs2) fun σ H R ⟨p, S, δ, hp, ok, re, po⟩ => TIe.go hp ok re po fun ds S1 p1 H1 vs k1 ok1 r1 po1 => by
    unfold rangeD2 at po1
    split at po1
    · rename_i i j
      split at po1
      · rename_i z
        obtain ⟨v, w, rfl, rv, rw'⟩ := r1.two
        simp only [Rep] at rv rw'; subst rv; subst rw'
        exact ⟨i, j, rfl, z, po1 p1 H1 _ (Step.refl _ _) ok1 walk_rng⟩
      · exact po1.elim
    · exact po1.elim

/-! ### for -/
def forGo (it : ItD) (g : GM) (b : SM) : Nat → Nat → SM
  | 0, i => fun δ S => match it.item i S with
    | some none => .nx δ S
    | _ => .stuck
  | k + 1, i => fun δ S => match it.item i S with
    | some none => .nx δ S
    | some (some d) => (match g d δ S with
      | .ok δ1 S1 => (match b δ1 S1 with
        | .nx δ2 S2 => forGo it g b k (i + 1) δ2 S2
        | .ct δ2 S2 => forGo it g b k (i + 1) δ2 S2
        | .bk δ2 S2 => .nx δ2 S2
        | r => r)
      | _ => .stuck)
    | none => .stuck
def sFor (mi : EM ItD) (g : GM) (b : SM) : SM := fun δ S => SR.of (mi δ S) δ fun it S1 => forGo it g b it.n 0 δ S1
theorem z_for {iter : Expr} {mi : EM ItD} {g : GM} {b : SM} {ts : List Nat} {body : List Stmt} (hp : PassesOwn (model X.prog X.w) X.A X.env X.xe) (hc : X.calm = true) (hi : PI X tg iter (TIe C π W mi)) (hg : PG X tg (TGe C π ts g)) (hb : PSs X body (TSe C π W b))
    (hs : ∀ x, foldedSetIterable iter X.env x = pure x := by intro _; rfl) : PS X (.For tg iter body [] pos) (TSe C π W (sFor mi g b)) :=
  ps_mono (ps_forE hp hc hi hg hb pss_nil hs) fun D σ H ⟨p, S, δ, hpi, ok, re, po⟩ => by
    refine ⟨p, S, δ, hpi, ok, re, ?_⟩
    unfold sFor at po
    cases e1 : mi δ S with
    | stuck => rw [e1] at po; exact po.elim
    | exc c d S1 => rw [e1] at po; exact fun p' H' dx s o x => po p' H' dx σ s o (re.keep (s.keep ok)) x
    | ok it S1 =>
      rw [e1] at po
      have po0 : PostS C W p H D (forGo it g b it.n 0 δ S1) := po
      intro p0 H0 J s0 ok0 w
      refine ⟨fun i k σ H => ∃ p S δ, p.π = π ∧ Step p0 H0 p H ∧ Ok C p S H ∧ REnv C p H δ σ ∧ PostS C W p H D (forGo it g b k i δ S), ⟨it.n, p0, S1, δ, s0.err.trans hpi, Step.refl _ _, ok0, re.keep (s0.keep ok), PostS.step s0 po0⟩, ?_⟩
      rintro i k σ H ⟨p, S, δ, hpi, st, ok, re, po⟩
      have kp := st.keep ok0
      have stopped : it.item i S = some none → PostS C W p H D (.nx δ S) → J.stop i H ∧ D.nx σ H := fun e q => ⟨w.stop i p S H kp ok e, q p H σ (Step.refl _ _) ok re⟩
      cases k with
      | zero =>
        unfold forGo at po
        cases e2 : it.item i S with
        | none => rw [e2] at po; exact po.elim
        | some o =>
          rw [e2] at po
          cases o with
          | none => exact .inl (stopped e2 po)
          | some d => exact po.elim
      | succ k =>
        unfold forGo at po
        cases e2 : it.item i S with
        | none => rw [e2] at po; exact po.elim
        | some o =>
          rw [e2] at po
          cases o with
          | none => exact .inl (stopped e2 po)
          | some d =>
            refine .inr ⟨w.go i p S H d kp ok e2, fun σ H => ∃ p S δ, p.π = π ∧ Step p0 H0 p H ∧ Ok C p S H ∧ REnv C p H δ σ ∧ PostS C W p H D (forGo it g b k (i + 1) δ S), fun σ' H' h => ⟨k, Nat.lt_succ_self _, h⟩, fun x H' y => ?_⟩
            obtain ⟨s2, ok2, rx⟩ := w.yields i p S H d x H' kp ok e2 y
            refine ⟨p, S, δ, d, hpi, ok2, re.keep (s2.keep ok), rx, ?_⟩
            dsimp only at po
            cases e3 : g d δ S with
            | stuck => rw [e3] at po; exact po.elim
            | exc => rw [e3] at po; exact po.elim
            | ok δ1 S3 =>
              rw [e3] at po
              dsimp only at po
              intro p3 H3 σ3 s3 ok3 re3 _
              have s03 := (st.trans s2).trans s3
              have po3 := PostS.step (s2.trans s3) po
              refine ⟨p3, S3, δ1, (s2.trans s3).err.trans hpi, ok3, re3, ?_⟩
              cases e4 : b δ1 S3 with
              | nx δ' S' => rw [e4] at po3; exact fun p' H' σ' s o q => ⟨p', S', δ', (s.err.trans ((s2.trans s3).err.trans hpi)), s03.trans s, o, q, PostS.step s po3⟩
              | ct δ' S' => rw [e4] at po3; exact fun p' H' σ' s o q => ⟨p', S', δ', (s.err.trans ((s2.trans s3).err.trans hpi)), s03.trans s, o, q, PostS.step s po3⟩
              | bk δ' S' => rw [e4] at po3; exact po3
              | rt d S' => rw [e4] at po3; exact po3
              | exc c d δ' S' => rw [e4] at po3; exact po3
              | stuck => rw [e4] at po3; exact po3.elim

/-! ### comprehensions -/
def compGo (it : ItD) (g : GM) (t : EM Bool) (e : EM D) (δ0 : Env) : Nat → Nat → List D → M (List D)
  | 0, i, acc => fun S => match it.item i S with
    | some none => .ok acc S
    | _ => .stuck
  | k + 1, i, acc => fun S => match it.item i S with
    | some none => .ok acc S
    | some (some d) => (match g d δ0 S with
      | .ok δ1 S1 => (match t δ1 S1 with
        | .ok b S2 => if b = true then (match e δ1 S2 with
          | .ok y S3 => if acc.length < sizeLine then compGo it g t e δ0 k (i + 1) (acc ++ [y]) S3 else .stuck
          | _ => .stuck) else compGo it g t e δ0 k (i + 1) acc S2
        | _ => .stuck)
      | _ => .stuck)
    | none => .stuck
def wipeE (δ : Env) : List Nat → Env
  | [] => δ
  | v :: vs => (wipeE δ vs).set v none
def mLc (mi : EM ItD) (g : GM) (t : EM Bool) (e : EM D) (vs : List Nat) : EM D := fun δ S => (mi δ S).bind fun it S1 => match compGo it g t e (wipeE δ vs) it.n 0 [] S1 with
  | .ok ds S2 => .ok (.lst ds) S2
  | _ => .stuck
/-- .. as a list that will change -/
def mLcN (mi : EM ItD) (g : GM) (t : EM Bool) (e : EM D) (vs : List Nat) : EM D := fun δ S => (mi δ S).bind fun it S1 => match compGo it g t e (wipeE δ vs) it.n 0 [] S1 with
  | .ok ds S2 => .ok (.loc S2.length) (S2 ++ [.lst ds])
  | _ => .stuck
def mYes : EM Bool := fun _ S => .ok true S
abbrev WF : WX := fun _ _ _ _ => False
theorem REnv.wipe {p : Pl} {H : Hp} {δ : Env} {σ : L2.St} (re : REnv C p H δ σ) : ∀ vs : List Nat, REnv C p H (wipeE δ vs) (L2.wipe σ vs)
  | [] => re
  | v :: vs => by
    have ih := REnv.wipe re vs
    refine ⟨by show ((wipeE δ vs).set v none).length = ((L2.wipe σ vs).set v none).length; simp [ih.1], fun i d h => ?_⟩
    have h : ((wipeE δ vs).set v none)[i]? = some (some d) := h
    show ∃ u, ((L2.wipe σ vs).set v none)[i]? = some (some u) ∧ _
    by_cases hi : v = i
    · subst hi
      by_cases hl : v < (wipeE δ vs).length
      · rw [List.getElem?_set_self hl] at h; cases h
      · rw [List.getElem?_eq_none (by simpa using hl)] at h; cases h
    · rw [List.getElem?_set_ne hi] at h ⊢
      exact ih.2 i d h
theorem wipe_wipe {σ : L2.St} : ∀ {vs : List Nat}, wipe (wipe σ vs) vs = wipe σ vs := fun {vs} => by
  have gen : ∀ (ws vs : List Nat), (∀ w ∈ ws, w ∈ vs) → wipe (wipe σ ws) vs = wipe σ vs := fun ws => by
    induction ws with
    | nil => intro vs _; rfl
    | cons w ws ih =>
      intro vs h
      show L2.wipe ((L2.wipe σ ws).set w none) vs = _
      rw [wipe_set (h w (by simp)), ih vs fun x hx => h x (List.mem_cons_of_mem _ hx)]
  exact gen vs vs fun _ h => h
theorem ts_nil {X : Cx} : PTs X [] (TTe C π W mYes) := ⟨fun pins s σ H Q I ⟨p, S, δ, hp, ok, re, po⟩ => pts_nil.run pins s σ H Q I (po p H true (Step.refl _ _) ok rfl)⟩
theorem ts_one {X : Cx} {c : Expr} {t : EM Bool} (h : PT X c (TTe C π W t)) : PTs X [c] (TTe C π W t) := pts_one h

/-- the store's part without a hidden address -/
abbrev Pl.un (p p0 : Pl) : Pl := { p with hid := p0.hid }
theorem Ok.unhid {p p0 : Pl} {S : Store} {H : Hp} {a : Addr} (h : p.hid = a :: p0.hid) (ok : Ok C p S H) : Ok C (p.un p0) S H := by
  have k : Keep C.K p H (p.un p0) H := ⟨fun l a h => h, fun a' o e n1 n2 m => n2 (by rw [h]; exact List.mem_cons_of_mem _ m), rfl, fun a xs h => h, fun a o xs h => h, fun a xs h => h, fun a vs h n1 n2 => ⟨h, n1⟩, fun a' vs h' => by
    rcases h' with ⟨h1, n1, n2⟩ | h' | h'
    · exact .inl ⟨h1, n1, fun m => n2 (by rw [h]; exact List.mem_cons_of_mem _ m)⟩
    · exact .inr (.inl h')
    · exact .inr (.inr h')⟩
  exact ⟨ok.len, ok.nd, fun l c e => let ⟨a, e2, r⟩ := ok.cell l c e; ⟨a, e2, r.keep k fun o q => q⟩, fun a' m => ok.hid a' (by rw [h]; exact List.mem_cons_of_mem _ m)⟩
theorem Keep.unhid {p p0 : Pl} {H : Hp} {a : Addr} (h : p.hid = a :: p0.hid) : Keep C.K p H (p.un p0) H :=
  ⟨fun l a h => h, fun a' o e n1 n2 m => n2 (by rw [h]; exact List.mem_cons_of_mem _ m), rfl, fun a xs h => h, fun a o xs h => h, fun a xs h => h, fun a vs h n1 n2 => ⟨h, n1⟩, fun a' vs h' => by
    rcases h' with ⟨h1, n1, n2⟩ | h' | h'
    · exact .inl ⟨h1, n1, fun m => n2 (by rw [h]; exact List.mem_cons_of_mem _ m)⟩
    · exact .inr (.inl h')
    · exact .inr (.inr h')⟩
theorem Keep.hide {p p0 : Pl} {S : Store} {H0 H : Hp} {a : Addr} (h : p.hid = a :: p0.hid) (n : H0 a = none) (ok : Ok C p0 S H0) (s : Step p0 H0 (p.un p0) H) : Keep C.K p0 H0 p H := by
  have k := s.keep ok
  refine ⟨k.get, fun b o e n1 n2 m => ?_, k.err, k.tup, k.ftup, k.xd, k.lst, fun b vs r => ?_⟩
  · rw [h] at m
    rcases List.mem_cons.mp m with z | z
    · rw [z, n] at e; cases e
    · exact n2 z
  · have r0 := r
    rcases k.rol b vs r with ⟨h1, n1, n2⟩ | h' | h'
    · rcases r0 with ⟨h0, _, _⟩ | ⟨o, h0⟩ | h0
      · refine .inl ⟨h1, n1, fun m => ?_⟩
        rw [h] at m
        rcases List.mem_cons.mp m with z | z
        · rw [z, n] at h0; cases h0
        · exact n2 z
      · exfalso
        have := s.frz b _ h0 fun m => by
          rcases ok.locNot m with ⟨vs, e⟩ | ⟨vs, e⟩ <;> (rw [h0] at e; cases e)
        rw [h1] at this; cases this
      · exact .inr (.inr h0)
    · exact .inr (.inl h')
    · exact .inr (.inr h')
/-- the hidden list is written -/
theorem Keep.hidden {p : Pl} {H : Hp} {a : Addr} {xs ys : List V} (hm : a ∈ p.hid) (ha : H a = some (.lst xs)) : Keep C.K p H p (upd H a (.lst ys)) := by
  have ne : ∀ b o, H b = some o → (∀ zs, o ≠ .lst zs) → b ≠ a := fun b o e z q => by rw [q, ha] at e; exact z xs (Option.some.inj e).symm
  refine ⟨fun l a h => h, fun a' o e n1 n2 => n2, rfl, fun b xs h => ?_, fun b o xs h => ?_, fun b xs h => ?_, fun b vs h n1 n2 => ?_, fun b vs h => ?_⟩
  · rw [upd_ne (ne b _ h fun zs z => by cases z)]; exact h
  · rw [upd_ne (ne b _ h fun zs z => by cases z)]; exact h
  · rw [upd_ne (ne b _ h fun zs z => by cases z)]; exact h
  · rw [upd_ne (fun z => n2 (by rw [z]; exact hm))]; exact ⟨h, n1⟩
  · rcases h with ⟨h1, n1, n2⟩ | ⟨o, h'⟩ | h'
    · exact .inl ⟨by rw [upd_ne (fun z => n2 (by rw [z]; exact hm))]; exact h1, n1, n2⟩
    · exact .inr (.inl ⟨o, by rw [upd_ne (ne b _ h' fun zs z => by cases z)]; exact h'⟩)
    · exact .inr (.inr h')
theorem Ok.hidden {p : Pl} {S : Store} {H : Hp} {a : Addr} {xs ys : List V} (ok : Ok C p S H) (hm : a ∈ p.hid) (ha : H a = some (.lst xs)) : Ok C p S (upd H a (.lst ys)) := by
  refine ⟨ok.len, ok.nd, fun l c e => ?_, fun b m => ?_⟩
  · obtain ⟨b, e2, r⟩ := ok.cell l c e
    refine ⟨b, e2, r.keep (Keep.hidden hm ha) fun o q => ?_⟩
    rw [upd_ne (fun z => (ok.hid a hm).1 (by rw [← z]; exact List.mem_of_getElem? e2))]; exact q
  · obtain ⟨n, o, e⟩ := ok.hid b m
    refine ⟨n, ?_⟩
    by_cases z : b = a
    · rw [z]; exact ⟨_, upd_same⟩
    · exact ⟨o, by rw [upd_ne z]; exact e⟩
theorem Ok.newHid {p : Pl} {S : Store} {H : Hp} {a : Addr} (ok : Ok C p S H) (n : H a = none) : Ok C { p with hid := a :: p.hid } S (upd H a (.lst [])) := by
  have s : Step p H (Pl.un { p with hid := a :: p.hid } p) (upd H a (.lst [])) := Step.alloc n
  have k := Keep.hide (C := C) rfl n ok s
  refine ⟨ok.len, ok.nd, fun l c e => ?_, fun b m => ?_⟩
  · obtain ⟨b, e2, r⟩ := ok.cell l c e
    exact ⟨b, e2, r.keep k fun o q => by rw [upd_ne (ne_of_none q n)]; exact q⟩
  · rcases List.mem_cons.mp m with z | z
    · subst z; exact ⟨ok.notρ n, _, upd_same⟩
    · obtain ⟨n1, o, e⟩ := ok.hid b z
      exact ⟨n1, o, by rw [upd_ne (ne_of_none e n)]; exact e⟩

theorem lc_walk {g : GM} {t : EM Bool} {me : EM D} {vs : List Nat} {p0 : Pl} {S0 S1 : Store} {H0 : Hp} {J : It} {it : ItD} {δ : Env} {σ : L2.St} {Da : Addr} {Qd : Hp → Prop} (Fin : List D → Store → Prop) (hpi : p0.π = π) (ok0 : Ok C p0 S1 H0) (re0 : REnv C p0 H0 δ σ) (w : WalkOk C p0 H0 it J) (hD : H0 Da = none)
    (hgo : ∃ ds S2, compGo it g t me (wipeE δ vs) it.n 0 [] S1 = .ok ds S2 ∧ Fin ds S2)
    (hfin : ∀ p S H acc xs, p.hid = Da :: p0.hid → Step p0 H0 (p.un p0) H → Ok C p S H → H Da = some (.lst xs) → RepL C p H acc xs → Fin acc S → Qd H) :
    ∃ W : Nat → Nat → Hp → Prop, (∃ m, W 0 m (upd H0 Da (.lst []))) ∧ ∀ i m H, W i m H →
      (J.stop i H ∧ Qd H) ∨ (J.go i H ∧ ∃ Nx : Hp → Prop, (∀ H', Nx H' → ∃ m', m' < m ∧ W (i + 1) m' H') ∧ ∀ x H', J.yld i H x H' → TGe C π vs g x (wipe σ vs) H' fun σ2 H2 => wipe σ2 vs = wipe σ vs ∧ TTe C π WF t σ2 H2 fun b H3 =>
        if b = true then TEe C π WF me σ2 H3 fun y H4 => ∃ acc, H4 Da = some (.lst acc) ∧ acc.length < sizeLine ∧ Nx (upd H4 Da (.lst (acc ++ [y]))) else Nx H3) := by
  refine ⟨fun i k H => ∃ p S acc xs, p.π = π ∧ p.hid = Da :: p0.hid ∧ Step p0 H0 (p.un p0) H ∧ Ok C p S H ∧ H Da = some (.lst xs) ∧ RepL C p H acc xs ∧ ∃ ds S2, compGo it g t me (wipeE δ vs) k i acc S = .ok ds S2 ∧ Fin ds S2, ⟨it.n, { p0 with hid := Da :: p0.hid }, S1, [], [], hpi, rfl, Step.alloc hD, ok0.newHid hD, upd_same, by simp only [RepL], hgo⟩, ?_⟩
  rintro i k H ⟨p, S, acc, xs, hp, hh, st, ok, hx, ra, ds, S2, ego, hf⟩
  have kp : Keep C.K p0 H0 p H := Keep.hide hh hD ok0 st
  have hm : Da ∈ p.hid := by rw [hh]; exact List.mem_cons_self
  have stopped : it.item i S = some none → acc = ds → S = S2 → J.stop i H ∧ Qd H := fun e e1 e2 => by
    subst e1; subst e2
    exact ⟨w.stop i p S H kp ok e, hfin p S H acc xs hh st ok hx ra hf⟩
  cases k with
  | zero =>
    unfold compGo at ego
    cases e2 : it.item i S with
    | none => rw [e2] at ego; cases ego
    | some o =>
      rw [e2] at ego
      cases o with
      | none => injection ego with q1 q2; exact .inl (stopped e2 q1 q2)
      | some d => cases ego
  | succ k =>
    unfold compGo at ego
    cases e2 : it.item i S with
    | none => rw [e2] at ego; cases ego
    | some o =>
      rw [e2] at ego
      cases o with
      | none => injection ego with q1 q2; exact .inl (stopped e2 q1 q2)
      | some d =>
        dsimp only at ego
        refine .inr ⟨w.go i p S H d kp ok e2, fun H => ∃ p S acc xs, p.π = π ∧ p.hid = Da :: p0.hid ∧ Step p0 H0 (p.un p0) H ∧ Ok C p S H ∧ H Da = some (.lst xs) ∧ RepL C p H acc xs ∧ ∃ ds S2, compGo it g t me (wipeE δ vs) k (i + 1) acc S = .ok ds S2 ∧ Fin ds S2, fun H' h => ⟨k, Nat.lt_succ_self _, h⟩, fun x H' y => ?_⟩
        obtain ⟨s2, ok2, rx⟩ := w.yields i p S H d x H' kp ok e2 y
        refine ⟨p, S, wipeE δ vs, d, hp, ok2, (REnv.keep (s2.keep ok) (REnv.keep kp re0)).wipe vs, rx, ?_⟩
        cases e3 : g d (wipeE δ vs) S with
        | stuck => rw [e3] at ego; cases ego
        | exc => rw [e3] at ego; cases ego
        | ok δ1 S3 =>
          rw [e3] at ego
          dsimp only at ego
          intro p3 H3 σ3 s3 ok3 re3 hw
          refine ⟨hw.trans wipe_wipe, p3, S3, δ1, s3.err.trans hp, ok3, re3, ?_⟩
          cases e4 : t δ1 S3 with
          | stuck => rw [e4] at ego; cases ego
          | exc => rw [e4] at ego; cases ego
          | ok b S4 =>
            rw [e4] at ego
            dsimp only at ego
            intro p4 H4 b' s4 ok4 eb
            subst eb
            have at4 : H4 Da = some (.lst xs) := by
              have n0 := (ok.hid Da hm).1
              have q2 := s2.frz Da _ hx n0
              have q3 := s3.frz Da _ q2 n0
              refine s4.frz Da _ q3 ?_
              exact (ok3.hid Da (by rw [s3.hid]; exact hm)).1
            have h4 : p4.hid = Da :: p0.hid := by rw [s4.hid, s3.hid, hh]
            have s234 : Step p H p4 H4 := (s2.trans s3).trans s4
            have st4 : Step p0 H0 (p4.un p0) H4 := st.trans ⟨s234.pre, rfl, s234.err, s234.frz, s234.new⟩
            cases b with
            | false =>
              rw [if_neg Bool.false_ne_true] at ego ⊢
              exact ⟨p4, S4, acc, xs, s234.err.trans hp, h4, st4, ok4, at4, RepL.keep (s234.keep ok) acc xs ra, ds, S2, ego, hf⟩
            | true =>
              rw [if_pos rfl] at ego ⊢
              refine ⟨p4, S4, δ1, s234.err.trans hp, ok4, re3.keep (s4.keep ok3), ?_⟩
              cases e5 : me δ1 S4 with
              | stuck => rw [e5] at ego; cases ego
              | exc => rw [e5] at ego; cases ego
              | ok dy S5 =>
                rw [e5] at ego
                dsimp only at ego
                split at ego
                · rename_i hz
                  intro p5 H5 v s5 ok5 r5
                  have m4 : Da ∈ p4.hid := by rw [h4]; exact List.mem_cons_self
                  have at5 : H5 Da = some (.lst xs) := s5.frz Da _ at4 (ok4.hid Da m4).1
                  have h5 : p5.hid = Da :: p0.hid := by rw [s5.hid, h4]
                  have m5 : Da ∈ p5.hid := by rw [h5]; exact List.mem_cons_self
                  have s25 : Step p H p5 H5 := s234.trans s5
                  have ra5 := RepL.keep (s25.keep ok) acc xs ra
                  have k6 : Keep C.K p5 H5 p5 (upd H5 Da (.lst (xs ++ [v]))) := Keep.hidden m5 at5
                  refine ⟨xs, at5, by rw [← ra.length]; exact hz, p5, S5, acc ++ [dy], xs ++ [v], s25.err.trans hp, h5, ?_, ok5.hidden m5 at5, upd_same, RepL.append (RepL.keep k6 acc xs ra5) (by simp only [RepL]; exact ⟨v, [], rfl, r5.keep k6, rfl⟩), ds, S2, ego, hf⟩
                  have st5 : Step p0 H0 (p5.un p0) H5 := st.trans ⟨s25.pre, rfl, s25.err, s25.frz, s25.new⟩
                  exact ⟨st5.pre, st5.hid, st5.err, fun a o e n => by rw [upd_ne (ne_of_none e hD)]; exact st5.frz a o e n, st5.new⟩
                · cases ego
end

open PySem PySem.Spec PyProof.Rows L2

section
variable {X : Cx} {C : Cst} {π : Option (Addr × Obj)} {W : WX} {pos : Pos}
theorem Keep.promote {p p0 : Pl} {H : Hp} {a : Addr} (h : p.hid = a :: p0.hid) : Keep C.K p H { p.un p0 with ρ := p.ρ ++ [a] } H := by
  have ne : ∀ b, b ∉ p.hid → b ≠ a := fun b n z => n (by rw [h, z]; exact List.mem_cons_self)
  have app : ∀ b, b ∉ p.ρ → b ∉ p.hid → b ∉ p.ρ ++ [a] := fun b n1 n2 m => by
    rcases List.mem_append.mp m with z | z
    · exact n1 z
    · exact ne b n2 (by simpa using z)
  refine ⟨fun l b e => ?_, fun b o e n1 n2 m => n2 (by rw [h]; exact List.mem_cons_of_mem _ m), rfl, fun b xs h => h, fun b o xs h => h, fun b xs h => h, fun b vs h n1 n2 => ⟨h, app b n1 n2⟩, fun b vs h' => ?_⟩
  · show (p.ρ ++ [a])[l]? = some b
    rw [List.getElem?_append_left (List.getElem?_eq_some_iff.mp e).1]; exact e
  · rcases h' with ⟨h1, n1, n2⟩ | h' | h'
    · exact .inl ⟨h1, app b n1 n2, fun m => n2 (by rw [h]; exact List.mem_cons_of_mem _ m)⟩
    · exact .inr (.inl h')
    · exact .inr (.inr h')
theorem Ok.promote {p p0 : Pl} {S : Store} {H : Hp} {a : Addr} {vs : List V} {ds : List D} (h : p.hid = a :: p0.hid) (n0 : a ∉ p0.hid) (ok : Ok C p S H) (ha : H a = some (.lst vs)) (r : RepL C p H ds vs) : Ok C { p.un p0 with ρ := p.ρ ++ [a] } (S ++ [.lst ds]) H := by
  have k := Keep.promote (C := C) (H := H) h
  have na := (ok.hid a (by rw [h]; exact List.mem_cons_self)).1
  refine ⟨?_, ?_, fun l c e => ?_, fun b m => ?_⟩
  · show (p.ρ ++ [a]).length = (S ++ [Cell.lst ds]).length
    simp [ok.len]
  · show (p.ρ ++ [a]).Nodup
    rw [List.nodup_append]
    refine ⟨ok.nd, by simp, fun x hx y hy => ?_⟩
    have e : y = a := by simpa using hy
    rw [e]
    exact fun z => na (by rw [← z]; exact hx)
  · show ∃ b, (p.ρ ++ [a])[l]? = some b ∧ _
    by_cases hl : l < S.length
    · rw [List.getElem?_append_left hl] at e
      obtain ⟨b, e2, r2⟩ := ok.cell l c e
      exact ⟨b, k.get l b e2, r2.keep k fun o q => q⟩
    · have hl' : l = S.length := by
        have := (List.getElem?_eq_some_iff.mp e).1
        simp at this; omega
      subst hl'
      simp at e
      subst e
      exact ⟨a, by rw [← ok.len]; simp, vs, ha, RepL.keep k ds vs r⟩
  · obtain ⟨n, o, e⟩ := ok.hid b (by rw [h]; exact List.mem_cons_of_mem _ m)
    refine ⟨fun q => ?_, o, e⟩
    have q : b ∈ p.ρ ++ [a] := q
    rcases List.mem_append.mp q with z | z
    · exact n z
    · have e2 : b = a := by simpa using z
      exact n0 (by rw [← e2]; exact m)

variable {elt tg iter : Expr} {ifs : List Expr} {scope : Scope} {own : List (Str × Nat)} {mi : EM ItD} {g : GM} {t : EM Bool} {me : EM D}
theorem lc_read {fin : List D → M D} {σ : L2.St} {H : Hp} {Q : VK} (mk : ∀ {p0 p : Pl} {S0 S : Store} {H0 H : Hp} {Da : Addr} {acc : List D} {xs : List V} {Q : VK}, Ok C p0 S0 H0 → H0 Da = none → p.hid = Da :: p0.hid → Step p0 H0 (p.un p0) H → Ok C p S H → H Da = some (.lst xs) → RepL C p H acc xs →
      Post C W p0 H0 σ (Rep C) Q (fin acc S) → Q (.ref Da) H)
    (h : TEe C π W (fun δ S => (mi δ S).bind fun it S1 => match compGo it g t me (wipeE δ (own.map (·.2))) it.n 0 [] S1 with
      | .ok ds S2 => fin ds S2
      | _ => .stuck) σ H Q) : tLc (TIe C π W mi) (TGe C π (own.map (·.2)) g) (TTe C π WF t) (TEe C π WF me) (own.map (·.2)) σ H Q := by
  obtain ⟨p, S, δ, hp, ok, re, po⟩ := h
  refine ⟨p, S, δ, hp, ok, re, ?_⟩
  dsimp only at po
  cases e1 : mi δ S with
  | stuck => rw [e1] at po; exact po.elim
  | exc c d S1 => rw [e1] at po; exact po
  | ok it S1 =>
    rw [e1] at po
    have po' : Post C W p H σ (Rep C) Q (match compGo it g t me (wipeE δ (own.map (·.2))) it.n 0 [] S1 with
      | .ok ds S2 => fin ds S2
      | _ => .stuck) := po
    intro p0 H0 J s0 ok0 w Da hDa
    cases e2 : compGo it g t me (wipeE δ (own.map (·.2))) it.n 0 [] S1 with
    | stuck => rw [e2] at po'; exact po'.elim
    | exc => rw [e2] at po'; exact po'.elim
    | ok ds S2 =>
      rw [e2] at po'
      have po2 : Post C W p0 H0 σ (Rep C) Q (fin ds S2) := Post.step s0 po'
      exact lc_walk (S0 := S1) (Fin := fun acc S => Post C W p0 H0 σ (Rep C) Q (fin acc S)) (s0.err.trans hp) ok0 (re.keep (s0.keep ok)) w hDa ⟨ds, S2, e2, po2⟩ fun p3 S3 H3 acc xs hh st ok3 hx ra hf => mk ok0 hDa hh st ok3 hx ra hf
theorem mk_val {σ : L2.St} {p0 p : Pl} {S0 S : Store} {H0 H : Hp} {Da : Addr} {acc : List D} {xs : List V} {Q : VK} (ok0 : Ok C p0 S0 H0) (hD : H0 Da = none) (hh : p.hid = Da :: p0.hid) (st : Step p0 H0 (p.un p0) H) (ok : Ok C p S H) (hx : H Da = some (.lst xs)) (ra : RepL C p H acc xs)
    (po : Post C W p0 H0 σ (Rep C) Q (.ok (.lst acc) S)) : Q (.ref Da) H := by
  have m : Da ∈ p.hid := by rw [hh]; exact List.mem_cons_self
  refine po (p.un p0) H (.ref Da) st (ok.unhid hh) ?_
  simp only [Rep]
  refine ⟨Da, xs, rfl, (ok.hid Da m).1, fun z => ?_, hx, RepL.keep (Keep.unhid hh) acc xs ra⟩
  obtain ⟨_, o, e⟩ := ok0.hid Da z
  rw [hD] at e; cases e
theorem mk_loc {σ : L2.St} {p0 p : Pl} {S0 S : Store} {H0 H : Hp} {Da : Addr} {acc : List D} {xs : List V} {Q : VK} (ok0 : Ok C p0 S0 H0) (hD : H0 Da = none) (hh : p.hid = Da :: p0.hid) (st : Step p0 H0 (p.un p0) H) (ok : Ok C p S H) (hx : H Da = some (.lst xs)) (ra : RepL C p H acc xs)
    (po : Post C W p0 H0 σ (Rep C) Q (.ok (.loc S.length) (S ++ [.lst acc]))) : Q (.ref Da) H := by
  have n0 : Da ∉ p0.hid := fun z => by
    obtain ⟨_, o, e⟩ := ok0.hid Da z
    rw [hD] at e; cases e
  obtain ⟨more, em⟩ := st.pre
  refine po { p.un p0 with ρ := p.ρ ++ [Da] } H (.ref Da) ⟨⟨more ++ [Da], ?_⟩, rfl, st.err, st.frz, fun a h1 h2 => ?_⟩ (ok.promote hh n0 hx ra) ?_
  · show p.ρ ++ [Da] = p0.ρ ++ (more ++ [Da])
    rw [show p.ρ = p0.ρ ++ more from em, List.append_assoc]
  · have h1 : a ∈ p.ρ ++ [Da] := h1
    rcases List.mem_append.mp h1 with z | z
    · exact st.new a z h2
    · have e : a = Da := by simpa using z
      rw [e]; exact hD
  · simp only [Rep]
    exact ⟨Da, rfl, by show (p.ρ ++ [Da])[S.length]? = some Da; rw [← ok.len]; simp⟩
section
variable (hc : X.calm = true) (hN : X.N.Nodup) (hi : PI X tg iter (TIe C π W mi)) (okB : BlkOk X.N X.env.scope scope own)
  (hg : ∀ (s : Shared) (H : Hp) (Cc : Addr) (cl : List (Str × Addr)) (fp : List Addr), PG (X.blk s H scope (compEnvC scope cl Cc X.env) fp) tg (TGe C π (own.map (·.2)) g))
  (ht : ∀ (s : Shared) (H : Hp) (Cc : Addr) (cl : List (Str × Addr)) (fp : List Addr), PTs (X.blk s H scope (compEnvC scope cl Cc X.env) fp) ifs (TTe C π WF t))
  (he : ∀ (s : Shared) (H : Hp) (Cc : Addr) (cl : List (Str × Addr)) (fp : List Addr), PE (X.blk s H scope (compEnvC scope cl Cc X.env) fp) elt (TEe C π WF me))
  (hs : ∀ x, foldedSetIterable iter X.env x = pure x)
include hc hN hi okB hg ht he hs
theorem e_lc : PE X (.ListComp elt [⟨tg, iter, ifs, 0⟩] scope pos) (TEe C π W (mLc mi g t me (own.map (·.2)))) := pe_mono (pe_lc hc hN hi okB hg ht he hs) fun σ H Q h => lc_read (fin := fun (ds : List D) (S2 : Store) => (Res.ok (D.lst ds) S2 : Res D)) mk_val h
theorem e_lcN : PE X (.ListComp elt [⟨tg, iter, ifs, 0⟩] scope pos) (TEe C π W (mLcN mi g t me (own.map (·.2)))) := pe_mono (pe_lc hc hN hi okB hg ht he hs) fun σ H Q h => lc_read (fin := fun (ds : List D) (S2 : Store) => (Res.ok (D.loc S2.length) (S2 ++ [Cell.lst ds]) : Res D)) mk_loc h
/-- name = [..], on one line -/
theorem z_setLc {i : Nat} {y : Str} {py spos : Pos} (hy : X.N[i]? = some y) (hyl : X.env.scope.names.lookup y = some .local) (hsw : swapsWith (.ListComp elt [⟨tg, iter, ifs, 0⟩] scope pos) (some (.Name y py)) spos.line X.env = pure true) :
    PS X (.Assign [.Name y py] (.ListComp elt [⟨tg, iter, ifs, 0⟩] scope pos) spos) (TSe C π W (sAsg (mLc mi g t me (own.map (·.2))) (gmName i))) :=
  ps_mono (ps_setLc hc hN hy hyl hsw hi okB hg ht he hs) fun DE σ H ⟨p, S, δ, hp, ok, re, po⟩ => by
    have h : TEe C π W (mLc mi g t me (own.map (·.2))) σ H (fun x H1 => gName i x σ H1 DE.nx) := TRe.st hp ok re po fun d S1 p1 H1 v s1 k1 ok1 hp1 re1 r1 po1 => po1 p1 H1 _ (Step.refl _ _) ok1 (re1.set r1)
    exact lc_read (fin := fun (ds : List D) (S2 : Store) => (Res.ok (D.lst ds) S2 : Res D)) mk_val h
theorem z_setLcN {i : Nat} {y : Str} {py spos : Pos} (hy : X.N[i]? = some y) (hyl : X.env.scope.names.lookup y = some .local) (hsw : swapsWith (.ListComp elt [⟨tg, iter, ifs, 0⟩] scope pos) (some (.Name y py)) spos.line X.env = pure true) :
    PS X (.Assign [.Name y py] (.ListComp elt [⟨tg, iter, ifs, 0⟩] scope pos) spos) (TSe C π W (sAsg (mLcN mi g t me (own.map (·.2))) (gmName i))) :=
  ps_mono (ps_setLc hc hN hy hyl hsw hi okB hg ht he hs) fun DE σ H ⟨p, S, δ, hp, ok, re, po⟩ => by
    have h : TEe C π W (mLcN mi g t me (own.map (·.2))) σ H (fun x H1 => gName i x σ H1 DE.nx) := TRe.st hp ok re po fun d S1 p1 H1 v s1 k1 ok1 hp1 re1 r1 po1 => po1 p1 H1 _ (Step.refl _ _) ok1 (re1.set r1)
    exact lc_read (fin := fun (ds : List D) (S2 : Store) => (Res.ok (D.loc S2.length) (S2 ++ [Cell.lst ds]) : Res D)) mk_loc h
end

/-! ### defs -/
abbrev FM := List D → M D
def PostF (C : Cst) (p : Pl) (H : Hp) (Q : VK) (E : XK) : Res D → Prop
  | .ok d S' => ∀ p' H' v, Step p H p' H' → Ok C p' S' H' → Rep C p' H' d v → Q v H'
  | .exc c d S' => ∀ p' H' dx, Step p H p' H' → Ok C p' S' H' → XRep C p' H' c d dx → E (.ref (C.ca c)) (some dx) H'
  | .stuck => False
def spE (C : Cst) (π : Option (Addr × Obj)) (n : Nat) (F : FM) : Sp := fun vs H Q E => vs.length = n ∧ ∃ p S ds, p.π = π ∧ Ok C p S H ∧ RepL C p H ds vs ∧ PostF C p H Q E (F ds S)
def mCall (F : FM) (ms : EM (List D)) : EM D := fun δ S => (ms δ S).bind fun xs S1 => F xs S1
def mCallD (F : FM) (ds : List D) (ms : EM (List D)) : EM D := fun δ S => (ms δ S).bind fun xs S1 => F (xs ++ ds) S1
def envOf (n : Nat) (ds : List D) : Env := ds.map some ++ List.replicate (n - ds.length) none
/-- what a body of n slots makes -/
def mDef (n : Nat) (b : SM) : FM := fun ds S => match b (envOf n ds) S with
  | .nx _ S' => .ok .non S'
  | .rt d S' => .ok d S'
  | .exc c d _ S' => .exc c d S'
  | _ => .stuck
theorem envOf_rep {p : Pl} {H : Hp} {N : List Str} : ∀ {ds : List D} {vs : List V}, RepL C p H ds vs → vs.length ≤ N.length → REnv C p H (envOf N.length ds) (L2.start N vs) := fun {ds vs} r hl => by
  have e := r.length
  refine ⟨?_, fun i d h => ?_⟩
  · unfold envOf L2.start; simp; omega
  · unfold envOf at h
    unfold L2.start
    by_cases hi : i < ds.length
    · rw [List.getElem?_append_left (by simpa using hi), List.getElem?_map] at h
      have : ds[i]? = some d := by
        cases q : ds[i]? with
        | none => rw [q] at h; cases h
        | some x => rw [q] at h; simpa using h
      obtain ⟨v, ev, rv⟩ := r.get this
      exact ⟨v, by rw [List.getElem?_append_left (by simpa using (by omega : i < vs.length)), List.getElem?_map, ev]; rfl, rv⟩
    · rw [List.getElem?_append_right (by simpa using Nat.le_of_not_lt hi), List.getElem?_replicate] at h
      split at h <;> cases h
/-- a body's ends -/
theorem def_ends {p : Pl} {S : Store} {H : Hp} {N : List Str} {b : SM} {ds : List D} {vs : List V} {Q : VK} {E : XK} (hp : p.π = π) (ok : Ok C p S H) (r : RepL C p H ds vs) (hl : vs.length ≤ N.length) (po : PostF C p H Q E (mDef N.length b ds S)) :
    TSe C π (fun cls dx _ H => E cls dx H) b { nx := fun _ H' => Q .non H', rt := Q } (L2.start N vs) H := by
  refine ⟨p, S, envOf N.length ds, hp, ok, envOf_rep r hl, ?_⟩
  unfold mDef at po
  cases e : b (envOf N.length ds) S with
  | nx δ S' => rw [e] at po; exact fun p' H' σ' s o q => po p' H' .non s o (by simp only [Rep])
  | rt d S' => rw [e] at po; exact po
  | exc c d δ S' => rw [e] at po; exact fun p' H' dx σ' s o _ x => po p' H' dx s o x
  | bk δ S' => rw [e] at po; exact po.elim
  | ct δ S' => rw [e] at po; exact po.elim
  | stuck => rw [e] at po; exact po.elim
section
variable {k : Nat} {f : Addr} {fd : FuncData} {ps : List Str} {F : FM} {x : Str} {q : Pos} {e : Expr} {es : List Expr} {ms : EM (List D)}
/-- f(e, ..) -/
theorem e_call (F' : FnOk X.prog X.w X.K X.mg X.base (L2.CX X.prog X.w) k f fd ps (spE C π ps.length F)) (hr : Room k X.A) (hg : Gl X x) (hm : X.mg x = some (.ref f)) (hk : PySem.W.keepIn X.K (.ref f) = true) (hb : Binds X.K fd ps []) (hx : ∀ σ, PassesAt (L2.CX X.prog X.w) X σ (WE W σ))
    (ha : PA X (e :: es) (TAe C π W ms)) (hn : ∀ δ S xs S', ms δ S = .ok xs S' → xs.length = ps.length) (hdb : (x == ("__debug__" : Str)) = false := by decide) (he : starEach (e :: es) X.env = (false, eval e X.env) :: starEach es X.env := by rfl) (hpl : (backTo pos (starEach es X.env)).any (·.1) = false := by rfl) :
    PE X (.Call (.Name x q) (e :: es) [] pos) (TEe C π W (mCall F ms)) :=
  pe_mono (pe_callS F' hr hg hm hk hb hx ha hdb he hpl) fun σ H Q ⟨p, S, δ, hp, ok, re, po⟩ => by
    refine ⟨p, S, δ, hp, ok, re, ?_⟩
    have po' : Post C W p H σ (Rep C) Q ((ms δ S).bind fun xs S1 => F xs S1) := po
    cases e1 : ms δ S with
    | stuck => rw [e1] at po'; exact po'.elim
    | exc c d S1 => rw [e1] at po'; exact po'
    | ok xs S1 =>
      rw [e1] at po'
      have po2 : Post C W p H σ (Rep C) Q (F xs S1) := po'
      refine fun p' H' vs s o r => ⟨by rw [← r.length]; exact hn δ S xs S1 e1, p', S1, xs, s.err.trans hp, o, r, ?_⟩
      have po3 := Post.step s po2
      cases e2 : F xs S1 with
      | ok d S2 => rw [e2] at po3; exact po3
      | exc c d S2 => rw [e2] at po3; exact fun p2 H2 dx s2 o2 x2 => po3 p2 H2 dx s2 o2 x2
      | stuck => rw [e2] at po3; exact po3.elim
theorem e_call0 (F' : FnOk X.prog X.w X.K X.mg X.base (L2.CX X.prog X.w) k f fd ps (spE C π 0 F)) (hr : Room k X.A) (hg : Gl X x) (hm : X.mg x = some (.ref f)) (hk : PySem.W.keepIn X.K (.ref f) = true) (hb : Binds X.K fd ps []) (hx : ∀ σ, PassesAt (L2.CX X.prog X.w) X σ (WE W σ)) : True := trivial
end
end

open PySem PySem.Spec PyProof.Rows L2

/-! ### super().__init__(text) in an exception over ValueError -/
section
variable {X : Cx} {pins : List (Addr × Obj)} {σ : L2.St} {H : Hp} {s : Shared}
theorem mw_call {a C u : Addr} {v : Value} {Q : Value → Shared → Prop} {E : Value → Shared → Prop} (T : OexC X.K C) (I : Inv X pins σ H s) (e : H a = some (exo a C none)) (hu : s.heap.get? u = some (PySem.W.kxs_mw "ValueError.__init__" a))
    (h : ∀ s', Inv X pins σ H s' → Q .none s') : wpAny (model X.prog X.w) X.A (call (.ref u) [v]) Q E s := by
  obtain ⟨nm, q, N, bs, bm, sn, sub, ab, col, dd, k0, k1, k2, k3, k5, hC, hbm⟩ := T.cls
  obtain ⟨t1, ho⟩ := exo_at I.hok e
  have fin : ∀ h' t2, (∀ b o, b ≠ a → s.heap.get? b = some o → h'.get? b = some o) → h'.get? a = some ({ cls := .ref C, dict := none, data := .fields #[.ref t2, .none, .none, .none, .bool false, .none] } : Obj) → Q .none { s with heap := h' } := fun h' t2 k hx => by
    have J := I.write (t' := s.toks) (x := a) (e := a) (o := exo a C none) (by rw [e]; exact True.intro) (.inl rfl) k ⟨_, hx⟩ (exo_ok hx)
    have eu : upd H a (exo a C none) = H := by
      funext b
      unfold upd
      split
      · rename_i z; rw [z, e]
      · rfl
    rw [eu] at J
    exact h _ J
  have hCs := I.kIn _ _ hC
  obtain ⟨hp, g, d, tk, os⟩ := s
  refine wpAny_call (codeAny_of_tree ?_)
  show wpAny _ X.A.in1 (callAny (.ref u) ⟨[v], []⟩) _ _ _
  simp only [callAny]
  refine wpAny_bind (wpAny_load hu ?_)
  have mwb : (Value.type "method-wrapper" == Value.type "method" || Value.type "method-wrapper" == Value.type "builtin_function_or_method" || Value.type "method-wrapper" == Value.type "method-wrapper") = true := by decide
  simp only [PySem.W.kxs_mw, mwb, if_true]
  refine PySem.W.KFB.if_so (by decide) ?_
  refine wpAny_bind (PySem.W.check_bound_init PySem.F.excBase_ValueError.toExcCallFacts hCs ho rfl ?_)
  refine wpAny_bind (wpAny_pure (wpAny_pure ?_))
  refine ⟨plainId_quiet PySem.F.excBase_ValueError.init.plain _, codeAny_builtin PySem.F.excBase_ValueError.initEntry ?_⟩
  exact PySem.W.exc_init_tree (cls := .ref C) (t0 := t1) (dv := none) (c2 := .none) (c3 := .none) (b4 := .bool false) ho (by show 1 ≤ sizeLine; rw [sizeLine_eq]; omega) fun h' k hx _ => fin h' _ k hx
end

/-- the context of such an __init__ -/
def cxI (CX : CXT) (P : Program) (w : World) (K : PySem.W.Frag) (mg : Str → Option Value) (base : Heap) (N : List Str) (qual : Str) (scope : Scope) (f : Addr) (cd : Value) (cc : Addr) (A : Around) (outer : List PySem.Env) (s : Shared) (H : Hp) (E : XK) : Cx :=
  { cxOf CX P w K mg base N qual scope f cd A outer s H E with
    A := A.deeper (PySem.W.ksEnv qual scope s.heap.objs.size f cd cc)
    env := PySem.W.ksEnv qual scope s.heap.objs.size f cd cc
    stack := PySem.W.ksEnv qual scope s.heap.objs.size f cd cc :: outer
    fn := fun _ => false
    xe := fun e s' => wpAny (model P w) (A.deeper (PySem.W.ksEnv qual scope s.heap.objs.size f cd cc)) (leaving (PySem.W.ksEnv qual scope s.heap.objs.size f cd cc) e) (fun _ s'' => CX outer H s E e s'') (fun e' s'' => CX outer H s E e' s'') s' }

/-- what the scope of such an __init__ must say -/
structure InitScope (scope : Scope) (x : Str) : Prop where
  kind : scope.kind = .function
  co : scope.isCoroutine = false
  gen : scope.isGenerator = false
  cell : ∀ y ∈ scope.names, y.2 ≠ .cell
  free : ∀ y ∈ scope.names, y.2 = .free → y.1 = "__class__"
  self : scope.names.lookup ("self" : Str) = some .local
  arg : scope.names.lookup x = some .local
  sup : scope.names.lookup ("super" : Str) = some .globalImplicit
  cls : scope.names.lookup ("__class__" : Str) = some .free
  ne : x ≠ "self"
section
variable {CX : CXT} {P : Program} {w : World} {K : PySem.W.Frag} {mg : Str → Option Value} {base : Heap} {k : Nat} {f cc : Addr} {qual : Str} {scope : Scope} {cd : Value} {A : Around} {outer : List PySem.Env} {s : Shared} {H : Hp} {E : XK} {x : Str} {u0 u1 : Value} {v0 v1 : V}
theorem lookup_free {names : List (Str × NameKind)} {y : Str} {q : NameKind} (h : names.lookup y = some q) : (y, q) ∈ names := PySem.mem_of_lookup h
theorem init_inv {h1 : Heap} {tk : Nat} {D : Addr} {cl : Value} {cld : Option Addr} {csl : Array (Option Value)} (S : InitScope scope x) (hr : Room k A) (e0 : Env0 P w K mg base A outer s H) (hcc : K.lookup cc = some ⟨cl, cld, .cell (some (.ref D)), csl⟩)
    (r0 : RelV v0 u0) (r1 : RelV v1 u1) (hns : h1.Ns s.heap.objs.size (fun y => ([(("self" : Str), u0), (x, u1)].reverse).lookup y)) (hk : ∀ b o, s.heap.get? b = some o → h1.get? b = some o) :
    Inv (cxI CX P w K mg base ["self", x] qual scope f cd cc A outer s H E) [] [some v0, some v1] H { s with heap := h1, toks := tk } := by
  have hb := e0.mod.kin _ _ hcc
  have noE : ∀ b : Addr, b ∉ (cxI CX P w K mg base ["self", x] qual scope f cd cc A outer s H E).ex := fun b z => absurd (show b ∈ ([] : List Addr) from z) (by simp)
  have onlyC : ∀ (y : Str) (c : Addr), ([(("__class__" : Str), cc)] : List (Str × Addr)).lookup y = some c → y = "__class__" ∧ c = cc := fun y c z => by
    have m := PySem.mem_of_lookup z
    simp at m
    exact m
  refine ⟨⟨e0.mod, S.kind, rfl, rfl, Nat.le_refl _, fun y z c a b => ?_, fun y hy => ?_, fun y c z => ?_, fun _ => hr.hd, Around.frames_deeper e0.frames, .inr ⟨rfl, rfl⟩, fun b z => absurd z (noE b), e0.bs, e0.bsz, fun b _ _ => noE b, fun b z => absurd z (noE b), e0.funs, e0.frf⟩,
    rfl, e0.bare, Un.kept hk, ⟨_, hns, fun i y v a b c => ?_⟩, fun y c z => ?_, e0.hok.fresh (Nat.le_refl _), fun y c z => ?_, fun p hp => absurd (show p ∈ ([] : List (Addr × Obj)) from hp) (by simp), e0.hok.kept hk, rfl⟩
  · rw [(onlyC y c a).1, (onlyC z c b).1]
  · refine ⟨cc, ?_⟩
    have hy : scope.names.lookup y = some .cell ∨ scope.names.lookup y = some .free := hy
    rcases hy with hy | hy
    · exact absurd rfl (S.cell _ (lookup_free hy))
    · have z : y = "__class__" := S.free (y, .free) (lookup_free hy) rfl
      rw [z]; rfl
  · exact Bool.noConfusion z
  · have neS : (x == ("self" : Str)) = false := by simpa using S.ne
    match i, a, b with
    | 0, a, b =>
      have a : some ("self" : Str) = some y := a
      simp at a b; subst a; subst b
      refine ⟨u0, r0, .inl ⟨S.self, ?_⟩⟩
      have q : (("self" : Str) == x) = false := by simpa using fun z => S.ne z.symm
      simp [List.lookup, q]
    | 1, a, b =>
      have a : some x = some y := a
      simp at a b; subst a; subst b
      refine ⟨u1, r1, .inl ⟨S.arg, ?_⟩⟩
      simp [List.lookup]
    | i + 2, a, b => exact absurd b (by simp)
  · obtain ⟨_, rfl⟩ := onlyC y c z
    exact ⟨_, _, hk _ _ (e0.bs _ _ hb).1, rfl⟩
  · obtain ⟨_, rfl⟩ := onlyC y c z
    exact (e0.bs _ _ hb).2
theorem _root_.L2.Inv.unpinned0 {X : Cx} {pins : List (Addr × Obj)} {σ : L2.St} {H : Hp} {s : Shared} (I : Inv X pins σ H s) : Inv X [] σ H s :=
  ⟨I.ok, I.os, I.bare, I.base, I.loc, I.cell, I.free, I.freeC, fun p hp => I.pin p (by
    rw [List.append_nil] at hp
    exact List.mem_append_left _ hp), I.hok, I.len⟩
/-- the promise of such an __init__ -/
def spI (C : Addr) (fl : Str) (T : V → Prop) : Sp := fun vs H Q _ => ∃ (a : Addr) (r : V), vs = [.ref a, r] ∧ H a = some (exo a C none) ∧ T r ∧ ∀ dx, H dx = none → dx ≠ a → Q .non (upd (upd H dx (exd dx [(fl, r)])) a (exo a C (some dx)))
/-- what the written part says of the class and of the code object -/
structure InitFacts (P : Program) (K : PySem.W.Frag) (mg : Str → Option Value) (C cc cda : Addr) (fl : Str) : Prop where
  oex : OexC K C
  nofl : PySem.W.findIn K (.ref C) fl = some none
  cell : ∃ cl cld csl, K.lookup cc = some ⟨cl, cld, .cell (some (.ref C)), csl⟩
  code : ∃ (ccl : Value) (cdd : Option Addr) (vs : Array Value) (ccs : Array (Option Value)) (file : Str) (tf : Tok), K.lookup cda = some ⟨ccl, cdd, .fields vs, ccs⟩ ∧ vs[2]? = some (.str file tf) ∧ ((P.main.file : Str) == file) = true
  sub : PySem.W.mroIn K C (.ref C) = some true
  val : PySem.W.subIn K (.ref C) (.type "ValueError") = some true
  sup : PySem.W.ks_superIn K C C "__init__" = some (some (.builtin "ValueError.__init__"))
  stat : PySem.W.nsIn K PySem.cStatics "thirdparty.any" = some none
  nosup : mg "super" = none
  top : (P.main.scope.names.lookup ("super" : Str)).isSome = false
open PySem.W in
theorem init_fn {name : Str} {params : Arguments} {e : Expr} {dV kV doc pm ct oc : Value} {an od : Option Addr} {osl : Array (Option Value)} {C cda : Addr} {fl : Str} {T : V → Prop} {ar : Arg} {p0 p1 p2 p3 p4 p5 p6 p7 p8 : Pos}
    (F : InitFacts P K mg C cc cda fl) (S : InitScope scope x)
    (lk : K.lookup f = some ⟨oc, od, .func (ksFn name qual params [.Expr (.Call (.Attribute (.Call (.Name "super" p0) [] [] p1) "__init__" p2) [e] [] p3) p4, .Assign [.Attribute (.Name "self" p5) fl p6] (.Name x p7) p8] scope dV kV doc pm an (.ref cda) ct cc), osl⟩)
    (hcd : codeIn K (.ref cda) qual = true) (hp : (params.posonlyargs ++ params.args).head? = some ar) (har : ar.arg = "self") (hst : ∀ env, starEach [e] env = [(false, eval e env)]) {plf : PySem.Env → Sem Bool}
    (hev : ∀ env, eval (.Call (.Attribute (.Call (.Name "super" p0) [] [] p1) "__init__" p2) [e] [] p3) env = (do
      let ov ← attributeBase (.Call (.Name "super" p0) [] [] p1) "__init__" env (eval (.Call (.Name "super" p0) [] [] p1) env)
      standAt p2.atName
      let (f, first) ← holding [ov] (getMethod ov "__init__" (plf env))
      callWith p3 f first (backTo p3 (starEach [e] env)) [])) (hsw : ∀ env, swapsWith (.Call (.Attribute (.Call (.Name "super" p0) [] [] p1) "__init__" p2) [e] [] p3) none p4.line env = pure false) (hxd : (x == ("__debug__" : Str)) = false) (hxc : (x == ("__classdict__" : Str)) = false)
    (he : ∀ (A : Around) (outer : List PySem.Env) (s : Shared) (H : Hp) (E : XK), ∃ te, PE (cxI CX P w K mg base ["self", x] qual scope f (.ref cda) cc A outer s H E) e te ∧ ∀ v r H1, T r → te [some v, some r] H1 (fun _ H2 => H2 = H1)) :
    FnOk P w K mg base CX (k + 1) f (ksFn name qual params [.Expr (.Call (.Attribute (.Call (.Name "super" p0) [] [] p1) "__init__" p2) [e] [] p3) p4, .Assign [.Attribute (.Name "self" p5) fl p6] (.Name x p7) p8] scope dV kV doc pm an (.ref cda) ct cc) ["self", x] (spI C fl T) := by
  refine ⟨fun vs H Q E h => ?_, fun A outer s H args us vs Q E hr e0 hb r h => ?_⟩
  · obtain ⟨a, r, rfl, _⟩ := h; rfl
  obtain ⟨a, v1, rfl, ha, ht, hq⟩ := h
  cases r with
  | @cons _ u0 _ ur r0 rr =>
  cases rr with
  | @cons _ u1 _ ur r1 rr =>
  cases rr
  obtain rfl : u0 = Value.ref a := r0
  have KX : K.In s.heap := e0.mod.kin.keeps fun b o e => (e0.bs b o e).1
  obtain ⟨cl, cld, csl, hcc⟩ := F.cell
  obtain ⟨ccl, cdd, cvs, ccs, file, tf, hcode, hvs, hfile⟩ := F.code
  refine ks_codeAny_call_defAt hr.depth (KX _ _ lk) rfl (e0.mod.nolimit.keeps fun b o e => (e0.bs b o e).1) (codeRec_of KX hcd) rfl hb S.cell (fun y hy => ?_) (fun h1 hns hk => ?_) S.co S.gen S.kind
  · simp at hy
    rcases hy with rfl | rfl
    · exact S.self
    · exact S.arg
  show _root_.PySem.wpAt (model P w) (A.deeper (ksEnv qual scope s.heap.objs.size f (.ref cda) cc)) (.func _ (ksEnv qual scope s.heap.objs.size f (.ref cda) cc)) (execs _ (ksEnv qual scope s.heap.objs.size f (.ref cda) cc)) _ _ _
  have I : Inv (cxI CX P w K mg base ["self", x] qual scope f (.ref cda) cc A outer s H E) [] [some (.ref a), some v1] H { s with heap := h1, toks := s.toks + 2 } := init_inv S hr e0 hcc rfl r1 hns hk
  refine ks_wpAt_mono (Q := SP (cxI CX P w K mg base ["self", x] qual scope f (.ref cda) cc A outer s H E) [] { nx := fun _ H' => Q .non H', rt := Q }) (E := (cxI CX P w K mg base ["self", x] qual scope f (.ref cda) cc A outer s H E).xe) ?_ (fun fw s' hs => ?_) fun e s' hs => hs
  · have hcls : PySem.W.clsIn K C ≠ none := fun z => by
      have q := F.sub
      unfold mroIn at q
      rw [z] at q
      cases q
    have hCO : ∃ cdC oC, K.lookup C = some oC ∧ oC.data = .cls cdC ∧ PySem.W.clsIn K C = some cdC := by
      unfold clsIn at hcls ⊢
      split
      · rename_i c d cd' sl ho
        exact ⟨cd', _, ho, rfl, rfl⟩
      · rename_i z
        exact absurd (by
          split
          · rename_i c d cd' sl ho
            exact absurd ho (z c d cd' sl)
          · rfl) hcls
    obtain ⟨cdC, oC, hoC, hdC, hclC⟩ := hCO
    obtain ⟨t1, hoa⟩ := exo_at I.hok ha
    have tail : ∀ s', Inv (cxI CX P w K mg base ["self", x] qual scope f (.ref cda) cc A outer s H E) [] [some (.ref a), some v1] H s' →
        wpAny (model P w) (cxI CX P w K mg base ["self", x] qual scope f (.ref cda) cc A outer s H E).A (execs [.Assign [.Attribute (.Name "self" p5) fl p6] (.Name x p7) p8] (cxI CX P w K mg base ["self", x] qual scope f (.ref cda) cc A outer s H E).env)
          (SP (cxI CX P w K mg base ["self", x] qual scope f (.ref cda) cc A outer s H E) [] { nx := fun _ H' => Q .non H', rt := Q }) (cxI CX P w K mg base ["self", x] qual scope f (.ref cda) cc A outer s H E).xe s' := fun s' J =>
      (pss_one (ps_ost (pe_var (i := 0) rfl (.inl S.self)) (pe_var (i := 1) rfl (.inl S.arg) hxd hxc))).run [] s' _ H _ J ⟨v1, rfl, .ref a, rfl, a, C, rfl, F.oex, F.nofl, .inl ⟨ha, hq⟩⟩
    obtain ⟨mb, hmb1, hmb2⟩ := e0.mod.blt
    have bk : ∀ b o, base.get? b = some o → h1.get? b = some o := fun b o z => hk _ _ (e0.bs b o z).1
    refine ks_wpAt_execs_cons (ks_wpAt_Expr_any (ks_wpAt_MethodCall ?_ (hev _)) (by show (scope.kind == .module && _) = false; rw [S.kind]; rfl) (hsw _))
    refine ks_wpAt_super_base (env := ksEnv qual scope s.heap.objs.size f (.ref cda) cc) (cc := cda) S.sup S.cls rfl rfl (hk _ _ (KX _ _ lk)) rfl hp rfl (bk _ _ (e0.mod.kin _ _ hcode)) rfl hvs hfile F.top ?_
    refine ks_loadName_global S.kind S.sup (Calls.loadGlobal_builtin (e0.mod.glob.keeps bk) F.nosup (hmb1.keeps bk) ((hmb2 _ (by decide)).trans (by rfl)) ⟨rfl, ?_⟩)
    refine wpAny_loadName_free S.kind S.cls rfl ⟨_, bk _ _ (e0.mod.kin _ _ hcc), rfl⟩ ?_
    rw [har]
    refine wpAny_loadName_local (v := .ref a) S.kind S.self hns (by
      have q : (("self" : Str) == x) = false := by simpa using fun z => S.ne z.symm
      simp [List.lookup, q]) ?_
    refine ks_wpAny_isType_cls (bk _ _ (e0.mod.kin _ _ hoC)) hdC ⟨rfl, ?_⟩
    refine ks_wpAny_call_super (bk _ _ (e0.mod.kin _ _ hoC)) hdC hoa rfl (fun c z => by cases z) (looks_mroIn (e0.mod.kin.keeps bk) F.sub) (fun h2 hso k2 => ?_)
    have I2 := I.kept (h' := h2) (t' := s.toks + 2) k2
    have K2 : K.In h2 := (e0.mod.kin.keeps bk).keeps k2
    have IA : InstAt h2 a _ C none := ⟨k2 _ _ hoa, rfl, rfl, trivial⟩
    have hf := F.sup
    unfold ks_superIn at hf
    rw [hclC] at hf
    refine kxs_getMethod kxs_ValueError hso (looks_opaque K2 F.stat) (l₀ := cdC.mro) (fun A Q E s k q => wpAny_bind ((looks_clsIn K2 hclC) A _ E s k (wpAny_pure q))) rfl K2 hf (IA.type.andThen (looks_subIn K2 F.val)) (ks_ne K2 IA hclC) rfl ?_
    have I3 := I2.kept (h' := h2.push (kxs_mw "ValueError.__init__" a)) (t' := s.toks + 2 + 1) fun b o z => Heap.get?_push_of_some _ z
    have I4 : Inv (cxI CX P w K mg base ["self", x] qual scope f (.ref cda) cc A outer s H E) [(h2.objs.size, kxs_mw "ValueError.__init__" a)] [some (.ref a), some v1] H { s with heap := h2.push (kxs_mw "ValueError.__init__" a), toks := s.toks + 2 + 1 } := I3.pins_of fun p hp => by
      have e1 : p = (h2.objs.size, kxs_mw "ValueError.__init__" a) := by simpa using hp
      subst e1
      exact ⟨Heap.get?_push_size _ rfl, I2.hok.fresh (Nat.le_refl _), Nat.ne_of_gt I2.lt, I2.nofs (Nat.le_refl _), fun v z => by cases z⟩
    show wpAny _ _ (callWith p3 (.ref h2.objs.size) [] (backTo p3 (starEach [e] _)) []) _ _ _
    rw [hst]
    refine kxs_callWith (i := "ValueError.__init__") (x := a) rfl (Calls.evalArgs_plain (x := eval e _) (rest := backTo p3 []) ?_)
    obtain ⟨te, hte, htx⟩ := he A outer s H E
    refine Calls.spliced_cons (thn (hte.run _ _ _ H _ I4 (htx (.ref a) v1 H ht)) fun u s5 ⟨v, H5, I5, r5, q5⟩ => ?_)
    subst q5
    refine Calls.spliced_nil ⟨(I5.pin _ (List.mem_append_right _ List.mem_cons_self)).1, ?_⟩
    refine mw_call F.oex I5 ha (I5.pin _ (List.mem_append_right _ List.mem_cons_self)).1 fun s6 I6 => ?_
    exact wpAt_of_wpAny (tail s6 I6.unpinned0)
  · have fin : ∀ {σ' : L2.St} {H' : Hp} {v : V} {u : Value}, Inv (cxI CX P w K mg base ["self", x] qual scope f (.ref cda) cc A outer s H E) [] σ' H' s' → RelV v u → Q v H' → CE outer P w H s Q u s' :=
      fun {σ' H' v u} J rv q => ⟨v, H', J.os, J.bare, J.base, J.hok, rv, q⟩
    cases fw with
    | ret u => obtain ⟨v, σ', H', J, rv, q⟩ := hs; exact fin J rv q
    | next => obtain ⟨σ', H', J, q⟩ := hs; exact fin (v := V.non) (u := Value.none) J rfl q
    | brk => obtain ⟨_, _, _, q⟩ := hs; exact q.elim
    | cont => obtain ⟨_, _, _, q⟩ := hs; exact q.elim
end

open PySem PySem.Spec PyProof.Rows L2

/-! ### the text of an error -/
def txt : D → Option Str
  | .str x => some x
  | .int n => if n.natAbs.log2 < 1920 then some (toString n) else none
  | _ => none
def rsnOk (k : Nat) (d : D) : Bool := match txt d with
  | some t => decide (k + t.length ≤ sizeLine)
  | none => false
/-- .. of a value -/
def TX (k : Nat) (r : V) : Prop := (∃ x : Str, r = .str x ∧ k + x.length ≤ sizeLine) ∨ ∃ n : Int, r = .int n ∧ n.natAbs.log2 < 1920 ∧ k + (toString n : Str).length ≤ sizeLine
theorem rsn_tx {C : Cst} {p : Pl} {H : Hp} {k : Nat} {d : D} {v : V} (h : rsnOk k d = true) (r : Rep C p H d v) : TX k v := by
  unfold rsnOk at h
  cases d <;> simp only [txt] at h <;> try (cases h; done)
  · rename_i i
    split at h
    · rename_i t e
      split at e
      · rename_i hz
        cases e
        simp only [Rep] at r
        exact .inr ⟨i, r, hz, of_decide_eq_true h⟩
      · cases e
    · cases h
  · simp only [Rep] at r
    exact .inl ⟨_, r, of_decide_eq_true h⟩
def strR : List V → Hp → VK → Prop := fun xs H Q => (∃ i, xs = [.int i] ∧ i.natAbs.log2 < 1920 ∧ Q (.str (toString i)) H) ∨ ∃ a, xs = [.str a] ∧ Q (.str a) H
theorem call_strR {X : Cx} : CallR X (.type "str") strR := by
  intro pins s σ H xs us Q I r h
  rcases h with h | h
  · exact call_str_int pins s σ H xs us Q I r h
  · exact SkE.call_str_str pins s σ H xs us Q I r h
section
variable {CX : CXT} {P : Program} {w : World} {K : PySem.W.Frag} {mg : Str → Option Value} {base : Heap} {f cc : Addr} {qual : Str} {scope : Scope} {cd : Value} {x : Str}
/-- 'm' + str(x) in an __init__ -/
theorem pe_text {m : Str} {j pm pn px pc pb} (S : InitScope scope x) (hs : scope.names.lookup ("str" : Str) = some .globalImplicit) (hm : mg "str" = none) (hxd : (x == ("__debug__" : Str)) = false) (hxc : (x == ("__classdict__" : Str)) = false) (A : Around) (outer : List PySem.Env) (s : Shared) (H : Hp) (E : XK) :
    ∃ te, PE (cxI CX P w K mg base ["self", x] qual scope f cd cc A outer s H E) (.BinOp (.Constant (.str m) j pm) .Add (.Call (.Name "str" pn) [.Name x px] [] pc) pb) te ∧ ∀ v r H1, TX m.length r → te [some v, some r] H1 (fun _ H2 => H2 = H1) := by
  refine ⟨_, pe_op op_add_str pe_str (pe_callTy (X := cxI CX P w K mg base ["self", x] qual scope f cd cc A outer s H E) call_strR hs hm (by rfl) (pa_cons (pe_var (i := 1) rfl (.inl S.arg) hxd hxc) pa_nil)), fun v r H1 h => ?_⟩
  refine ⟨r, rfl, ?_⟩
  rcases h with ⟨y, rfl, z⟩ | ⟨n, rfl, z1, z⟩
  · exact .inr ⟨y, rfl, m, y, rfl, rfl, z, rfl⟩
  · exact .inl ⟨n, rfl, z1, m, _, rfl, rfl, z, rfl⟩
end

/-! ### raise -/
def sRaise (c k : Nat) (m : EM D) : SM := fun δ S => SR.of (m δ S) δ fun d S1 => if rsnOk k d = true then .exc c d δ S1 else .stuck
section
variable {X : Cx} {C : Cst} {π : Option (Addr × Obj)} {W : WX}
theorem one_arg {m : EM D} {p : Pl} {S : Store} {δ : Env} {σ : L2.St} {H : Hp} {DE : Ends} {Q : List V → Hp → Prop} {f : D → Store → SR} (hp : p.π = π) (ok : Ok C p S H) (re : REnv C p H δ σ) (po : PostS C W p H DE (SR.of (m δ S) δ f))
    (k : ∀ d S1 p' H' v, Step p H p' H' → Ok C p' S1 H' → p'.π = π → REnv C p' H' δ σ → Rep C p' H' d v → PostS C W p' H' DE (f d S1) → Q [v] H') : TAe C π W (mCons m mNil) σ H Q := by
  refine ⟨p, S, δ, hp, ok, re, ?_⟩
  show Post C W p H σ (RepL C) Q ((m δ S).bind fun x S1 => (Res.ok [] S1).bind fun y S2 => .ok (x :: y) S2)
  cases e : m δ S with
  | stuck => rw [e] at po; exact po.elim
  | exc c d S1 => rw [e] at po; exact fun p' H' dx s o x => po p' H' dx σ s o (re.keep (s.keep ok)) x
  | ok d S1 =>
    rw [e] at po
    intro p' H' vs s o r
    obtain ⟨v, rfl, rv⟩ := RepL.one r
    exact k d S1 p' H' v s o (s.err.trans hp) (re.keep (s.keep ok)) rv (PostS.step s po)
theorem z_raise {c k kk : Nat} {nm x : Str} {fI : Addr} {fd : FuncData} {e : Expr} {m : EM D} {p pos pos' : Pos} {CX : CXT} (hcalm : X.calm = true) (tk : Takes X W) (T : OexC X.K (C.ca c)) (iC : PySem.W.findIn X.K (.ref (C.ca c)) "__init__" = some (some (.ref fI))) (tI : PySem.W.typeIn X.K (.ref fI) = some (.type "function"))
    (F1 : FnOk X.prog X.w X.K X.mg X.base CX kk fI fd ["self", x] (spI (C.ca c) (C.fld c) (TX k))) (hr : Room (kk + 1) X.A) (hb : Binds X.K fd ["self", x] []) (hx : Passes CX X (fun _ _ _ => False)) (hg : Gl X nm) (hm : X.mg nm = some (.ref (C.ca c))) (ha : PE X e (TEe C π W m))
    (hdb : (nm == ("__debug__" : Str)) = false := by decide) (hs : starEach [e] X.env = (false, eval e X.env) :: starEach [] X.env := by rfl) :
    PS X (.Raise (some (.Call (.Name nm p) [e] [] pos)) none pos') (TSe C π W (sRaise c k m)) :=
  ps_mono (ps_raise hcalm tk (pmk_oex T iC tI F1 hr hb .nil hx hg hm (a_cons ha a_nil hs) hdb hs (by rfl))) fun D σ H ⟨p, S, δ, hp, ok, re, po⟩ => by
    refine one_arg hp ok re po fun d S1 p1 H1 v s1 ok1 hp1 re1 r1 po1 => ⟨by simp, fun a ha => ?_⟩
    split at po1
    · rename_i hz
      refine ⟨a, v, rfl, upd_same, rsn_tx hz r1, fun dx h1 h2 => ⟨rfl, dx, [(C.fld c, v)], upd_same, by rw [upd_ne h2]; exact upd_same, by rw [upd_ne h2] at h1; exact h1, ?_⟩⟩
      have hd : H1 dx = none := by rw [upd_ne h2] at h1; exact h1
      have e : upd (del (upd (upd (upd H1 a (exo a (C.ca c) none)) dx (exd dx [(C.fld c, v)])) a (exo a (C.ca c) (some dx))) a) dx (.xd [(C.fld c, v)]) = upd H1 dx (.xd [(C.fld c, v)]) := by
        funext b
        by_cases hb : b = dx
        · rw [hb, upd_same, upd_same]
        · rw [upd_ne hb, upd_ne hb]
          by_cases hba : b = a
          · rw [hba, del_same, ha]
          · rw [del_ne hba, upd_ne hba, upd_ne hb, upd_ne hba]
      rw [e]
      have k1 := (Step.alloc (p := p1) (o := HO.xd [(C.fld c, v)]) hd).keep ok1
      exact po1 p1 _ dx σ (Step.alloc hd) (ok1.alloc hd) (re1.keep k1) ⟨v, upd_same, r1.keep k1⟩
    · exact po1.elim
end

open PySem PySem.Spec PyProof.Rows L2

/-! ### isinstance -/
def tyD (S : Store) : D → Option String
  | .non => some "NoneType"
  | .bl _ => some "bool"
  | .int _ => some "int"
  | .str _ => some "str"
  | .tup _ => some "tuple"
  | .lst _ => some "list"
  | .rol _ => some "list"
  | .loc l => match S[l]? with
    | some (.lst _) => some "list"
    | some (.dic _) => some "dict"
    | none => none
  | _ => none
theorem ty_rep {C : Cst} {p : Pl} {S : Store} {H : Hp} {d : D} {v : V} {a : String} (ok : Ok C p S H) (r : Rep C p H d v) (e : tyD S d = some a) : TyX C.K H v (.type a) := by
  cases d with
  | non => cases e; simp only [Rep] at r; subst r; exact .base .non
  | bl b => cases e; simp only [Rep] at r; subst r; exact .base (.bl b)
  | int b => cases e; simp only [Rep] at r; subst r; exact .base (.int b)
  | str b => cases e; simp only [Rep] at r; subst r; exact .base (.str b)
  | tup ds =>
    cases e
    obtain ⟨q, vs, rfl, h, _⟩ := tup_rep r
    rcases h with (h | ⟨o, h⟩) | ⟨o, its, n, hk, hc, _⟩
    · exact .base (.tup h)
    · exact .fTuple h
    · exact .kTuple hk hc
  | lst ds =>
    cases e
    simp only [Rep] at r
    obtain ⟨q, vs, rfl, _, _, h, _⟩ := r
    exact .base (.lst h)
  | rol ds =>
    cases e
    simp only [Rep] at r
    obtain ⟨q, vs, rfl, h, _⟩ := r
    rcases h with ⟨h, _⟩ | ⟨o, h⟩ | ⟨o, its, n, hk, hc, _⟩
    · exact .base (.lst h)
    · exact .base (.frz h)
    · exact .kList hk hc
  | loc l =>
    simp only [tyD] at e
    split at e
    · rename_i ds hs
      cases e
      obtain ⟨q, rfl, _, vs, h, _⟩ := locAt ok r hs
      exact .base (.lst h)
    · rename_i kvs hs
      cases e
      obtain ⟨q, rfl, _, vs, h, _⟩ := locAt ok r hs
      exact .base (.dK h)
    · cases e
  | fn _ => cases e
  | err _ _ => cases e
/-- isinstance(e, T) -/
def isT (T : String) (S : Store) (d : D) : Option Bool := (tyD S d).bind fun a => kitB a T
def mIsT (T : String) (m : EM D) : EM D := fun δ S => (m δ S).bind fun d S1 => out ((isT T S1 d).map D.bl) S1
/-- isinstance(error, X): tb says it class by class -/
def mIsE (tb : Nat → Option Bool) (m : EM D) : EM D := fun δ S => (m δ S).bind fun d S1 => match d with
  | .err c _ => out ((tb c).map D.bl) S1
  | _ => .stuck
/-- error.field -/
def mXf (cs : List Nat) (m : EM D) : EM D := fun δ S => (m δ S).bind fun d S1 => match d with
  | .err c e => if c ∈ cs then .ok e S1 else .stuck
  | _ => .stuck

/-- what an error's class must say for isinstance and for its field -/
structure IsC (K : PySem.W.Frag) (D : Addr) (fl : Str) : Prop where
  cl : (PySem.W.clsIn K D).isSome = true
  ga : PySem.W.findIn K (.ref D) "__getattribute__" = some (some (.builtin "BaseException.__getattribute__"))
  gt : PySem.W.findIn K (.ref D) "__getattr__" = some none
  sub : PySem.W.subIn K (.ref D) (.type "BaseException") = some true
  ca : PySem.W.findIn K (.ref D) "__class__" = some (some (.builtin "object.__class__"))
  sp : PySem.W.specialIn K (.builtin "object.__class__") "__get__" = some (some (.builtin "getset_descriptor.__get__"))
  tk : PySem.W.takesIn K (.builtin "object.__class__") = some true
  ob : PySem.W.mroIn K D (.type "object") = some true
  hd : PySem.W.hasDictIn K D = true
  no : PySem.W.findIn K (.ref D) fl = some none
/-- the pinned error as an instance -/
theorem pin_inst {X : Cx} {pins : List (Addr × Obj)} {σ : L2.St} {H : Hp} {s : Shared} {a : Addr} {oe : Obj} {cls dx : Addr} {fs : List (Str × V)} (I : Inv X pins σ H s) (hm : (a, oe) ∈ X.pn) (hz : Zc (.ref cls) (some dx) oe) (hf : ∃ vs, oe.data = .fields vs) (hx : H dx = some (.xd fs)) :
    ∃ od, PySem.W.InstAt s.heap a oe cls (some od) ∧ ∃ mA, s.heap.get? dx = some od ∧ (∀ f, RelO (fs.lookup f) (mA f)) ∧ s.heap.Ns1 dx mA := by
  obtain ⟨hget, _⟩ := I.pin (a, oe) (List.mem_append_left _ hm)
  obtain ⟨mA, hns, hr⟩ := (show ObjOk X.prog X.w H s.heap dx (.xd fs) from I.hok dx _ hx)
  obtain ⟨od, es, ep, ho, hq⟩ := id hns
  obtain ⟨vs, hd⟩ := hf
  exact ⟨od, ⟨hget, hz.1, by unfold PySem.W.notCls; rw [hd] <;> rfl, by rw [hz.2]; exact ho⟩, mA, ho, hr, hns⟩
def rIsX (K : PySem.W.Frag) (a : Addr) (oe : Obj) (c2 : V) (cv : Value) : List V → Hp → VK → Prop := fun xs H Q => ∃ (cls dx : Addr) (fs : List (Str × V)) (fl : Str) (b : Bool), xs = [.ref a, c2] ∧ Zc (.ref cls) (some dx) oe ∧ (∃ vs, oe.data = .fields vs) ∧ H dx = some (.xd fs) ∧ IsC K cls fl ∧ PySem.W.kitOne K (.ref cls) cv = some b ∧ Q (.bl b) H
section
variable {X : Cx} {C : Cst} {π : Option (Addr × Obj)} {W : WX} {pos p : Pos} {e ce : Expr} {me : EM D}
theorem call_isX {a : Addr} {oe : Obj} {c2 : V} {cv : Value} (hm : (a, oe) ∈ X.pn) (hc : ClsV c2 cv) : CallR X (.builtin "isinstance") (rIsX X.K a oe c2 cv) := by
  intro pins s σ H xs us Q I r h
  obtain ⟨cls, dx, fs, fl, b, rfl, hz, hf, hx, T, e, q⟩ := h
  obtain ⟨u1, u2, rfl, r1, r2⟩ := vals2 r
  obtain rfl := hc.eq r2
  cases (show u1 = Value.ref a from r1)
  obtain ⟨od, J, _⟩ := pin_inst I hm hz hf hx
  exact PySem.W.kia_one (PySem.W.kitx_exc T.cl T.ga T.gt T.sub T.ca T.sp T.tk T.ob) I.kIn J e (fun z => nomatch z) fun tk => ⟨.bl b, H, I.tok tk, rfl, q⟩
/-- isinstance(e, T), T a built-in type -/
theorem e_isT {T : String} (hK : X.K = C.K) (hg : Gl X "isinstance") (hm : X.mg "isinstance" = none) (he : PE X e (TEe C π W me)) (hc : PE X ce (tC (.ty T))) (hs : starEach [e, ce] X.env = (false, eval e X.env) :: starEach [ce] X.env := by rfl) (hs2 : starEach [ce] X.env = (false, eval ce X.env) :: starEach [] X.env := by rfl) :
    PE X (.Call (.Name "isinstance" p) [e, ce] [] pos) (TEe C π W (mIsT T me)) :=
  pe_mono (pe_callB call_isi hg hm (by rfl) (pa_cons he (pa_cons hc pa_nil hs2) hs) (by decide) (by decide) hs (by rw [hs2]; rfl)) fun σ H Q ⟨p, S, δ, hp, ok, re, po⟩ => TRe.go hp ok re po fun d S1 p1 H1 v k1 ok1 hp1 re1 r1 po1 => by
    obtain ⟨d2, e2, q⟩ := po1.out
    unfold isT at e2
    simp only [Option.map_eq_some_iff, Option.bind_eq_some_iff] at e2
    obtain ⟨b, ⟨a, e3, e4⟩, rfl⟩ := e2
    refine ⟨v, .ty T, _, .type T, b, rfl, .ty T, by rw [hK]; exact ty_rep ok1 r1 e3, kit_ty e4, q p1 H1 _ (Step.refl _ _) ok1 (by simp only [Rep])⟩
/-- isinstance(error, X) -/
theorem e_isE {a : Addr} {oe : Obj} {c2 : V} {cv : Value} {tb : Nat → Option Bool} (hpn : (a, oe) ∈ X.pn) (hg : Gl X "isinstance") (hm : X.mg "isinstance" = none) (he : PE X e (TEe C (some (a, oe)) W me)) (hc : PE X ce (tC c2)) (hv : ClsV c2 cv)
    (ht : ∀ c b, tb c = some b → IsC X.K (C.ca c) (C.fld c) ∧ PySem.W.kitOne X.K (.ref (C.ca c)) cv = some b) (hs : starEach [e, ce] X.env = (false, eval e X.env) :: starEach [ce] X.env := by rfl) (hs2 : starEach [ce] X.env = (false, eval ce X.env) :: starEach [] X.env := by rfl) :
    PE X (.Call (.Name "isinstance" p) [e, ce] [] pos) (TEe C (some (a, oe)) W (mIsE tb me)) :=
  pe_mono (pe_callB (call_isX hpn hv) hg hm (by rfl) (pa_cons he (pa_cons hc pa_nil hs2) hs) (by decide) (by decide) hs (by rw [hs2]; rfl)) fun σ H Q ⟨p, S, δ, hp, ok, re, po⟩ => TRe.go hp ok re po fun d S1 p1 H1 v k1 ok1 hp1 re1 r1 po1 => by
    cases d with
    | err c d =>
      obtain ⟨d2, e2, q⟩ := Post.out po1
      simp only [Option.map_eq_some_iff] at e2
      obtain ⟨b, e3, rfl⟩ := e2
      obtain ⟨T, hk⟩ := ht c b e3
      simp only [Rep] at r1
      obtain ⟨pp, dx, u, vs, e5, rfl, hz, hf, hx, hu⟩ := r1
      rw [hp1] at e5
      cases e5
      exact ⟨_, dx, _, _, b, rfl, hz, ⟨vs, hf⟩, hx, T, hk, q p1 H1 _ (Step.refl _ _) ok1 (by simp only [Rep])⟩
    | _ => exact po1.elim
/-- error.field -/
theorem e_xf {a : Addr} {oe : Obj} {cs : List Nat} {fl : Str} (hpn : (a, oe) ∈ X.pn) (he : PE X e (TEe C (some (a, oe)) W me)) (ht : ∀ c ∈ cs, IsC X.K (C.ca c) fl ∧ C.fld c = fl) (hb : attributeBase e fl X.env (eval e X.env) = eval e X.env := by rfl) :
    PE X (.Attribute e fl pos) (TEe C (some (a, oe)) W (mXf cs me)) := by
  refine ⟨fun pi s σ H Q I h => attr_of hb ?_⟩
  obtain ⟨p, S, δ, hp, ok, re, po⟩ := h
  refine thn (he.run pi s σ H (fun v H1 => ∃ (cls dx : Addr) (u : V), v = .ref a ∧ Zc (.ref cls) (some dx) oe ∧ (∃ vs, oe.data = .fields vs) ∧ H1 dx = some (.xd [(fl, u)]) ∧ IsC X.K cls fl ∧ Q u H1) I (TRe.go hp ok re po fun d S1 p1 H1 v k1 ok1 hp1 re1 r1 po1 => ?_)) fun v s1 ⟨x, H1, I1, rx, cls, dx, u, ev, hz, hf, hx, T, q⟩ => ?_
  · cases d with
    | err c d =>
      have po2 : Post C W p1 H1 σ (Rep C) Q (if c ∈ cs then .ok d S1 else .stuck) := po1
      split at po2
      · rename_i hc
        obtain ⟨T, hfl⟩ := ht c hc
        simp only [Rep] at r1
        obtain ⟨pp, dx, u, vs, e5, rfl, hz, hf, hx, hu⟩ := r1
        rw [hp1] at e5
        cases e5
        rw [hfl] at hx
        exact ⟨_, dx, u, rfl, hz, ⟨vs, hf⟩, hx, T, po2 p1 H1 u (Step.refl _ _) ok1 hu⟩
      · exact po2.elim
    | _ => exact po1.elim
  · subst ev
    cases (show v = Value.ref a from rx)
    obtain ⟨od, J, mA, ho, hr, hns⟩ := pin_inst I1 hpn hz hf hx
    obtain ⟨od2, ho2, hl⟩ := lookIn_ns hns
    rw [ho] at ho2; cases ho2
    obtain ⟨w, hu, ru⟩ := RelO.some_of (v := u) (o := mA fl) (by have z := hr fl; simpa [List.lookup] using z)
    exact HandSPX.exc_get I1.kIn J T.ga T.gt T.sub (PySem.W.findObj_own T.hd T.no rfl (by rw [hl, hu])) (handed_of ru) ⟨u, H1, I1.tok _, ru, q⟩
end

open PySem PySem.Spec PyProof.Rows L2

/-! ### values without errors and places -/
mutual
def plainD : D → Bool
  | .non => true
  | .bl _ => true
  | .int _ => true
  | .str _ => true
  | .fn _ => true
  | .tup ds => plainL ds
  | .lst ds => plainL ds
  | .rol ds => plainL ds
  | .loc _ => false
  | .err _ _ => false
def plainL : List D → Bool
  | [] => true
  | d :: ds => plainD d && plainL ds
end
section
variable {C : Cst} {p q : Pl} {H : Hp}
mutual
theorem plain_rep (h : ∀ a, a ∉ p.ρ → a ∉ p.hid → a ∉ q.ρ ∧ a ∉ q.hid) : ∀ (d : D) (v : V), plainD d = true → Rep C p H d v → Rep C q H d v
  | .non, v, _, r => by simpa only [Rep] using r
  | .bl _, v, _, r => by simpa only [Rep] using r
  | .int _, v, _, r => by simpa only [Rep] using r
  | .str _, v, _, r => by simpa only [Rep] using r
  | .fn _, v, _, r => by simpa only [Rep] using r
  | .loc _, v, z, r => by simp [plainD] at z
  | .err _ _, v, z, r => by simp [plainD] at z
  | .tup ds, v, z, r => by
    simp only [Rep] at r ⊢
    obtain ⟨a, vs, e, k, r2⟩ := r
    exact ⟨a, vs, e, k, plain_repL h ds vs (by simpa only [plainD] using z) r2⟩
  | .lst ds, v, z, r => by
    simp only [Rep] at r ⊢
    obtain ⟨a, vs, e, n1, n2, k, r2⟩ := r
    exact ⟨a, vs, e, (h a n1 n2).1, (h a n1 n2).2, k, plain_repL h ds vs (by simpa only [plainD] using z) r2⟩
  | .rol ds, v, z, r => by
    simp only [Rep] at r ⊢
    obtain ⟨a, vs, e, k, r2⟩ := r
    refine ⟨a, vs, e, ?_, plain_repL h ds vs (by simpa only [plainD] using z) r2⟩
    rcases k with ⟨k, n1, n2⟩ | k | k
    · exact .inl ⟨k, h a n1 n2⟩
    · exact .inr (.inl k)
    · exact .inr (.inr k)
theorem plain_repL (h : ∀ a, a ∉ p.ρ → a ∉ p.hid → a ∉ q.ρ ∧ a ∉ q.hid) : ∀ (ds : List D) (vs : List V), plainL ds = true → RepL C p H ds vs → RepL C q H ds vs
  | [], vs, _, r => by simpa only [RepL] using r
  | d :: ds, vs, z, r => by
    simp only [RepL] at r ⊢
    simp only [plainL, Bool.and_eq_true] at z
    obtain ⟨v, r', e, r1, r2⟩ := r
    exact ⟨v, r', e, plain_rep h d v z.1 r1, plain_repL h ds r' z.2 r2⟩
end
end

/-! ### try .. except X as name, where the clause returns -/
def sTry (mb : SM) (yes : Nat → Option Bool) (i : Nat) (ms : SM) : SM := fun δ S => match mb δ S with
  | .exc c d δ' S' => match yes c with
    | some true => if plainD d = true then (match ms ((δ'.map fun _ => none).set i (some (.err c d))) [] with
      | .rt r _ => if plainD r = true then .rt r S' else .stuck
      | _ => .stuck) else .stuck
    | some false => .exc c d δ' S'
    | none => .stuck
  | r => r
section
variable {X : Cx} {C : Cst} {W : WX} {pos : Pos} {mb ms : SM} {yes : Nat → Option Bool} {i : Nat} {x n : Str} {cv : Value} {body suite : List Stmt} {b0 : Stmt} {np pos' : Pos}
/-- while a suite runs, all places are out of sight -/
abbrev Pl.shut (p : Pl) (q : Addr × Obj) : Pl := ⟨[], p.ρ ++ p.hid, some q⟩
theorem shut_ok {p : Pl} {S : Store} {H : Hp} {q : Addr × Obj} (ok : Ok C p S H) : Ok C (p.shut q) [] H := by
  refine ⟨rfl, by simp, fun l c h => by simp at h, fun a h => ⟨by simp, ?_⟩⟩
  rcases List.mem_append.mp h with h | h
  · rcases ok.locNot h with ⟨vs, e⟩ | ⟨vs, e⟩ <;> exact ⟨_, e⟩
  · exact (ok.hid a h).2
theorem shut_back {p p3 : Pl} {S : Store} {H H3 : Hp} {q : Addr × Obj} (ok : Ok C p S H) (s : Step (p.shut q) H p3 H3) : Step p H p H3 ∧ Ok C p S H3 ∧ ∀ a, a ∉ p3.ρ → a ∉ p3.hid → a ∉ p.ρ ∧ a ∉ p.hid := by
  have all : ∀ a o, H a = some o → H3 a = some o := fun a o h => s.frz a o h (by simp)
  have st : Step p H p H3 := ⟨⟨[], by simp⟩, rfl, rfl, fun a o h _ => all a o h, fun a h h' => absurd h h'⟩
  refine ⟨st, ⟨ok.len, ok.nd, fun l c h => ?_, fun a h => ?_⟩, fun a _ h2 => ?_⟩
  · obtain ⟨a, e, r⟩ := ok.cell l c h
    exact ⟨a, e, r.keep (st.keep ok) (fun o z => all a o z)⟩
  · obtain ⟨n, o, e⟩ := ok.hid a h
    exact ⟨n, o, all a o e⟩
  · rw [s.hid] at h2
    exact ⟨fun z => h2 (List.mem_append_left _ z), fun z => h2 (List.mem_append_right _ z)⟩
theorem z_try (hs : X.stack = X.env :: X.outer) (hf : X.env.frame = some X.env.locals) (hN : X.N.Nodup) (hi : X.N[i]? = some n) (hln : X.env.kindOf n = some .local) (hc : Names X x cv) (tk : Takes X W)
    (hyes : ∀ c b, yes c = some b → PySem.W.exmOne X.K (.ref (C.ca c)) cv = some b)
    (hb : ∀ (W : WX) (pn : List (Addr × Obj)) (xe : Value → Shared → Prop), Takes (X.tr pn xe) W → PassesOwn (model X.prog X.w) X.A X.env xe → PSs (X.tr pn xe) body (TSe C none W mb))
    (hsu : ∀ (a : Addr) (oe : Obj) (pn : List (Addr × Obj)), PSs (X.suite a ((a, oe) :: pn)) (b0 :: suite) (TSe C (some (a, oe)) WF ms)) :
    PS X (.Try body [.ExceptHandler (some (.Name x np)) (some n) (b0 :: suite) pos'] [] [] pos) (TSe C none W (sTry mb yes i ms)) :=
  ps_mono (ps_try_as (tb := fun W => TSe C none W mb) (ts := fun a cls dO D σ H => ∀ oe, Zc cls dO oe → (∃ vs, oe.data = .fields vs) → TSe C (some (a, oe)) WF ms D σ H) hs hf hN hi hln hc tk hb fun a oe cls d pn hz hv => pss_mono (hsu a oe pn) fun D σ H h => h oe hz hv)
    fun DE σ H ⟨p, S, δ, hp, ok, re, po⟩ => by
      refine ⟨p, S, δ, hp, ok, re, ?_⟩
      unfold sTry at po
      cases e : mb δ S with
      | nx δ' S' => rw [e] at po; exact po
      | rt d S' => rw [e] at po; exact po
      | bk δ' S' => rw [e] at po; exact po
      | ct δ' S' => rw [e] at po; exact po
      | stuck => rw [e] at po; exact po
      | exc c d δ' S' =>
        rw [e] at po
        dsimp only at po
        intro p1 H1 dx σ1 s1 ok1 re1 x1
        cases ey : yes c with
        | none => rw [ey] at po; exact po.elim
        | some b =>
          refine ⟨b, hyes c b ey, fun hb a ha oe hz hv => ?_, fun hb => ?_⟩
          · subst hb
            rw [ey] at po
            dsimp only at po
            split at po
            · rename_i hpl
              obtain ⟨u, hu, ru⟩ := x1
              refine ⟨p1.shut (a, oe), [], (δ'.map fun _ => none).set i (some (.err c d)), rfl, shut_ok ok1, ?_, ?_⟩
              · refine ⟨by simp [re1.1], fun j e1 h => ?_⟩
                by_cases hj : j = i
                · subst hj
                  have hl : j < δ'.length := by
                    have := (List.getElem?_eq_some_iff.mp h).1
                    simpa using this
                  rw [List.getElem?_set_self (by simpa using hl)] at h
                  cases h
                  refine ⟨.ref a, by rw [List.getElem?_set_self (by rw [← re1.1]; exact hl)], ?_⟩
                  simp only [Rep]
                  obtain ⟨vs, hvs⟩ := hv
                  exact ⟨(a, oe), dx, u, vs, rfl, rfl, hz, hvs, hu, plain_rep (fun b n1 n2 => ⟨by simp, fun z => (List.mem_append.mp z).elim n1 n2⟩) d u hpl ru⟩
                · rw [List.getElem?_set_ne (Ne.symm hj), List.getElem?_map] at h
                  cases q : δ'[j]? with
                  | none => rw [q] at h; simp at h
                  | some z => rw [q] at h; simp at h
              · cases em : ms ((δ'.map fun _ => none).set i (some (.err c d))) [] with
                | rt r S3 =>
                  rw [em] at po
                  dsimp only at po
                  split at po
                  · rename_i hr
                    intro p3 H3 v s3 ok3 r3
                    obtain ⟨b1, b2, b3⟩ := shut_back ok1 s3
                    exact po p1 H3 v (s1.trans b1) b2 (plain_rep b3 r v hr r3)
                  · exact po.elim
                | nx => rw [em] at po; exact po.elim
                | bk => rw [em] at po; exact po.elim
                | ct => rw [em] at po; exact po.elim
                | exc => rw [em] at po; exact po.elim
                | stuck => rw [em] at po; exact po.elim
            · exact po.elim
          · subst hb
            rw [ey] at po
            exact po p1 H1 dx σ1 s1 ok1 re1 x1
end

open PySem PySem.Spec PyProof.Rows L2

/-! ### equality -/
mutual
def eqq : D → D → Bool
  | .non, .non => true
  | .bl a, .bl b => a == b
  | .bl a, .int b => (if a then 1 else 0) == b
  | .int a, .bl b => a == (if b then 1 else 0)
  | .int a, .int b => a == b
  | .str a, .str b => a == b
  | .tup a, .tup b => eqqL a b
  | .lst a, .lst b => eqqL a b
  | .lst a, .rol b => eqqL a b
  | .rol a, .lst b => eqqL a b
  | .rol a, .rol b => eqqL a b
  | _, _ => false
def eqqL : List D → List D → Bool
  | [], [] => true
  | a :: as, b :: bs => eqq a b && eqqL as bs
  | _, _ => false
end
/-- data of a depth of at most n -/
def okq : Nat → D → Bool
  | _, .non => true
  | _, .bl _ => true
  | _, .int _ => true
  | _, .str x => PyData.strOk x
  | n + 1, .tup ds => ds.all (okq n)
  | n + 1, .lst ds => ds.all (okq n)
  | n + 1, .rol ds => ds.all (okq n)
  | _, _ => false
mutual
def pd : D → PyData
  | .non => .none
  | .bl b => .bool b
  | .int i => .int i
  | .str x => .str x
  | .tup ds => .tuple (pdL ds)
  | .lst ds => .list (pdL ds)
  | .rol ds => .list (pdL ds)
  | _ => .none
def pdL : List D → List PyData
  | [] => []
  | d :: ds => pd d :: pdL ds
end
theorem pd_ok : ∀ (n : Nat) (d : D), okq n d = true → (pd d).canLay0 = true ∧ (pd d).depth ≤ n
  | n, .non, _ => by simp [pd, PyData.canLay0, PyData.depth]
  | n, .bl _, _ => by simp [pd, PyData.canLay0, PyData.depth]
  | n, .int _, _ => by simp [pd, PyData.canLay0, PyData.depth]
  | n, .str x, h => by
    have h' : PyData.strOk x = true := by cases n <;> simpa only [okq] using h
    simp [pd, PyData.canLay0, PyData.depth, h']
  | 0, .tup _, h => by simp [okq] at h
  | 0, .lst _, h => by simp [okq] at h
  | 0, .rol _, h => by simp [okq] at h
  | n, .loc _, h => by cases n <;> simp [okq] at h
  | n, .fn _, h => by cases n <;> simp [okq] at h
  | n, .err _ _, h => by cases n <;> simp [okq] at h
  | n + 1, .tup ds, h => by
    have q := go n ds (by simpa only [okq] using h)
    exact ⟨by simpa only [pd, PyData.canLay0] using q.1, by simp only [pd, PyData.depth]; omega⟩
  | n + 1, .lst ds, h => by
    have q := go n ds (by simpa only [okq] using h)
    exact ⟨by simpa only [pd, PyData.canLay0] using q.1, by simp only [pd, PyData.depth]; omega⟩
  | n + 1, .rol ds, h => by
    have q := go n ds (by simpa only [okq] using h)
    exact ⟨by simpa only [pd, PyData.canLay0] using q.1, by simp only [pd, PyData.depth]; omega⟩
where
  go : ∀ (n : Nat) (ds : List D), ds.all (okq n) = true → PyData.canLayAll0 (pdL ds) = true ∧ PyData.depthAll (pdL ds) ≤ n
  | n, [], _ => by simp [pdL, PyData.canLayAll0, PyData.depthAll]
  | n, d :: ds, h => by
    rw [List.all_cons, Bool.and_eq_true] at h
    have q1 := pd_ok n d h.1
    have q2 := go n ds h.2
    simp only [pdL, PyData.canLayAll0, PyData.depthAll, Bool.and_eq_true]
    exact ⟨⟨q1.1, q2.1⟩, by omega⟩
theorem pd_shaped {n : Nat} {d : D} (h : okq n d = true) (hn : n ≤ 60) : SeqAt.shaped (pd d) = true := by
  have q := pd_ok n d h
  unfold SeqAt.shaped
  rw [Bool.and_eq_true]
  exact ⟨q.1, decide_eq_true (by omega)⟩
mutual
theorem pd_eqv : ∀ (n m : Nat) (a b : D), okq n a = true → okq m b = true → (pd a).eqv (pd b) = eqq a b := by
  intro n m a b ha hb
  cases a <;> cases b <;> first
    | (simp only [pd, PyData.eqv, eqq]; done)
    | (cases n <;> simp [okq] at ha; done)
    | (cases m <;> simp [okq] at hb; done)
    | skip
  all_goals (
    cases n with
    | zero => simp [okq] at ha
    | succ n =>
      cases m with
      | zero => simp [okq] at hb
      | succ m =>
        simp only [okq] at ha hb
        simp only [pd, PyData.eqv, eqq]
        exact pd_eqvL n m _ _ ha hb)
theorem pd_eqvL : ∀ (n m : Nat) (as bs : List D), as.all (okq n) = true → bs.all (okq m) = true → PyData.eqvAll (pdL as) (pdL bs) = eqqL as bs
  | n, m, [], [], _, _ => by simp [pdL, PyData.eqvAll, eqqL]
  | n, m, [], b :: bs, _, _ => by simp [pdL, PyData.eqvAll, eqqL]
  | n, m, a :: as, [], _, _ => by simp [pdL, PyData.eqvAll, eqqL]
  | n, m, a :: as, b :: bs, ha, hb => by
    rw [List.all_cons, Bool.and_eq_true] at ha hb
    simp only [pdL, PyData.eqvAll, eqqL]
    rw [pd_eqv n m a b ha.1 hb.1, pd_eqvL n m as bs ha.2 hb.2]
end

section
variable {C : Cst} {p : Pl} {S : Store} {H : Hp}
mutual
theorem dp_rep : ∀ (n : Nat) (d : D) (v : V), okq n d = true → Rep C p H d v → Dp C.K H v (pd d) := by
  intro n d v h r
  cases d with
  | non => simp only [Rep] at r; subst r; exact .non
  | bl b => simp only [Rep] at r; subst r; exact .bl b
  | int b => simp only [Rep] at r; subst r; exact .int b
  | str b => simp only [Rep] at r; subst r; exact .str b
  | tup ds =>
    cases n with
    | zero => simp [okq] at h
    | succ n =>
      obtain ⟨a, vs, rfl, k, q⟩ := tup_rep r
      exact .tup k (dp_repL n ds vs (by simpa only [okq] using h) q)
  | lst ds =>
    cases n with
    | zero => simp [okq] at h
    | succ n =>
      simp only [Rep] at r
      obtain ⟨a, vs, rfl, _, _, k, q⟩ := r
      exact .lst (.of k) (dp_repL n ds vs (by simpa only [okq] using h) q)
  | rol ds =>
    cases n with
    | zero => simp [okq] at h
    | succ n =>
      simp only [Rep] at r
      obtain ⟨a, vs, rfl, k, q⟩ := r
      exact .lst k.sq (dp_repL n ds vs (by simpa only [okq] using h) q)
  | loc l => cases n <;> simp [okq] at h
  | fn l => cases n <;> simp [okq] at h
  | err l e => cases n <;> simp [okq] at h
theorem dp_repL : ∀ (n : Nat) (ds : List D) (vs : List V), ds.all (okq n) = true → RepL C p H ds vs → DpAll C.K H vs (pdL ds)
  | n, [], vs, _, r => by simp only [RepL] at r; subst r; exact .nil
  | n, d :: ds, vs, h, r => by
    rw [List.all_cons, Bool.and_eq_true] at h
    simp only [RepL] at r
    obtain ⟨v, r', rfl, r1, r2⟩ := r
    exact .cons (dp_rep n d v h.1 r1) (dp_repL n ds r' h.2 r2)
end
/-- a list that stands in the store, as a value -/
def rs (S : Store) : D → Option D
  | .loc l => match S[l]? with
    | some (.lst ds) => some (.lst ds)
    | _ => none
  | d => some d
theorem dp_rs {n : Nat} {d e : D} {v : V} (ok : Ok C p S H) (hr : rs S d = some e) (h : okq n e = true) (r : Rep C p H d v) : Dp C.K H v (pd e) := by
  cases d with
  | loc l =>
    simp only [rs] at hr
    split at hr
    · rename_i ds hs
      cases hr
      obtain ⟨a, rfl, _, vs, k, q⟩ := locAt ok r hs
      cases n with
      | zero => simp [okq] at h
      | succ n => exact .lst (.of k) (dp_repL n ds vs (by simpa only [okq] using h) q)
    · cases hr
  | _ => cases hr; exact dp_rep n _ v h r
end
/-- both flat, by the short road -/
def scalD : D → D → Bool
  | .str _, .str _ => true
  | .int _, .int _ => true
  | _, _ => false
/-- a == b -/
def eqB (S : Store) (a b : D) : Option Bool := match rs S a, rs S b with
  | some x, some y => if scalD x y = true then some (eqq x y) else if okq 40 x = true ∧ okq 40 y = true then some (eqq x y) else none
  | _, _ => none
def eqD (S : Store) (a b : D) : Option D := (eqB S a b).map D.bl
def neD (S : Store) (a b : D) : Option D := (eqB S a b).map fun k => D.bl (!k)
section
variable {X : Cx} {C : Cst}
theorem scal_rep {p : Pl} {S : Store} {H : Hp} {dx dy x y : D} {v w : V} (h : scalD x y = true) (e1 : rs S dx = some x) (e2 : rs S dy = some y) (r1 : Rep C p H dx v) (r2 : Rep C p H dy w) : scal v w = true ∧ decide (v = w) = eqq x y := by
  have l1 : ∀ l, dx = .loc l → False := fun l z => by
    subst z
    simp only [rs] at e1
    split at e1
    · cases e1; simp [scalD] at h
    · cases e1
  have l2 : ∀ l, dy = .loc l → False := fun l z => by
    subst z
    simp only [rs] at e2
    split at e2
    · cases e2; cases x <;> simp [scalD] at h
    · cases e2
  cases dx <;> first
    | exact absurd rfl (fun z => l1 _ z)
    | (cases e1; try (simp [scalD] at h; done))
  all_goals (cases dy <;> first
    | exact absurd rfl (fun z => l2 _ z)
    | (cases e2; try (simp [scalD] at h; done)))
  all_goals (simp only [Rep] at r1 r2; subst r1; subst r2; refine ⟨rfl, ?_⟩; simp only [eqq])
  · exact dec_int
  · exact dec_str
theorem eq_ok (hK : X.K = C.K) (hu : X.A.units + 64 < cLine) : OpR X (compareOp .Eq) (rV2 C eqD) := by
  intro pins s σ H x y v u Q I rx ry h
  obtain ⟨p, S, dx, dy, d, ok, r1, r2, e, w⟩ := h
  unfold eqD eqB at e
  split at e
  · rename_i a b e1 e2
    split at e
    · rename_i hs
      cases e
      obtain ⟨k1, k2⟩ := scal_rep hs e1 e2 r1 r2
      refine op_eq pins s σ H x y v u Q I rx ry ⟨k1, ?_⟩
      rw [k2]
      exact w.here ok (by simp only [Rep])
    · split at e
      · rename_i hq
        cases e
        refine op_eqD hu pins s σ H x y v u Q I rx ry ⟨pd a, pd b, ?_, ?_, pd_shaped hq.1 (by omega), pd_shaped hq.2 (by omega), ?_⟩
        · rw [hK]; exact dp_rs ok e1 hq.1 r1
        · rw [hK]; exact dp_rs ok e2 hq.2 r2
        · rw [pd_eqv 40 40 a b hq.1 hq.2]
          exact w.here ok (by simp only [Rep])
      · cases e
  · cases e
theorem ne_ok (hK : X.K = C.K) (hu : X.A.units + 64 < cLine) : OpR X (compareOp .NotEq) (rV2 C neD) := by
  intro pins s σ H x y v u Q I rx ry h
  obtain ⟨p, S, dx, dy, d, ok, r1, r2, e, w⟩ := h
  unfold neD eqB at e
  split at e
  · rename_i a b e1 e2
    split at e
    · rename_i hs
      cases e
      obtain ⟨k1, k2⟩ := scal_rep hs e1 e2 r1 r2
      refine op_ne pins s σ H x y v u Q I rx ry ⟨k1, ?_⟩
      rw [k2]
      exact w.here ok (by simp only [Rep])
    · split at e
      · rename_i hq
        cases e
        refine op_neD hu pins s σ H x y v u Q I rx ry ⟨pd a, pd b, ?_, ?_, pd_shaped hq.1 (by omega), pd_shaped hq.2 (by omega), ?_⟩
        · rw [hK]; exact dp_rs ok e1 hq.1 r1
        · rw [hK]; exact dp_rs ok e2 hq.2 r2
        · rw [pd_eqv 40 40 a b hq.1 hq.2]
          exact w.here ok (by simp only [Rep])
      · cases e
  · cases e
/-- is, is not -/
theorem is_ok : OpR X (compareOp .Is) (rV2 C isD) := by
  intro pins s σ H x y v u Q I rx ry h
  obtain ⟨p, S, dx, dy, d, ok, r1, r2, e, w⟩ := h
  have nn : ∀ b : Bool, dy = .non → d = .bl b → decide (x = V.non) = b → wpAny (model X.prog X.w) X.A (compareOp .Is v u) (EP X pins σ Q) X.xe s := fun b e1 e2 e3 => by
    subst e1; subst e2
    simp only [Rep] at r2
    exact op_isN pins s σ H x y v u Q I rx ry ⟨r2, by rw [e3]; exact w.here ok (by simp only [Rep])⟩
  cases dx <;> cases dy <;> first | (simp [isD] at e; done) | skip
  · cases e; simp only [Rep] at r1; exact nn true rfl rfl (by simp [r1])
  · cases e; simp only [Rep] at r1; exact nn false rfl rfl (by simp [r1])
  · cases e
    simp only [Rep] at r1 r2
    exact op_is_bl pins s σ H x y v u Q I rx ry ⟨_, _, r1, r2, w.here ok (by simp only [Rep])⟩
  · cases e; simp only [Rep] at r1; exact nn false rfl rfl (by simp [r1])
  · cases e; simp only [Rep] at r1; exact nn false rfl rfl (by simp [r1])
  · cases e; obtain ⟨a, vs, e1, _⟩ := tup_rep r1; exact nn false rfl rfl (by simp [e1])
  · cases e; simp only [Rep] at r1; obtain ⟨a, vs, e1, _⟩ := r1; exact nn false rfl rfl (by simp [e1])
  · cases e; simp only [Rep] at r1; obtain ⟨a, vs, e1, _⟩ := r1; exact nn false rfl rfl (by simp [e1])
  · cases e; simp only [Rep] at r1; obtain ⟨a, e1, _⟩ := r1; exact nn false rfl rfl (by simp [e1])
  · cases e; simp only [Rep] at r1; obtain ⟨q, dx, u, vs, _, e1, _⟩ := r1; exact nn false rfl rfl (by simp [e1])
def nisD (S : Store) (a b : D) : Option D := match b with
  | .non => match isD S a b with
    | some (.bl k) => some (.bl (!k))
    | _ => none
  | _ => none
theorem nis_ok : OpR X (compareOp .IsNot) (rV2 C nisD) := by
  intro pins s σ H x y v u Q I rx ry h
  obtain ⟨p, S, dx, dy, d, ok, r1, r2, e, w⟩ := h
  cases dy <;> first | (simp [nisD] at e; done) | skip
  have nn : ∀ b : Bool, d = .bl (!b) → decide (x = V.non) = b → wpAny (model X.prog X.w) X.A (compareOp .IsNot v u) (EP X pins σ Q) X.xe s := fun b e2 e3 => by
    subst e2
    simp only [Rep] at r2
    exact op_notN pins s σ H x y v u Q I rx ry ⟨r2, by rw [e3]; exact w.here ok (by simp only [Rep])⟩
  cases dx <;> first | (simp [nisD, isD] at e; done) | skip
  · cases e; simp only [Rep] at r1; exact nn true rfl (by simp [r1])
  · cases e; simp only [Rep] at r1; exact nn false rfl (by simp [r1])
  · cases e; simp only [Rep] at r1; exact nn false rfl (by simp [r1])
  · cases e; simp only [Rep] at r1; exact nn false rfl (by simp [r1])
  · cases e; obtain ⟨a, vs, e1, _⟩ := tup_rep r1; exact nn false rfl (by simp [e1])
  · cases e; simp only [Rep] at r1; obtain ⟨a, vs, e1, _⟩ := r1; exact nn false rfl (by simp [e1])
  · cases e; simp only [Rep] at r1; obtain ⟨a, vs, e1, _⟩ := r1; exact nn false rfl (by simp [e1])
  · cases e; simp only [Rep] at r1; obtain ⟨a, e1, _⟩ := r1; exact nn false rfl (by simp [e1])
  · cases e; simp only [Rep] at r1; obtain ⟨q, dx, u, vs, _, e1, _⟩ := r1; exact nn false rfl (by simp [e1])
end

open PySem PySem.Spec PyProof.Rows L2

/-! ### flat values -/
def flatD : D → Bool
  | .non => true
  | .bl _ => true
  | .int _ => true
  | .str _ => true
  | _ => false
def flV : D → V
  | .bl b => .bl b
  | .int i => .int i
  | .str x => .str x
  | _ => .non
theorem flat_rep {C : Cst} {p : Pl} {H : Hp} {d : D} {v : V} (h : flatD d = true) (r : Rep C p H d v) : v = flV d ∧ flatV v = true := by
  cases d <;> first | (simp [flatD] at h; done) | skip
  all_goals (simp only [Rep] at r; subst r; exact ⟨rfl, rfl⟩)
theorem flat_repL {C : Cst} {p : Pl} {H : Hp} : ∀ {ds : List D} {vs : List V}, ds.all flatD = true → RepL C p H ds vs → vs = ds.map flV ∧ vs.all flatV = true
  | [], vs, _, r => by simp only [RepL] at r; subst r; exact ⟨rfl, rfl⟩
  | d :: ds, vs, h, r => by
    rw [List.all_cons, Bool.and_eq_true] at h
    simp only [RepL] at r
    obtain ⟨v, r', rfl, r1, r2⟩ := r
    obtain ⟨e1, f1⟩ := flat_rep h.1 r1
    obtain ⟨e2, f2⟩ := flat_repL h.2 r2
    exact ⟨by rw [List.map_cons, ← e1, ← e2], by rw [List.all_cons, f1, f2]; rfl⟩
theorem flat_eq {a b : D} (ha : flatD a = true) (hb : flatD b = true) : eqV (flV a) (flV b) = eqq a b := by
  cases a <;> first | (simp [flatD] at ha; done) | skip
  all_goals (cases b <;> first | (simp [flatD] at hb; done) | skip)
  all_goals (simp only [flV, eqV, eqq])
theorem flat_any {a : D} (ha : flatD a = true) : ∀ {ds : List D}, ds.all flatD = true → (ds.map flV).any (fun y => eqV y (flV a)) = ds.any fun y => eqq y a
  | [], _ => rfl
  | d :: ds, h => by
    rw [List.all_cons, Bool.and_eq_true] at h
    rw [List.map_cons, List.any_cons, List.any_cons, flat_eq h.1 ha, flat_any ha h.2]
theorem deep_any {n m : Nat} {a : D} (ha : okq m a = true) : ∀ {ds : List D}, ds.all (okq n) = true → ((pdL ds).any fun z => PyData.eqv z (pd a)) = ds.any fun y => eqq y a
  | [], _ => rfl
  | d :: ds, h => by
    rw [List.all_cons, Bool.and_eq_true] at h
    simp only [pdL]
    rw [List.any_cons, List.any_cons, pd_eqv n m d a h.1 ha, deep_any ha h.2]

/-! ### in -/
def inB (S : Store) (a b : D) : Option Bool := match a, b with
  | .str x, .str z => match x.cps.toList with
    | [c] => some (decide (c ∈ z.cps.toList))
    | _ => none
  | a, .tup ds => if flatD a = true ∧ ds.all flatD = true then some (ds.any fun y => eqq y a) else none
  | a, b => match listOf S b with
    | some ds => if flatD a = true ∧ ds.all flatD = true then some (ds.any fun y => eqq y a) else if okq 40 a = true ∧ ds.all (okq 40) = true then some (ds.any fun y => eqq y a) else none
    | none => none
def inD (S : Store) (a b : D) : Option D := (inB S a b).map D.bl
def ninD (S : Store) (a b : D) : Option D := (inB S a b).map fun k => D.bl (!k)
section
variable {X : Cx} {C : Cst}
theorem listOf_dp {p : Pl} {S : Store} {H : Hp} {n : Nat} {b : D} {ds : List D} {v : V} (ok : Ok C p S H) (e : listOf S b = some ds) (h : ds.all (okq n) = true) (r : Rep C p H b v) : Dp C.K H v (.list (pdL ds)) := by
  obtain ⟨a, vs, rfl, k, q⟩ := listOf_rep ok r e
  exact .lst k (dp_repL n ds vs h q)
theorem in_gen {neg : Bool} {op : CmpOp} (hK : X.K = C.K) (h1 : OpR X (compareOp op) (fun x y H Q => ∃ (c : Nat) (z : Str), x = .str ⟨#[c]⟩ ∧ y = .str z ∧ Q (.bl (if neg then !decide (c ∈ z.cps.toList) else decide (c ∈ z.cps.toList))) H)) (h2 : OpR X (compareOp op) (rIn X.K neg))
    (h3 : OpR X (compareOp op) (fun x y H Q => ∃ d ds, Dp X.K H x d ∧ Dp X.K H y (.list ds) ∧ SeqAt.shaped d = true ∧ SeqAt.shaped (.list ds) = true ∧ Q (.bl (if neg then !(ds.any fun z => PyData.eqv z d) else ds.any fun z => PyData.eqv z d)) H)) :
    OpR X (compareOp op) (rV2 C fun S a b => (inB S a b).map fun k => D.bl (if neg then !k else k)) := by
  intro pins s σ H x y v u Q I rx ry h
  obtain ⟨p, S, dx, dy, d, ok, r1, r2, e, w⟩ := h
  simp only [Option.map_eq_some_iff] at e
  obtain ⟨k, e, rfl⟩ := e
  have flat : ∀ ds q vs, flatD dx = true → ds.all flatD = true → y = .ref q → (SqL X.K H q vs ∨ SqT X.K H q vs) → RepL C p H ds vs → k = (ds.any fun z => eqq z dx) → wpAny (model X.prog X.w) X.A (compareOp op v u) (EP X pins σ Q) X.xe s := fun ds q vs f1 f2 ey hs hr hk => by
    obtain ⟨ex, fx⟩ := flat_rep f1 r1
    obtain ⟨ev, fv⟩ := flat_repL f2 hr
    refine h2 pins s σ H x y v u Q I rx ry ⟨q, vs, ey, hs, fx, fv, ?_⟩
    have z : inV x vs = k := by unfold inV; rw [ex, ev, flat_any f1 f2, hk]
    rw [z]
    exact w.here ok (by simp only [Rep])
  have lists : (match listOf S dy with
    | some ds => if flatD dx = true ∧ ds.all flatD = true then some (ds.any fun y => eqq y dx) else if okq 40 dx = true ∧ ds.all (okq 40) = true then some (ds.any fun y => eqq y dx) else none
    | none => none) = some k → wpAny (model X.prog X.w) X.A (compareOp op v u) (EP X pins σ Q) X.xe s := fun e => by
    split at e
    · rename_i ds el
      split at e
      · rename_i hf
        obtain ⟨a, vs, e3, q1, q2⟩ := listOf_rep ok r2 el
        exact flat ds a vs hf.1 hf.2 e3 (.inl (by rw [hK]; exact q1)) q2 (Option.some.inj e).symm
      · split at e
        · rename_i hq
          refine h3 pins s σ H x y v u Q I rx ry ⟨pd dx, pdL ds, by rw [hK]; exact dp_rep 40 dx x hq.1 r1, by rw [hK]; exact listOf_dp ok el hq.2 r2, pd_shaped hq.1 (by omega), ?_, ?_⟩
          · exact pd_shaped (n := 41) (d := .lst ds) (by simpa only [okq] using hq.2) (by omega)
          · rw [deep_any hq.1 hq.2, Option.some.inj e]
            exact w.here ok (by simp only [Rep])
        · cases e
    · cases e
  cases dy with
  | tup ds =>
    have e' : (if flatD dx = true ∧ ds.all flatD = true then some (ds.any fun y => eqq y dx) else none) = some k := by cases dx <;> exact e
    split at e'
    · rename_i hf
      obtain ⟨a, vs, e3, q1, q2⟩ := tup_rep r2
      exact flat ds a vs hf.1 hf.2 e3 (.inr (by rw [hK]; exact q1)) q2 (Option.some.inj e').symm
    · cases e'
  | str z =>
    cases dx with
    | str x0 =>
      simp only [inB] at e
      split at e
      · rename_i c hc
        simp only [Rep] at r1 r2
        have ex : x0 = ⟨#[c]⟩ := by
          obtain ⟨⟨l⟩⟩ := x0
          simp only at hc
          rw [hc]
        subst ex
        refine h1 pins s σ H x y v u Q I rx ry ⟨c, z, r1, r2, ?_⟩
        rw [Option.some.inj e]
        exact w.here ok (by simp only [Rep])
      · cases e
    | _ => simp [inB, listOf] at e
  | lst ds => exact lists (by cases dx <;> exact e)
  | rol ds => exact lists (by cases dx <;> exact e)
  | loc l => exact lists (by cases dx <;> exact e)
  | _ => cases dx <;> simp [inB, listOf] at e
theorem in_ok (hK : X.K = C.K) (hu : X.A.units + 65 < cLine) : OpR X (compareOp .In) (rV2 C inD) :=
  in_gen (neg := false) hK op_inS op_in_seq (op_inD hu)
theorem nin_ok (hK : X.K = C.K) (hu : X.A.units + 65 < cLine) : OpR X (compareOp .NotIn) (rV2 C ninD) :=
  in_gen (neg := true) hK op_notInS op_notIn_seq (op_notInD hu)
end

/-! ### a place of the store is written -/
theorem Step.put {p : Pl} {H : Hp} {a : Addr} {o : HO} (ha : a ∈ p.ρ) : Step p H p (upd H a o) :=
  ⟨⟨[], by simp⟩, rfl, rfl, fun b ob h n => by rw [upd_ne (fun z : b = a => n (by rw [z]; exact ha))]; exact h, fun b h h' => absurd h h'⟩
theorem Ok.put {C : Cst} {p : Pl} {S : Store} {H : Hp} {l : Nat} {a : Addr} {o : HO} {c : Cell} (ok : Ok C p S H) (hl : p.ρ[l]? = some a) (r : CellRep C p (upd H a o) a c) : Ok C p (S.set l c) (upd H a o) := by
  have ha : a ∈ p.ρ := List.mem_of_getElem? hl
  have k := (Step.put (p := p) (H := H) (o := o) ha).keep ok
  have hlt : l < S.length := by rw [← ok.len]; exact (List.getElem?_eq_some_iff.mp hl).1
  refine ⟨by simp [ok.len], ok.nd, fun j c' h => ?_, fun b h => ?_⟩
  · by_cases hj : j = l
    · subst hj
      rw [List.getElem?_set_self hlt] at h
      cases h
      exact ⟨a, hl, r⟩
    · rw [List.getElem?_set_ne (Ne.symm hj)] at h
      obtain ⟨b, e, r'⟩ := ok.cell j c' h
      have hb : b ≠ a := fun z => by
        rw [z] at e
        obtain ⟨x1, y1⟩ := List.getElem?_eq_some_iff.mp e
        obtain ⟨x2, y2⟩ := List.getElem?_eq_some_iff.mp hl
        exact hj ((List.getElem_inj ok.nd).mp (y1.trans y2.symm))
      exact ⟨b, e, r'.keep k fun ob q => by rw [upd_ne hb]; exact q⟩
  · obtain ⟨n, ob, e⟩ := ok.hid b h
    exact ⟨n, ob, by rw [upd_ne (fun z : b = a => n (by rw [z]; exact ha))]; exact e⟩
/-- a list at a place: its address, its items -/
theorem loc_lst {C : Cst} {p : Pl} {S : Store} {H : Hp} {l : Nat} {ds : List D} {v : V} (ok : Ok C p S H) (r : Rep C p H (.loc l) v) (e : S[l]? = some (.lst ds)) : ∃ a vs, v = .ref a ∧ p.ρ[l]? = some a ∧ H a = some (.lst vs) ∧ RepL C p H ds vs := by
  obtain ⟨a, e1, e2, vs, e3, e4⟩ := locAt ok r e
  exact ⟨a, vs, e1, e2, e3, e4⟩
/-- .. and then it is another list -/
theorem loc_put {C : Cst} {p : Pl} {S : Store} {H : Hp} {l : Nat} {a : Addr} {ds : List D} {vs : List V} (ok : Ok C p S H) (hl : p.ρ[l]? = some a) (r : RepL C p H ds vs) : Step p H p (upd H a (.lst vs)) ∧ Ok C p (S.set l (.lst ds)) (upd H a (.lst vs)) := by
  have st : Step p H p (upd H a (.lst vs)) := Step.put (List.mem_of_getElem? hl)
  exact ⟨st, ok.put hl ⟨vs, upd_same, RepL.keep (st.keep ok) ds vs r⟩⟩

/-! ### subscripts -/
def ixD (S : Store) (a b : D) : Option D := match a, b with
  | .tup ds, .int i => atI ds i
  | .str x, .int i => if x.length ≤ sizeLine then (atI x.cps.toList i).map (fun c => .str ⟨#[c]⟩) else none
  | a, .int i => match listOf S a with
    | some ds => atI ds i
    | none => none
  | _, _ => none
theorem atI_rep {C : Cst} {p : Pl} {H : Hp} {ds : List D} {vs : List V} {i : Int} {d : D} (r : RepL C p H ds vs) (e : atI ds i = some d) : ∃ v, atI vs i = some v ∧ Rep C p H d v := by
  unfold atI at e ⊢
  obtain ⟨j, e1, e2⟩ := Option.bind_eq_some_iff.mp e
  obtain ⟨v, e3, q⟩ := r.get e2
  exact ⟨v, by rw [← r.length, e1]; exact e3, q⟩
section
variable {X : Cx} {C : Cst}
theorem ix_ok (hK : X.K = C.K) : IxR X (rV2 C ixD) := by
  intro value slice pins s σ H x y v u Q I rx ry h hsub
  obtain ⟨p, S, dx, dy, d, ok, r1, r2, e, w⟩ := h
  have go : rIx X.K x y H Q → wpAny (model X.prog X.w) X.A (subscriptTail value slice v u) (EP X pins σ Q) X.xe s := fun q => ix_seq value slice pins s σ H x y v u Q I rx ry q hsub
  cases dy with
  | int i =>
    simp only [Rep] at r2
    have lists : (match listOf S dx with
      | some ds => atI ds i
      | none => none) = some d → wpAny (model X.prog X.w) X.A (subscriptTail value slice v u) (EP X pins σ Q) X.xe s := fun e => by
      split at e
      · rename_i ds el
        obtain ⟨a, vs, e1, q1, q2⟩ := listOf_rep ok r1 el
        obtain ⟨z, e2, q3⟩ := atI_rep q2 e
        exact go (.inl ⟨a, vs, i, z, e1, r2, by rw [hK]; exact q1, e2, w.here ok q3⟩)
      · cases e
    cases dx with
    | tup ds =>
      obtain ⟨a, vs, e1, q1, q2⟩ := tup_rep r1
      obtain ⟨z, e2, q3⟩ := atI_rep q2 (show atI ds i = some d from e)
      exact go (.inr (.inl ⟨a, vs, i, z, e1, r2, by rw [hK]; exact q1, e2, w.here ok q3⟩))
    | str x0 =>
      simp only [ixD] at e
      split at e
      · rename_i hz
        obtain ⟨c, e1, rfl⟩ := Option.map_eq_some_iff.mp e
        simp only [Rep] at r1
        exact go (.inr (.inr ⟨x0, i, c, r1, r2, hz, e1, w.here ok (by simp only [Rep])⟩))
      · cases e
    | lst _ => exact lists e
    | rol _ => exact lists e
    | loc _ => exact lists e
    | _ => simp [ixD, listOf] at e
  | _ => cases dx <;> simp [ixD] at e
end
/-- e[lo:hi] -/
def cutD (xs : List D) (lo hi : Option Int) : List D := (xs.drop (HT.sIx xs.length 0 lo)).take (HT.sIx xs.length xs.length hi - HT.sIx xs.length 0 lo)
def slD (S : Store) (a : D) (lo hi : Option Int) : Option D := match a with
  | .tup ds => some (.tup (cutD ds lo hi))
  | .str x => if x.length ≤ sizeLine then some (.str (cutS x lo hi)) else none
  | a => match listOf S a with
    | some ds => some (.lst (cutD ds lo hi))
    | none => none
def mPart (m : EM D) : EM (Option Int) := fun δ S => (m δ S).bind fun d S1 => match d with
  | .int i => .ok (some i) S1
  | _ => .stuck
def mNoPart : EM (Option Int) := fun _ S => .ok none S
def mSl (m : EM D) (lo hi : EM (Option Int)) : EM D := fun δ S => (m δ S).bind fun d S1 => (lo δ S1).bind fun l S2 => (hi δ S2).bind fun h S3 => out (slD S3 d l h) S3
def TOe (C : Cst) (π : Option (Addr × Obj)) (W : WX) (m : EM (Option Int)) : TO := fun σ H Q => TRe C π W (fun _ _ a b => a = b) m σ H Q
section
variable {X : Cx} {C : Cst} {π : Option (Addr × Obj)} {W : WX} {e : Expr} {m : EM D} {ml mh : EM (Option Int)} {lo hi : Option Expr} {pos p2 : Pos}
theorem po_mono {X : Cx} {e : Option Expr} {t t' : TO} (h : PO X e t) (k : ∀ σ H Q, t' σ H Q → t σ H Q) : PO X e t' := ⟨fun pins s σ H Q I hw => h.run pins s σ H Q I (k σ H Q hw)⟩
theorem o_none : PO X none (TOe C π W mNoPart) := po_mono po_none fun σ H Q ⟨p, S, δ, hp, ok, re, po⟩ => po p H none (Step.refl _ _) ok rfl
theorem o_some (he : PE X e (TEe C π W m)) : PO X (some e) (TOe C π W (mPart m)) := po_mono (po_some he) fun σ H Q ⟨p, S, δ, hp, ok, re, po⟩ => TRe.go hp ok re po fun d S1 p1 H1 v k1 ok1 hp1 re1 r1 po1 => by
  cases d with
  | int i => simp only [Rep] at r1; exact ⟨i, r1, po1 p1 H1 _ (Step.refl _ _) ok1 rfl⟩
  | _ => exact po1.elim
theorem RepL.cut {p : Pl} {H : Hp} {ds : List D} {vs : List V} {lo hi : Option Int} (r : RepL C p H ds vs) : RepL C p H (cutD ds lo hi) (cutV vs lo hi) := by
  unfold cutD cutV
  rw [r.length]
  exact (r.drop _).take _
theorem e_sl (hK : X.K = C.K) (he : PE X e (TEe C π W m)) (hl : PO X lo (TOe C π W ml)) (hh : PO X hi (TOe C π W mh)) : PE X (.Subscript e (.Slice lo hi none p2) pos) (TEe C π W (mSl m ml mh)) :=
  pe_mono (pe_slice (SlR.or (sl_tupA (X := X)) (SlR.or sl_list sl_str)) he hl hh) fun σ H Q ⟨p, S, δ, hp, ok, re, po⟩ => TRe.go hp ok re po fun d S1 p1 H1 v k1 ok1 hp1 re1 r1 po1 =>
    TRe.go hp1 ok1 re1 po1 fun l S2 p2 H2 l' k2 ok2 hp2 re2 r2 po2 => TRe.go hp2 ok2 re2 po2 fun h S3 p3 H3 h' k3 ok3 hp3 re3 r3 po3 => by
      subst r2; subst r3
      have r4 := (r1.keep k2).keep k3
      obtain ⟨d3, e3, w⟩ := po3.out
      have lists : (match listOf S3 d with
        | some ds => some (D.lst (cutD ds l h))
        | none => none) = some d3 → rSlL X.K v l h H3 Q := fun e3 => by
        split at e3
        · rename_i ds el
          cases e3
          obtain ⟨a, vs, rfl, q1, q2⟩ := listOf_rep ok3 r4 el
          exact ⟨a, vs, rfl, by rw [hK]; exact q1, fun q hq => Wants.lst w ok3 q2.cut hq⟩
        · cases e3
      cases d with
      | tup ds =>
        cases e3
        obtain ⟨a, vs, rfl, q1, q2⟩ := tup_rep r4
        have all : HT.sIx vs.length 0 l = 0 ∧ HT.sIx vs.length vs.length h = vs.length → cutD ds l h = ds := fun ⟨z1, z2⟩ => by
          unfold cutD
          rw [q2.length, z1, z2, ← q2.length]
          simp
        refine .inl ⟨a, vs, rfl, by rw [hK]; exact q1, fun z => w p3 H3 _ (Step.refl _ _) ok3 (by rw [all z]; exact r4), fun _ q hq => Wants.tup w ok3 q2.cut hq⟩
      | str x =>
        simp only [slD] at e3
        split at e3
        · rename_i hz
          cases e3
          simp only [Rep] at r4
          exact .inr (.inr ⟨x, r4, hz, w p3 H3 _ (Step.refl _ _) ok3 (by simp only [Rep])⟩)
        · cases e3
      | lst _ => exact .inr (.inl (lists e3))
      | rol _ => exact .inr (.inl (lists e3))
      | loc _ => exact .inr (.inl (lists e3))
      | _ => simp [slD, listOf] at e3
end

open PySem PySem.Spec PyProof.Rows L2

/-! ### products, minus -/
def repS (x : Str) (k : Nat) : Str := ⟨(List.replicate k x.cps).foldl (· ++ ·) #[]⟩
def mulV (S : Store) (a b : D) : Option D := match a, b with
  | .int i, .int j => if i.natAbs.log2 + j.natAbs.log2 < 1000000 then some (.int (i * j)) else none
  | .str x, .int k => if 2 ≤ k ∧ k ≤ 100000 ∧ 1 ≤ x.length ∧ x.length ≤ 100 ∧ (repS x k.toNat).length ≤ sizeLine then some (.str (repS x k.toNat)) else none
  | .tup xs, .int k => if xs ≠ [] ∧ 2 ≤ k ∧ k ≤ 1000 ∧ xs.length ≤ 1000 then some (.tup (List.replicate k.toNat xs).flatten) else none
  | a, .int k => match listW S a with
    | some xs => if -(2 ^ 63) ≤ k ∧ k < 2 ^ 63 ∧ xs.length * k.toNat ≤ sizeLine then some (.lst (List.replicate k.toNat xs).flatten) else none
    | none => none
  | _, _ => none
def negD (_ : Store) (a : D) : Option D := match a with
  | .int i => some (.int (-i))
  | _ => none
section
variable {X : Cx} {C : Cst}
theorem op_mul_str : OpR X (binaryOp .Mult) (fun x y H Q => ∃ (z : Str) (k : Int), x = .str z ∧ y = .int k ∧ 2 ≤ k ∧ k ≤ 100000 ∧ 1 ≤ z.length ∧ z.length ≤ 100 ∧ (repS z k.toNat).length ≤ sizeLine ∧ Q (.str (repS z k.toNat)) H) := by
  intro pins s σ H x y v u Q I rx ry h
  obtain ⟨z, k, rfl, rfl, h1, h2, h3, h4, h5, q⟩ := h
  obtain ⟨t, rfl⟩ := rx
  obtain ⟨t2, rfl⟩ := ry
  have b1 : (z.length == 0) = false := by
    rw [beq_eq_false_iff_ne]; omega
  have b2 : (k == 1) = false := by
    rw [beq_eq_false_iff_ne]; omega
  refine PySem.P.mul_str (by rw [decide_eq_false (by omega), decide_eq_false (by omega)]; rfl) (fun _ _ => ?_) (fun _ _ => ?_) ?_
  · have e : (2 ^ 63 - 1 : Int) / k ≥ 100 := by
      apply Int.le_ediv_of_mul_le (by omega)
      omega
    omega
  · unfold Builtin.Str.tooLong
    have : z.length * k.toNat ≤ 100 * 100000 := Nat.mul_le_mul h4 (by omega)
    rw [sizeLine_eq]
    simp; omega
  · rw [if_neg (by omega), b1, b2]
    exact ⟨h5, .str (repS z k.toNat), H, I.tok _, ⟨_, rfl⟩, q⟩
theorem mul_ok (hK : X.K = C.K) : OpR X (binaryOp .Mult) (rV2 C mulV) := by
  intro pins s σ H x y v u Q I rx ry h
  obtain ⟨p, S, dx, dy, d, ok, r1, r2, e, w⟩ := h
  cases dy with
  | int k =>
    simp only [Rep] at r2
    have lists : (match listW S dx with
      | some xs => if -(2 ^ 63) ≤ k ∧ k < 2 ^ 63 ∧ xs.length * k.toNat ≤ sizeLine then some (D.lst (List.replicate k.toNat xs).flatten) else none
      | none => none) = some d → wpAny (model X.prog X.w) X.A (binaryOp .Mult v u) (EP X pins σ Q) X.xe s := fun e => by
      split at e
      · rename_i xs el
        split at e
        · rename_i hz
          cases e
          obtain ⟨a, vs, e1, q1, q2⟩ := listW_rep ok r1 el
          exact op_rep pins s σ H x y v u Q I rx ry ⟨a, k, vs, e1, r2, q1, hz.1, hz.2.1, by rw [← q2.length]; exact hz.2.2, fun q hq => w.lst ok (q2.rep _) hq⟩
        · cases e
      · cases e
    cases dx with
    | int i =>
      simp only [mulV] at e
      split at e
      · rename_i hz
        cases e
        simp only [Rep] at r1
        exact op_mulW pins s σ H x y v u Q I rx ry ⟨i, k, r1, r2, hz, w.here ok (by simp only [Rep])⟩
      · cases e
    | str z =>
      simp only [mulV] at e
      split at e
      · rename_i hz
        cases e
        simp only [Rep] at r1
        exact op_mul_str pins s σ H x y v u Q I rx ry ⟨z, k, r1, r2, hz.1, hz.2.1, hz.2.2.1, hz.2.2.2.1, hz.2.2.2.2, w.here ok (by simp only [Rep])⟩
      · cases e
    | tup xs =>
      simp only [mulV] at e
      split at e
      · rename_i hz
        cases e
        obtain ⟨a, vs, e1, q1, q2⟩ := tup_rep r1
        refine op_repT pins s σ H x y v u Q I rx ry ⟨a, k, vs, e1, r2, by rw [hK]; exact q1, fun z => hz.1 ?_, hz.2.1, hz.2.2.1, by rw [← q2.length]; exact hz.2.2.2, fun q hq => w.tup ok (q2.rep _) hq⟩
        have l := q2.length
        rw [z] at l
        exact List.eq_nil_of_length_eq_zero l
      · cases e
    | lst _ => exact lists e
    | loc _ => exact lists e
    | _ => simp [mulV, listW] at e
  | _ => cases dx <;> simp [mulV] at e
theorem neg_ok : UnR X (unaryOp .USub) (rV1 C negD) := by
  intro pins s σ H x v Q I rx h
  obtain ⟨p, S, dx, d, ok, r1, e, w⟩ := h
  cases dx <;> first | (simp [negD] at e; done) | skip
  cases e
  simp only [Rep] at r1
  exact un_neg pins s σ H x v Q I rx ⟨_, r1, w.here ok (by simp only [Rep])⟩
end

theorem RepKV.length {C : Cst} {p : Pl} {H : Hp} : ∀ {ds : List (Key × D)} {vs : List (Key × V)}, RepKV C p H ds vs → ds.length = vs.length
  | [], vs, h => by simp only [RepKV] at h; rw [h]; rfl
  | (k, d) :: ds, vs, h => by
    simp only [RepKV] at h
    obtain ⟨v, r, rfl, _, h2⟩ := h
    simp [RepKV.length h2]
/-! ### built-in functions -/
def lenD (S : Store) : List D → Option D
  | [.str x] => if x.length ≤ sizeLine then some (.int x.length) else none
  | [.tup ds] => some (.int ds.length)
  | [.loc l] => match S[l]? with
    | some (.lst ds) => some (.int ds.length)
    | some (.dic kvs) => some (.int kvs.length)
    | none => none
  | [d] => match listOf S d with
    | some ds => some (.int ds.length)
    | none => none
  | _ => none
def absD (_ : Store) : List D → Option D
  | [.int i] => some (.int (if i < 0 then -i else i))
  | _ => none
def intD (_ : Store) : List D → Option D
  | [.int i] => some (.int i)
  | [.bl k] => some (.int (if k then 1 else 0))
  | [.str x] => if x.length ≤ 640 then (PySem.intText? x).map D.int else none
  | _ => none
def strD (_ : Store) : List D → Option D
  | [.int i] => if i.natAbs.log2 < 1920 then some (.str (toString i)) else none
  | [.str x] => some (.str x)
  | _ => none
def tupD (S : Store) : List D → Option D
  | [.tup ds] => some (.tup ds)
  | [d] => match listOf S d with
    | some ds => some (.tup ds)
    | none => none
  | _ => none
def lstD (S : Store) : List D → Option D
  | [.tup ds] => some (.lst ds)
  | [d] => match listOf S d with
    | some ds => some (.lst ds)
    | none => none
  | _ => none
def unI : List D → Option (List Int)
  | [] => some []
  | .int i :: ds => (unI ds).map (i :: ·)
  | _ => none
def unB : List D → Option (List Bool)
  | [] => some []
  | .bl i :: ds => (unB ds).map (i :: ·)
  | _ => none
def unS : List D → Option (List Str)
  | [] => some []
  | .str i :: ds => (unS ds).map (i :: ·)
  | _ => none
theorem unI_map : ∀ {ds : List D} {is : List Int}, unI ds = some is → ds = is.map D.int
  | [], _, h => by cases h; rfl
  | d :: ds, is, h => by
    cases d <;> first | (simp [unI] at h; done) | skip
    simp only [unI, Option.map_eq_some_iff] at h
    obtain ⟨js, h, rfl⟩ := h
    rw [unI_map h]; rfl
theorem unB_map : ∀ {ds : List D} {is : List Bool}, unB ds = some is → ds = is.map D.bl
  | [], _, h => by cases h; rfl
  | d :: ds, is, h => by
    cases d <;> first | (simp [unB] at h; done) | skip
    simp only [unB, Option.map_eq_some_iff] at h
    obtain ⟨js, h, rfl⟩ := h
    rw [unB_map h]; rfl
theorem unS_map : ∀ {ds : List D} {is : List Str}, unS ds = some is → ds = is.map D.str
  | [], _, h => by cases h; rfl
  | d :: ds, is, h => by
    cases d <;> first | (simp [unS] at h; done) | skip
    simp only [unS, Option.map_eq_some_iff] at h
    obtain ⟨js, h, rfl⟩ := h
    rw [unS_map h]; rfl
@[simp] theorem unI_int (is : List Int) : unI (is.map D.int) = some is := by
  induction is with
  | nil => rfl
  | cons i is ih => simp [unI, ih]
@[simp] theorem unB_bl (is : List Bool) : unB (is.map D.bl) = some is := by
  induction is with
  | nil => rfl
  | cons i is ih => simp [unB, ih]
@[simp] theorem unS_str (is : List Str) : unS (is.map D.str) = some is := by
  induction is with
  | nil => rfl
  | cons i is ih => simp [unS, ih]
/-- a function of one list -/
def onL {α : Type} (u : List D → Option α) (f : α → Option D) (S : Store) : List D → Option D
  | [d] => match listOf S d with
    | some ds => (u ds).bind f
    | none => none
  | _ => none
def sumD := onL unI fun is => some (.int is.sum)
def allD := onL unB fun bs => some (.bl (bs.all id))
def anyD := onL unB fun bs => some (.bl (bs.any id))
def minD (_ : Store) : List D → Option D
  | [.int i, .int j] => some (.int (if j < i then j else i))
  | _ => none
def maxD (_ : Store) : List D → Option D
  | [.int i, .int j] => some (.int (if j > i then j else i))
  | _ => none
section
variable {X : Cx} {C : Cst}
theorem rVs1 {g : Store → List D → Option D} {T : List V → Hp → VK → Prop} {f : Value} (hc : CallR X f T) (h : ∀ p S d v H Q e, Ok C p S H → Rep C p H d v → g S [d] = some e → Wants C p S H e Q → T [v] H Q) (hn : ∀ S ds, (∀ d, ds ≠ [d]) → g S ds = none) : CallR X f (rVs C g) := by
  intro pins s σ H xs us Q I r hh
  obtain ⟨p, S, ds, e, ok, rl, eg, w⟩ := hh
  match ds, rl, eg with
  | [], _, eg => rw [hn S [] (by simp)] at eg; cases eg
  | [d], rl, eg =>
    obtain ⟨v, rfl, rv⟩ := rl.one
    exact hc pins s σ H [v] us Q I r (h p S d v H Q e ok rv eg w)
  | d :: d2 :: ds, _, eg => rw [hn S _ (by simp)] at eg; cases eg
theorem len_ok (hK : X.K = C.K) : CallR X (.builtin "len") (rVs C lenD) := by
  intro pins s σ H xs us Q I r hh
  obtain ⟨p, S, ds, e, ok, rl, eg, w⟩ := hh
  match ds, rl, eg with
  | [], _, eg => simp [lenD] at eg
  | d :: d2 :: ds, _, eg => cases d <;> simp [lenD] at eg
  | [d], rl, eg =>
    obtain ⟨v, rfl, rv⟩ := rl.one
    have lists : (match listOf S d with
      | some ds => some (D.int ds.length)
      | none => none) = some e → wpAny (model X.prog X.w) X.A (call (.builtin "len") us) (EP X pins σ Q) X.xe s := fun e1 => by
      split at e1
      · rename_i ds el
        cases e1
        obtain ⟨a, vs, rfl, q1, q2⟩ := listOf_rep ok rv el
        exact call_len pins s σ H _ us Q I r ⟨_, vs.length, rfl, .inl ⟨vs, by rw [hK]; exact q1, rfl⟩, by rw [← q2.length]; exact w.here ok (by simp only [Rep])⟩
      · cases e1
    cases d with
    | str x =>
      simp only [lenD] at eg
      split at eg
      · rename_i hz
        cases eg
        simp only [Rep] at rv
        subst rv
        exact call_len pins s σ H _ us Q I r ⟨_, x.length, rfl, ⟨hz, rfl⟩, w.here ok (by simp only [Rep])⟩
      · cases eg
    | tup ds =>
      cases eg
      obtain ⟨a, vs, rfl, q1, q2⟩ := tup_rep rv
      exact call_len pins s σ H _ us Q I r ⟨_, vs.length, rfl, .inr ⟨vs, by rw [hK]; exact q1, rfl⟩, by rw [← q2.length]; exact w.here ok (by simp only [Rep])⟩
    | lst _ => exact lists eg
    | rol _ => exact lists eg
    | loc l =>
      simp only [lenD] at eg
      split at eg
      · rename_i ds hs
        exact lists (by simp only [listOf, hs]; exact eg)
      · rename_i kvs hs
        cases eg
        obtain ⟨a, rfl, _, vs, q1, q2⟩ := locAt ok rv hs
        have hl : kvs.length = vs.length := q2.length
        exact call_lenD pins s σ H _ us Q I r ⟨a, vs, rfl, q1, by rw [← hl]; exact w.here ok (by simp only [Rep])⟩
      · cases eg
    | _ => simp [lenD, listOf] at eg
theorem abs_ok : CallR X (.builtin "abs") (rVs C absD) := by
  intro pins s σ H xs us Q I r hh
  obtain ⟨p, S, ds, e, ok, rl, eg, w⟩ := hh
  unfold absD at eg
  split at eg
  · rename_i i
    cases eg
    obtain ⟨v, rfl, rv⟩ := rl.one
    simp only [Rep] at rv
    subst rv
    exact call_abs pins s σ H _ us Q I r ⟨i, rfl, w.here ok (by simp only [Rep])⟩
  · cases eg
theorem int_ok : CallR X (.type "int") (rVs C intD) := by
  intro pins s σ H xs us Q I r hh
  obtain ⟨p, S, ds, e, ok, rl, eg, w⟩ := hh
  unfold intD at eg
  split at eg
  · rename_i i
    cases eg
    obtain ⟨v, rfl, rv⟩ := rl.one
    simp only [Rep] at rv
    subst rv
    exact call_int1 pins s σ H _ us Q I r (.inl ⟨i, rfl, w.here ok (by simp only [Rep])⟩)
  · rename_i k
    cases eg
    obtain ⟨v, rfl, rv⟩ := rl.one
    simp only [Rep] at rv
    subst rv
    exact call_int1 pins s σ H _ us Q I r (.inr ⟨k, rfl, w.here ok (by simp only [Rep])⟩)
  · rename_i x
    split at eg
    · rename_i hz
      obtain ⟨n, e1, rfl⟩ := Option.map_eq_some_iff.mp eg
      obtain ⟨v, rfl, rv⟩ := rl.one
      simp only [Rep] at rv
      subst rv
      exact call_int_str pins s σ H _ us Q I r ⟨x, n, rfl, e1, hz, w.here ok (by simp only [Rep])⟩
    · cases eg
  · cases eg
theorem str_ok : CallR X (.type "str") (rVs C strD) := by
  intro pins s σ H xs us Q I r hh
  obtain ⟨p, S, ds, e, ok, rl, eg, w⟩ := hh
  unfold strD at eg
  split at eg
  · rename_i i
    split at eg
    · rename_i hz
      cases eg
      obtain ⟨v, rfl, rv⟩ := rl.one
      simp only [Rep] at rv
      subst rv
      exact call_str_int pins s σ H _ us Q I r ⟨i, rfl, hz, w.here ok (by simp only [Rep])⟩
    · cases eg
  · cases eg
    obtain ⟨v, rfl, rv⟩ := rl.one
    simp only [Rep] at rv
    subst rv
    exact SkE.call_str_str pins s σ H _ us Q I r ⟨_, rfl, w.here ok (by simp only [Rep])⟩
  · cases eg
theorem tuple_ok (hK : X.K = C.K) : CallR X (.type "tuple") (rVs C tupD) := by
  intro pins s σ H xs us Q I r hh
  obtain ⟨p, S, ds, e, ok, rl, eg, w⟩ := hh
  match ds, rl, eg with
  | [], _, eg => simp [tupD] at eg
  | d :: d2 :: ds, _, eg => cases d <;> simp [tupD] at eg
  | [d], rl, eg =>
    obtain ⟨v, rfl, rv⟩ := rl.one
    have lists : (match listOf S d with
      | some ds => some (D.tup ds)
      | none => none) = some e → wpAny (model X.prog X.w) X.A (call (.type "tuple") us) (EP X pins σ Q) X.xe s := fun e1 => by
      split at e1
      · rename_i ds el
        cases e1
        obtain ⟨a, vs, rfl, q1, q2⟩ := listOf_rep ok rv el
        exact call_tuple_of pins s σ H _ us Q I r ⟨a, vs, rfl, .inl ⟨by rw [hK]; exact q1, fun l hl => w.tup ok q2 hl⟩⟩
      · cases e1
    cases d with
    | tup ds =>
      cases eg
      have rv' := rv
      obtain ⟨a, vs, rfl, q1, q2⟩ := tup_rep rv
      exact call_tuple_of pins s σ H _ us Q I r ⟨a, vs, rfl, .inr ⟨by rw [hK]; exact q1, w.here ok rv'⟩⟩
    | lst _ => exact lists eg
    | rol _ => exact lists eg
    | loc _ => exact lists eg
    | _ => simp [tupD, listOf] at eg
theorem list_raw (hK : X.K = C.K) {p : Pl} {S : Store} {d e : D} {v : V} {H : Hp} {Q : VK} (ok : Ok C p S H) (rv : Rep C p H d v) (eg : lstD S [d] = some e) (k : ∀ ds vs l, e = .lst ds → RepL C p H ds vs → H l = none → Q (.ref l) (upd H l (.lst vs))) :
    ∃ q ys, v = .ref q ∧ (SqL X.K H q ys ∨ SqT X.K H q ys) ∧ ∀ l, H l = none → Q (.ref l) (upd H l (.lst ys)) := by
  have lists : (match listOf S d with
    | some ds => some (D.lst ds)
    | none => none) = some e → ∃ q ys, v = .ref q ∧ (SqL X.K H q ys ∨ SqT X.K H q ys) ∧ ∀ l, H l = none → Q (.ref l) (upd H l (.lst ys)) := fun e1 => by
    split at e1
    · rename_i ds el
      cases e1
      obtain ⟨a, vs, rfl, q1, q2⟩ := listOf_rep ok rv el
      exact ⟨a, vs, rfl, .inl (by rw [hK]; exact q1), fun l hl => k ds vs l rfl q2 hl⟩
    · cases e1
  cases d with
  | tup ds =>
    cases eg
    obtain ⟨a, vs, rfl, q1, q2⟩ := tup_rep rv
    exact ⟨a, vs, rfl, .inr (by rw [hK]; exact q1), fun l hl => k ds vs l rfl q2 hl⟩
  | lst _ => exact lists eg
  | rol _ => exact lists eg
  | loc _ => exact lists eg
  | _ => simp [lstD, listOf] at eg
theorem list_ok (hK : X.K = C.K) : CallR X (.type "list") (rVs C lstD) :=
  rVs1 call_list_of (fun p S d v H Q e ok rv eg w => by
    obtain ⟨q, ys, e1, e2, e3⟩ := list_raw (X := X) hK ok rv eg (Q := Q) fun ds vs l ee rl hl => by subst ee; exact w.lst ok rl hl
    exact ⟨q, ys, by rw [e1], e2, e3⟩) fun S ds hn => by
      match ds, hn with
      | [], _ => rfl
      | [d], hn => exact absurd rfl (hn d)
      | d :: d2 :: ds, _ => cases d <;> rfl
theorem onL_ok {α : Type} {u : List D → Option α} {f : α → Option D} {mk : α → List D} {F : Value} {T : List V → Hp → VK → Prop} (hc : CallR X F T) (hu : ∀ ds a, u ds = some a → ds = mk a)
    (h : ∀ p S a (vs : List V) q d H Q, Ok C p S H → RepL C p H (mk a) vs → SqL C.K H q vs → f a = some d → Wants C p S H d Q → T [.ref q] H Q) : CallR X F (rVs C (onL u f)) :=
  rVs1 hc (fun p S d v H Q e ok rv eg w => by
    simp only [onL] at eg
    split at eg
    · rename_i ds el
      obtain ⟨a, e1, e2⟩ := Option.bind_eq_some_iff.mp eg
      obtain ⟨q, vs, rfl, q1, q2⟩ := listOf_rep ok rv el
      rw [hu ds a e1] at q2
      exact h p S a vs q e H Q ok q2 q1 e2 w
    · cases eg) fun S ds hn => by
      match ds, hn with
      | [], _ => rfl
      | [d], hn => exact absurd rfl (hn d)
      | d :: d2 :: ds, _ => rfl
theorem sum_ok (hK : X.K = C.K) (hc : X.calm = true) : CallR X (.builtin "sum") (rVs C sumD) :=
  onL_ok (cr_sum hc) (fun _ _ => unI_map) fun p S a vs q d H Q ok rl sq e w => by
    cases e
    exact ⟨q, a, rfl, by rw [← rl.ints, hK]; exact sq, w.here ok (by simp only [Rep])⟩
theorem all_ok (hK : X.K = C.K) (hc : X.calm = true) : CallR X (.builtin "all") (rVs C allD) :=
  onL_ok (cr_all hc) (fun _ _ => unB_map) fun p S a vs q d H Q ok rl sq e w => by
    cases e
    exact ⟨q, a, rfl, by rw [← rl.bls, hK]; exact sq, w.here ok (by simp only [Rep])⟩
theorem any_ok (hK : X.K = C.K) (hc : X.calm = true) : CallR X (.builtin "any") (rVs C anyD) :=
  onL_ok (cr_any hc) (fun _ _ => unB_map) fun p S a vs q d H Q ok rl sq e w => by
    cases e
    exact ⟨q, a, rfl, by rw [← rl.bls, hK]; exact sq, w.here ok (by simp only [Rep])⟩
theorem min_ok (hc : X.calm = true) : CallR X (.builtin "min") (rVs C minD) := by
  intro pins s σ H xs us Q I r hh
  obtain ⟨p, S, ds, e, ok, rl, eg, w⟩ := hh
  unfold minD at eg
  split at eg
  · rename_i i j
    cases eg
    obtain ⟨v, v2, rfl, rv, rv2⟩ := rl.two
    simp only [Rep] at rv rv2
    subst rv; subst rv2
    exact call_min2 hc pins s σ H _ us Q I r ⟨i, j, rfl, w.here ok (by simp only [Rep])⟩
  · cases eg
theorem max_ok (hc : X.calm = true) : CallR X (.builtin "max") (rVs C maxD) := by
  intro pins s σ H xs us Q I r hh
  obtain ⟨p, S, ds, e, ok, rl, eg, w⟩ := hh
  unfold maxD at eg
  split at eg
  · rename_i i j
    cases eg
    obtain ⟨v, v2, rfl, rv, rv2⟩ := rl.two
    simp only [Rep] at rv rv2
    subst rv; subst rv2
    exact call_max2 hc pins s σ H _ us Q I r ⟨i, j, rfl, w.here ok (by simp only [Rep])⟩
  · cases eg
end

open PySem PySem.Spec PyProof.Rows L2

/-! ### methods -/
def rMt (C : Cst) (g : Store → D → List D → Option (D × Store)) : V → List V → Hp → VK → Prop := fun x xs H Q => ∃ p S d ds e S', Ok C p S H ∧ Rep C p H d x ∧ RepL C p H ds xs ∧ g S d ds = some (e, S') ∧ ∀ p' H' v, Step p H p' H' → Ok C p' S' H' → Rep C p' H' e v → Q v H'
def mtTy (T : String) (S : Store) : D → Bool
  | .str _ => decide (T = "str")
  | .lst _ => decide (T = "list")
  | .rol _ => decide (T = "list")
  | .loc l => match S[l]? with
    | some (.lst _) => decide (T = "list")
    | some (.dic _) => decide (T = "dict")
    | none => false
  | _ => false
def mMt (T : String) (g : Store → D → List D → Option (D × Store)) (mo : EM D) (ms : EM (List D)) : EM D := fun δ S => (mo δ S).bind fun d S1 => if mtTy T S1 d = true then (ms δ S1).bind fun ds S2 => (match g S2 d ds with
  | some (e, S3) => .ok e S3
  | none => .stuck) else .stuck
theorem mtTy_rep {C : Cst} {K : PySem.W.Frag} {p : Pl} {S : Store} {H : Hp} {T : String} {d : D} {v : V} (hK : K = C.K) (ok : Ok C p S H) (r : Rep C p H d v) (e : mtTy T S d = true) : tyV K T v H := by
  cases d <;> first | (simp [mtTy] at e; done) | skip
  · simp only [Rep] at r
    subst r
    have e' : T = "str" := of_decide_eq_true e
    exact e'
  · simp only [Rep] at r
    obtain ⟨a, vs, rfl, _, _, h, _⟩ := r
    exact .inl ⟨of_decide_eq_true e, vs, .of h⟩
  · simp only [Rep] at r
    obtain ⟨a, vs, rfl, h, _⟩ := r
    exact .inl ⟨of_decide_eq_true e, vs, by rw [hK]; exact h.sq⟩
  · simp only [mtTy] at e
    split at e
    · rename_i ds hs
      obtain ⟨a, rfl, _, vs, h, _⟩ := locAt ok r hs
      exact .inl ⟨of_decide_eq_true e, vs, .of h⟩
    · rename_i kvs hs
      obtain ⟨a, rfl, _, vs, h, _⟩ := locAt ok r hs
      exact .inr (.inr (.inl ⟨of_decide_eq_true e, .inl ⟨vs, h⟩⟩))
    · cases e
section
variable {X : Cx} {C : Cst} {π : Option (Addr × Obj)} {W : WX} {o e : Expr} {es : List Expr} {mo : EM D} {ms : EM (List D)} {name : Str} {apos cpos : Pos} {T id : String} {g : Store → D → List D → Option (D × Store)}
theorem e_bm (hK : X.K = C.K) (pa : PlainAttrs T) (slot : Slot T name id) (hty : typeOf (.builtin id) = pure (.type "method_descriptor")) (hm : MtR X id (rMt C g)) (ho : PE X o (TEe C π W mo)) (ha : PA X (e :: es) (TAe C π W ms))
    (hbase : attributeBase o name X.env (eval o X.env) = eval o X.env := by rfl)
    (hfew : ((backTo cpos (starEach (e :: es) X.env)).all (fun x => !x.1) && (backToKw cpos (keywordEach [] X.env)).all (fun x => x.1.isSome)
      && decide ((e :: es).length + ([] : List Keyword).length + (if ([] : List Keyword).isEmpty then 0 else 1) < 30)) = true := by rfl)
    (hline : (apos.endLine == cpos.line) = true := by rfl) (hs : starEach (e :: es) X.env = (false, eval e X.env) :: starEach es X.env := by rfl) (hplain : (backTo cpos (starEach es X.env)).any (·.1) = false := by rfl) :
    PE X (.Call (.Attribute o name apos) (e :: es) [] cpos) (TEe C π W (mMt T g mo ms)) :=
  pe_mono (pe_bm pa slot hty hm ho ha hbase hfew hline hs hplain) fun σ H Q ⟨p, S, δ, hp, ok, re, po⟩ => TRe.go hp ok re po fun d S1 p1 H1 v k1 ok1 hp1 re1 r1 po1 => by
    split at po1
    · rename_i ht
      refine ⟨mtTy_rep hK ok1 r1 ht, TRe.go hp1 ok1 re1 po1 fun ds S2 p2 H2 vs k2 ok2 hp2 re2 r2 po2 => ?_⟩
      split at po2
      · rename_i e S3 eg
        exact ⟨p2, S2, d, ds, e, S3, ok2, r1.keep k2, r2, eg, po2⟩
      · exact po2.elim
    · exact po1.elim
theorem e_bm0 (hK : X.K = C.K) (pa : PlainAttrs T) (slot : Slot T name id) (hty : typeOf (.builtin id) = pure (.type "method_descriptor")) (hm : MtR X id (rMt C g)) (ho : PE X o (TEe C π W mo))
    (hbase : attributeBase o name X.env (eval o X.env) = eval o X.env := by rfl) (hline : (apos.endLine == cpos.line) = true := by rfl) : PE X (.Call (.Attribute o name apos) [] [] cpos) (TEe C π W (mMt T g mo mNil)) :=
  pe_mono (pe_bm0 pa slot hty hm ho hbase hline) fun σ H Q ⟨p, S, δ, hp, ok, re, po⟩ => TRe.go hp ok re po fun d S1 p1 H1 v k1 ok1 hp1 re1 r1 po1 => by
    split at po1
    · rename_i ht
      refine ⟨mtTy_rep hK ok1 r1 ht, ?_⟩
      have po2 : Post C W p1 H1 σ (Rep C) Q (match g S1 d [] with
        | some (e, S3) => .ok e S3
        | none => .stuck) := po1
      split at po2
      · rename_i e S3 eg
        exact ⟨p1, S1, d, [], e, S3, ok1, r1, by simp only [RepL], eg, po2⟩
      · exact po2.elim
    · exact po1.elim
end
/-- the list at a place, and what is written there -/
def onLoc (f : List D → Option (D × List D)) (S : Store) : D → Option (D × Store)
  | .loc l => match S[l]? with
    | some (.lst xs) => (f xs).map fun q => (q.1, S.set l (.lst q.2))
    | _ => none
  | _ => none
def appendD (S : Store) (d : D) : List D → Option (D × Store)
  | [e] => onLoc (fun xs => if xs.length < sizeLine then some (.non, xs ++ [e]) else none) S d
  | _ => none
def popD (S : Store) (d : D) : List D → Option (D × Store)
  | [] => onLoc (fun xs => xs[xs.length - 1]?.map fun y => (y, xs.dropLast)) S d
  | _ => none
def popAtD (S : Store) (d : D) : List D → Option (D × Store)
  | [.int i] => onLoc (fun xs => if 0 ≤ i ∧ i < 2 ^ 63 then xs[i.toNat]?.map fun y => (y, xs.eraseIdx i.toNat) else none) S d
  | _ => none
/-- the first that is equal -/
def firstIx (y : D) : List D → Option Nat
  | [] => none
  | x :: xs => if eqq x y = true then some 0 else (firstIx y xs).map (· + 1)
def indexD (S : Store) (d : D) : List D → Option (D × Store)
  | [y] => match listOf S d with
    | some xs => if flatD y = true ∧ xs.all flatD = true then (firstIx y xs).map fun j : Nat => (D.int (j : Int), S) else none
    | none => none
  | _ => none
def countD (S : Store) (d : D) : List D → Option (D × Store)
  | [y] => match listOf S d with
    | some xs => if flatD y = true ∧ xs.all flatD = true then some (.int (xs.countP fun x => eqq x y : Nat), S) else none
    | none => none
  | _ => none
/-- the items of a tuple, of a list -/
def seqOf (S : Store) : D → Option (List D)
  | .tup ds => some ds
  | d => listOf S d
def joinD (S : Store) (d : D) : List D → Option (D × Store)
  | [y] => match d with
    | .str a => match (seqOf S y).bind unS with
      | some ys => if (ys.map (·.length)).sum + ys.length * a.length ≤ 16777216 then some (.str (Txt.join a ys), S) else none
      | none => none
    | _ => none
  | _ => none
def sindexD (S : Store) (d : D) : List D → Option (D × Store)
  | [.str b] => match d with
    | .str a => match Builtin.Str.occurrences a b 0 a.length 1 with
      | i :: _ => some (.int (i : Nat), S)
      | [] => none
    | _ => none
  | _ => none
section
variable {X : Cx} {C : Cst}
theorem onLoc_rep {f : List D → Option (D × List D)} {p : Pl} {S S' : Store} {H : Hp} {d e : D} {v : V} (ok : Ok C p S H) (r : Rep C p H d v) (h : onLoc f S d = some (e, S')) :
    ∃ l a xs vs ys, d = .loc l ∧ v = .ref a ∧ p.ρ[l]? = some a ∧ H a = some (.lst vs) ∧ RepL C p H xs vs ∧ f xs = some (e, ys) ∧ S' = S.set l (.lst ys) := by
  cases d <;> first | (simp [onLoc] at h; done) | skip
  rename_i l
  simp only [onLoc] at h
  split at h
  · rename_i xs hs
    obtain ⟨⟨e1, ys⟩, hf, hq⟩ := Option.map_eq_some_iff.mp h
    cases hq
    obtain ⟨a, vs, rfl, h1, h2, h3⟩ := loc_lst ok r hs
    exact ⟨l, a, xs, vs, ys, rfl, rfl, h1, h2, h3, hf, rfl⟩
  · cases h
theorem RepL.dropLast {p : Pl} {H : Hp} {xs : List D} {vs : List V} (r : RepL C p H xs vs) : RepL C p H xs.dropLast vs.dropLast := by
  rw [List.dropLast_eq_take, List.dropLast_eq_take, r.length]
  exact r.take _
theorem RepL.erase {p : Pl} {H : Hp} {xs : List D} {vs : List V} (r : RepL C p H xs vs) (k : Nat) : RepL C p H (xs.eraseIdx k) (vs.eraseIdx k) := by
  rw [List.eraseIdx_eq_take_drop_succ, List.eraseIdx_eq_take_drop_succ]
  exact (r.take _).append (r.drop _)
theorem append_ok : MtR X "list.append" (rMt C appendD) := by
  intro pins s σ H x xs v us Q I rx rxs h
  obtain ⟨p, S, d, ds, e, S', ok, r, rl, eg, w⟩ := h
  match ds, rl, eg with
  | [], _, eg => simp [appendD] at eg
  | _ :: _ :: _, _, eg => simp [appendD] at eg
  | [y], rl, eg =>
    obtain ⟨vy, rfl, ry⟩ := rl.one
    obtain ⟨l, a, xs, vs, ys, rfl, rfl, h1, h2, h3, h4, rfl⟩ := onLoc_rep ok r eg
    split at h4
    · rename_i hz
      cases h4
      have rr : RepL C p H (xs ++ [y]) (vs ++ [vy]) := h3.append (by simp only [RepL]; exact ⟨vy, [], rfl, ry, rfl⟩)
      obtain ⟨st, ok2⟩ := loc_put ok h1 rr
      exact mt_append pins s σ H _ _ v us Q I rx rxs ⟨a, vs, vy, rfl, rfl, h2, by rw [← h3.length]; exact hz, w p _ _ st ok2 (by simp only [Rep])⟩
    · cases h4
theorem pop_ok : MtR X "list.pop" (rMt C popD) := by
  intro pins s σ H x xs v us Q I rx rxs h
  obtain ⟨p, S, d, ds, e, S', ok, r, rl, eg, w⟩ := h
  match ds, rl, eg with
  | _ :: _, _, eg => simp [popD] at eg
  | [], rl, eg =>
    simp only [RepL] at rl
    subst rl
    obtain ⟨l, a, xs, vs, ys, rfl, rfl, h1, h2, h3, h4, rfl⟩ := onLoc_rep ok r eg
    obtain ⟨y, e1, e2⟩ := Option.map_eq_some_iff.mp h4
    cases e2
    obtain ⟨vy, e3, ry⟩ := h3.get e1
    obtain ⟨st, ok2⟩ := loc_put ok h1 h3.dropLast
    exact mt_pop pins s σ H _ _ v us Q I rx rxs ⟨a, vs, vy, rfl, rfl, h2, by rw [← h3.length]; exact e3, w p _ _ st ok2 (ry.keep (st.keep ok))⟩
theorem popAt_ok : MtR X "list.pop" (rMt C popAtD) := by
  intro pins s σ H x xs v us Q I rx rxs h
  obtain ⟨p, S, d, ds, e, S', ok, r, rl, eg, w⟩ := h
  unfold popAtD at eg
  split at eg
  · rename_i i
    obtain ⟨vi, rfl, ri⟩ := rl.one
    simp only [Rep] at ri
    subst ri
    obtain ⟨l, a, xs, vs, ys, rfl, rfl, h1, h2, h3, h4, rfl⟩ := onLoc_rep ok r eg
    split at h4
    · rename_i hz
      obtain ⟨y, e1, e2⟩ := Option.map_eq_some_iff.mp h4
      cases e2
      obtain ⟨vy, e3, ry⟩ := h3.get e1
      obtain ⟨st, ok2⟩ := loc_put ok h1 (h3.erase i.toNat)
      have hl : i.toNat < vs.length := (List.getElem?_eq_some_iff.mp e3).1
      exact mt_popAt pins s σ H _ _ v us Q I rx rxs ⟨a, vs, i, i.toNat, vy, rfl, rfl, h2, by omega, hz.2, seqIndex_of hz.1 (by omega), e3, w p _ _ st ok2 (ry.keep (st.keep ok))⟩
    · cases h4
  · cases eg
theorem firstIx_at : ∀ {y : D} {xs : List D} {j : Nat}, firstIx y xs = some j → (∃ x, xs[j]? = some x ∧ eqq x y = true) ∧ ∀ m x, m < j → xs[m]? = some x → eqq x y = false
  | y, [], j, h => by simp [firstIx] at h
  | y, x :: xs, j, h => by
    simp only [firstIx] at h
    split at h
    · rename_i e
      cases h
      exact ⟨⟨x, rfl, e⟩, fun m x' hm => absurd hm (by omega)⟩
    · rename_i e
      obtain ⟨k, h', rfl⟩ := Option.map_eq_some_iff.mp h
      obtain ⟨⟨x', e1, e2⟩, e3⟩ := firstIx_at h'
      refine ⟨⟨x', by simpa using e1, e2⟩, fun m z hm hz => ?_⟩
      cases m with
      | zero =>
        simp at hz
        subst hz
        simpa using e
      | succ m => exact e3 m z (by omega) (by simpa using hz)
theorem index_ok (hK : X.K = C.K) : MtR X "list.index" (rMt C indexD) := by
  intro pins s σ H x xs v us Q I rx rxs h
  obtain ⟨p, S, d, ds, e, S', ok, r, rl, eg, w⟩ := h
  match ds, rl, eg with
  | [], _, eg => simp [indexD] at eg
  | _ :: _ :: _, _, eg => simp [indexD] at eg
  | [y], rl, eg =>
    obtain ⟨vy, rfl, ry⟩ := rl.one
    simp only [indexD] at eg
    split at eg
    · rename_i xs el
      split at eg
      · rename_i hf
        obtain ⟨j, e1, e2⟩ := Option.map_eq_some_iff.mp eg
        cases e2
        obtain ⟨a, vs, rfl, q1, q2⟩ := listOf_rep ok r el
        obtain ⟨ev, fv⟩ := flat_repL hf.2 q2
        obtain ⟨ey, fy⟩ := flat_rep hf.1 ry
        obtain ⟨⟨z, z1, z2⟩, z3⟩ := firstIx_at e1
        have fall : ∀ z ∈ xs, flatD z = true := fun z hz => List.all_eq_true.mp hf.2 z hz
        subst ev; subst ey
        refine mt_index pins s σ H _ _ v us Q I rx rxs ⟨a, _, _, j, flV z, rfl, rfl, by rw [hK]; exact q1, fy, fv, by rw [List.getElem?_map, z1]; rfl, ?_, fun m z' hm hz => ?_, w p H _ (Step.refl _ _) ok (by simp only [Rep])⟩
        · rw [flat_eq (fall z (List.mem_of_getElem? z1)) hf.1]; exact z2
        · rw [List.getElem?_map] at hz
          obtain ⟨q, hq, rfl⟩ := Option.map_eq_some_iff.mp hz
          rw [flat_eq (fall q (List.mem_of_getElem? hq)) hf.1]
          exact z3 m q hm hq
      · cases eg
    · cases eg
theorem count_vals {y : V} (fy : flatV y = true) : ∀ {vs : List V} {us : List Value}, Vals vs us → vs.all flatV = true → us.countP (eqU y) = vs.countP fun x => eqV x y
  | _, _, .nil, _ => rfl
  | v :: vs, u :: us, .cons r t, h => by
    rw [List.all_cons, Bool.and_eq_true] at h
    rw [List.countP_cons, List.countP_cons, count_vals fy t h.2, eqU_of r h.1]
theorem flat_count {a : D} (ha : flatD a = true) : ∀ {ds : List D}, ds.all flatD = true → (ds.map flV).countP (fun y => eqV y (flV a)) = ds.countP fun y => eqq y a
  | [], _ => rfl
  | d :: ds, h => by
    rw [List.all_cons, Bool.and_eq_true] at h
    rw [List.map_cons, List.countP_cons, List.countP_cons, flat_eq h.1 ha, flat_count ha h.2]
theorem count_ok (hK : X.K = C.K) : MtR X "list.count" (rMt C countD) := by
  intro pins s σ H x xs v us Q I rx rxs h
  obtain ⟨p, S, d, ds, e, S', ok, r, rl, eg, w⟩ := h
  match ds, rl, eg with
  | [], _, eg => simp [countD] at eg
  | _ :: _ :: _, _, eg => simp [countD] at eg
  | [y], rl, eg =>
    obtain ⟨vy, rfl, ry⟩ := rl.one
    simp only [countD] at eg
    split at eg
    · rename_i xs el
      split at eg
      · rename_i hf
        cases eg
        obtain ⟨a, vs, rfl, q1, q2⟩ := listOf_rep ok r el
        obtain ⟨ev, fv⟩ := flat_repL hf.2 q2
        obtain ⟨ey, fy⟩ := flat_rep hf.1 ry
        cases rx
        obtain ⟨u, rfl, ru⟩ := rxs.one
        obtain ⟨its, rv, ⟨⟨cls, dd, data, sl⟩, n, ho, hc, hdn, hd⟩, hlen⟩ := I.list (show SqL X.K H a vs by rw [hK]; exact q1)
        simp only at hc hd
        subst hc hd
        have ce : its.toArray.toList.countP (eqU vy) = xs.countP fun x => eqq x y := by
          have h1 : its.countP (eqU vy) = vs.countP fun x => eqV x vy := count_vals fy rv fv
          have h2 := flat_count hf.1 hf.2
          rw [← ev, ← ey] at h2
          exact h1.trans h2
        refine call_meets PySem.F.slot_list_count ⟨_, ho, rfl⟩ PySem.F.entry_list_count (PySem.F.args_list_count_2 _ _) (SeqAt.list_countAt a its.toArray n dd sl u (eqU vy)) ⟨ho, fun z hz => mem_eqAt ru fy rv fv z (by simpa using hz), ?_⟩
        rw [ce]
        exact ⟨.int (xs.countP fun x => eqq x y : Nat), H, I.tok _, ⟨s.toks, rfl⟩, w p H _ (Step.refl _ _) ok (by simp only [Rep])⟩
      · cases eg
    · cases eg
theorem seqOf_rep {p : Pl} {S : Store} {H : Hp} {d : D} {ds : List D} {v : V} (ok : Ok C p S H) (r : Rep C p H d v) (e : seqOf S d = some ds) : ∃ q vs, v = .ref q ∧ (SqL C.K H q vs ∨ SqT C.K H q vs) ∧ RepL C p H ds vs := by
  have lists : listOf S d = some ds → ∃ q vs, v = .ref q ∧ (SqL C.K H q vs ∨ SqT C.K H q vs) ∧ RepL C p H ds vs := fun el => by
    obtain ⟨q, vs, e1, q1, q2⟩ := listOf_rep ok r el
    exact ⟨q, vs, e1, .inl q1, q2⟩
  cases d with
  | tup ds' =>
    cases e
    obtain ⟨q, vs, e1, q1, q2⟩ := tup_rep r
    exact ⟨q, vs, e1, .inr q1, q2⟩
  | _ => exact lists e
theorem join_ok (hK : X.K = C.K) : MtR X "str.join" (rMt C joinD) := by
  intro pins s σ H x xs v us Q I rx rxs h
  obtain ⟨p, S, d, ds, e, S', ok, r, rl, eg, w⟩ := h
  match ds, rl, eg with
  | [], _, eg => simp [joinD] at eg
  | _ :: _ :: _, _, eg => simp [joinD] at eg
  | [y], rl, eg =>
    obtain ⟨vy, rfl, ry⟩ := rl.one
    cases d <;> first | (simp [joinD] at eg; done) | skip
    simp only [joinD] at eg
    split at eg
    · rename_i ys hy
      split at eg
      · rename_i hz
        cases eg
        obtain ⟨ds, h1, h2⟩ := Option.bind_eq_some_iff.mp hy
        obtain ⟨q, vs, e1, e2, q2⟩ := seqOf_rep ok ry h1
        rw [unS_map h2] at q2
        have ev := q2.strs
        subst ev
        simp only [Rep] at r
        subst r
        exact mt_join pins s σ H _ _ v us Q I rx rxs ⟨_, q, ys, rfl, by rw [e1], by rw [hK]; exact e2, hz, w p H _ (Step.refl _ _) ok (by simp only [Rep])⟩
      · cases eg
    · cases eg
theorem sindex_ok : MtR X "str.index" (rMt C sindexD) := by
  intro pins s σ H x xs v us Q I rx rxs h
  obtain ⟨p, S, d, ds, e, S', ok, r, rl, eg, w⟩ := h
  unfold sindexD at eg
  split at eg
  · rename_i b
    split at eg
    · rename_i a
      split at eg
      · rename_i i rest ho
        cases eg
        obtain ⟨vb, rfl, rb⟩ := rl.one
        simp only [Rep] at r rb
        subst r; subst rb
        exact mt_sindex pins s σ H _ _ v us Q I rx rxs ⟨a, b, i, rest, rfl, rfl, ho, w p H _ (Step.refl _ _) ok (by simp only [Rep])⟩
      · cases eg
    · cases eg
  · cases eg
end

namespace EvLow
open PySem PySem.Spec PyProof.Rows
open PySem.AutoSeq1 (wpAny_loadPart')
theorem draws_tuple {prog : Program} {w : World} {A : Around} (hh : A.handled = none) (it l : Addr) (hne : l ≠ it) (items : Array Value) :
    Draws prog w A it [it, l] items.size (fun i v => items[i]? = some v) (fun i h => h.IsTupleIter it l i ∧ h.IsTuple l items) where
  live := fun _ _ st => let ⟨o, ho, _⟩ := st.1; ⟨o, ho⟩
  frame := fun _ _ _ st hk => by
    obtain ⟨⟨o, ho, q⟩, ⟨o2, ho2, q2⟩⟩ := st
    exact ⟨⟨o, hk it (by simp) o ho, q⟩, ⟨o2, hk l (by simp) o2 ho2, q2⟩⟩
  item := fun i s Q E hi st hQ => by
    refine RZ.nextOf_tuple_item st.1 st.2 (x := items[i]) (by simp [hi]) fun h' hit' hs' => hQ _ h' s.toks (by simp [hi]) ⟨hit', ?_⟩ hs'
    obtain ⟨o, ho, q⟩ := st.2
    exact ⟨o, hs'.extBut l o hne ho, q⟩
  done := fun s Q E st hE => RZ.nextOf_tuple_end hh st.1 st.2 (by simp) hE
theorem meets_enum_tuple (l : Addr) (items : Array Value) (n : Nat) (dct : Option Addr) (sl : Array (Option Value)) :
    Meets (Builtin.«enumerate.__new__» ⟨[.type "enumerate", .ref l], []⟩) (fun _ R s => s.heap.get? l = some { cls := .type "tuple", dict := dct, data := .seq items n, slots := sl } ∧
      R (.ok (.ret (.ref (s.heap.push { cls := .type "tuple_iterator", data := .fields #[.ref l, .int 0 0] }).objs.size)))
        { s with heap := (s.heap.push { cls := .type "tuple_iterator", data := .fields #[.ref l, .int 0 0] }).push { cls := .type "enumerate", data := .fields #[.none, .bool false, .ref s.heap.objs.size, rawInt 0, .none, .none] } }) :=
  .of_wp fun prog w A R s h => by
    obtain ⟨hp, g, d, tk, os⟩ := s
    obtain ⟨hl, h⟩ := h
    have hsub := sub_enumerate
    have hT : Heap.IsTuple (Shared.heap ⟨hp, g, d, tk, os⟩) l items := ⟨_, hl, rfl, n, rfl⟩
    wp_walk using wpAny_loadPart' hl
    refine wpAny_stack_any fun st => wpAny_pure ?_
    split
    · rename_i c _ _ _ _ _
      cases (c == Value.type "enumerate") <;> (wp_walk using wpAny_loadPart' hl, wpAny_pyIter_tuple hT; exact ⟨_, rfl, h⟩)
    · wp_walk using wpAny_loadPart' hl, wpAny_pyIter_tuple hT
      exact ⟨_, rfl, h⟩
section
variable {prog : Program} {w : World} {A : Around} {E : Value → Shared → Prop} {s : Shared}
theorem call_enum_tuple {l : Addr} {items : Array Value} {Q : Value → Shared → Prop} (hT : s.heap.IsTuple l items)
    (h : ∀ h', IsEnum h' (s.heap.objs.size + 1) s.heap.objs.size 0 .none → h'.IsTupleIter s.heap.objs.size l 0 → (∀ b o, s.heap.get? b = some o → h'.get? b = some o) → Q (.ref (s.heap.objs.size + 1)) { s with heap := h' }) :
    wpAny (model prog w) A (call (.type "enumerate") [.ref l]) Q E s := by
  obtain ⟨⟨c, dct, dt, sl⟩, hl, hc, n, hd⟩ := hT
  simp only at hc hd
  subst hc hd
  refine callType_new F.called_enumerate (by decide) (F.typeCall_enumerate_1 _) (F.newCall_enumerate_1 _) (fun obj => F.args_object_init_2 obj _) F.entry_enumerate_new (meets_enum_tuple l items n dct sl) ⟨hl, ?_⟩
  have hz : (s.heap.push { cls := .type "tuple_iterator", data := .fields #[.ref l, .int 0 0] }).objs.size = s.heap.objs.size + 1 := Heap.size_push ..
  show _ ∧ _
  rw [hz]
  have he : IsEnum ((s.heap.push { cls := .type "tuple_iterator", data := .fields #[.ref l, .int 0 0] }).push { cls := .type "enumerate", data := .fields #[.none, .bool false, .ref s.heap.objs.size, rawInt 0, .none, .none] }) (s.heap.objs.size + 1) s.heap.objs.size 0 .none := by
    have q := Heap.get?_push_size (s.heap.push { cls := .type "tuple_iterator", data := .fields #[.ref l, .int 0 0] }) (o := { cls := .type "enumerate", data := .fields #[.none, .bool false, .ref s.heap.objs.size, rawInt 0, .none, .none] }) rfl
    rw [hz] at q
    exact q
  exact ⟨⟨_, he, rfl⟩, h _ he ⟨_, Heap.get?_push_of_some _ (Heap.get?_push_size _ rfl), rfl, rfl⟩ fun b o x => Heap.get?_push_of_some _ (Heap.get?_push_of_some _ x)⟩
end
end EvLow

open PySem PySem.Spec PyProof.Rows L2

theorem enum_item {X : Cx} {pins : List (Addr × Obj)} {σ : L2.St} {H : Hp} {s : Shared} {E : Value → Shared → Prop} {e it : Addr} {fpd : List Addr} {n i : Nat} {P : Nat → Value → Prop} {St : Nat → Heap → Prop} {old : Value} {Y : V → Prop} {elts : List Expr} {kk : Nat} {tpos : Pos}
    (D : Draws X.prog X.w X.A.in1 it fpd n P St) (I : Inv X pins σ H s) (hf : ∀ b ∈ [e, it], FpOk X pins H b) (he : IsEnum s.heap e it ((i : Nat) : Int) old) (hst : St i s.heap) (hlt : i < n) (hne : e ≠ it) (hef : e ∉ fpd) (hP : ∀ v, P i v → ∃ y, RelV y v ∧ Y y) :
    wpAny (model X.prog X.w) X.A (pyNext (.ref e)) (fun r s1 => ∃ u, r = some u ∧ wpAny (model X.prog X.w) X.A (letOwnedTupleGo (.Tuple elts kk tpos) (.ref e) u) (fun _ s2 => ∃ x H', Inv X pins σ H' s2 ∧ RelV x u ∧
      (∃ T y, x = .ref T ∧ H T = none ∧ H' = upd H T (.tup [.int (i : Nat), y]) ∧ Y y) ∧ (∃ old, IsEnum s2.heap e it ((i + 1 : Nat) : Int) old) ∧ St (i + 1) s2.heap ∧ ∀ b ∈ [e, it], H' b = none) E s1) E s := by
  have hel : e < s.heap.objs.size := Heap.lt_size he
  have hil : it < s.heap.objs.size := by obtain ⟨_, q⟩ := D.live _ _ hst; exact Heap.lt_size q
  refine wpAny_pyNext_enum_itemD D he hst hlt hne hef fun x h' tk hPx ho hst' hT hsz hk => ?_
  obtain ⟨y, ry, hY⟩ := hP x hPx
  refine ⟨_, rfl, wpAny_letOwnedTupleGo_enum (s := { s with heap := h', toks := tk + 1 }) ho fun h2 he2 sb => ?_⟩
  have hT2 : h2.get? s.heap.objs.size = some { cls := .type "tuple", data := .seq #[.int i tk, x] } := (sb.2 _ (Nat.ne_of_gt hel)).trans hT
  have new : ObjOk X.prog X.w (upd H s.heap.objs.size (.tup [.int (i : Nat), y])) h2 s.heap.objs.size (.tup [.int (i : Nat), y]) :=
    ⟨by show 2 ≤ sizeLine; decide, [.int i tk, x], .cons ⟨_, rfl⟩ (.cons ry .nil), ⟨_, hT2, rfl, _, rfl⟩⟩
  have I1 : Inv X pins σ (upd H s.heap.objs.size (.tup [.int (i : Nat), y])) { s with heap := h2, toks := tk + 1 } :=
    I.turnedNew (ch := [e, it]) (fun b ob hb q => (sb.2 b (fun z => hb (by simp [z]))).trans (hk b ob (fun z => hb (by simp [z])) (fun z => hb (by simp [z])) q)) hf (Nat.le_refl _) new
  refine ⟨.ref s.heap.objs.size, _, I1, rfl, ⟨_, y, rfl, I.hok.fresh (Nat.le_refl _), rfl, hY⟩, ⟨x, ?_⟩, D.frame _ _ _ hst' fun b hb o q => (sb.2 b fun z => hef (z ▸ hb)).trans q, fun b hb => ?_⟩
  · have e1 : ((i + 1 : Nat) : Int) = (i : Int) + 1 := by omega
    rw [e1]; exact he2
  · have hb' : b < s.heap.objs.size := by
      have e' : b = e ∨ b = it := by simpa using hb
      rcases e' with z | z
      · rw [z]; exact hel
      · rw [z]; exact hil
    rw [upd_ne (Nat.ne_of_lt hb')]
    exact (hf b hb).1
theorem enum_done {X : Cx} {pins : List (Addr × Obj)} {σ : L2.St} {H : Hp} {s : Shared} {E : Value → Shared → Prop} {e it : Addr} {fpd : List Addr} {n : Nat} {i : Int} {P : Nat → Value → Prop} {St : Nat → Heap → Prop} {old : Value}
    (D : Draws X.prog X.w X.A.in1 it fpd n P St) (I : Inv X pins σ H s) (hf : ∀ b ∈ [e, it], FpOk X pins H b) (he : IsEnum s.heap e it i old) (hst : St n s.heap) :
    wpAny (model X.prog X.w) X.A (pyNext (.ref e)) (fun r s1 => r = none ∧ Inv X pins σ H s1) E s := by
  obtain ⟨f0, f1, f2, f3, f4, f5⟩ := hf it (by simp)
  exact wpAny_pyNext_enum_endD D he hst fun h' eb => ⟨rfl, I.turned (t' := s.toks) (fun b o hb q => eb b o hb q) f0 f1 f3 f4 f5⟩
/-- enumerate of a tuple -/
def IteT (K : PySem.W.Frag) (a : Addr) : It :=
  ⟨fun i H => ∃ (xs : List V) (x : V), SqT K H a xs ∧ xs[i]? = some x, fun i H v H' => ∃ T y, v = .ref T ∧ H T = none ∧ H' = upd H T (.tup [.int (i : Nat), y]) ∧ ∀ xs, SqT K H a xs → xs[i]? = some y, fun i H => ∃ xs : List V, SqT K H a xs ∧ xs.length = i⟩
theorem turn_enumT {P : Program} {w : World} {K : PySem.W.Frag} {elts : List Expr} {kk : Nat} {tpos : Pos} (a e it : Addr) :
    Turn P w K (.Tuple elts kk tpos) (IteT K a) [e, it] e (fun i h => (∃ old, IsEnum h e it ((i : Nat) : Int) old) ∧ h.IsTupleIter it a i ∧ e ≠ it ∧ a ≠ it ∧ a ≠ e) where
  mem := by simp
  obj := fun i h st b hb => by
    obtain ⟨⟨old, he⟩, ⟨o, ho, hc, hd⟩, _⟩ := st
    have e' : b = e ∨ b = it := by simpa using hb
    rcases e' with z | z
    · rw [z]; exact ⟨_, he, fun v q => nomatch q⟩
    · rw [z]; exact ⟨o, ho, fun v q => by rw [hd] at q; cases q⟩
  keep := fun i h h' st k => let ⟨⟨old, he⟩, ⟨o, ho, q⟩, hne⟩ := st; ⟨⟨old, k e (by simp) _ he⟩, ⟨o, k it (by simp) o ho, q⟩, hne⟩
  item := by
    intro X hP hw hK hc i pins s σ H E I hf st hg
    subst hP hw hK
    obtain ⟨⟨old, he⟩, hit, hne, n1, n2⟩ := st
    obtain ⟨xs, x, hq, hx⟩ := hg
    obtain ⟨its, rv, p, hz⟩ := I.tuple hq
    have hT : s.heap.IsTuple a its.toArray := p
    have hlt : i < its.toArray.size := by
      have h1 := (List.getElem?_eq_some_iff.mp hx).1
      have h2 := rv.length
      simp; omega
    refine wpAny_mono (enum_item (Y := fun y => ∀ ys, SqT X.K H a ys → ys[i]? = some y) (EvLow.draws_tuple (A := X.A.in1) (I.ok.hd hc) it a n1 its.toArray) I hf he ⟨hit, hT⟩ hlt hne (by simp [hne, Ne.symm n2]) fun v hv => ?_) (fun r s1 ⟨u, hr, h1⟩ => ⟨u, hr, wpAny_mono h1 (fun _ s2 ⟨x2, H2, I2, r2, y2, e2, t2, f2⟩ => ⟨x2, H2, I2, r2, y2, ⟨e2, t2.1, hne, n1, n2⟩, f2⟩) fun _ _ z => z⟩) fun _ _ z => z
    obtain ⟨u, hu, ru⟩ := rv.get hx
    have e3 : u = v := by
      have h3 : its.toArray[i]? = some u := by simpa using hu
      rw [h3] at hv; cases hv; rfl
    subst e3
    exact ⟨x, ru, fun ys hy => by rw [I.tuple_inj hy hq]; exact hx⟩
  done := by
    intro X hP hw hK hc i pins s σ H E I hf st hg
    subst hP hw hK
    obtain ⟨⟨old, he⟩, hit, hne, n1, n2⟩ := st
    obtain ⟨xs, hq, hx⟩ := hg
    obtain ⟨its, rv, p, hz⟩ := I.tuple hq
    have hT : s.heap.IsTuple a its.toArray := p
    have hl : its.toArray.size = i := by
      have h2 := rv.length
      simp; omega
    exact enum_done (EvLow.draws_tuple (A := X.A.in1) (I.ok.hd hc) it a n1 its.toArray) I hf he (by rw [hl]; exact ⟨hit, hT⟩)
  self := fun A i s Q E st h => let ⟨⟨_, he⟩, _⟩ := st; wpAny_pyIter_enum he h
/-- enumerate of a text -/
def IteS (x : Str) : It :=
  ⟨fun i _ => i < x.cps.size, fun i H v H' => ∃ T y, v = .ref T ∧ H T = none ∧ H' = upd H T (.tup [.int (i : Nat), y]) ∧ ∃ c, x.cps[i]? = some c ∧ y = .str ⟨#[c]⟩, fun i _ => i = x.cps.size⟩
def strIt (x : Str) (t : Tok) (it : Addr) (i : Nat) (h : Heap) : Prop := h.IsStrIter it (strIterType x) x t i
theorem strIt_draws {prog : Program} {w : World} {A : Around} (hh : A.handled = none) (it : Addr) (x : Str) (t : Tok) :
    Draws prog w A it [it] x.cps.size (fun i v => ∃ c u, x.cps[i]? = some c ∧ v = .str ⟨#[c]⟩ u) (fun i h => strIt x t it i h) := by
  unfold strIt strIterType
  cases ha : x.cps.all (· < 128)
  · simp only [Bool.false_eq_true, if_false]
    exact Draws.strWide hh it x t
  · simp only [if_true]
    exact Draws.strAscii hh it x t
theorem turn_enumS {P : Program} {w : World} {K : PySem.W.Frag} {elts : List Expr} {kk : Nat} {tpos : Pos} (x : Str) (t : Tok) (e it : Addr) :
    Turn P w K (.Tuple elts kk tpos) (IteS x) [e, it] e (fun i h => (∃ old, IsEnum h e it ((i : Nat) : Int) old) ∧ strIt x t it i h ∧ e ≠ it) where
  mem := by simp
  obj := fun i h st b hb => by
    obtain ⟨⟨old, he⟩, ⟨o, ho, hc, hd⟩, _⟩ := st
    have e' : b = e ∨ b = it := by simpa using hb
    rcases e' with z | z
    · rw [z]; exact ⟨_, he, fun v q => nomatch q⟩
    · rw [z]; exact ⟨o, ho, fun v q => by rw [hd] at q; cases q⟩
  keep := fun i h h' st k => let ⟨⟨old, he⟩, ⟨o, ho, q⟩, hne⟩ := st; ⟨⟨old, k e (by simp) _ he⟩, ⟨o, k it (by simp) o ho, q⟩, hne⟩
  item := by
    intro X hP hw hK hc i pins s σ H E I hf st hg
    subst hP hw hK
    obtain ⟨⟨old, he⟩, hit, hne⟩ := st
    refine wpAny_mono (enum_item (Y := fun y => ∃ c, x.cps[i]? = some c ∧ y = .str ⟨#[c]⟩) (strIt_draws (A := X.A.in1) (I.ok.hd hc) it x t) I hf he hit hg hne (by simpa using hne) fun v hv => ?_) (fun r s1 ⟨u, hr, h1⟩ => ⟨u, hr, wpAny_mono h1 (fun _ s2 ⟨x2, H2, I2, r2, y2, e2, t2, f2⟩ => ⟨x2, H2, I2, r2, y2, ⟨e2, t2, hne⟩, f2⟩) fun _ _ z => z⟩) fun _ _ z => z
    obtain ⟨c, u, h1, rfl⟩ := hv
    exact ⟨.str ⟨#[c]⟩, ⟨u, rfl⟩, c, h1, rfl⟩
  done := by
    intro X hP hw hK hc i pins s σ H E I hf st hg
    subst hP hw hK
    obtain ⟨⟨old, he⟩, hit, hne⟩ := st
    have hi : i = x.cps.size := hg
    exact enum_done (strIt_draws (A := X.A.in1) (I.ok.hd hc) it x t) I hf he (by rw [← hi]; exact hit)
  self := fun A i s Q E st h => let ⟨⟨_, he⟩, _⟩ := st; wpAny_pyIter_enum he h

open PySem PySem.Spec PyProof.Rows L2

def itE (ds : List D) : ItD := ⟨ds.length, fun i _ => if i ≤ ds.length then some (ds[i]?.map fun d => .tup [.int i, d]) else none⟩
theorem itE_none {ds : List D} {i : Nat} {S : Store} (e : (itE ds).item i S = some none) : ds[i]? = none ∧ i = ds.length := by
  unfold itE at e
  dsimp only at e
  split at e
  · rename_i h
    have z : ds[i]? = none := by simpa using e
    have := List.getElem?_eq_none_iff.mp z
    exact ⟨z, by omega⟩
  · cases e
theorem itE_some {ds : List D} {i : Nat} {S : Store} {d : D} (e : (itE ds).item i S = some (some d)) : ∃ d', ds[i]? = some d' ∧ d = .tup [.int i, d'] := by
  unfold itE at e
  dsimp only at e
  split at e
  · simp only [Option.some.injEq, Option.map_eq_some_iff] at e
    obtain ⟨d', e, rfl⟩ := e
    exact ⟨d', e, rfl⟩
  · cases e
def itELoc (n l : Nat) : ItD := ⟨n, fun i S => match S[l]? with
  | some (.lst ds) => some (ds[i]?.map fun d => .tup [.int i, d])
  | _ => none⟩
def enumD (S : Store) : List D → Option ItD
  | [.tup ds] => some (itE ds)
  | [.str x] => some (itE (chars x))
  | [.loc l] => match S[l]? with
    | some (.lst ds) => some (itELoc ds.length l)
    | _ => none
  | [d] => match listOf S d with
    | some ds => some (itE ds)
    | none => none
  | _ => none
def mItS (g : Store → List D → Option ItD) (m : EM (List D)) : EM ItD := fun δ S => (m δ S).bind fun d S1 => out (g S1 d) S1

section
variable {X : Cx} {C : Cst}
def iEnumA (K : PySem.W.Frag) (ta : TA) : TI := fun σ H R => ta σ H fun vs H1 => (∃ a xs, vs = [.ref a] ∧ SqL K H1 a xs ∧ R (Ite K a) H1) ∨ (∃ a xs, vs = [.ref a] ∧ SqT K H1 a xs ∧ R (IteT K a) H1) ∨ ∃ x, vs = [.str x] ∧ R (IteS x) H1
theorem enum_fp {pins : List (Addr × Obj)} {σ : L2.St} {H : Hp} {s : Shared} (I : Inv X pins σ H s) : ∀ b ∈ [s.heap.objs.size + 1, s.heap.objs.size], FpOk X pins H b := fun b hb => by
  have e' : b = s.heap.objs.size + 1 ∨ b = s.heap.objs.size := by simpa using hb
  have hle : s.heap.objs.size ≤ b := by
    rcases e' with z | z
    · rw [z]; exact Nat.le_add_right _ _
    · rw [z]; exact Nat.le_refl _
  exact I.fpOk hle (I.hok.fresh hle)
theorem pi_enumA {e : Expr} {ta : TA} {p pos tpos : Pos} {elts : List Expr} {kk : Nat} (hg : Gl X "enumerate") (hm : X.mg "enumerate" = none) (ha : PA X [e] ta) (hs : starEach [e] X.env = [(false, eval e X.env)]) :
    PI X (.Tuple elts kk tpos) (.Call (.Name "enumerate" p) [e] [] pos) (iEnumA X.K ta) := by
  refine ⟨fun pins s σ H R I h => Call_ (ld_blt I hg hm boot_enumerate (PyProof.Rows.callWith_type1 (thn (ha.run pos pins s σ H _ I h) fun us s1 ⟨vs, H1, I1, r1, q1⟩ => ?_) hs rfl))⟩
  have fp := enum_fp I1
  rcases q1 with ⟨a, xs, rfl, hq, q⟩ | ⟨a, xs, rfl, hq, q⟩ | ⟨x, rfl, q⟩
  · obtain ⟨u, rfl, ru⟩ := r1.one
    cases (show u = Value.ref a from ru)
    obtain ⟨its, rv, p', hz⟩ := I1.list hq
    refine call_enumerate_list p'.isList fun h' he hit hsz hk => wpAny_pyIter_enum he ?_
    exact ⟨s1.heap.objs.size + 1, _, _, _, H1, rfl, I1.kept (t' := s1.toks) hk, turn_enum a (s1.heap.objs.size + 1) s1.heap.objs.size, ⟨⟨.none, he⟩, hit, Nat.succ_ne_self _⟩, fp, q⟩
  · obtain ⟨u, rfl, ru⟩ := r1.one
    cases (show u = Value.ref a from ru)
    obtain ⟨its, rv, p', hz⟩ := I1.tuple hq
    have hT : s1.heap.IsTuple a its.toArray := p'
    have ha : a < s1.heap.objs.size := by obtain ⟨o, ho, _⟩ := hT; exact Heap.lt_size ho
    refine EvLow.call_enum_tuple hT fun h' he hit hk => wpAny_pyIter_enum he ?_
    exact ⟨s1.heap.objs.size + 1, _, _, _, H1, rfl, I1.kept (t' := s1.toks) hk, turn_enumT a (s1.heap.objs.size + 1) s1.heap.objs.size, ⟨⟨.none, he⟩, hit, Nat.succ_ne_self _, Nat.ne_of_lt ha, Nat.ne_of_lt (Nat.lt_succ_of_lt ha)⟩, fp, q⟩
  · obtain ⟨u, rfl, ru⟩ := r1.one
    obtain ⟨t, rfl⟩ := (show ∃ t, u = Value.str x t from ru)
    refine call_enumerate_str fun h' he hit hsz hk => wpAny_pyIter_enum he ?_
    exact ⟨s1.heap.objs.size + 1, _, _, _, H1, rfl, I1.kept (t' := s1.toks) hk, turn_enumS x t (s1.heap.objs.size + 1) s1.heap.objs.size, ⟨⟨.none, he⟩, hit, Nat.succ_ne_self _⟩, fp, q⟩
variable {p : Pl} {S : Store} {H : Hp}
theorem pair_new {i : Nat} {d : D} {y : V} {T : Addr} (ok : Ok C p S H) (r : Rep C p H d y) (hT : H T = none) :
    Step p H p (upd H T (.tup [.int (i : Nat), y])) ∧ Ok C p S (upd H T (.tup [.int (i : Nat), y])) ∧ Rep C p (upd H T (.tup [.int (i : Nat), y])) (.tup [.int (i : Nat), d]) (.ref T) := by
  have st : Step p H p (upd H T (.tup [.int (i : Nat), y])) := Step.alloc hT
  have rl : RepL C p H [.int (i : Nat), d] [.int (i : Nat), y] := by simp only [RepL, Rep]; exact ⟨_, _, rfl, rfl, y, [], rfl, r, rfl⟩
  refine ⟨st, ok.alloc hT, ?_⟩
  simp only [Rep]
  exact ⟨T, _, rfl, .inl (.inl upd_same), RepL.keep (st.keep ok) _ _ rl⟩
theorem walk_enL {K : PySem.W.Frag} {a : Addr} {vs : List V} {ds : List D} (h : ∀ p' H', Keep C.K p H p' H' → SqL K H' a vs) (r : RepL C p H ds vs) : WalkOk C p H (itE ds) (Ite K a) where
  stop := fun i p' S' H' k o e => ⟨vs, h p' H' k, by
    rw [← r.length]
    exact Nat.le_of_eq (itE_none e).2.symm⟩
  go := fun i p' S' H' d k o e => by
    obtain ⟨d', e', rfl⟩ := itE_some e
    obtain ⟨v, ev, _⟩ := r.get e'
    exact ⟨vs, v, h p' H' k, ev⟩
  yields := fun i p' S' H' d x H2 k o e y => by
    obtain ⟨d', e', rfl⟩ := itE_some e
    obtain ⟨v, ev, rv⟩ := r.get e'
    obtain ⟨T, z, rfl, hT, rfl, q⟩ := y
    have e2 := q vs (h p' _ k)
    rw [ev] at e2; cases e2
    exact pair_new o (rv.keep k) hT
theorem walk_enT {K : PySem.W.Frag} {a : Addr} {vs : List V} {ds : List D} (h : ∀ p' H', Keep C.K p H p' H' → SqT K H' a vs) (r : RepL C p H ds vs) : WalkOk C p H (itE ds) (IteT K a) where
  stop := fun i p' S' H' k o e => ⟨vs, h p' H' k, by
    rw [← r.length]
    exact (itE_none e).2.symm⟩
  go := fun i p' S' H' d k o e => by
    obtain ⟨d', e', rfl⟩ := itE_some e
    obtain ⟨v, ev, _⟩ := r.get e'
    exact ⟨vs, v, h p' H' k, ev⟩
  yields := fun i p' S' H' d x H2 k o e y => by
    obtain ⟨d', e', rfl⟩ := itE_some e
    obtain ⟨v, ev, rv⟩ := r.get e'
    obtain ⟨T, z, rfl, hT, rfl, q⟩ := y
    have e2 := q vs (h p' _ k)
    rw [ev] at e2; cases e2
    exact pair_new o (rv.keep k) hT
theorem chars_get {x : Str} {i : Nat} {d : D} (e : (chars x)[i]? = some d) : ∃ c, x.cps[i]? = some c ∧ d = .str ⟨#[c]⟩ := by
  unfold chars at e
  rw [List.getElem?_map] at e
  obtain ⟨c, e, rfl⟩ := Option.map_eq_some_iff.mp e
  exact ⟨c, by simpa using e, rfl⟩
theorem walk_enS {x : Str} : WalkOk C p H (itE (chars x)) (IteS x) where
  stop := fun i p' S' H' k o e => by
    have z := (itE_none e).2
    show i = x.cps.size
    rw [z]
    simp [chars]
  go := fun i p' S' H' d k o e => by
    obtain ⟨d', e', rfl⟩ := itE_some e
    obtain ⟨c, e2, _⟩ := chars_get e'
    exact (Array.getElem?_eq_some_iff.mp e2).1
  yields := fun i p' S' H' d v H2 k o e y => by
    obtain ⟨d', e', rfl⟩ := itE_some e
    obtain ⟨c, e3, rfl⟩ := chars_get e'
    obtain ⟨T, z, rfl, hT, rfl, c2, e2, rfl⟩ := y
    rw [e3] at e2; cases e2
    exact pair_new o (by simp only [Rep]) hT
theorem walk_enLoc {K : PySem.W.Frag} {a : Addr} {l n : Nat} (h : p.ρ[l]? = some a) : WalkOk C p H (itELoc n l) (Ite K a) where
  stop := fun i p' S' H' k o e => by
    simp only [itELoc] at e
    split at e
    · rename_i ds hs
      simp only [Option.some.injEq, Option.map_eq_none_iff] at e
      obtain ⟨b, hb, vs, hv, r⟩ := o.cell l _ hs
      rw [k.get l a h] at hb; cases hb
      exact ⟨vs, .of hv, by rw [← r.length]; exact List.getElem?_eq_none_iff.mp e⟩
    · cases e
  go := fun i p' S' H' d k o e => by
    simp only [itELoc] at e
    split at e
    · rename_i ds hs
      simp only [Option.some.injEq, Option.map_eq_some_iff] at e
      obtain ⟨d', e, rfl⟩ := e
      obtain ⟨b, hb, vs, hv, r⟩ := o.cell l _ hs
      rw [k.get l a h] at hb; cases hb
      obtain ⟨v, ev, _⟩ := r.get e
      exact ⟨vs, v, .of hv, ev⟩
    · cases e
  yields := fun i p' S' H' d x H2 k o e y => by
    simp only [itELoc] at e
    split at e
    · rename_i ds hs
      simp only [Option.some.injEq, Option.map_eq_some_iff] at e
      obtain ⟨d', e, rfl⟩ := e
      obtain ⟨b, hb, vs, hv, r⟩ := o.cell l _ hs
      rw [k.get l a h] at hb; cases hb
      obtain ⟨v, ev, rv⟩ := r.get e
      obtain ⟨T, z, rfl, hT, rfl, q⟩ := y
      have e2 := q vs (.of hv)
      rw [ev] at e2; cases e2
      exact pair_new o rv hT
    · cases e
end
section
variable {X : Cx} {C : Cst} {π : Option (Addr × Obj)} {W : WX} {pos tpos q : Pos} {elts : List Expr} {kk : Nat} {e : Expr} {ms : EM (List D)}
theorem i_enum (hK : X.K = C.K) (hg : Gl X "enumerate") (hm : X.mg "enumerate" = none) (ha : PA X [e] (TAe C π W ms)) (hs : starEach [e] X.env = [(false, eval e X.env)] := by rfl) :
    PI X (.Tuple elts kk tpos) (.Call (.Name "enumerate" q) [e] [] pos) (TIe C π W (mItS enumD ms)) :=
  pi_mono (pi_enumA hg hm ha hs) fun σ H R ⟨p, S, δ, hp, ok, re, po⟩ => TIe.go hp ok re po fun ds S1 p1 H1 vs k1 ok1 r1 po1 => by
    match ds, r1, po1 with
    | [], _, po1 => exact po1.elim
    | d :: d2 :: ds, _, po1 => cases d <;> exact po1.elim
    | [d], r1, po1 =>
      obtain ⟨v, rfl, rv⟩ := r1.one
      cases d with
      | tup ds =>
        obtain ⟨a, vs, rfl, h, r⟩ := tup_rep rv
        exact .inr (.inl ⟨a, vs, rfl, by rw [hK]; exact h, po1 p1 H1 _ (Step.refl _ _) ok1 (walk_enT (fun p' H' k => by rw [hK]; exact sqT_keep k h) r)⟩)
      | str x =>
        simp only [Rep] at rv
        exact .inr (.inr ⟨x, by rw [rv], po1 p1 H1 _ (Step.refl _ _) ok1 walk_enS⟩)
      | lst ds =>
        have rv' := rv
        simp only [Rep] at rv'
        obtain ⟨a, vs, rfl, n1, n2, h, r⟩ := rv'
        exact .inl ⟨a, vs, rfl, .of h, po1 p1 H1 _ (Step.refl _ _) ok1 (walk_enL (fun p' H' k => .of (k.lst a vs h n1 n2).1) r)⟩
      | rol ds =>
        have rv' := rv
        simp only [Rep] at rv'
        obtain ⟨a, vs, rfl, h, r⟩ := rv'
        exact .inl ⟨a, vs, rfl, by rw [hK]; exact h.sq, po1 p1 H1 _ (Step.refl _ _) ok1 (walk_enL (fun p' H' k => by rw [hK]; exact (k.rol a vs h).sq) r)⟩
      | loc l =>
        simp only [enumD] at po1
        cases hs : S1[l]? with
        | none => rw [hs] at po1; exact po1.elim
        | some c =>
          rw [hs] at po1
          cases c with
          | dic kvs => exact po1.elim
          | lst ds =>
            obtain ⟨a, rfl, ha, vs, hv, r⟩ := locAt ok1 rv hs
            exact .inl ⟨a, vs, rfl, .of hv, po1 p1 H1 _ (Step.refl _ _) ok1 (walk_enLoc ha)⟩
      | _ => exact po1.elim
end

open PySem PySem.Spec PyProof.Rows L2

/-! ### o[i] = .. -/
def setD (S : Store) (o i d : D) : Option Store := match o, i with
  | .loc l, .int k => match S[l]? with
    | some (.lst xs) => (ixN xs.length k).map fun j => S.set l (.lst (xs.set j d))
    | _ => none
  | _, _ => none
def gmSub (mo mi : EM D) : GM := fun d δ S => (mo δ S).bind fun o S1 => (mi δ S1).bind fun i S2 => match setD S2 o i d with
  | some S3 => .ok δ S3
  | none => .stuck
section
variable {X : Cx} {C : Cst} {π : Option (Addr × Obj)} {W : WX} {pos tpos : Pos} {o i e : Expr} {mo mi me : EM D} {ts : List Nat}
theorem setD_rep {p : Pl} {S S' : Store} {H : Hp} {do_ di d : D} {vo vi v : V} (ok : Ok C p S H) (r1 : Rep C p H do_ vo) (r2 : Rep C p H di vi) (r3 : Rep C p H d v) (e : setD S do_ di d = some S') {Q : Hp → Prop} (w : ∀ H', Step p H p H' → Ok C p S' H' → Q H') : rSetL vo vi v H Q := by
  cases do_ <;> first | (simp [setD] at e; done) | skip
  cases di <;> first | (simp [setD] at e; done) | skip
  simp only [setD] at e
  split at e
  · rename_i xs hs
    obtain ⟨j, e1, rfl⟩ := Option.map_eq_some_iff.mp e
    obtain ⟨a, vs, rfl, h1, h2, h3⟩ := loc_lst ok r1 hs
    simp only [Rep] at r2
    obtain ⟨st, ok2⟩ := loc_put ok h1 (h3.set r3 j)
    exact ⟨a, vs, _, j, rfl, r2, h2, by rw [← h3.length]; exact e1, w _ st ok2⟩
  · cases e
theorem PostG.get {α β : Type} {p : Pl} {H : Hp} {σ : L2.St} {R : Pl → Hp → α → β → Prop} {Q1 : β → Hp → Prop} {Q : L2.St → Hp → Prop} {r : Res α} {f : α → M Env} (h : PostG C p H σ ts Q (r.bind f))
    (k : ∀ a S1 p' H' b, Step p H p' H' → Ok C p' S1 H' → R p' H' a b → PostG C p' H' σ ts Q (f a S1) → Q1 b H') : Post C WF p H σ R Q1 r := by
  cases r with
  | ok a S1 => exact fun p' H' b s o q => k a S1 p' H' b s o q (PostG.step s rfl h)
  | exc c d S1 => exact h.elim
  | stuck => exact h.elim
theorem g_sub (ho : PE X o (TEe C π WF mo)) (hi : PE X i (TEe C π WF mi))
    (ha : ∀ v, assign (.Subscript o i pos) X.env v = (do
      let ov ← holding [v] (eval o X.env)
      let iv ← holding [v, ov] (eval i X.env)
      standAt pos
      holding [v, ov, iv] (setItem ov iv v)
      release [v, ov, iv] []) := by intro _; rfl) : PG X (.Subscript o i pos) (TGe C π ts (gmSub mo mi)) :=
  pg_mono (pg_sub ho hi set_list ha) fun v σ H Q ⟨p, S, δ, d, hp, ok, re, r, po⟩ => by
    refine ⟨p, S, δ, hp, ok, re, PostG.get po fun x S1 p1 H1 vx s1 ok1 r1 po1 => ?_⟩
    have re1 := re.keep (s1.keep ok)
    refine ⟨p1, S1, δ, s1.err.trans hp, ok1, re1, PostG.get po1 fun y S2 p2 H2 vy s2 ok2 r2 po2 => ?_⟩
    have po3 : PostG C p2 H2 σ ts Q (match setD S2 x y d with
      | some S3 => .ok δ S3
      | none => .stuck) := po2
    cases e3 : setD S2 x y d with
    | none => rw [e3] at po3; exact po3.elim
    | some S3 =>
      rw [e3] at po3
      have k2 := s2.keep ok1
      exact setD_rep ok2 (r1.keep k2) r2 ((r.keep (s1.keep ok)).keep k2) e3 fun H3 s3 ok3 => po3 p2 H3 σ s3 ok3 ((re1.keep k2).keep (s3.keep ok2)) rfl

/-! ### op= -/
def iaddD (S : Store) (a b : D) : Option D := match a, b with
  | .int i, .int j => some (.int (i + j))
  | .str x, .str y => if x.length + y.length ≤ sizeLine then some (.str (x ++ y)) else none
  | _, _ => none
theorem iadd_ok : PIp X .Add (rV2 C iaddD) := by
  intro pins s σ H x y v u Q I rx ry h
  obtain ⟨p, S, dx, dy, d, ok, r1, r2, e, w⟩ := h
  cases dx <;> cases dy <;> first | (simp [iaddD] at e; done) | skip
  · cases e
    simp only [Rep] at r1 r2
    exact ip_add pins s σ H x y v u Q I rx ry ⟨_, _, r1, r2, w.here ok (by simp only [Rep])⟩
  · simp only [iaddD] at e
    split at e
    · rename_i hz
      cases e
      simp only [Rep] at r1 r2
      exact in_addS pins s σ H x y v u Q I rx ry ⟨_, _, r1, r2, hz, w.here ok (by simp only [Rep])⟩
    · cases e
theorem isub_ok : PIp X .Sub (rV2 C subD) := by
  intro pins s σ H x y v u Q I rx ry h
  obtain ⟨p, S, dx, dy, d, ok, r1, r2, e, w⟩ := h
  cases dx <;> cases dy <;> first | (simp [subD] at e; done) | skip
  cases e
  simp only [Rep] at r1 r2
  exact ip_sub pins s σ H x y v u Q I rx ry ⟨_, _, r1, r2, w.here ok (by simp only [Rep])⟩
end

open PySem PySem.Spec PyProof.Rows L2

/-! ### e[::-1] -/
def revS (x : Str) : Str := ⟨x.cps.toList.reverse.toArray⟩
theorem rev_ix (n : Nat) : Builtin.Str.strSliceIndices none none (-1) n = (List.range n).map fun k => n - 1 - k := by
  unfold Builtin.Str.strSliceIndices sliceRange
  have z1 : ¬ ((-1 : Int) > 0) := by decide
  have z2 : ¬ ((-1 : Int) == 0) = true := by decide
  simp only [z1, z2, if_false, decide_false, Bool.false_eq_true]
  cases n with
  | zero => rfl
  | succ n =>
    rw [if_pos (by omega)]
    have e : (((((n + 1 : Nat) : Int) - 1 - -1 - -1 - 1) / - -1).toNat) = n + 1 := by
      have h : ((((n + 1 : Nat) : Int) - 1 - -1 - -1 - 1) / - -1) = ((n + 1 : Nat) : Int) := by
        rw [show (- -1 : Int) = 1 from rfl, Int.ediv_one]
        omega
      rw [h]; rfl
    rw [e]
    apply List.map_congr_left
    intro k hk
    have := List.mem_range.mp hk
    omega
theorem rev_pick (xs : Array Nat) : (((List.range xs.size).map fun k => xs.size - 1 - k).filterMap (xs[·]?)) = xs.toList.reverse := by
  apply List.ext_getElem?
  intro i
  have all : ((List.range xs.size).map fun k => xs.size - 1 - k).filterMap (xs[·]?) = (List.range xs.size).pmap (fun k (h : k < xs.size) => xs[xs.size - 1 - k]'(by omega)) (fun k hk => List.mem_range.mp hk) := by
    rw [List.filterMap_map]
    have : ∀ (l : List Nat) (hl : ∀ k ∈ l, k < xs.size), l.filterMap ((xs[·]?) ∘ fun k => xs.size - 1 - k) = l.pmap (fun k (h : k < xs.size) => xs[xs.size - 1 - k]'(by omega)) hl := by
      intro l
      induction l with
      | nil => intro _; rfl
      | cons a l ih =>
        intro hl
        have ha := hl a List.mem_cons_self
        rw [List.filterMap_cons_some (b := xs[xs.size - 1 - a]'(by omega)) (by simp), List.pmap_cons, ih]
    exact this _ _
  rw [all]
  by_cases hi : i < xs.size
  · rw [List.getElem?_pmap, List.getElem?_reverse (by simpa using hi)]
    simp [hi]
  · rw [List.getElem?_eq_none (by simp; omega), List.getElem?_eq_none (by simp; omega)]
def revD (S : Store) (d : D) : Option D := match d with
  | .str x => if x.length ≤ sizeLine then some (.str (revS x)) else none
  | d => match listOf S d with
    | some ds => some (.lst ds.reverse)
    | none => none
def mRev (m : EM D) : EM D := mUn revD m
theorem RepL.rev {C : Cst} {p : Pl} {H : Hp} : ∀ {ds : List D} {vs : List V}, RepL C p H ds vs → RepL C p H ds.reverse vs.reverse
  | [], vs, r => by simp only [RepL] at r; subst r; simp [RepL]
  | d :: ds, vs, r => by
    simp only [RepL] at r
    obtain ⟨v, r', rfl, r1, r2⟩ := r
    rw [List.reverse_cons, List.reverse_cons]
    exact (RepL.rev r2).append (by simp only [RepL]; exact ⟨v, [], rfl, r1, rfl⟩)
section
variable {X : Cx} {C : Cst} {π : Option (Addr × Obj)} {W : WX} {e : Expr} {m : EM D} {k : Nat} {p1 p2 p3 pos : Pos} {te : TE}
def tRevS (te : TE) : TE := fun σ H Q => te σ H fun x H1 => ∃ z : Str, x = .str z ∧ z.length ≤ sizeLine ∧ Q (.str (revS z)) H1
theorem pe_revS (he : PE X e te) : PE X (.Subscript e (.Slice none none (some (.UnaryOp .USub (.Constant (.int 1) k p1) p2)) p3) pos) (tRevS te) := by
  refine ⟨fun pi s σ H Q I h => Subscript_ (thn (he.run pi s σ H _ I h) fun v s1 ⟨x, H1, I1, r1, z, ex, hz, q⟩ => ?_)⟩
  subst ex
  obtain ⟨t, rfl⟩ := r1
  have hst : PO X (some (.UnaryOp .USub (.Constant (.int 1) k p1) p2)) (tPart (tUn (rU fun i => .int (-i)) (tC (.int 1)))) := po_some (pe_un un_neg pe_int)
  refine wpAny_Slice (thn (po_none.run pi s1 σ H1 (fun o H2 => o = none ∧ H2 = H1) I1 ⟨rfl, rfl⟩) fun vl s2 ⟨l, H2, I2, pl, el, e2⟩ => ?_)
  subst el e2
  refine thn (po_none.run pi s2 σ H2 (fun o H3 => o = none ∧ H3 = H2) I2 ⟨rfl, rfl⟩) fun vu s3 ⟨u, H3, I3, pu, eu, e3⟩ => ?_
  subst eu e3
  refine thn (hst.run pi s3 σ H3 (fun o H4 => o = some (-1) ∧ H4 = H3) I3 ⟨1, rfl, -1, rfl, rfl, rfl⟩) fun vs s4 ⟨o, H4, I4, ps, eo, e4⟩ => ?_
  subst eo e4
  cases pl
  cases pu
  obtain ⟨o, rfl, ho⟩ := IsPart.raw ps
  obtain ⟨⟨i, ti⟩, rfl, hi⟩ := Option.map_eq_some_iff.mp ho
  simp only at hi
  subst hi
  have I5 : Inv X pi σ H4 { s4 with heap := s4.heap.push { cls := .type "slice", data := .fields #[.none, .none, partValue (some (-1, ti))] } } := I4.kept (t' := s4.toks) fun b ob q => Heap.get?_push_of_some _ q
  refine tail_any (ops := [.str z t, .ref s4.heap.objs.size]) (typeIs_str _ _ _) (F.slot_str_getitem.lookup) ?_ (by with_unfolding_all rfl)
  refine wpAny_getItem_str_slice (l := none) (u := none) (st := some (-1, ti)) ⟨_, Heap.get?_push_size _ rfl, rfl, rfl⟩ rfl ?_
  have er : (⟨((slicePicked z none none (some (-1, ti))).filterMap (z.cps[·]?)).toArray⟩ : Str) = revS z := by
    unfold slicePicked revS
    show (⟨((Builtin.Str.strSliceIndices none none (-1) z.cps.size).filterMap (z.cps[·]?)).toArray⟩ : Str) = _
    rw [rev_ix, rev_pick]
  show Made.post (if ((-1 : Int) == 1 && (slicePicked z none none (some (-1, ti))).length == z.length) = true then Made.val (.str z t) else Made.str ⟨((slicePicked z none none (some (-1, ti))).filterMap (z.cps[·]?)).toArray⟩) _ _
  rw [if_neg (by simp), er]
  refine ⟨?_, .str (revS z), H4, I5.tok _, ⟨_, rfl⟩, q⟩
  show (z.cps.toList.reverse.toArray).size ≤ sizeLine
  have e1 : z.cps.size ≤ sizeLine := hz
  simpa using e1
theorem pe_or {t t' : TE} (h : PE X e t) (h' : PE X e t') : PE X e (fun σ H Q => t σ H Q ∨ t' σ H Q) := ⟨fun pins s σ H Q I hw => hw.elim (h.run pins s σ H Q I) (h'.run pins s σ H Q I)⟩
theorem e_rev (hK : X.K = C.K) (he : PE X e (TEe C π W m)) : PE X (.Subscript e (.Slice none none (some (.UnaryOp .USub (.Constant (.int 1) k p1) p2)) p3) pos) (TEe C π W (mRev m)) :=
  pe_mono (pe_or (pe_revS he) (pe_revL he)) fun σ H Q ⟨p, S, δ, hp, ok, re, po⟩ => by
    have po' : Post C W p H σ (Rep C) Q ((m δ S).bind fun x S1 => out (revD S1 x) S1) := po
    cases e1 : m δ S with
    | stuck => rw [e1] at po'; exact po'.elim
    | exc c d S1 => exact .inl ⟨p, S, δ, hp, ok, re, by rw [e1] at po' ⊢; exact po'⟩
    | ok d S1 =>
      rw [e1] at po'
      have po2 : Post C W p H σ (Rep C) Q (out (revD S1 d) S1) := po'
      have lists : (∃ ds, listOf S1 d = some ds ∧ revD S1 d = some (.lst ds.reverse)) → tRevL X.K (TEe C π W m) σ H Q := fun ⟨ds, el, er⟩ => ⟨p, S, δ, hp, ok, re, by
        rw [e1]
        rw [er] at po2
        intro p1 H1 v s1 ok1 r1
        obtain ⟨a, vs, rfl, q1, q2⟩ := listOf_rep ok1 r1 el
        have w : Wants C p1 S1 H1 (.lst ds.reverse) Q := fun p' H' v s o r => po2 p' H' v (s1.trans s) o r
        exact ⟨a, vs, rfl, by rw [hK]; exact q1, fun q hq => w.lst ok1 q2.rev hq⟩⟩
      cases d with
      | str x =>
        refine .inl ⟨p, S, δ, hp, ok, re, ?_⟩
        rw [e1]
        simp only [revD] at po2
        split at po2
        · rename_i hz
          intro p1 H1 v s1 ok1 r1
          simp only [Rep] at r1
          exact ⟨x, r1, hz, po2 p1 H1 _ s1 ok1 (by simp only [Rep])⟩
        · exact po2.elim
      | lst ds => exact .inr (lists ⟨ds, rfl, rfl⟩)
      | rol ds => exact .inr (lists ⟨ds, rfl, rfl⟩)
      | loc l =>
        cases hl : listOf S1 (.loc l) with
        | none =>
          have : revD S1 (.loc l) = none := by simp only [revD, hl]
          rw [this] at po2
          exact po2.elim
        | some ds => exact .inr (lists ⟨ds, hl, by simp only [revD, hl]⟩)
      | _ => exact po2.elim
end

open PySem PySem.Spec PyProof.Rows L2

/-! ### a, b = a list or a tuple -/
def unpOf (S : Store) (d : D) : Option (List D) := match d with
  | .tup ds => some ds
  | d => listOf S d
def gmUnp (n : Nat) (g : GMs) : GM := fun d δ S => match unpOf S d with
  | some ds => if ds.length = n then g ds δ S else .stuck
  | none => .stuck
section
variable {X : Cx} {C : Cst} {π : Option (Addr × Obj)} {pos : Pos} {ts : List Nat} {es : List Expr} {gs : GMs}
theorem pg_or {e : Expr} {t t' : TG} (h : PG X e t) (h' : PG X e t') : PG X e (fun v σ H Q => t v σ H Q ∨ t' v σ H Q) := ⟨fun pins s σ H v u Q I r hw => hw.elim (h.run pins s σ H v u Q I r) (h'.run pins s σ H v u Q I r)⟩
theorem g_unp {k n : Nat} (hK : X.K = C.K) (hc : X.calm = true) (h : PGs X es (TGse C π ts gs)) (hn : (assignEach es X.env).length = n := by rfl) (hst : (assignEach es X.env).findIdx? (·.1) = none := by rfl) : PG X (.Tuple es k pos) (TGe C π ts (gmUnp n gs)) :=
  pg_mono (pg_or (pg_tup hc h hn hst) (pg_unl hc h hn hst)) fun v σ H Q ⟨p, S, δ, d, hp, ok, re, r, po⟩ => by
    unfold gmUnp at po
    cases e : unpOf S d with
    | none => rw [e] at po; exact po.elim
    | some ds =>
      rw [e] at po
      have po' : PostG C p H σ ts Q (if ds.length = n then gs ds δ S else .stuck) := po
      split at po'
      · rename_i z
        have lists : listOf S d = some ds → gUnl X.K n (TGse C π ts gs) v σ H Q := fun el => by
          obtain ⟨a, vs, rfl, q1, q2⟩ := listOf_rep ok r el
          exact ⟨a, vs, rfl, by rw [hK]; exact q1, by rw [← q2.length]; exact z, p, S, δ, ds, hp, ok, re, q2, po'⟩
        cases d with
        | tup xs =>
          simp only [unpOf, Option.some.injEq] at e
          subst e
          obtain ⟨a, vs, rfl, h1, h2⟩ := tup_rep r
          exact .inl ⟨a, vs, rfl, by rw [hK]; exact h1, by rw [← h2.length]; exact z, p, S, δ, xs, hp, ok, re, h2, po'⟩
        | _ => exact .inr (lists e)
      · exact po'.elim
end

open PySem PySem.Spec PyProof.Rows L2
open He (ga ma frG frG_in frG_at asD fnW eqO eqO_ok)

/-! ### an own error class: its __init__ as it stands -/
abbrev FnI : Type := Option (Str × Str × Arguments × FuncBody × Scope × Addr × List Str × Value × Addr)
def fnI (K : PySem.W.Frag) (x : Str) : FnI := match K.lookup (ma K (ga K x) "__init__") with
  | some ⟨_, _, .func fd, _⟩ => some (fd.name, fd.qualname, fd.params, fd.body, fd.scope, fd.globals, fd.closure.map (·.1), fd.defaults, fd.builtins)
  | _ => none
/-- an error class of the text: its name, its field, its __init__'s qualified name, parameters, body, scope -/
structure ErrD where
  name : Str
  fld : Str
  qual : Str
  params : Arguments
  body : List Stmt
  scope : Scope
def ErrD.val (d : ErrD) : FnI := some ("__init__", d.qual, d.params, .stmts d.body, d.scope, mainGlobals, ["__class__"], .none, builtinsNs)
/-- the cell, the code object -/
def errCell (K : PySem.W.Frag) (x : Str) : Addr := match K.lookup (ma K (ga K x) "__init__") with
  | some ⟨_, _, .func fd, _⟩ => (match fd.closure with
    | [(_, c)] => c
    | _ => 0)
  | _ => 0
def errCode (K : PySem.W.Frag) (x : Str) : Addr := match K.lookup (ma K (ga K x) "__init__") with
  | some ⟨_, _, .func fd, _⟩ => (match fd.code with
    | .ref c => c
    | _ => 0)
  | _ => 0
def oexB (K : PySem.W.Frag) (C : Addr) : Bool := (match K.lookup C with
  | some ⟨.type t, _, .cls cd, sl⟩ => decide (t = "type") && (match cd.mro, sl.toList with
    | .ref C' :: bm, [_, _, _, _, some (.builtin n), _] => decide (C' = C) && (decide (n = "ValueError.__new__") && (!cd.hasDel && (cd.hasDict && PySem.HandSPX.refsVE bm)))
    | _, _ => false)
  | _ => false) && (eqO (PySem.W.findIn K (.ref C) "__setattr__") (some (some (.builtin "object.__setattr__"))) && (decide (PySem.W.subIn K (.ref C) (.type "BaseException") = some true) && (decide (PySem.W.typeIn K (.ref C) = some (.type "type")) && PySem.W.keepIn K (.ref C))))
theorem band {a b : Bool} (h : (a && b) = true) : a = true ∧ b = true := Bool.and_eq_true_iff.mp h
theorem oexB_ok {K : PySem.W.Frag} {C : Addr} (h : oexB K C = true) : OexC K C := by
  obtain ⟨h1, h⟩ := band h
  obtain ⟨h2, h⟩ := band h
  obtain ⟨h3, h⟩ := band h
  obtain ⟨h4, h5⟩ := band h
  refine ⟨?_, eqO_ok h2, of_decide_eq_true h3, of_decide_eq_true h4, h5⟩
  split at h1
  · rename_i t dd cd sl ho
    obtain ⟨a1, g1⟩ := band h1
    clear h1
    have et : t = "type" := of_decide_eq_true a1
    clear a1
    subst et
    split at g1
    · rename_i C' bm k0 k1 k2 k3 n k5 hm hs
      obtain ⟨a2, g2⟩ := band g1
      obtain ⟨a3, g3⟩ := band g2
      obtain ⟨a4, g4⟩ := band g3
      obtain ⟨a5, a6⟩ := band g4
      have e2 : C' = C := of_decide_eq_true a2
      have e3 : n = "ValueError.__new__" := of_decide_eq_true a3
      subst e2; subst e3
      obtain ⟨nm, bs, mro, ns, qn, hd, sn, sub, ab, col, del⟩ := cd
      simp only at hm a4 a5
      subst hm; subst a5
      have e4 : del = false := by simpa using a4
      subst e4
      have hsl : sl = #[k0, k1, k2, k3, some (.builtin "ValueError.__new__"), k5] := by
        obtain ⟨l⟩ := sl
        simp only at hs
        rw [hs]
      subst hsl
      exact ⟨nm, qn, ns, bs, bm, sn, sub, ab, col, dd, k0, k1, k2, k3, k5, ho, a6⟩
    · cases g1
  · cases h1
def isCB (K : PySem.W.Frag) (D : Addr) (fl : Str) : Bool := (PySem.W.clsIn K D).isSome && (eqO (PySem.W.findIn K (.ref D) "__getattribute__") (some (some (.builtin "BaseException.__getattribute__"))) && (eqO (PySem.W.findIn K (.ref D) "__getattr__") (some none) && (decide (PySem.W.subIn K (.ref D) (.type "BaseException") = some true) &&
  (eqO (PySem.W.findIn K (.ref D) "__class__") (some (some (.builtin "object.__class__"))) && (eqO (PySem.W.specialIn K (.builtin "object.__class__") "__get__") (some (some (.builtin "getset_descriptor.__get__"))) && (decide (PySem.W.takesIn K (.builtin "object.__class__") = some true) &&
  (decide (PySem.W.mroIn K D (.type "object") = some true) && (PySem.W.hasDictIn K D && eqO (PySem.W.findIn K (.ref D) fl) (some none)))))))))
theorem isCB_ok {K : PySem.W.Frag} {D : Addr} {fl : Str} (h : isCB K D fl = true) : IsC K D fl := by
  obtain ⟨h1, h⟩ := band h
  obtain ⟨h2, h⟩ := band h
  obtain ⟨h3, h⟩ := band h
  obtain ⟨h4, h⟩ := band h
  obtain ⟨h5, h⟩ := band h
  obtain ⟨h6, h⟩ := band h
  obtain ⟨h7, h⟩ := band h
  obtain ⟨h8, h⟩ := band h
  obtain ⟨h9, h10⟩ := band h
  exact ⟨h1, eqO_ok h2, eqO_ok h3, of_decide_eq_true h4, eqO_ok h5, eqO_ok h6, of_decide_eq_true h7, of_decide_eq_true h8, h9, eqO_ok h10⟩
/-- all that is asked of an error class -/
def errB (P : Program) (K : PySem.W.Frag) (d : ErrD) : Bool := eqO (PySem.W.nsIn K mainGlobals d.name) (some (some (.ref (ga K d.name)))) && (oexB K (ga K d.name) && (isCB K (ga K d.name) d.fld && (eqO (PySem.W.findIn K (.ref (ga K d.name)) "__init__") (some (some (.ref (ma K (ga K d.name) "__init__")))) &&
  (decide (PySem.W.typeIn K (.ref (ma K (ga K d.name) "__init__")) = some (.type "function")) && ((match K.lookup (errCell K d.name) with
    | some ⟨_, _, .cell (some (.ref D)), _⟩ => decide (D = ga K d.name)
    | _ => false) && ((match K.lookup (errCode K d.name) with
    | some ⟨_, _, .fields vs, _⟩ => (match (vs[2]? : Option Value) with
      | some (.str file _) => ((P.main.file : Str) == file)
      | _ => false)
    | _ => false) && ((match K.lookup (ma K (ga K d.name) "__init__") with
    | some ⟨_, _, .func fd, _⟩ => (match fd.closure with
      | [(y, _)] => decide (y = ("__class__" : Str))
      | _ => false) && (match fd.code with
      | .ref _ => true
      | _ => false)
    | _ => false) && (PySem.W.codeIn K (.ref (errCode K d.name)) d.qual && (decide (PySem.W.mroIn K (ga K d.name) (.ref (ga K d.name)) = some true) && (decide (PySem.W.subIn K (.ref (ga K d.name)) (.type "ValueError") = some true) &&
  (eqO (PySem.W.ks_superIn K (ga K d.name) (ga K d.name) "__init__") (some (some (.builtin "ValueError.__init__"))) && eqO (PySem.W.nsIn K PySem.cStatics "thirdparty.any") (some none))))))))))))
structure ErrOk (P : Program) (K : PySem.W.Frag) (mg : Str → Option Value) (d : ErrD) : Prop where
  glo : mg d.name = some (.ref (ga K d.name))
  init : InitFacts P K mg (ga K d.name) (errCell K d.name) (errCode K d.name) d.fld
  isC : IsC K (ga K d.name) d.fld
  fI : PySem.W.findIn K (.ref (ga K d.name)) "__init__" = some (some (.ref (ma K (ga K d.name) "__init__")))
  tI : PySem.W.typeIn K (.ref (ma K (ga K d.name) "__init__")) = some (.type "function")
  lk : ∃ (oc : Value) (od : Option Addr) (osl : Array (Option Value)) (kV doc pm : Value) (an : Option Addr) (ct : Value), K.lookup (ma K (ga K d.name) "__init__") = some ⟨oc, od, .func (PySem.W.ksFn "__init__" d.qual d.params d.body d.scope .none kV doc pm an (.ref (errCode K d.name)) ct (errCell K d.name)), osl⟩
  cd : PySem.W.codeIn K (.ref (errCode K d.name)) d.qual = true
theorem errB_ok {P : Program} {K : PySem.W.Frag} {h : Heap} {mg : Str → Option Value} {d : ErrD} (X : K.In h) (G : h.Ns mainGlobals mg) (hs : mg "super" = none) (ht : (P.main.scope.names.lookup ("super" : Str)).isSome = false) (e : fnI K d.name = d.val) (hb : errB P K d = true) : ErrOk P K mg d := by
  obtain ⟨h1, hb⟩ := band hb
  obtain ⟨h2, hb⟩ := band hb
  obtain ⟨h3, hb⟩ := band hb
  obtain ⟨h4, hb⟩ := band hb
  obtain ⟨h5, hb⟩ := band hb
  obtain ⟨h6, hb⟩ := band hb
  obtain ⟨h7, hb⟩ := band hb
  obtain ⟨h8, hb⟩ := band hb
  obtain ⟨h9, hb⟩ := band hb
  obtain ⟨h10, hb⟩ := band hb
  obtain ⟨h11, hb⟩ := band hb
  obtain ⟨h12, h13⟩ := band hb
  have IC := isCB_ok h3
  refine ⟨PySem.W.mg_of X G (eqO_ok h1), ⟨oexB_ok h2, IC.no, ?_, ?_, of_decide_eq_true h10, of_decide_eq_true h11, eqO_ok h12, eqO_ok h13, hs, ht⟩, IC, eqO_ok h4, of_decide_eq_true h5, ?_, h9⟩
  · split at h6
    · rename_i cl cld D csl q
      have eD : D = ga K d.name := of_decide_eq_true h6
      subst eD
      exact ⟨cl, cld, csl, q⟩
    · cases h6
  · split at h7
    · rename_i cl cld vs csl q
      split at h7
      · rename_i file tf hv
        exact ⟨cl, cld, vs, csl, file, tf, q, hv, h7⟩
      · cases h7
    · cases h7
  · unfold fnI at e
    unfold errCode errCell
    split at h8
    · rename_i oc od fd osl q
      rw [q] at e ⊢
      obtain ⟨n1, n2, n3, n4, n5, n6, n7, n8, n9, n10, n11, n12, n13, n14, n15⟩ := fd
      simp only [ErrD.val, Option.some.injEq, Prod.mk.injEq] at e
      obtain ⟨e1, e2, e3, e4, e5, e6, e7, e9, e8⟩ := e
      subst e1 e2 e3 e4 e5 e6 e8 e9
      simp only at h8 ⊢
      obtain ⟨a1, a2⟩ := band h8
      match n7, n13, a1, a2 with
      | [(y, cc)], .ref c, a1, a2 =>
        have ey : y = ("__class__" : Str) := of_decide_eq_true a1
        rw [ey]
        exact ⟨oc, od, osl, n9, n10, n11, n12, n14, rfl⟩
    · cases h8

/-! ### the hook: defs, facts, error classes, one Bool -/
abbrev AlI : Type := He.AlD × List FnI × Bool
def asI (g : Addr → Option Obj) (n : Nat) : List Addr := PySem.cStatics :: asD g n
def obsI (fa : List He.Fa) (fn : List He.DefD) (es : List ErrD) (ex : PySem.W.Frag → Bool) (K : PySem.W.Frag) : AlI := (He.obsD fa fn K, es.map fun d => fnI K d.name, ex K)
def valI (fn : List He.DefD) (es : List ErrD) : AlI := (He.valD fn, es.map ErrD.val, true)
def obsIG (n : Nat) (fa : List He.Fa) (fn : List He.DefD) (es : List ErrD) (ex : PySem.W.Frag → Bool) (g : Addr → Option Obj) : AlI := obsI fa fn es ex (frG g (asI g n))
def SaysI (fa : List He.Fa) (fn : List He.DefD) (es : List ErrD) (ex : PySem.W.Frag → Bool) (K : PySem.W.Frag) : Prop := obsI fa fn es ex K = valI fn es
def hookI (n : Nat) (fa : List He.Fa) (fn : List He.DefD) (es : List ErrD) (ex : PySem.W.Frag → Bool) : PySem.W.Hook where
  α := AlI
  obs := fun s => obsIG n fa fn es ex s.heap.get?
  val := fun _ => valI fn es
  says := fun _ h => ∃ K : PySem.W.Frag, K.In h ∧ SaysI fa fn es ex K
  of := fun _ _ e => ⟨_, frG_in, e⟩
  keeps := fun _ _ _ ⟨K, hK, c⟩ k => ⟨K, PySem.W.Frag.In.keeps hK k, c⟩
theorem obsIG_eq {n : Nat} {fa : List He.Fa} {fn : List He.DefD} {es : List ErrD} {ex : PySem.W.Frag → Bool} {g : Addr → Option Obj} {s : Shared} (h : ∀ a, g a = s.heap.get? a) : obsIG n fa fn es ex g = (hookI n fa fn es ex).obs s := by
  have e : g = s.heap.get? := funext h
  rw [e] <;> rfl
section
variable {fa : List He.Fa} {fn : List He.DefD} {es : List ErrD} {ex : PySem.W.Frag → Bool} {K : PySem.W.Frag}
theorem SaysI.d (c : SaysI fa fn es ex K) : He.SaysD fa fn K := congrArg (fun z : AlI => z.1) c
theorem SaysI.more (c : SaysI fa fn es ex K) : ex K = true := congrArg (fun z : AlI => z.2.2) c
theorem SaysI.err (c : SaysI fa fn es ex K) (i : Nat) {d : ErrD} (h : es[i]? = some d) : fnI K d.name = d.val := by
  have e : (es.map fun d => fnI K d.name) = es.map ErrD.val := congrArg (fun z : AlI => z.2.1) c
  have e2 : (es.map fun d => fnI K d.name)[i]? = (es.map ErrD.val)[i]? := by rw [e]
  rw [List.getElem?_map, List.getElem?_map, h] at e2
  exact Option.some.inj e2
end

/-! ### the facts, for the walk -/
def fdOf (K : PySem.W.Frag) (x : Str) : FuncData := match K.lookup (ga K x) with
  | some ⟨_, _, .func fd, _⟩ => fd
  | _ => PySem.W.fnOf "" "" { posonlyargs := [], args := [], vararg := none, kwonlyargs := [], kw_defaults := [], kwarg := none, defaults := [] } [] { kind := .function, names := [], isGenerator := false, isCoroutine := false } .none .none .none .none none .none .none
/-- an own def that stands at the top -/
structure PlainD (d : He.DefD) : Prop where
  at_ : d.at_ = (d.name, none)
  dfl : d.dfl = []
  kwd : d.kwd = []
structure Fct (P : Program) (K : PySem.W.Frag) (mg : Str → Option Value) (fa : List He.Fa) (fn : List He.DefD) (es : List ErrD) (ex : PySem.W.Frag → Bool) : Prop where
  more : ex K = true
  def_ : ∀ (i : Nat) (d : He.DefD), fn[i]? = some d → FunD K d.name d.qual d.params d.body d.scope [] [] (ga K d.name) (fdOf K d.name)
  glo : ∀ (i : Nat) (x : Str), fa[i]? = some (.glo x) → mg x = some (.ref (ga K x))
  free : ∀ (i : Nat) (x : Str), fa[i]? = some (.free x) → mg x = none
  int : ∀ (i : Nat) (x : Str) (n : Int), fa[i]? = some (.int x n) → ∃ t, mg x = some (.int n t)
  str : ∀ (i : Nat) (x y : Str), fa[i]? = some (.str x y) → ∃ t, mg x = some (.str y t)
  err : ∀ (i : Nat) (d : ErrD), es[i]? = some d → ErrOk P K mg d
theorem fct_of {P : Program} {K : PySem.W.Frag} {h : Heap} {mg : Str → Option Value} {fa : List He.Fa} {fn : List He.DefD} {es : List ErrD} {ex : PySem.W.Frag → Bool} (X : K.In h) (G : h.Ns mainGlobals mg) (hs : mg "super" = none) (ht : (P.main.scope.names.lookup ("super" : Str)).isSome = false)
    (hp : ∀ d ∈ fn, PlainD d) (he : ∀ d ∈ es, errB P K d = true) (c : SaysI fa fn es ex K) : Fct P K mg fa fn es ex where
  more := c.more
  def_ := fun i d e => by
    obtain ⟨fd, F⟩ := c.d.def_ i e
    have p := hp d (List.mem_of_getElem? e)
    have e1 : He.fAd K d.at_ = ga K d.name := by rw [p.at_]; rfl
    have e2 : d.dvs K = [] := by unfold He.DefD.dvs; rw [p.dfl]; rfl
    have e3 : d.kws K = [] := by unfold He.DefD.kws; rw [p.kwd]; rfl
    rw [e1, e2, e3] at F
    have e4 : fdOf K d.name = fd := by
      obtain ⟨oc, od, dV, kV, doc, pm, an, cdv, ct, osl, _, lk, _⟩ := F.ex
      unfold fdOf
      rw [lk]
    rw [e4]
    exact F
  glo := fun i x e => He.glo_ok X G (c.d.fact i e)
  free := fun i x e => He.free_ok X G (c.d.fact i e)
  int := fun i x n e => He.int_ok X G (c.d.fact i e)
  str := fun i x y e => He.str_ok X G (c.d.fact i e)
  err := fun i d e => errB_ok X G hs ht (c.err i e) (he d (List.mem_of_getElem? e))

open PySem PySem.Spec PyProof.Rows L2
open He (ga ma)

def mkC (K : PySem.W.Frag) (fn : List He.DefD) (es : List ErrD) : Cst where
  K := K
  fa := fun i => ga K ((fn[i]?.map He.DefD.name).getD "")
  ca := fun c => ga K ((es[c]?.map ErrD.name).getD "")
  fld := fun c => (es[c]?.map ErrD.fld).getD ""
/-- how many a row of arguments gives -/
def ArgN (n : Nat) (ms : EM (List D)) : Prop := ∀ δ S xs S', ms δ S = .ok xs S' → xs.length = n
theorem argN_nil : ArgN 0 mNil := fun δ S xs S' h => by
  unfold mNil at h
  cases h
  rfl
theorem argN_cons {n : Nat} {m : EM D} {ms : EM (List D)} (h : ArgN n ms) : ArgN (n + 1) (mCons m ms) := fun δ S xs S' e => by
  unfold mCons at e
  cases e1 : m δ S with
  | ok x S1 =>
    rw [e1] at e
    have e' : ((ms δ S1).bind fun y S2 => Res.ok (x :: y) S2) = .ok xs S' := e
    cases e2 : ms δ S1 with
    | ok ys S2 =>
      rw [e2] at e'
      cases e'
      simp [h δ S1 ys _ e2]
    | exc => rw [e2] at e'; cases e'
    | stuck => rw [e2] at e'; cases e'
  | exc => rw [e1] at e; cases e
  | stuck => rw [e1] at e; cases e
/-- a def that is known -/
structure OkF (P : Program) (w : World) (K : PySem.W.Frag) (mg : Str → Option Value) (base : Heap) (C : Cst) (x : Str) (ps : List Str) (k : Nat) (F : FM) : Prop where
  ok : FnOk P w K mg base (L2.CX P w) k (ga K x) (fdOf K x) ps (spE C none ps.length F)
  glo : mg x = some (.ref (ga K x))
  kp : PySem.W.keepIn K (.ref (ga K x)) = true
  bd : Binds K (fdOf K x) ps []
/-- .. an error class that can be raised -/
structure OkR (P : Program) (w : World) (K : PySem.W.Frag) (mg : Str → Option Value) (base : Heap) (C : Cst) (x : Str) (c k : Nat) : Prop where
  ca : C.ca c = ga K x
  oex : OexC K (C.ca c)
  fI : PySem.W.findIn K (.ref (C.ca c)) "__init__" = some (some (.ref (ma K (ga K x) "__init__")))
  tI : PySem.W.typeIn K (.ref (ma K (ga K x) "__init__")) = some (.type "function")
  glo : mg x = some (.ref (C.ca c))
  ok : ∃ (fd : FuncData) (y : Str), FnOk P w K mg base (L2.CX P w) 1 (ma K (ga K x) "__init__") fd ["self", y] (spI (C.ca c) (C.fld c) (TX k)) ∧ Binds K fd ["self", y] []
section
variable {P : Program} {w : World} {K : PySem.W.Frag} {mg : Str → Option Value} {base : Heap}
/-- a def, by its body -/
theorem okE {C : Cst} {x qual : Str} {params : Arguments} {body : List Stmt} {scope : Scope} {f : Addr} {fd : FuncData} {N ps : List Str} {k : Nat} {b : SM} (F : FunD K x qual params body scope [] [] f fd) (S : FnScope N ps scope) (hn : ps.length ≤ N.length)
    (hb : ∀ (cdv : Value) (A : Around) (outer : List PySem.Env) (s : Shared) (H : Hp) (E : XK), Room k (cxOf (L2.CX P w) P w K mg base N qual scope f cdv A outer s H E).A → Takes (cxOf (L2.CX P w) P w K mg base N qual scope f cdv A outer s H E) (fun cls dx _ H => E cls dx H) →
      PassesOwn (model P w) (cxOf (L2.CX P w) P w K mg base N qual scope f cdv A outer s H E).A (cxOf (L2.CX P w) P w K mg base N qual scope f cdv A outer s H E).env (cxOf (L2.CX P w) P w K mg base N qual scope f cdv A outer s H E).xe →
      PSs (cxOf (L2.CX P w) P w K mg base N qual scope f cdv A outer s H E) body (TSe C none (fun cls dx _ H => E cls dx H) b)) : FnOk P w K mg base (L2.CX P w) (k + 1) f fd ps (spE C none ps.length (mDef N.length b)) := by
  refine F.ok S (fun vs H Q E h => h.1) fun cdv A outer s H vs Q E hr h => ⟨_, hb cdv A outer s H E hr (takes_of rfl rfl rfl rfl) (passes_of rfl), ?_⟩
  obtain ⟨hl, p, S', ds, hp, ok, r, po⟩ := h
  exact def_ends hp ok r (by rw [hl]; exact hn) po
/-- an error class, by its __init__ -/
theorem okR {C : Cst} {d : ErrD} {c : Nat} {m x : Str} {fd : FuncData} (E : ErrOk P K mg d) (hca : C.ca c = ga K d.name) (hfl : C.fld c = d.fld)
    (F : FnOk P w K mg base (L2.CX P w) 1 (ma K (ga K d.name) "__init__") fd ["self", x] (spI (ga K d.name) d.fld (TX m.length))) (hb : Binds K fd ["self", x] []) : OkR P w K mg base C d.name c m.length :=
  ⟨hca, by rw [hca]; exact E.init.oex, by rw [hca]; exact E.fI, E.tI, by rw [hca]; exact E.glo, fd, x, by rw [hca, hfl]; exact F, hb⟩
end
section
variable {X : Cx} {C : Cst} {W : WX} {pos pos' q : Pos} {e a : Expr} {es : List Expr} {ms : EM (List D)} {m : EM D} {x : Str} {ps : List Str} {k c kk : Nat} {F : FM} {π : Option (Addr × Obj)}
theorem e_fn (O : OkF X.prog X.w X.K X.mg X.base C x ps k F) (hr : Room k X.A) (tk : Takes X W) (hg : Gl X x) (ha : PA X (e :: es) (TAe C none W ms)) (hn : ArgN ps.length ms) (hdb : (x == ("__debug__" : Str)) = false := by decide)
    (he : starEach (e :: es) X.env = (false, eval e X.env) :: starEach es X.env := by rfl) (hpl : (backTo pos (starEach es X.env)).any (·.1) = false := by rfl) : PE X (.Call (.Name x q) (e :: es) [] pos) (TEe C none W (mCall F ms)) :=
  e_call O.ok hr hg O.glo O.kp O.bd (fun σ => passAt tk σ) ha hn hdb he hpl
theorem z_rs (O : OkR X.prog X.w X.K X.mg X.base C x c k) (hr : Room 2 X.A) (hc : X.calm = true) (tk : Takes X W) (hg : Gl X x) (ha : PE X e (TEe C π W m)) (hdb : (x == ("__debug__" : Str)) = false := by decide) (hs : starEach [e] X.env = (false, eval e X.env) :: starEach [] X.env := by rfl) :
    PS X (.Raise (some (.Call (.Name x q) [e] [] pos)) none pos') (TSe C π W (sRaise c k m)) := by
  obtain ⟨fd, y, F, hb⟩ := O.ok
  have hx : Passes (L2.CX X.prog X.w) X (fun _ _ _ => False) := fun pins σ H s e s' I z => passAt (W := fun _ _ _ _ => False) (fun u s' h => by
    obtain ⟨_, _, _, _, _, _, _, _, _, _, _, _, _, _, _, _, z⟩ := h
    exact z.elim) σ pins H s e s' I z
  exact z_raise (kk := 1) hc tk O.oex O.fI O.tI F hr hb hx hg O.glo ha hdb hs
theorem tkF {u : Shared} {H : Hp} {scope : Scope} {cenv : PySem.Env} {fp : List Addr} : Takes (X.blk u H scope cenv fp) WF := fun v s' h => by
  obtain ⟨_, _, _, _, _, _, _, _, _, _, _, _, _, _, _, _, z⟩ := h
  exact z.elim
end

open PySem PySem.Spec PyProof.Rows L2
open He (ga ma)
local macro_rules | `(tactic| walk_at "vs") => `(tactic| first | exact Or.inl rfl | exact Or.inr (Or.inl rfl) | exact Or.inr (Or.inr rfl))
local macro_rules | `(tactic| walk_at "lc") => `(tactic| first | exact Or.inl rfl | exact Or.inr rfl)
local macro_rules | `(tactic| walk_at "fl") => `(tactic| first | exact Or.inl rfl | exact Or.inr rfl)
local macro_rules | `(tactic| walk_at "lcl") => `(tactic| rfl)
/-- a comprehension's block, by a Bool -/
def blkB (N : List Str) (sc scope : Scope) (own : List (Str × Nat)) : Bool := decide (scope.kind = .function) && (decide (∀ y ∈ scope.names, scope.names.lookup y.1 = some y.2) && (decide (∀ p ∈ own, N[p.2]? = some p.1) && (decide (∀ y ∈ scope.names, y.2 = .free → sc.names.lookup y.1 = some .cell ∨ sc.names.lookup y.1 = some .free) &&
  decide (∀ y ∈ scope.names, y.2 = .local ∨ y.2 = .cell → y.1 ∈ own.map (·.1) ∨ y.1 ∉ N))))
theorem blkB_ok {N : List Str} {sc scope : Scope} {own : List (Str × Nat)} (h : blkB N sc scope own = true) : BlkOk N sc scope own := by
  obtain ⟨h1, h⟩ := band h
  obtain ⟨h2, h⟩ := band h
  obtain ⟨h3, h⟩ := band h
  obtain ⟨h4, h5⟩ := band h
  exact ⟨of_decide_eq_true h1, of_decide_eq_true h2, of_decide_eq_true h3, of_decide_eq_true h4, of_decide_eq_true h5⟩
local macro_rules | `(tactic| walk_at "blk") => `(tactic| (refine blkB_ok ?_; kernel_rfl))
def bigN : Nat := 2 ^ 4000
theorem rm64 {k : Nat} {A : Around} (r : Room k A) : A.units + 64 < cLine := by have := r.un; omega
theorem rm65 {k : Nat} {A : Around} (r : Room k A) : A.units + 65 < cLine := by have := r.un; omega
section
variable {X : Cx} {C : Cst} {π : Option (Addr × Obj)} {W : WX} {pos : Pos} {x : Str}
theorem e_gi {n : Int} (h : ∃ t, X.mg x = some (.int n t)) (hg : Gl X x) (hd : (x == ("__debug__" : Str)) = false := by decide) : PE X (.Name x pos) (TEe C π W (mC (.int n))) := by
  obtain ⟨t, h⟩ := h
  exact e_c (pe_glob (v := .int n) hg h ⟨t, rfl⟩ hd) fun _ _ => by simp only [Rep]
theorem e_gs {n : Str} (h : ∃ t, X.mg x = some (.str n t)) (hg : Gl X x) (hd : (x == ("__debug__" : Str)) = false := by decide) : PE X (.Name x pos) (TEe C π W (mC (.str n))) := by
  obtain ⟨t, h⟩ := h
  exact e_c (pe_glob (v := .str n) hg h ⟨t, rfl⟩ hd) fun _ _ => by simp only [Rep]
end
/-! ### the error classes -/
def tbC (es : List ErrD) (i c : Nat) : Option Bool := match es[c]?, es[i]? with
  | some d, some e => some (decide (d.name = e.name))
  | _, _ => none
def tbV (es : List ErrD) (c : Nat) : Option Bool := (es[c]?).map fun _ => true
/-- what a clause, what isinstance says -/
def exT (P : Program) (es : List ErrD) (K : PySem.W.Frag) : Bool := es.all fun d => errB P K d && (decide (PySem.W.exmOne K (.ref (ga K d.name)) (.ref (ga K "MeasureError")) = some true) && (decide (PySem.W.kitOne K (.ref (ga K d.name)) (.type "ValueError") = some true) &&
  (decide (PySem.W.kitOne K (.ref (ga K d.name)) (.ref (ga K "MeasureError")) = some true) && es.all fun e => decide (PySem.W.kitOne K (.ref (ga K d.name)) (.ref (ga K e.name)) = some (decide (d.name = e.name))))))
section
variable {P Q : Program} {K : PySem.W.Frag} {mg : Str → Option Value} {fa : List He.Fa} {fn : List He.DefD} {es : List ErrD}
theorem exT_at (h : exT P es K = true) {c : Nat} {d : ErrD} (e : es[c]? = some d) : errB P K d = true ∧ PySem.W.exmOne K (.ref (ga K d.name)) (.ref (ga K "MeasureError")) = some true ∧ PySem.W.kitOne K (.ref (ga K d.name)) (.type "ValueError") = some true ∧
    PySem.W.kitOne K (.ref (ga K d.name)) (.ref (ga K "MeasureError")) = some true ∧ ∀ e ∈ es, PySem.W.kitOne K (.ref (ga K d.name)) (.ref (ga K e.name)) = some (decide (d.name = e.name)) := by
  have h1 := List.all_eq_true.mp h d (List.mem_of_getElem? e)
  obtain ⟨a1, h2⟩ := band h1
  obtain ⟨a2, h3⟩ := band h2
  obtain ⟨a3, h4⟩ := band h3
  obtain ⟨a4, a5⟩ := band h4
  exact ⟨a1, of_decide_eq_true a2, of_decide_eq_true a3, of_decide_eq_true a4, fun e he => of_decide_eq_true (List.all_eq_true.mp a5 e he)⟩
theorem ca_at {c : Nat} {d : ErrD} (e : es[c]? = some d) : (mkC K fn es).ca c = ga K d.name ∧ (mkC K fn es).fld c = d.fld := by
  unfold mkC
  simp [e]
theorem tbC_ok (G : Fct P K mg fa fn es (exT P es)) (i : Nat) {e : ErrD} (he : es[i]? = some e) : ∀ c b, tbC es i c = some b → IsC K ((mkC K fn es).ca c) ((mkC K fn es).fld c) ∧ PySem.W.kitOne K (.ref ((mkC K fn es).ca c)) (.ref (ga K e.name)) = some b := fun c b h => by
  unfold tbC at h
  cases hd : es[c]? with
  | none => rw [hd] at h; cases h
  | some d =>
    rw [hd, he] at h
    obtain ⟨q1, q2⟩ := ca_at (K := K) (fn := fn) hd
    rw [q1, q2]
    refine ⟨(G.err c d hd).isC, ?_⟩
    rw [(exT_at G.more hd).2.2.2.2 e (List.mem_of_getElem? he)]
    exact h
theorem tbV_ok (G : Fct P K mg fa fn es (exT P es)) : ∀ c b, tbV es c = some b → IsC K ((mkC K fn es).ca c) ((mkC K fn es).fld c) ∧ PySem.W.kitOne K (.ref ((mkC K fn es).ca c)) (.type "ValueError") = some b := fun c b h => by
  unfold tbV at h
  obtain ⟨d, hd, rfl⟩ := Option.map_eq_some_iff.mp h
  obtain ⟨q1, q2⟩ := ca_at (K := K) (fn := fn) hd
  rw [q1, q2]
  exact ⟨(G.err c d hd).isC, (exT_at G.more hd).2.2.1⟩
theorem yes_ok (G : Fct P K mg fa fn es (exT P es)) : ∀ c b, tbV es c = some b → PySem.W.exmOne K (.ref ((mkC K fn es).ca c)) (.ref (ga K "MeasureError")) = some b := fun c b h => by
  unfold tbV at h
  obtain ⟨d, hd, rfl⟩ := Option.map_eq_some_iff.mp h
  obtain ⟨q1, q2⟩ := ca_at (K := K) (fn := fn) hd
  rw [q1]
  exact (exT_at G.more hd).2.1
def xfB (es : List ErrD) (fl : Str) (cs : List Nat) : Bool := cs.all fun c => match es[c]? with
  | some d => decide (d.fld = fl)
  | none => false
theorem xfC (G : Fct P K mg fa fn es (exT P es)) {cs : List Nat} {fl : Str} (h : xfB es fl cs = true) : ∀ c ∈ cs, IsC K ((mkC K fn es).ca c) fl ∧ (mkC K fn es).fld c = fl := fun c hc => by
  have h1 := List.all_eq_true.mp h c hc
  split at h1
  · rename_i d hd
    obtain ⟨q1, q2⟩ := ca_at (K := K) (fn := fn) hd
    have e : d.fld = fl := of_decide_eq_true h1
    rw [q1, q2]
    exact ⟨by rw [← e]; exact (G.err c d hd).isC, e⟩
  · cases h1
end

/-! ### a op1 b op2 c as a test -/
def mChainT (g g' : Store → D → D → Option D) (a b c : EM D) : EM Bool := fun δ S => (mChain g g' a b c δ S).bind fun x S1 => match x with
  | .bl k => .ok k S1
  | _ => .stuck
section
variable {X : Cx} {C : Cst} {π : Option (Addr × Obj)} {W : WX} {pos : Pos} {a b c : Expr} {ma mb mc : EM D}
theorem t_chain {op op' : CmpOp} {g g' : Store → D → D → Option D} (ho : OpR X (compareOp op) (rV2 C g)) (ho' : OpR X (compareOp op') (rV2 C g')) (ha : PE X a (TEe C π W ma)) (hb : PE X b (TEe C π W mb)) (hc : PE X c (TEe C π W mc))
    (hm : lastMarks [op, op'] [b, c] = false := by with_unfolding_all rfl) : PT X (.Compare a [op, op'] [b, c] pos) (TTe C π W (mChainT g g' ma mb mc)) :=
  pt_mono (pt_chain ho ho' ha hb hc hm) fun σ H Q ⟨p, S, δ, hp, ok, re, po⟩ => by
    have po0 : Post C W p H σ (fun _ _ a b => a = b) Q ((ma δ S).bind fun x S1 => (mb δ S1).bind fun y S2 => (out (g S2 x y) S2).bind fun z S3 => (match z with
      | .bl k => if k = true then (mc δ S3).bind fun w S4 => out (g' S4 y w) S4 else .ok (.bl false) S3
      | _ => .stuck : Res D).bind fun x S1 => match x with
      | .bl k => Res.ok k S1
      | _ => .stuck) := by
      have e : mChainT g g' ma mb mc δ S = (ma δ S).bind fun x S1 => (mb δ S1).bind fun y S2 => (out (g S2 x y) S2).bind fun z S3 => (match z with
        | .bl k => if k = true then (mc δ S3).bind fun w S4 => out (g' S4 y w) S4 else .ok (.bl false) S3
        | _ => .stuck : Res D).bind fun x S1 => match x with
        | .bl k => Res.ok k S1
        | _ => .stuck := by
        unfold mChainT mChain
        cases ma δ S with
        | ok x S1 =>
          simp only [Res.bind]
          cases mb δ S1 with
          | ok y S2 =>
            simp only [Res.bind]
            cases out (g S2 x y) S2 <;> rfl
          | exc => rfl
          | stuck => rfl
        | exc => rfl
        | stuck => rfl
      rw [← e]; exact po
    exact TRe.go hp ok re po0 fun x S1 p1 H1 v k1 ok1 hp1 re1 r1 po1 => TRe.go hp1 ok1 re1 po1 fun y S2 p2 H2 w k2 ok2 hp2 re2 r2 po2 => by
      cases e : g S2 x y with
      | none => rw [e] at po2; exact po2.elim
      | some z =>
        rw [e] at po2
        refine ⟨p2, S2, x, y, z, ok2, r1.keep k2, r2, e, fun p3 H3 zv s3 ok3 r3 => ?_⟩
        have k3 := s3.keep ok2
        have po3 := Post.step s3 po2
        cases z with
        | bl k =>
          simp only [Rep] at r3
          refine ⟨k, r3, ?_⟩
          cases k with
          | false => exact ⟨false, rfl, po3 p3 H3 false (Step.refl _ _) ok3 rfl⟩
          | true =>
            have po4 : Post C W p3 H3 σ (fun _ _ a b => a = b) Q ((mc δ S2).bind fun w S4 => (out (g' S4 y w) S4).bind fun x S1 => match x with
              | .bl k => Res.ok k S1
              | _ => .stuck) := by
              have e4 : (((mc δ S2).bind fun w S4 => out (g' S4 y w) S4).bind fun x S1 => match x with
                | .bl k => Res.ok k S1
                | _ => .stuck) = (mc δ S2).bind fun w S4 => (out (g' S4 y w) S4).bind fun x S1 => match x with
                | .bl k => Res.ok k S1
                | _ => .stuck := by cases mc δ S2 <;> rfl
              rw [← e4]; exact po3
            show TEe C π W mc σ H3 _
            exact TRe.go (s3.err.trans hp2) ok3 (re2.keep k3) po4 fun w' S4 p4 H4 v4 k4 ok4 hp4 re4 r4 po5 => by
              cases e5 : g' S4 y w' with
              | none => rw [e5] at po5; exact po5.elim
              | some z =>
                rw [e5] at po5
                refine ⟨p4, S4, y, w', z, ok4, (r2.keep k3).keep k4, r4, e5, fun p5 H5 zv s5 ok5 r5 => ?_⟩
                have po6 := Post.step s5 po5
                cases z with
                | bl k => simp only [Rep] at r5; exact ⟨k, r5, po6 p5 H5 k (Step.refl _ _) ok5 rfl⟩
                | _ => exact po6.elim
        | _ => exact po3.elim
end

open PySem PySem.Spec PyProof.Rows L2
open He (ga ma)
/-- a comprehension's parts, read -/
structure LcOk (X : Cx) (C : Cst) (π : Option (Addr × Obj)) (W : WX) (elt tg iter : Expr) (ifs : List Expr) (scope : Scope) (own : List (Str × Nat)) (mi : EM ItD) (g : GM) (t : EM Bool) (me : EM D) : Prop where
  calm : X.calm = true
  nd : X.N.Nodup
  it : PI X tg iter (TIe C π W mi)
  ok : BlkOk X.N X.env.scope scope own
  tg : ∀ (s : Shared) (H : Hp) (Cc : Addr) (cl : List (Str × Addr)) (fp : List Addr), PG (X.blk s H scope (compEnvC scope cl Cc X.env) fp) tg (TGe C π (own.map (·.2)) g)
  tt : ∀ (s : Shared) (H : Hp) (Cc : Addr) (cl : List (Str × Addr)) (fp : List Addr), PTs (X.blk s H scope (compEnvC scope cl Cc X.env) fp) ifs (TTe C π WF t)
  el : ∀ (s : Shared) (H : Hp) (Cc : Addr) (cl : List (Str × Addr)) (fp : List Addr), PE (X.blk s H scope (compEnvC scope cl Cc X.env) fp) elt (TEe C π WF me)
  fs : ∀ x, foldedSetIterable iter X.env x = pure x
section
variable {X : Cx} {C : Cst} {π : Option (Addr × Obj)} {W : WX} {elt tg iter : Expr} {ifs : List Expr} {scope : Scope} {own : List (Str × Nat)} {mi : EM ItD} {g : GM} {t : EM Bool} {me : EM D} {pos spos py : Pos} {y : Str} {i : Nat}
theorem e_LC (own : List (Str × Nat)) (L : LcOk X C π W elt tg iter ifs scope own mi g t me) : PE X (.ListComp elt [⟨tg, iter, ifs, 0⟩] scope pos) (TEe C π W (mLc mi g t me (own.map (·.2)))) := e_lc L.calm L.nd L.it L.ok L.tg L.tt L.el L.fs
theorem e_LCN (own : List (Str × Nat)) (L : LcOk X C π W elt tg iter ifs scope own mi g t me) : PE X (.ListComp elt [⟨tg, iter, ifs, 0⟩] scope pos) (TEe C π W (mLcN mi g t me (own.map (·.2)))) := e_lcN L.calm L.nd L.it L.ok L.tg L.tt L.el L.fs
theorem z_LC (own : List (Str × Nat)) (L : LcOk X C π W elt tg iter ifs scope own mi g t me) (hy : X.N[i]? = some y) (hyl : X.env.scope.names.lookup y = some .local) (hsw : swapsWith (.ListComp elt [⟨tg, iter, ifs, 0⟩] scope pos) (some (.Name y py)) spos.line X.env = pure true) :
    PS X (.Assign [.Name y py] (.ListComp elt [⟨tg, iter, ifs, 0⟩] scope pos) spos) (TSe C π W (sAsg (mLc mi g t me (own.map (·.2))) (gmName i))) := z_setLc L.calm L.nd L.it L.ok L.tg L.tt L.el L.fs hy hyl hsw
theorem z_LCN (own : List (Str × Nat)) (L : LcOk X C π W elt tg iter ifs scope own mi g t me) (hy : X.N[i]? = some y) (hyl : X.env.scope.names.lookup y = some .local) (hsw : swapsWith (.ListComp elt [⟨tg, iter, ifs, 0⟩] scope pos) (some (.Name y py)) spos.line X.env = pure true) :
    PS X (.Assign [.Name y py] (.ListComp elt [⟨tg, iter, ifs, 0⟩] scope pos) spos) (TSe C π W (sAsg (mLcN mi g t me (own.map (·.2))) (gmName i))) := z_setLcN L.calm L.nd L.it L.ok L.tg L.tt L.el L.fs hy hyl hsw
end

open PySem PySem.Spec PyProof.Rows L2
open He (ga ma)
theorem repL_ints {C : Cst} {p : Pl} {H : Hp} : ∀ ns : List Int, RepL C p H (ns.map D.int) (ns.map V.int)
  | [] => by simp [RepL]
  | n :: ns => by
    simp only [List.map_cons, RepL]
    exact ⟨_, _, rfl, by simp only [Rep], repL_ints ns⟩
theorem ok_nil {C : Cst} {H : Hp} : Ok C ⟨[], [], none⟩ [] H := ⟨rfl, List.nodup_nil, fun l c h => by simp at h, fun a h => by simp at h⟩
/-- a law, by its def's evaluation -/
theorem walk_ev {l : PySem.W.OpenLaw} {n k i : Nat} {q : Program} {loose : List Str} {XP : (Str → Option Value) → Heap → Prop} {d : DefRec} {fa : List He.Fa} {fn : List He.DefD} {es : List ErrD} {F : FM}
    (hn : l.most = some n) (hn2 : n ≤ sizeLine) (hdf : d.params.defaults = []) (hr : Room k callerA) (hd : d.name = ("law" : Str)) (hp : ∀ d ∈ fn, PlainD d)
    (hs : fa[i]? = some (.free "super")) (ht : (l.prog.main.scope.names.lookup ("super" : Str)).isSome = false)
    (O : ∀ (w : World) (K : PySem.W.Frag) (mg : Str → Option Value) (base : Heap), Fct l.prog K mg fa fn es (exT l.prog es) → OkF l.prog w K mg base (mkC K fn es) "law" ["script"] k F)
    (hB : ∀ (K : PySem.W.Frag) (mg : Str → Option Value), Fct l.prog K mg fa fn es (exT l.prog es) → ∀ (s : Shared) (u : Value), BindsTo s (fdOf K "law") ⟨[u], []⟩ [(("script" : Str), u)])
    (hF : ∀ ns : List Int, ns.length ≤ n → ∃ S', F [.rol (ns.map D.int)] [] = .ok (.bl true) S') :
    PySem.W.WalkO q loose XP (hookI 5 fa fn es (exT l.prog es)).says l.row.toRowW d [] (fun f vs => PySem.call f vs) := by
  refine Att.attach_call hn hdf fun w s₀ s₁ mg mb f o pm cd doc a vs ns G Y ho hd' hcd hmg hobj hints hlen hg => ?_
  obtain ⟨K, KX, c⟩ := Y
  have ms : mg "super" = none := He.free_ok KX G.T.g (c.d.fact i hs)
  have Fc : Fct l.prog K mg fa fn es (exT l.prog es) := fct_of KX G.T.g ms ht hp (fun e he => by
    obtain ⟨j, hj⟩ := List.mem_iff_getElem?.mp he
    exact (exT_at c.more hj).1) c
  have O1 := O w K mg s₁.heap Fc
  have ef : f = ga K "law" := by
    have e1 := O1.glo
    rw [← hd, hmg] at e1
    cases e1
    rw [hd]
  subst ef
  obtain ⟨S', hS'⟩ := hF ns hlen
  refine law_call (CX := L2.CX l.prog w) (sp := spE (mkC K fn es) none 1 F) KX G.T.g G.T.b G.T.builtins G.T.nolimit hg hobj hints (Nat.le_trans hlen hn2) hr (fun base _ _ => (O w K mg base Fc).ok) (hB K mg Fc) (fun H hO hS => ?_) fun H e s' h => ?_
  · refine ⟨rfl, ⟨[], [], none⟩, [], [.rol (ns.map D.int)], rfl, ok_nil, ?_, ?_⟩
    · simp only [RepL]
      refine ⟨_, _, rfl, ?_, rfl⟩
      simp only [Rep]
      refine ⟨a, ns.map V.int, rfl, ?_, repL_ints ns⟩
      rcases hS with (h | ⟨o, h⟩) | h
      · exact .inl ⟨h, by simp, by simp⟩
      · exact .inr (.inl ⟨o, h⟩)
      · exact .inr (.inr h)
    · rw [hS']
      intro p' H' v s o r
      simpa only [Rep] using r
  · obtain ⟨_, _, _, _, _, _, _, _, _, _, _, _, _, z⟩ := h

open PySem

/-! ### plain evaluation: what must hold so that a part ends well -/
abbrev EK : Type := Nat → D → Store → Prop
def Wr {α : Type} (r : Res α) (Q : α → Store → Prop) (E : EK) : Prop := match r with
  | .ok a S => Q a S
  | .exc c d S => E c d S
  | .stuck => False
structure Ko where
  nx : Env → Store → Prop
  rt : D → Store → Prop
  bk : Env → Store → Prop
  ct : Env → Store → Prop
  ex : EK
/-- .. with another way on -/
abbrev Ko.sq (K : Ko) (f : Env → Store → Prop) : Ko := { K with nx := f }
abbrev Ko.rd (K : Ko) (f : Env → Store → Prop) : Ko := { K with nx := f, ct := f, bk := K.nx }
/-- the ends of a def -/
abbrev kE (QD : D → Store → Prop) (E : EK) : Ko := { nx := fun _ S' => QD .non S', rt := QD, bk := fun _ _ => False, ct := fun _ _ => False, ex := E }
def Ws (r : SR) (K : Ko) : Prop := match r with
  | .nx δ S => K.nx δ S
  | .rt d S => K.rt d S
  | .bk δ S => K.bk δ S
  | .ct δ S => K.ct δ S
  | .exc c d _ S => K.ex c d S
  | .stuck => False
section
variable {α β : Type} {Q : α → Store → Prop} {E : EK} {K : Ko} {δ : Env} {S : Store} {QD : D → Store → Prop} {QL : List D → Store → Prop} {QB : Bool → Store → Prop}
theorem Wr.bind {r : Res α} {f : α → M β} {Q : β → Store → Prop} (h : Wr r (fun a S1 => Wr (f a S1) Q E) E) : Wr (r.bind f) Q E := by
  cases r <;> exact h
theorem Wr.mono {r : Res α} {Q' : α → Store → Prop} {E' : EK} (h : Wr r Q' E') (hq : ∀ a S, Q' a S → Q a S) (he : ∀ c d S, E' c d S → E c d S) : Wr r Q E := by
  cases r
  · exact hq _ _ h
  · exact he _ _ _ h
  · exact h
theorem Wr.eq {r : Res α} {a : α} (e : r = .ok a S) (h : Q a S) : Wr r Q E := by rw [e]; exact h
theorem Wr.out {o : Option α} {a : α} (e : o = some a) (h : Q a S) : Wr (out o S) Q E := by rw [e]; exact h
theorem Wr.ok {r : Res α} (h : Wr r Q fun _ _ _ => False) : ∃ a S', r = .ok a S' ∧ Q a S' := by
  cases r
  · exact ⟨_, _, rfl, h⟩
  · exact h.elim
  · exact h.elim
theorem w_var {i : Nat} {d : D} (h : δ[i]? = some (some d)) (q : QD d S) : Wr (mVar i δ S) QD E := by
  unfold mVar; rw [h]; exact q
theorem w_c {d : D} (q : QD d S) : Wr (mC d δ S) QD E := q
theorem w_nil (q : QL [] S) : Wr (mNil δ S) QL E := q
theorem w_cons {a : EM D} {b : EM (List D)} (h : Wr (a δ S) (fun x S1 => Wr (b δ S1) (fun y S2 => QL (x :: y) S2) E) E) : Wr (mCons a b δ S) QL E := Wr.bind (h.mono (fun _ _ h => Wr.bind h) fun _ _ _ h => h)
theorem w_op {g : Store → D → D → Option D} {a b : EM D} (h : Wr (a δ S) (fun x S1 => Wr (b δ S1) (fun y S2 => Wr (out (g S2 x y) S2) QD E) E) E) : Wr (mOp g a b δ S) QD E := Wr.bind (h.mono (fun _ _ h => Wr.bind h) fun _ _ _ h => h)
theorem w_un {g : Store → D → Option D} {a : EM D} (h : Wr (a δ S) (fun x S1 => Wr (out (g S1 x) S1) QD E) E) : Wr (mUn g a δ S) QD E := Wr.bind h
theorem w_cb {g : Store → List D → Option D} {a : EM (List D)} (h : Wr (a δ S) (fun x S1 => Wr (out (g S1 x) S1) QD E) E) : Wr (mCB g a δ S) QD E := Wr.bind h
theorem w_call {F : FM} {a : EM (List D)} (h : Wr (a δ S) (fun x S1 => Wr (F x S1) QD E) E) : Wr (mCall F a δ S) QD E := Wr.bind h
theorem w_tup {a : EM (List D)} (h : Wr (a δ S) (fun x S1 => small x = true ∧ QD (.tup x) S1) E) : Wr (mTup a δ S) QD E := Wr.bind (h.mono (fun x S1 ⟨h1, h2⟩ => by rw [if_pos h1]; exact h2) fun _ _ _ h => h)
theorem w_lst {a : EM (List D)} (h : Wr (a δ S) (fun x S1 => small x = true ∧ QD (.lst x) S1) E) : Wr (mLst a δ S) QD E := Wr.bind (h.mono (fun x S1 ⟨h1, h2⟩ => by rw [if_pos h1]; exact h2) fun _ _ _ h => h)
theorem w_loc {a : EM (List D)} (h : Wr (a δ S) (fun x S1 => small x = true ∧ QD (.loc S1.length) (S1 ++ [.lst x])) E) : Wr (mLoc a δ S) QD E := Wr.bind (h.mono (fun x S1 ⟨h1, h2⟩ => by rw [if_pos h1]; exact h2) fun _ _ _ h => h)
theorem w_test {a : EM D} (h : Wr (a δ S) (fun x S1 => ∃ k, x = .bl k ∧ QB k S1) E) : Wr (mTest a δ S) QB E := Wr.bind (h.mono (fun x S1 ⟨k, e, h⟩ => by subst e; exact h) fun _ _ _ h => h)
theorem w_not {t : EM Bool} (h : Wr (t δ S) (fun k S1 => QB (!k) S1) E) : Wr (mNot t δ S) QB E := Wr.bind h
theorem w_andB {t u : EM Bool} (h : Wr (t δ S) (fun k S1 => (k = true → Wr (u δ S1) QB E) ∧ (k = false → QB false S1)) E) : Wr (mAnd t u δ S) QB E := Wr.bind (h.mono (fun k S1 h => by cases k; exact h.2 rfl; exact h.1 rfl) fun _ _ _ h => h)
theorem w_orB {t u : EM Bool} (h : Wr (t δ S) (fun k S1 => (k = true → QB true S1) ∧ (k = false → Wr (u δ S1) QB E)) E) : Wr (mOr t u δ S) QB E := Wr.bind (h.mono (fun k S1 h => by cases k; exact h.2 rfl; exact h.1 rfl) fun _ _ _ h => h)
theorem w_if {t : EM Bool} {a b : EM D} (h : Wr (t δ S) (fun k S1 => (k = true → Wr (a δ S1) QD E) ∧ (k = false → Wr (b δ S1) QD E)) E) : Wr (mIf t a b δ S) QD E := Wr.bind (h.mono (fun k S1 h => by cases k; exact h.2 rfl; exact h.1 rfl) fun _ _ _ h => h)
theorem w_tru {a : EM D} (h : Wr (a δ S) (fun x S1 => Wr (out (truD S1 x) S1) QB E) E) : Wr (mTru a δ S) QB E := Wr.bind h
theorem w_andV {a b : EM D} (h : Wr (a δ S) (fun x S1 => Wr (out (truD S1 x) S1) (fun k S2 => (k = true → Wr (b δ S2) QD E) ∧ (k = false → QD x S2)) E) E) : Wr (mAndV a b δ S) QD E :=
  Wr.bind (h.mono (fun x S1 h => Wr.bind (h.mono (fun k S1 h => by cases k; exact h.2 rfl; exact h.1 rfl) fun _ _ _ h => h)) fun _ _ _ h => h)
theorem w_orV {a b : EM D} (h : Wr (a δ S) (fun x S1 => Wr (out (truD S1 x) S1) (fun k S2 => (k = true → QD x S2) ∧ (k = false → Wr (b δ S2) QD E)) E) E) : Wr (mOrV a b δ S) QD E :=
  Wr.bind (h.mono (fun x S1 h => Wr.bind (h.mono (fun k S1 h => by cases k; exact h.2 rfl; exact h.1 rfl) fun _ _ _ h => h)) fun _ _ _ h => h)
theorem w_notV {a : EM D} (h : Wr (a δ S) (fun x S1 => Wr (out (truD S1 x) S1) (fun k S2 => QD (.bl (!k)) S2) E) E) : Wr (mNotV a δ S) QD E := Wr.bind (h.mono (fun x S1 h => Wr.bind h) fun _ _ _ h => h)
/-! statements -/
theorem Ws.of {r : Res α} {k : α → Store → SR} (h : Wr r (fun a S1 => Ws (k a S1) K) K.ex) : Ws (SR.of r δ k) K := by
  cases r <;> exact h
theorem s_next (h : K.nx δ S) : Ws (sNext δ S) K := h
theorem s_seq {a b : SM} (h : Ws (a δ S) (K.sq fun δ' S' => Ws (b δ' S') K)) : Ws (sSeq a b δ S) K := by
  unfold sSeq
  cases e : a δ S <;> (rw [e] at h; exact h)
theorem s_ret {m : EM D} (h : Wr (m δ S) K.rt K.ex) : Ws (sRet m δ S) K := Ws.of h
theorem s_retN (h : K.rt .non S) : Ws (sRetN δ S) K := h
theorem s_drop {m : EM D} (h : Wr (m δ S) (fun _ S1 => K.nx δ S1) K.ex) : Ws (sDrop m δ S) K := Ws.of h
theorem s_if {t : EM Bool} {a b : SM} (h : Wr (t δ S) (fun k S1 => (k = true → Ws (a δ S1) K) ∧ (k = false → Ws (b δ S1) K)) K.ex) : Ws (sIf t a b δ S) K :=
  Ws.of (h.mono (fun k S1 h => by cases k; exact h.2 rfl; exact h.1 rfl) fun _ _ _ h => h)
theorem s_brk (h : K.bk δ S) : Ws (sBrk δ S) K := h
theorem s_ct (h : K.ct δ S) : Ws (sCt δ S) K := h
theorem s_set {m : EM D} {i : Nat} (h : Wr (m δ S) (fun d S1 => K.nx (δ.set i (some d)) S1) K.ex) : Ws (sAsg m (gmName i) δ S) K := Ws.of h
theorem s_sub {m mo mi : EM D} (h : Wr (m δ S) (fun d S1 => Wr (mo δ S1) (fun o S2 => Wr (mi δ S2) (fun i S3 => ∃ S4, setD S3 o i d = some S4 ∧ K.nx δ S4) fun _ _ _ => False) fun _ _ _ => False) K.ex) : Ws (sAsg m (gmSub mo mi) δ S) K :=
  Ws.of (h.mono (fun d S1 h => by
    obtain ⟨o, S2, e2, h⟩ := h.ok
    obtain ⟨i, S3, e3, S4, e4, h⟩ := h.ok
    have : gmSub mo mi d δ S1 = .ok δ S4 := by
      unfold gmSub
      rw [e2]
      show (mi δ S2).bind _ = _
      rw [e3]
      show (match setD S3 o i d with | some S3 => .ok δ S3 | none => .stuck : Res Env) = _
      rw [e4]
    rw [this]
    exact h) fun _ _ _ h => h)
theorem s_aug {i : Nat} {g : Store → D → D → Option D} {m : EM D} {x : D} (hx : δ[i]? = some (some x)) (h : Wr (m δ S) (fun y S1 => ∃ z, g S1 x y = some z ∧ K.nx (δ.set i (some z)) S1) K.ex) : Ws (sAug i g m δ S) K := by
  unfold sAug
  rw [hx]
  exact Ws.of (h.mono (fun y S1 ⟨z, e, h⟩ => by rw [e]; exact h) fun _ _ _ h => h)
theorem s_raise {c k : Nat} {m : EM D} (h : Wr (m δ S) (fun d S1 => rsnOk k d = true ∧ K.ex c d S1) K.ex) : Ws (sRaise c k m δ S) K :=
  Ws.of (h.mono (fun d S1 ⟨e, h⟩ => by rw [if_pos e]; exact h) fun _ _ _ h => h)
theorem s_par {i j : Nat} {ms : EM (List D)} (h : Wr (ms δ S) (fun ds S1 => ∃ d e, ds = [d, e] ∧ K.nx ((δ.set i (some d)).set j (some e)) S1) K.ex) : Ws (sPar i j ms δ S) K :=
  Ws.of (h.mono (fun y S1 ⟨d, e, z, h⟩ => by subst z; exact h) fun _ _ _ h => h)
/-- a def -/
theorem w_def {n : Nat} {b : SM} {ds : List D} (h : Ws (b (envOf n ds) S) (kE QD E)) : Wr (mDef n b ds S) QD E := by
  unfold mDef
  cases e : b (envOf n ds) S <;> (rw [e] at h; exact h)
/-- a for, by an invariant -/
theorem forGo_inv {it : ItD} {g : GM} {b : SM} (I : Nat → Env → Store → Prop) (hend : ∀ i δ S, I i δ S → i ≤ it.n ∧ ((i = it.n → it.item i S = some none) ∧ (i < it.n → ∃ d, it.item i S = some (some d) ∧ ∃ δ1 S1, g d δ S = .ok δ1 S1 ∧ Ws (b δ1 S1) (K.rd (I (i + 1))))))
    (hq : ∀ δ S, I it.n δ S → K.nx δ S) : ∀ (k i : Nat) (δ : Env) (S : Store), i + k = it.n → I i δ S → Ws (forGo it g b k i δ S) K := by
  intro k
  induction k with
  | zero =>
    intro i δ S hi h
    have hi' : i = it.n := by omega
    have h1 := (hend i δ S h).2.1 hi'
    unfold forGo
    rw [h1]
    subst hi'
    exact hq δ S h
  | succ k ih =>
    intro i δ S hi h
    obtain ⟨d, e1, δ1, S1, e2, w⟩ := (hend i δ S h).2.2 (by omega)
    unfold forGo
    rw [e1]
    simp only
    rw [e2]
    simp only
    cases e : b δ1 S1 with
    | nx δ2 S2 => rw [e] at w; exact ih (i + 1) δ2 S2 (by omega) w
    | ct δ2 S2 => rw [e] at w; exact ih (i + 1) δ2 S2 (by omega) w
    | bk δ2 S2 => rw [e] at w; exact w
    | rt d S2 => rw [e] at w; exact w
    | exc c d δ2 S2 => rw [e] at w; exact w
    | stuck => rw [e] at w; exact w
/-- a comprehension whose body ends well, by an invariant of what is gathered -/
theorem compGo_inv {it : ItD} {g : GM} {t : EM Bool} {e : EM D} {δ0 : Env} {Q : List D → Store → Prop} (I : Nat → List D → Store → Prop)
    (hend : ∀ i acc S, I i acc S → i = it.n → it.item i S = some none ∧ Q acc S)
    (hgo : ∀ i acc S, I i acc S → i < it.n → ∃ d, it.item i S = some (some d) ∧ ∃ δ1 S1, g d δ0 S = .ok δ1 S1 ∧ Wr (t δ1 S1) (fun b S2 => (b = true → acc.length < sizeLine ∧ Wr (e δ1 S2) (fun y S3 => I (i + 1) (acc ++ [y]) S3) fun _ _ _ => False) ∧ (b = false → I (i + 1) acc S2)) fun _ _ _ => False) :
    ∀ (k i : Nat) (acc : List D) (S : Store), i + k = it.n → I i acc S → ∃ ds S', compGo it g t e δ0 k i acc S = .ok ds S' ∧ Q ds S' := by
  intro k
  induction k with
  | zero =>
    intro i acc S hi h
    obtain ⟨h1, h2⟩ := hend i acc S h (by omega)
    unfold compGo
    rw [h1]
    exact ⟨acc, S, rfl, h2⟩
  | succ k ih =>
    intro i acc S hi h
    obtain ⟨d, e1, δ1, S1, e2, w⟩ := hgo i acc S h (by omega)
    unfold compGo
    rw [e1]
    simp only
    rw [e2]
    simp only
    obtain ⟨b, S2, e3, hb⟩ := w.ok
    rw [e3]
    simp only
    cases b with
    | true =>
      obtain ⟨hl, w2⟩ := hb.1 rfl
      obtain ⟨y, S3, e4, h4⟩ := w2.ok
      rw [if_pos rfl, e4]
      simp only
      rw [if_pos hl]
      exact ih (i + 1) _ S3 (by omega) h4
    | false =>
      rw [if_neg (by simp)]
      exact ih (i + 1) acc S2 (by omega) (hb.2 rfl)
theorem w_lc {mi : EM ItD} {g : GM} {t : EM Bool} {e : EM D} {vs : List Nat} (h : Wr (mi δ S) (fun it S1 => ∃ ds S2, compGo it g t e (wipeE δ vs) it.n 0 [] S1 = .ok ds S2 ∧ QD (.lst ds) S2) E) : Wr (mLc mi g t e vs δ S) QD E :=
  Wr.bind (h.mono (fun it S1 ⟨ds, S2, e1, q⟩ => by rw [e1]; exact q) fun _ _ _ h => h)
theorem w_yes (h : QB true S) : Wr (mYes δ S) QB E := h
theorem w_itA {g : List D → Option ItD} {m : EM (List D)} {QI : ItD → Store → Prop} (h : Wr (m δ S) (fun x S1 => Wr (out (g x) S1) QI E) E) : Wr (mItA g m δ S) QI E := Wr.bind h
theorem w_itS {g : Store → List D → Option ItD} {m : EM (List D)} {QI : ItD → Store → Prop} (h : Wr (m δ S) (fun x S1 => Wr (out (g S1 x) S1) QI E) E) : Wr (mItS g m δ S) QI E := Wr.bind h
theorem w_it {m : EM D} {QI : ItD → Store → Prop} (h : Wr (m δ S) (fun x S1 => Wr (out (iterD S1 x) S1) QI E) E) : Wr (mIt m δ S) QI E := Wr.bind h
theorem s_for {mi : EM ItD} {g : GM} {b : SM} (h : Wr (mi δ S) (fun it S1 => Ws (forGo it g b it.n 0 δ S1) K) K.ex) : Ws (sFor mi g b δ S) K := Ws.of h
theorem w_part {m : EM D} {QP : Option Int → Store → Prop} (h : Wr (m δ S) (fun d S1 => ∃ i, d = .int i ∧ QP (some i) S1) E) : Wr (mPart m δ S) QP E := Wr.bind (h.mono (fun d S1 ⟨i, e, q⟩ => by subst e; exact q) fun _ _ _ h => h)
theorem w_noPart {QP : Option Int → Store → Prop} (h : QP none S) : Wr (mNoPart δ S) QP E := h
theorem w_sl {m : EM D} {lo hi : EM (Option Int)} (h : Wr (m δ S) (fun d S1 => Wr (lo δ S1) (fun l S2 => Wr (hi δ S2) (fun u S3 => Wr (out (slD S3 d l u) S3) QD E) E) E) E) : Wr (mSl m lo hi δ S) QD E :=
  Wr.bind (h.mono (fun _ _ h => Wr.bind (h.mono (fun _ _ h => Wr.bind h) fun _ _ _ h => h)) fun _ _ _ h => h)
end
/-! ### the operators at plain values -/
section
variable {S : Store} {i j : Int}
theorem add_ii : addD S (.int i) (.int j) = some (.int (i + j)) := rfl
theorem sub_ii : subD S (.int i) (.int j) = some (.int (i - j)) := rfl
theorem mod_ii (h : 0 < j) : modD S (.int i) (.int j) = some (.int (i % j)) := if_pos h
theorem fdiv_ii (h : 0 < j) (h2 : j.natAbs.log2 < 9000) : fdivD S (.int i) (.int j) = some (.int (i / j)) := if_pos ⟨h, h2⟩
theorem mul_ii (h : i.natAbs.log2 + j.natAbs.log2 < 1000000) : mulV S (.int i) (.int j) = some (.int (i * j)) := if_pos h
theorem beq_dec : (i == j) = decide (i = j) := by rw [Bool.eq_iff_iff]; simp
theorem eq_ii : eqD S (.int i) (.int j) = some (.bl (decide (i = j))) := by
  show some (D.bl (i == j)) = _
  rw [beq_dec]
theorem ne_ii : neD S (.int i) (.int j) = some (.bl (!decide (i = j))) := by
  show some (D.bl (!(i == j))) = _
  rw [beq_dec]
theorem lt_ii : ltD S (.int i) (.int j) = some (.bl (decide (i < j))) := rfl
theorem le_ii : leD S (.int i) (.int j) = some (.bl (decide (i ≤ j))) := rfl
theorem gt_ii : gtD S (.int i) (.int j) = some (.bl (decide (j < i))) := rfl
theorem ge_ii : geD S (.int i) (.int j) = some (.bl (decide (j ≤ i))) := rfl
theorem int_i : intD S [.int i] = some (.int i) := rfl
theorem abs_i : absD S [.int i] = some (.int (if i < 0 then -i else i)) := rfl
theorem neg_i : negD S (.int i) = some (.int (-i)) := rfl
theorem len_lst {ds : List D} : lenD S [.lst ds] = some (.int ds.length) := rfl
theorem len_tup {ds : List D} : lenD S [.tup ds] = some (.int ds.length) := rfl
theorem len_str {x : Str} (h : x.length ≤ sizeLine) : lenD S [.str x] = some (.int x.length) := if_pos h
theorem log_le {k : Nat} (h : i.natAbs < 2 ^ k) : i.natAbs.log2 ≤ k := by
  by_cases z : i.natAbs = 0
  · rw [z]; simp
  · exact Nat.le_of_lt ((Nat.log2_lt z).mpr h)
end
theorem ex_bl {k : Bool} {P : Bool → Prop} (h : P k) : ∃ k', D.bl k = .bl k' ∧ P k' := ⟨k, rfl, h⟩
theorem ex_int {k : Int} {P : Int → Prop} (h : P k) : ∃ k', D.int k = .int k' ∧ P k' := ⟨k, rfl, h⟩
theorem ex_two {a b : D} {P : D → D → Prop} (h : P a b) : ∃ d e, [a, b] = [d, e] ∧ P d e := ⟨a, b, rfl, h⟩
/-- one step on -/
local macro_rules | `(tactic| walk_at "wp1") => `(tactic| first
  | with_reducible refine s_seq ?_
  | with_reducible refine s_set ?_
  | with_reducible refine s_sub ?_
  | with_reducible refine s_if ?_
  | with_reducible refine s_ret ?_
  | with_reducible refine s_retN ?_
  | with_reducible refine s_drop ?_
  | with_reducible refine s_next ?_
  | with_reducible refine s_raise ?_
  | with_reducible refine s_par ?_
  | with_reducible refine w_op ?_
  | with_reducible refine w_var (by with_unfolding_all rfl) ?_
  | with_reducible refine w_c ?_
  | with_reducible refine w_cons ?_
  | with_reducible refine w_nil ?_
  | with_reducible refine w_cb ?_
  | with_reducible refine w_un ?_
  | with_reducible refine w_call ?_
  | with_reducible refine w_test ?_
  | with_reducible refine w_andB ?_
  | with_reducible refine w_orB ?_
  | with_reducible refine w_not ?_
  | with_reducible refine w_tru ?_
  | with_reducible refine w_tup ?_
  | with_reducible refine w_lst ?_
  | with_reducible refine w_sl ?_
  | with_reducible refine w_part ?_
  | with_reducible refine w_noPart ?_
  | with_reducible refine w_andV ?_
  | with_reducible refine w_orV ?_
  | with_reducible refine w_notV ?_
  | with_reducible refine w_if ?_
  | with_reducible refine w_itA ?_
  | with_reducible refine w_itS ?_
  | with_reducible refine w_it ?_
  | with_reducible refine w_yes ?_
  | with_reducible refine s_for ?_
  | with_reducible refine Wr.out eq_ii ?_
  | with_reducible refine Wr.out ne_ii ?_
  | with_reducible refine Wr.out add_ii ?_
  | with_reducible refine Wr.out sub_ii ?_
  | with_reducible refine Wr.out lt_ii ?_
  | with_reducible refine Wr.out le_ii ?_
  | with_reducible refine Wr.out gt_ii ?_
  | with_reducible refine Wr.out ge_ii ?_
  | with_reducible refine Wr.out int_i ?_
  | with_reducible refine Wr.out abs_i ?_
  | with_reducible refine Wr.out neg_i ?_
  | with_reducible refine Wr.out len_lst ?_
  | with_reducible refine Wr.out len_tup ?_
  | (with_reducible refine Wr.out (mod_ii ?_) ?_; (first | assumption | decide | omega); skip)
  | (with_reducible refine Wr.out (fdiv_ii ?_ ?_) ?_; (first | assumption | decide | omega); (first | assumption | decide); skip)
  | with_reducible refine ex_bl ?_
  | with_reducible refine ex_int ?_
  | with_reducible refine ex_two ?_)
local macro_rules | `(tactic| walk_at "wps") => `(tactic| repeat walk_at "wp1")

open PySem L2
/-- the laws' state: the script, the draw under way, the next place, the last seed -/
structure St (S : Store) (r : Store) : Prop where
  ex : ∃ (ns : List Int) (a b c : Int), S = .lst [.lst (ns.map D.int), .int a, .int b, .int c] :: r ∧ 0 ≤ a ∧ 0 ≤ b ∧ 0 ≤ c ∧ c < 2147483630
def drawA : SM := (sSeq (sIf (mAnd (mTest (mOp eqD (mOp ixD (mVar 0) (mC (.int 1))) (mC (.int 0)))) (mTest (mOp geD (mOp ixD (mVar 0) (mC (.int 2))) (mCB lenD (mCons (mOp ixD (mVar 0) (mC (.int 0))) mNil))))) (sSeq (sAsg (mOp modD (mCB intD (mCons (mOp addD (mOp mulV (mOp ixD (mVar 0) (mC (.int 3))) (mC (.int 48271))) (mC (.int 69621))) mNil)) (mC (.int 2147483629))) (gmSub (mVar 0) (mC (.int 3)))) (sRet (mOp modD (mCB intD (mCons (mOp fdivD (mOp ixD (mVar 0) (mC (.int 3))) (mC (.int 13))) mNil)) (mVar 1)))) sNext) (sSeq (sIf (mTest (mOp eqD (mOp ixD (mVar 0) (mC (.int 1))) (mC (.int 0)))) (sSeq (sAsg (mCB absD (mCons (mOp ixD (mOp ixD (mVar 0) (mC (.int 0))) (mOp ixD (mVar 0) (mC (.int 2)))) mNil)) (gmSub (mVar 0) (mC (.int 1)))) (sAsg (mOp addD (mOp ixD (mVar 0) (mC (.int 2))) (mC (.int 1))) (gmSub (mVar 0) (mC (.int 2))))) sNext) (sSeq (sAsg (mOp modD (mCB intD (mCons (mOp ixD (mVar 0) (mC (.int 1))) mNil)) (mVar 1)) (gmName 2)) (sSeq (sAsg (mOp fdivD (mOp ixD (mVar 0) (mC (.int 1))) (mVar 1)) (gmSub (mVar 0) (mC (.int 1)))) (sRet (mVar 2))))))
section
variable {ns d n a b c : D} {r : Store}
theorem ix3 : ixD (.lst [n, a, b, c] :: r) (.loc 0) (.int 3) = some c := rfl
theorem ix2 : ixD (.lst [n, a, b, c] :: r) (.loc 0) (.int 2) = some b := rfl
theorem ix1 : ixD (.lst [n, a, b, c] :: r) (.loc 0) (.int 1) = some a := rfl
theorem ix0 : ixD (.lst [n, a, b, c] :: r) (.loc 0) (.int 0) = some n := rfl
theorem set3 : setD (.lst [n, a, b, c] :: r) (.loc 0) (.int 3) d = some (.lst [n, a, b, d] :: r) := rfl
theorem set2 : setD (.lst [n, a, b, c] :: r) (.loc 0) (.int 2) d = some (.lst [n, a, d, c] :: r) := rfl
theorem set1 : setD (.lst [n, a, b, c] :: r) (.loc 0) (.int 1) d = some (.lst [n, d, b, c] :: r) := rfl
end
local macro_rules | `(tactic| walk_at "wd1") => `(tactic| first
  | walk_at "wp1"
  | with_reducible refine Wr.out ix0 ?_ | with_reducible refine Wr.out ix1 ?_ | with_reducible refine Wr.out ix2 ?_ | with_reducible refine Wr.out ix3 ?_
  | with_reducible refine ⟨_, set1, ?_⟩ | with_reducible refine ⟨_, set2, ?_⟩ | with_reducible refine ⟨_, set3, ?_⟩)
theorem draw_ok {S r : Store} (h : St S r) {m : Int} (hm : 0 < m) (hm2 : m.natAbs.log2 < 9000) {Q : D → Store → Prop} {E : EK} (q : ∀ v S', 0 ≤ v → v < m → St S' r → Q (.int v) S') : Wr (mDef 3 drawA [.loc 0, .int m] S) Q E := by
  obtain ⟨ns, a, b, c, rfl, ha, hb, hc, hc2⟩ := h.ex
  have l1 : c.natAbs.log2 + (48271 : Int).natAbs.log2 < 1000000 := by
    have := log_le (i := c) (k := 40) (by omega)
    have e : (48271 : Int).natAbs.log2 = 15 := by decide
    omega
  refine w_def ?_
  show Ws (drawA [some (.loc 0), some (.int m), none] _) _
  unfold drawA
  have hl : ((ns.map D.int).length : Int) = ns.length := by simp
  repeat walk_at "wd1"
  refine ⟨fun h1 => ?_, fun h1 => ?_⟩
  · have h1 := of_decide_eq_true h1
    subst h1
    repeat walk_at "wd1"
    refine ⟨fun h2 => ?_, fun h2 => ?_⟩
    · repeat walk_at "wd1"
      refine Wr.out (mul_ii l1) ?_
      repeat walk_at "wd1"
      refine q _ _ (Int.emod_nonneg _ (by omega)) (Int.emod_lt_of_pos _ hm) ⟨⟨ns, 0, b, _, rfl, ha, hb, ?_, ?_⟩⟩ <;> omega
    · have h2 := of_decide_eq_false h2
      repeat walk_at "wd1"
      refine ⟨fun _ => ?_, fun z => by simp at z⟩
      have hb2 : b.toNat < ns.length := by omega
      have hx : ixD (.lst [.lst (ns.map D.int), .int 0, .int b, .int c] :: r) (.lst (ns.map D.int)) (.int b) = some (.int ns[b.toNat]) := by
        show atI (ns.map D.int) b = _
        unfold atI ixN
        rw [if_pos hb, if_pos (by simp; omega)]
        show (ns.map D.int)[b.toNat]? = _
        rw [List.getElem?_map, List.getElem?_eq_getElem hb2]
        rfl
      repeat walk_at "wd1"
      refine Wr.out hx ?_
      repeat walk_at "wd1"
      refine q _ _ (Int.emod_nonneg _ (by omega)) (Int.emod_lt_of_pos _ hm) ⟨⟨ns, _, b + 1, c, rfl, ?_, by omega, hc, hc2⟩⟩
      exact Int.ediv_nonneg (by split <;> omega) (by omega)
  · have h1 := of_decide_eq_false h1
    repeat walk_at "wd1"
    refine ⟨fun z => by simp at z, fun _ => ?_⟩
    repeat walk_at "wd1"
    refine ⟨fun z => absurd (of_decide_eq_true z) h1, fun _ => ?_⟩
    repeat walk_at "wd1"
    exact q _ _ (Int.emod_nonneg _ (by omega)) (Int.emod_lt_of_pos _ hm) ⟨⟨ns, _, b, c, rfl, Int.ediv_nonneg ha (by omega), hb, hc, hc2⟩⟩
def startA : SM := (sSeq (sAsg (mC (.int 7)) (gmName 1)) (sSeq (sFor (mIt (mVar 0)) (gmName 2) (sAsg (mOp addD (mOp modD (mCB intD (mCons (mOp addD (mOp mulV (mVar 1) (mC (.int 48271))) (mVar 2)) mNil)) (mC (.int 2147483629))) (mC (.int 1))) (gmName 1))) (sRet (mLoc (mCons (mCB lstD (mCons (mVar 0) mNil)) (mCons (mC (.int 0)) (mCons (mC (.int 0)) (mCons (mVar 1) mNil))))))))
theorem start_ok (ns : List Int) {Q : D → Store → Prop} {E : EK} (q : ∀ S', St S' [] → Q (.loc 0) S') : Wr (mDef 3 startA [.rol (ns.map D.int)] []) Q E := by
  refine w_def ?_
  show Ws (startA [some (.rol (ns.map D.int)), none, none] _) _
  unfold startA
  repeat walk_at "wd1"
  have hi : iterD [] (.rol (ns.map D.int)) = some (itL (ns.map D.int)) := rfl
  refine Wr.out hi ?_
  refine forGo_inv (I := fun i δ S => S = [] ∧ i ≤ ns.length ∧ ∃ (s : Int) (o : Option D), δ = [some (.rol (ns.map D.int)), some (.int s), o] ∧ 0 ≤ s ∧ s < 2147483630) ?_ ?_ _ 0 _ _ (by simp) ⟨rfl, by omega, 7, none, rfl, by omega, by omega⟩
  · rintro i δ S ⟨rfl, hi, s, o, rfl, h0, h1⟩
    have hn : (itL (ns.map D.int)).n = ns.length := by simp [itL]
    rw [hn]
    refine ⟨hi, fun e => ?_, fun e => ?_⟩
    · show some (ns.map D.int)[i]? = some none
      rw [List.getElem?_eq_none (by simp; omega)]
    · refine ⟨.int ns[i], ?_, _, _, rfl, ?_⟩
      · show some (ns.map D.int)[i]? = _
        rw [List.getElem?_map, List.getElem?_eq_getElem e]
        rfl
      · have l1 : s.natAbs.log2 + (48271 : Int).natAbs.log2 < 1000000 := by
          have := log_le (i := s) (k := 40) (by omega)
          have e : (48271 : Int).natAbs.log2 = 15 := by decide
          omega
        show Ws (sAsg _ _ [some (.rol (ns.map D.int)), some (.int s), some (.int ns[i])] _) _
        repeat walk_at "wd1"
        refine Wr.out (mul_ii l1) ?_
        repeat walk_at "wd1"
        refine ⟨rfl, by omega, _, _, rfl, ?_, ?_⟩
        · have := Int.emod_nonneg (s * 48271 + ns[i]) (show (2147483629 : Int) ≠ 0 by omega)
          omega
        · have := Int.emod_lt_of_pos (s * 48271 + ns[i]) (show (0 : Int) < 2147483629 by omega)
          omega
  · rintro δ S ⟨rfl, -, s, o, rfl, h0, h1⟩
    repeat walk_at "wd1"
    refine w_loc ?_
    repeat walk_at "wd1"
    have hl : lstD [] [.rol (ns.map D.int)] = some (.lst (ns.map D.int)) := rfl
    refine Wr.out hl ?_
    repeat walk_at "wd1"
    exact ⟨rfl, q _ ⟨⟨ns, 0, 0, s, rfl, by omega, by omega, h0, h1⟩⟩⟩

open PySem
/-! ### comprehensions that only read -/
theorem comp_pure {α : Type} {it : ItD} {g : GM} {t : EM Bool} {e : EM D} {δ0 : Ev.Env} {xs : List α} {w : α → D} {p : α → Bool} {f : α → D} {S : Store} (hn : it.n = xs.length) (hi : ∀ i, i ≤ xs.length → it.item i S = some (xs[i]?.map w))
    (hg : ∀ d ∈ xs, ∃ δ1, g (w d) δ0 S = .ok δ1 S ∧ t δ1 S = .ok (p d) S ∧ (p d = true → e δ1 S = .ok (f d) S)) (hl : xs.length ≤ sizeLine) : compGo it g t e δ0 it.n 0 [] S = .ok ((xs.filter p).map f) S := by
  have go : ∀ (k i : Nat) (acc : List D), i + k = xs.length → acc.length ≤ i → compGo it g t e δ0 k i acc S = .ok (acc ++ ((xs.drop i).filter p).map f) S := by
    intro k
    induction k with
    | zero =>
      intro i acc h _
      unfold compGo
      rw [hi i (by omega), List.getElem?_eq_none (by omega), List.drop_eq_nil_of_le (by omega)]
      simp
    | succ k ih =>
      intro i acc h ha
      have hlt : i < xs.length := by omega
      obtain ⟨δ1, e1, e2, e3⟩ := hg xs[i] (List.getElem_mem hlt)
      unfold compGo
      rw [hi i (by omega), List.getElem?_eq_getElem hlt]
      simp only [Option.map_some]
      rw [e1]
      simp only
      rw [e2]
      simp only
      rw [List.drop_eq_getElem_cons hlt]
      cases hp : p xs[i] with
      | true =>
        rw [if_pos rfl, e3 hp]
        simp only
        rw [if_pos (by omega), ih (i + 1) _ (by omega) (by simp; omega), List.filter_cons_of_pos hp]
        simp
      | false =>
        rw [if_neg (by simp), ih (i + 1) _ (by omega) (by omega), List.filter_cons_of_neg (by simp [hp])]
  rw [hn, go xs.length 0 [] (by omega) (by simp)]
  simp
/-- what an iterable gives: the values w of xs -/
def Its {α : Type} (it : ItD) (S : Store) (xs : List α) (w : α → D) : Prop := it.n = xs.length ∧ ∀ i, i ≤ xs.length → it.item i S = some (xs[i]?.map w)
theorem its_L {ds : List D} {S : Store} : Its (itL ds) S ds id := ⟨rfl, fun i _ => by
  show some ds[i]? = _
  simp⟩
theorem its_map {α : Type} {xs : List α} {w : α → D} {S : Store} : Its (itL (xs.map w)) S xs w := ⟨by simp [itL], fun i _ => by
  show some (xs.map w)[i]? = _
  rw [List.getElem?_map]⟩
theorem its_chars {x : Str} {S : Store} : Its (itL (chars x)) S x.cps.toList (fun c => .str ⟨#[c]⟩) := its_map
theorem its_R {lo : Int} {n : Nat} {S : Store} : Its (itR lo n) S (List.range n) (fun k => .int (lo + (k : Nat))) := ⟨by simp [itR], fun i _ => by
  show some (if i < n then some (D.int (lo + i)) else none) = _
  by_cases h : i < n
  · rw [if_pos h, List.getElem?_range h]; rfl
  · rw [if_neg h, List.getElem?_eq_none (by simp; omega)]; rfl⟩
theorem w_lcp {mi : EM ItD} {g : GM} {t : EM Bool} {e : EM D} {vs : List Nat} {δ : Ev.Env} {S : Store} {QD : D → Store → Prop} {E : EK}
    (h : Wr (mi δ S) (fun it S1 => ∃ (α : Type) (xs : List α) (w : α → D) (p : α → Bool) (f : α → D), Its it S1 xs w ∧ xs.length ≤ sizeLine ∧ (∀ d ∈ xs, ∃ δ1, g (w d) (wipeE δ vs) S1 = .ok δ1 S1 ∧ t δ1 S1 = .ok (p d) S1 ∧ (p d = true → e δ1 S1 = .ok (f d) S1)) ∧ QD (.lst ((xs.filter p).map f)) S1) E) : Wr (mLc mi g t e vs δ S) QD E :=
  w_lc (h.mono (fun it S1 ⟨_, ds, w, p, f, ⟨hn, hi⟩, hl, hg, q⟩ => ⟨_, S1, comp_pure hn hi hg hl, q⟩) fun _ _ _ h => h)
/-- .. no test -/
theorem w_lcm {mi : EM ItD} {g : GM} {e : EM D} {vs : List Nat} {δ : Ev.Env} {S : Store} {QD : D → Store → Prop} {E : EK}
    (h : Wr (mi δ S) (fun it S1 => ∃ (α : Type) (xs : List α) (w : α → D) (f : α → D), Its it S1 xs w ∧ xs.length ≤ sizeLine ∧ (∀ d ∈ xs, ∃ δ1, g (w d) (wipeE δ vs) S1 = .ok δ1 S1 ∧ e δ1 S1 = .ok (f d) S1) ∧ QD (.lst (xs.map f)) S1) E) : Wr (mLc mi g mYes e vs δ S) QD E :=
  w_lcp (h.mono (fun it S1 ⟨α, ds, w, f, hi, hl, hg, q⟩ => ⟨α, ds, w, fun _ => true, f, hi, hl, fun d hd => by obtain ⟨δ1, h1, h2⟩ := hg d hd; exact ⟨δ1, h1, rfl, fun _ => h2⟩, by rw [List.filter_eq_self.mpr (fun _ _ => rfl)]; exact q⟩) fun _ _ _ h => h)
/-- from a post-condition to the equation -/
theorem Wr.eqn {α : Type} {r : Res α} {a : α} {S : Store} (h : Wr r (fun x S1 => x = a ∧ S1 = S) fun _ _ _ => False) : r = .ok a S := by
  obtain ⟨x, S1, e, rfl, rfl⟩ := h.ok
  exact e
theorem w_isT {T : String} {m : EM D} {δ : Ev.Env} {S : Store} {QD : D → Store → Prop} {E : EK} (h : Wr (m δ S) (fun d S1 => ∃ b, isT T S1 d = some b ∧ QD (.bl b) S1) E) : Wr (mIsT T m δ S) QD E := Wr.bind (h.mono (fun d S1 ⟨b, e, q⟩ => by rw [e]; exact q) fun _ _ _ h => h)
theorem w_chain {g g' : Store → D → D → Option D} {a b c : EM D} {δ : Ev.Env} {S : Store} {QD : D → Store → Prop} {E : EK}
    (h : Wr (a δ S) (fun x S1 => Wr (b δ S1) (fun y S2 => ∃ k, g S2 x y = some (.bl k) ∧ (k = true → Wr (c δ S2) (fun z S3 => Wr (out (g' S3 y z) S3) QD E) E) ∧ (k = false → QD (.bl false) S2)) E) E) : Wr (mChain g g' a b c δ S) QD E :=
  Wr.bind (h.mono (fun x S1 h => Wr.bind (h.mono (fun y S2 ⟨k, e, h1, h2⟩ => by
    rw [e]
    show Wr (if k = true then (c δ S2).bind _ else _) _ _
    cases k with
    | true => rw [if_pos rfl]; exact Wr.bind (h1 rfl)
    | false => rw [if_neg (by simp)]; exact h2 rfl) fun _ _ _ h => h)) fun _ _ _ h => h)
theorem w_chainT {g g' : Store → D → D → Option D} {a b c : EM D} {δ : Ev.Env} {S : Store} {QB : Bool → Store → Prop} {E : EK}
    (h : Wr (mChain g g' a b c δ S) (fun x S1 => ∃ k, x = .bl k ∧ QB k S1) E) : Wr (mChainT g g' a b c δ S) QB E := Wr.bind (h.mono (fun x S1 ⟨k, e, h⟩ => by subst e; exact h) fun _ _ _ h => h)
theorem ex_le {S : Store} {i j : Int} {P : Bool → Prop} (h : P (decide (i ≤ j))) : ∃ k, leD S (.int i) (.int j) = some (.bl k) ∧ P k := ⟨_, rfl, h⟩
theorem ex_lt {S : Store} {i j : Int} {P : Bool → Prop} (h : P (decide (i < j))) : ∃ k, ltD S (.int i) (.int j) = some (.bl k) ∧ P k := ⟨_, rfl, h⟩
theorem tr_bl {S : Store} {k : Bool} : truD S (.bl k) = some k := rfl
theorem tr_int {S : Store} {i : Int} : truD S (.int i) = some (i != 0) := rfl
theorem unB_mapf {α : Type} {p : α → Bool} : ∀ ds : List α, unB (ds.map fun d => D.bl (p d)) = some (ds.map p)
  | [] => rfl
  | d :: ds => by
    rw [List.map_cons, unB, unB_mapf ds]
    rfl
theorem all_map {α : Type} {p : α → Bool} {ds : List α} {S : Store} : allD S [.lst (ds.map fun d => D.bl (p d))] = some (.bl (ds.all p)) := by
  show ((unB (ds.map fun d => D.bl (p d))).bind fun bs => some (D.bl (bs.all id))) = _
  rw [unB_mapf]
  show some (D.bl ((ds.map p).all id)) = _
  rw [List.all_map]
  rfl
theorem unI_mapf {α : Type} {p : α → Int} : ∀ ds : List α, unI (ds.map fun d => D.int (p d)) = some (ds.map p)
  | [] => rfl
  | d :: ds => by
    rw [List.map_cons, unI, unI_mapf ds]
    rfl
theorem sum_map {α : Type} {p : α → Int} {ds : List α} {S : Store} : sumD S [.lst (ds.map fun d => D.int (p d))] = some (.int (ds.map p).sum) := by
  show ((unI (ds.map fun d => D.int (p d))).bind fun bs => some (D.int bs.sum)) = _
  rw [unI_mapf]
  rfl
theorem atI_nat {α : Type} {xs : List α} {j : Nat} : L2.atI xs (j : Int) = xs[j]? := by
  unfold L2.atI L2.ixN
  rw [if_pos (by omega)]
  by_cases h : (j : Int) < xs.length
  · rw [if_pos h]
    show xs[(j : Int).toNat]? = _
    rw [Int.toNat_natCast]
  · rw [if_neg h, List.getElem?_eq_none (by omega)]
    rfl
theorem ix_tup {S : Store} {ds : List D} {j : Nat} {d : D} (h : ds[j]? = some d) : ixD S (.tup ds) (.int (j : Int)) = some d := by
  show L2.atI ds (j : Int) = _
  rw [atI_nat, h]
theorem ix_lst {S : Store} {ds : List D} {j : Nat} {d : D} (h : ds[j]? = some d) : ixD S (.lst ds) (.int (j : Int)) = some d := by
  show L2.atI ds (j : Int) = _
  rw [atI_nat, h]
theorem ix_str {S : Store} {x : Str} {j c : Nat} (hz : x.length ≤ sizeLine) (h : x.cps.toList[j]? = some c) : ixD S (.str x) (.int (j : Int)) = some (.str ⟨#[c]⟩) := by
  show (if x.length ≤ sizeLine then (L2.atI x.cps.toList (j : Int)).map (fun c => D.str ⟨#[c]⟩) else none) = _
  rw [if_pos hz, atI_nat, h]
  rfl
theorem its_E {ds : List D} {S : Store} : Its (itE ds) S ((List.range ds.length).map fun i => (i, ds.getD i .non)) (fun p => .tup [.int (p.1 : Nat), p.2]) := ⟨by simp [itE], fun i h => by
  show (if i ≤ ds.length then some (ds[i]?.map fun d => D.tup [.int i, d]) else none) = _
  have h' : i ≤ ds.length := by simpa using h
  rw [if_pos h', List.getElem?_map]
  by_cases z : i < ds.length
  · rw [List.getElem?_eq_getElem z, List.getElem?_range z]
    simp [List.getD, z]
  · rw [List.getElem?_eq_none (by omega), List.getElem?_eq_none (by simp; omega)]
    rfl⟩
local macro_rules | `(tactic| walk_at "wq1") => `(tactic| first
  | walk_at "wp1"
  | with_reducible refine w_chainT ?_
  | with_reducible refine w_chain ?_
  | with_reducible refine w_isT ?_
  | with_reducible refine ex_le ?_
  | with_reducible refine ex_lt ?_
  | with_reducible refine Wr.out tr_bl ?_
  | with_reducible refine Wr.out tr_int ?_)
local macro_rules | `(tactic| walk_at "wqs") => `(tactic| repeat walk_at "wq1")

open PySem
/-! ### loops over what never changes -/
def ItsA {α : Type} (it : ItD) (xs : List α) (w : α → D) : Prop := it.n = xs.length ∧ ∀ S i, i ≤ xs.length → it.item i S = some (xs[i]?.map w)
theorem ItsA.its {α : Type} {it : ItD} {xs : List α} {w : α → D} (h : ItsA it xs w) {S : Store} : Its it S xs w := ⟨h.1, h.2 S⟩
theorem itsA_L {ds : List D} : ItsA (itL ds) ds id := ⟨rfl, fun S => its_L.2⟩
theorem itsA_map {α : Type} {xs : List α} {w : α → D} : ItsA (itL (xs.map w)) xs w := ⟨by simp [itL], fun S => its_map.2⟩
theorem itsA_chars {x : Str} : ItsA (itL (chars x)) x.cps.toList (fun c => .str ⟨#[c]⟩) := itsA_map
theorem itsA_R {n : Nat} : ItsA (itR 0 n) (List.range n) (fun k => .int (k : Nat)) := ⟨by simp [itR], fun S i h => by
  rw [its_R.2 i h]
  simp⟩
theorem itsA_E {ds : List D} : ItsA (itE ds) ((List.range ds.length).map fun i => (i, ds.getD i .non)) (fun p => .tup [.int (p.1 : Nat), p.2]) := ⟨by simp [itE], fun S => its_E.2⟩
theorem rangeD1_n {n : Nat} (h : n ≤ sizeLine) : rangeD1 [.int (n : Nat)] = some (itR 0 n) := by
  have h' : n ≤ 16777216 := h
  simp only [rangeD1]
  rw [if_pos (by omega)]
  simp
theorem forGo_its {α : Type} {it : ItD} {g : GM} {b : SM} {K : Ko} {xs : List α} {w : α → D} {δ : Ev.Env} {S : Store} (h : ItsA it xs w) (I : Nat → Ev.Env → Store → Prop) (h0 : I 0 δ S)
    (hs : ∀ i (hi : i < xs.length) δ S, I i δ S → ∃ δ1 S1, g (w xs[i]) δ S = .ok δ1 S1 ∧ Ws (b δ1 S1) (K.rd (I (i + 1))))
    (hq : ∀ δ S, I xs.length δ S → K.nx δ S) : Ws (forGo it g b it.n 0 δ S) K := by
  refine forGo_inv (I := fun i δ S => i ≤ xs.length ∧ I i δ S) (fun i δ S ⟨hi, hI⟩ => ?_) (fun δ S z => hq δ S (h.1 ▸ z.2)) _ 0 _ _ (by omega) ⟨Nat.zero_le _, h0⟩
  rw [h.1]
  refine ⟨hi, fun e => ?_, fun e => ?_⟩
  · rw [h.2 S i hi, List.getElem?_eq_none (by omega)]; rfl
  · obtain ⟨δ1, S1, e1, w1⟩ := hs i e δ S hI
    refine ⟨w xs[i], by rw [h.2 S i hi, List.getElem?_eq_getElem e]; rfl, δ1, S1, e1, ?_⟩
    cases eb : b δ1 S1 with
    | nx δ2 S2 => rw [eb] at w1; exact ⟨e, w1⟩
    | ct δ2 S2 => rw [eb] at w1; exact ⟨e, w1⟩
    | bk δ2 S2 => rw [eb] at w1; exact w1
    | rt d S2 => rw [eb] at w1; exact w1
    | exc c d δ2 S2 => rw [eb] at w1; exact w1
    | stuck => rw [eb] at w1; exact w1
/-- one round by hand -/
theorem forGo_1 {it : ItD} {g : GM} {b : SM} {K : Ko} {k i : Nat} {δ δ1 : Ev.Env} {S S1 : Store} {d : D} (hi : it.item i S = some (some d)) (hg : g d δ S = .ok δ1 S1)
    (h : Ws (b δ1 S1) (K.rd fun δ' S' => Ws (forGo it g b k (i + 1) δ' S') K)) : Ws (forGo it g b (k + 1) i δ S) K := by
  unfold forGo
  rw [hi]
  simp only
  rw [hg]
  simp only
  cases e : b δ1 S1 <;> (rw [e] at h; exact h)
theorem forGo_0 {it : ItD} {g : GM} {b : SM} {K : Ko} {i : Nat} {δ : Ev.Env} {S : Store} (hi : it.item i S = some none) (h : K.nx δ S) : Ws (forGo it g b 0 i δ S) K := by
  unfold forGo
  rw [hi]
  exact h
/-- a comprehension whose body changes the store -/
theorem w_lcS {mi : EM ItD} {g : GM} {e : EM D} {vs : List Nat} {δ : Ev.Env} {S : Store} {QD : D → Store → Prop} {E : EK} (P : D → Prop) (J : Store → Prop)
    (h : Wr (mi δ S) (fun it S1 => ∃ (α : Type) (xs : List α) (w : α → D), ItsA it xs w ∧ xs.length ≤ sizeLine ∧ J S1 ∧
      (∀ i (hi : i < xs.length) S, J S → ∃ δ1, g (w xs[i]) (wipeE δ vs) S = .ok δ1 S ∧ Wr (e δ1 S) (fun y S' => P y ∧ J S') fun _ _ _ => False) ∧
      (∀ ds S', ds.length = xs.length → (∀ d ∈ ds, P d) → J S' → QD (.lst ds) S')) E) : Wr (mLc mi g mYes e vs δ S) QD E :=
  w_lc (h.mono (fun it S1 ⟨α, xs, w, hA, hl, hJ, hg, hq⟩ => by
    obtain ⟨ds, S2, e1, q1, q2, q3⟩ := compGo_inv (it := it) (g := g) (t := mYes) (e := e) (δ0 := wipeE δ vs) (Q := fun ds S' => ds.length = xs.length ∧ (∀ d ∈ ds, P d) ∧ J S') (I := fun i acc S => i ≤ xs.length ∧ acc.length = i ∧ (∀ d ∈ acc, P d) ∧ J S)
      (fun i acc S ⟨hi, ha, hp, hJ⟩ en => by
        have hn := hA.1
        refine ⟨?_, by omega, hp, hJ⟩
        rw [hA.2 S i hi, List.getElem?_eq_none (by omega)]; rfl)
      (fun i acc S ⟨hi, ha, hp, hJ⟩ hlt => by
        have hn := hA.1
        have hlt' : i < xs.length := by omega
        obtain ⟨δ1, e2, w2⟩ := hg i hlt' S hJ
        refine ⟨w xs[i], by rw [hA.2 S i hi, List.getElem?_eq_getElem hlt']; rfl, δ1, S, e2, ?_⟩
        refine w_yes ⟨fun _ => ⟨by omega, ?_⟩, fun z => by cases z⟩
        refine w2.mono (fun y S' ⟨hy, hJ'⟩ => ⟨by omega, by simp [ha], fun d hd => ?_, hJ'⟩) fun _ _ _ h => h
        rcases List.mem_append.mp hd with z | z
        · exact hp d z
        · rw [List.mem_singleton.mp z]; exact hy)
      it.n 0 [] S1 (by omega) ⟨by omega, rfl, fun _ z => (by cases z), hJ⟩
    exact ⟨ds, S2, e1, hq ds S2 q1 q2 q3⟩) fun _ _ _ h => h)
/-! ### how long the slots stay -/
def LP (m : SM) : Prop := ∀ δ S, match m δ S with
  | .nx δ' _ => δ'.length = δ.length
  | .bk δ' _ => δ'.length = δ.length
  | .ct δ' _ => δ'.length = δ.length
  | .exc _ _ δ' _ => δ'.length = δ.length
  | _ => True
theorem lp_of {α : Type} {r : Res α} {δ : Ev.Env} {k : α → Store → SR} {n : Nat} (hn : δ.length = n) (h : ∀ a S, match k a S with
  | .nx δ' _ => δ'.length = n
  | .bk δ' _ => δ'.length = n
  | .ct δ' _ => δ'.length = n
  | .exc _ _ δ' _ => δ'.length = n
  | _ => True) : match SR.of r δ k with
  | .nx δ' _ => δ'.length = n
  | .bk δ' _ => δ'.length = n
  | .ct δ' _ => δ'.length = n
  | .exc _ _ δ' _ => δ'.length = n
  | _ => True := by
  cases r with
  | ok a S => exact h a S
  | exc c d S => exact hn
  | stuck => trivial
theorem lp_next : LP sNext := fun _ _ => rfl
theorem lp_ret {m : EM D} : LP (sRet m) := fun δ S => lp_of rfl fun _ _ => trivial
theorem lp_retN : LP sRetN := fun δ S => trivial
theorem lp_drop {m : EM D} : LP (sDrop m) := fun δ S => lp_of rfl fun _ _ => rfl
theorem lp_raise {c k : Nat} {m : EM D} : LP (sRaise c k m) := fun δ S => lp_of rfl fun d S => by
  cases rsnOk k d
  · trivial
  · exact rfl
theorem lp_set {m : EM D} {i : Nat} : LP (sAsg m (gmName i)) := fun δ S => lp_of rfl fun d S => by
  show (δ.set i (some d)).length = δ.length
  simp
theorem lp_if {t : EM Bool} {a b : SM} (ha : LP a) (hb : LP b) : LP (sIf t a b) := fun δ S => lp_of rfl fun k S => by
  by_cases h : k = true
  · rw [if_pos h]; exact ha δ S
  · rw [if_neg h]; exact hb δ S
theorem lp_seq {a b : SM} (ha : LP a) (hb : LP b) : LP (sSeq a b) := fun δ S => by
  have h1 := ha δ S
  unfold sSeq
  cases e : a δ S with
  | nx δ' S' =>
    rw [e] at h1
    have h2 := hb δ' S'
    have h1 : δ'.length = δ.length := h1
    rw [h1] at h2
    exact h2
  | rt d S' => trivial
  | bk δ' S' => rw [e] at h1; exact h1
  | ct δ' S' => rw [e] at h1; exact h1
  | exc c d δ' S' => rw [e] at h1; exact h1
  | stuck => trivial
theorem none_rep {δ : Ev.Env} {n : Nat} (h : δ.length = n) : δ.map (fun _ => (none : Option D)) = List.replicate n none := by
  rw [List.map_const', h]
/-- try -/
theorem s_try {mb ms : SM} {yes : Nat → Option Bool} {i : Nat} {δ : Ev.Env} {S : Store} {K : Ko} (hl : LP mb)
    (h : Ws (mb δ S) { K with ex := fun c d S' => (yes c = some true ∧ plainD d = true ∧ Ws (ms ((List.replicate δ.length none).set i (some (.err c d))) []) { nx := fun _ _ => False, rt := fun r _ => plainD r = true ∧ K.rt r S', bk := fun _ _ => False, ct := fun _ _ => False, ex := fun _ _ _ => False }) ∨ (yes c = some false ∧ K.ex c d S') }) : Ws (sTry mb yes i ms δ S) K := by
  have hl' := hl δ S
  unfold sTry
  cases e : mb δ S with
  | nx δ' S' => rw [e] at h; exact h
  | rt d S' => rw [e] at h; exact h
  | bk δ' S' => rw [e] at h; exact h
  | ct δ' S' => rw [e] at h; exact h
  | stuck => rw [e] at h; exact h
  | exc c d δ' S' =>
    rw [e] at h hl'
    rcases h with ⟨h1, h2, h3⟩ | ⟨h1, h2⟩
    · simp only [h1, h2, if_pos]
      rw [none_rep hl']
      cases em : ms ((List.replicate δ.length none).set i (some (.err c d))) [] with
      | rt r S3 =>
        rw [em] at h3
        obtain ⟨h4, h5⟩ := h3
        simp only [h4, if_pos]
        exact h5
      | nx => rw [em] at h3; exact h3.elim
      | bk => rw [em] at h3; exact h3.elim
      | ct => rw [em] at h3; exact h3.elim
      | exc => rw [em] at h3; exact h3.elim
      | stuck => rw [em] at h3; exact h3.elim
    · simp only [h1]
      exact h2
theorem w_mt {T : String} {g : Store → D → List D → Option (D × Store)} {mo : EM D} {ms : EM (List D)} {δ : Ev.Env} {S : Store} {QD : D → Store → Prop} {E : EK}
    (h : Wr (mo δ S) (fun d S1 => mtTy T S1 d = true ∧ Wr (ms δ S1) (fun ds S2 => ∃ r S3, g S2 d ds = some (r, S3) ∧ QD r S3) E) E) : Wr (mMt T g mo ms δ S) QD E :=
  Wr.bind (h.mono (fun d S1 ⟨h1, h2⟩ => by
    rw [if_pos h1]
    refine Wr.bind (h2.mono (fun ds S2 ⟨r, S3, e, q⟩ => ?_) fun _ _ _ h => h)
    rw [e]
    exact q) fun _ _ _ h => h)
theorem w_isE {tb : Nat → Option Bool} {m : EM D} {δ : Ev.Env} {S : Store} {QD : D → Store → Prop} {E : EK} (h : Wr (m δ S) (fun d S1 => ∃ c e b, d = .err c e ∧ tb c = some b ∧ QD (.bl b) S1) E) : Wr (mIsE tb m δ S) QD E :=
  Wr.bind (h.mono (fun d S1 ⟨c, e, b, h1, h2, q⟩ => by
    subst h1
    show Wr (out ((tb c).map D.bl) S1) _ _
    rw [h2]
    exact q) fun _ _ _ h => h)
theorem w_xf {cs : List Nat} {m : EM D} {δ : Ev.Env} {S : Store} {QD : D → Store → Prop} {E : EK} (h : Wr (m δ S) (fun d S1 => ∃ c e, d = .err c e ∧ c ∈ cs ∧ QD e S1) E) : Wr (mXf cs m δ S) QD E :=
  Wr.bind (h.mono (fun d S1 ⟨c, e, h1, h2, q⟩ => by
    subst h1
    show Wr (if c ∈ cs then Res.ok e S1 else .stuck) _ _
    rw [if_pos h2]
    exact q) fun _ _ _ h => h)
theorem s_asg {m : EM D} {g : GM} {δ : Ev.Env} {S : Store} {K : Ko} (h : Wr (m δ S) (fun d S1 => ∃ δ1 S2, g d δ S1 = .ok δ1 S2 ∧ K.nx δ1 S2) K.ex) : Ws (sAsg m g δ S) K :=
  Ws.of (h.mono (fun d S1 ⟨δ1, S2, e, q⟩ => by rw [e]; exact q) fun _ _ _ h => h)
theorem w_def' {n : Nat} {b : SM} {ds : List D} {δ : Ev.Env} {S : Store} {QD : D → Store → Prop} {E : EK} (e : envOf n ds = δ) (h : Ws (b δ S) (kE QD E)) : Wr (mDef n b ds S) QD E := by
  subst e
  exact w_def h
/-! ### texts -/
theorem add_ss {S : Store} {x y : Str} (h : x.length + y.length ≤ sizeLine) : addD S (.str x) (.str y) = some (.str (x ++ y)) := if_pos h
theorem sl_s {S : Store} {x : Str} {lo hi : Option Int} (h : x.length ≤ sizeLine) : slD S (.str x) lo hi = some (.str (L2.cutS x lo hi)) := if_pos h
theorem len_app {x y : Str} : (x ++ y).length = x.length + y.length := by
  show (x.cps ++ y.cps).size = _
  simp [Str.length]
theorem len_cut {x : Str} {lo hi : Option Int} : (L2.cutS x lo hi).length ≤ x.length := by
  show (((x.cps.toList.drop _).take _).toArray).size ≤ x.cps.size
  simp only [List.size_toArray, List.length_take, List.length_drop, Array.length_toList]
  omega
theorem cut_mem {x : Str} {lo hi : Option Int} {c : Nat} (h : c ∈ (L2.cutS x lo hi).cps.toList) : c ∈ x.cps.toList := List.mem_of_mem_drop (List.mem_of_mem_take h)
theorem len_rev {x : Str} : (revS x).length = x.length := by
  show (x.cps.toList.reverse.toArray).size = x.cps.size
  simp
/-- one of a row, by a draw -/
theorem ix_mem {S : Store} {ds : List D} {v : Int} (h0 : 0 ≤ v) (h1 : v < ds.length) : ∃ d, d ∈ ds ∧ ixD S (.lst ds) (.int v) = some d := by
  have hn : v.toNat < ds.length := by omega
  refine ⟨ds[v.toNat], List.getElem_mem hn, ?_⟩
  have := ix_lst (S := S) (List.getElem?_eq_getElem hn)
  rw [Int.toNat_of_nonneg h0] at this
  exact this
theorem ix_memT {S : Store} {ds : List D} {v : Int} (h0 : 0 ≤ v) (h1 : v < ds.length) : ∃ d, d ∈ ds ∧ ixD S (.tup ds) (.int v) = some d := by
  have hn : v.toNat < ds.length := by omega
  refine ⟨ds[v.toNat], List.getElem_mem hn, ?_⟩
  have := ix_tup (S := S) (List.getElem?_eq_getElem hn)
  rw [Int.toNat_of_nonneg h0] at this
  exact this
theorem w_pick {S : Store} {ds : List D} {v : Int} {QD : D → Store → Prop} {E : EK} (h0 : 0 ≤ v) (h1 : v < ds.length) (h : ∀ d ∈ ds, QD d S) : Wr (out (ixD S (.lst ds) (.int v)) S) QD E := by
  obtain ⟨d, hd, e⟩ := ix_mem (S := S) h0 h1
  exact Wr.out e (h d hd)
theorem Wr.eqx {α : Type} {r : Res α} {Q : α → Store → Prop} {E : EK} {c : Nat} {d : D} {S : Store} (e : r = .exc c d S) (h : E c d S) : Wr r Q E := by rw [e]; exact h
theorem Wr.exn {α : Type} {r : Res α} {c : Nat} {d : D} {S : Store} (h : Wr r (fun _ _ => False) (fun c' d' S' => c' = c ∧ d' = d ∧ S' = S)) : r = .exc c d S := by
  cases r with
  | ok a S1 => exact h.elim
  | exc c' d' S' => obtain ⟨rfl, rfl, rfl⟩ := h; rfl
  | stuck => exact h.elim
theorem no_of {k : Bool} {A B : Prop} (h : k = false) (hb : B) : (k = true → A) ∧ (k = false → B) := ⟨fun z => (by rw [h] at z; cases z), fun _ => hb⟩
theorem ya_of {k : Bool} {A B : Prop} (h : k = true) (ha : A) : (k = true → A) ∧ (k = false → B) := ⟨fun _ => ha, fun z => (by rw [h] at z; cases z)⟩
local macro_rules | `(tactic| walk_at "wno") => `(tactic| ((with_reducible refine no_of ?_ ?_); exact Eq.refl false))
local macro_rules | `(tactic| walk_at "wya") => `(tactic| ((with_reducible refine ya_of ?_ ?_); exact Eq.refl true))
local macro_rules | `(tactic| walk_at "wz1") => `(tactic| first | walk_at "wq1" | walk_at "wno" | walk_at "wya" | fail "wz")
local macro_rules | `(tactic| walk_at "wz") => `(tactic| repeat walk_at "wz1")

open PySem L2
theorem rangeD1_i {i : Int} (h0 : 0 ≤ i) (h : i ≤ 16777216) : rangeD1 [.int i] = some (itR 0 i.toNat) := by
  have := rangeD1_n (n := i.toNat) (by show _ ≤ 16777216; omega)
  rw [Int.toNat_of_nonneg h0] at this
  exact this
/-- one sign -/
abbrev ch (c : Nat) : D := .str ⟨#[c]⟩
theorem ints_of {P : Int → Prop} : ∀ {ds : List D}, (∀ d ∈ ds, ∃ w, d = .int w ∧ P w) → ∃ ws : List Int, ds = ws.map D.int ∧ ws.length = ds.length ∧ ∀ w ∈ ws, P w
  | [], _ => ⟨[], rfl, rfl, fun _ h => by cases h⟩
  | d :: ds, h => by
    obtain ⟨ws, e, hl, hp⟩ := ints_of (ds := ds) fun d hd => h d (List.mem_cons_of_mem _ hd)
    obtain ⟨w, rfl, hw⟩ := h d List.mem_cons_self
    refine ⟨w :: ws, by rw [e]; rfl, by simp [hl], fun x hx => ?_⟩
    rcases List.mem_cons.mp hx with rfl | hx
    · exact hw
    · exact hp x hx
theorem chs_of {P : Nat → Prop} : ∀ {ds : List D}, (∀ d ∈ ds, ∃ w, d = ch w ∧ P w) → ∃ ws : List Nat, ds = ws.map ch ∧ ws.length = ds.length ∧ ∀ w ∈ ws, P w
  | [], _ => ⟨[], rfl, rfl, fun _ h => by cases h⟩
  | d :: ds, h => by
    obtain ⟨ws, e, hl, hp⟩ := chs_of (ds := ds) fun d hd => h d (List.mem_cons_of_mem _ hd)
    obtain ⟨w, rfl, hw⟩ := h d List.mem_cons_self
    refine ⟨w :: ws, by rw [e]; rfl, by simp [hl], fun x hx => ?_⟩
    rcases List.mem_cons.mp hx with rfl | hx
    · exact hw
    · exact hp x hx
theorem unS_ch : ∀ cs : List Nat, unS (cs.map ch) = some (cs.map fun c => (⟨#[c]⟩ : Str))
  | [] => rfl
  | c :: cs => by
    rw [List.map_cons, unS, unS_ch cs]
    rfl
theorem joinL_ch : ∀ cs : List Nat, TL.joinL [] (cs.map fun c => [c]) = cs
  | [] => rfl
  | [c] => rfl
  | c :: d :: cs => by
    have := joinL_ch (d :: cs)
    simp only [List.map_cons, TL.joinL, List.nil_append] at this ⊢
    rw [this]
    rfl
theorem join_chars {S : Store} {cs : List Nat} (h : cs.length ≤ 1000000) : joinD S (.str "") [.lst (cs.map ch)] = some (.str ⟨cs.toArray⟩, S) := by
  unfold joinD seqOf listOf
  simp only [Option.bind_some, unS_ch]
  rw [if_pos]
  · congr 3
    rw [TL.join_eq]
    refine TL.ext_tl ?_
    rw [TL.tl_join]
    have : (cs.map fun c => (⟨#[c]⟩ : Str)).map TL.tl = cs.map fun c => [c] := by
      rw [List.map_map]
      rfl
    rw [this]
    exact joinL_ch cs
  · have hz : (("" : Str).length) = 0 := by decide +kernel
    rw [hz]
    have : ((cs.map fun c => (⟨#[c]⟩ : Str)).map (·.length)).sum = cs.length := by
      induction cs with
      | nil => rfl
      | cons c cs ih =>
        simp only [List.map_cons, List.sum_cons, List.length_cons]
        rw [ih (by simp at h; omega)]
        show 1 + cs.length = _
        omega
    rw [this]
    omega
/-- a text, many times -/
theorem rep_list (x : Str) (k : Nat) : (repS x k).cps.toList = (List.replicate k x.cps.toList).flatten := by
  have : ∀ (k : Nat) (a : Array Nat), ((List.replicate k x.cps).foldl (· ++ ·) a).toList = a.toList ++ (List.replicate k x.cps.toList).flatten := by
    intro k
    induction k with
    | zero => intro a; simp
    | succ k ih =>
      intro a
      rw [List.replicate_succ, List.foldl_cons, ih, List.replicate_succ, List.flatten_cons]
      simp
  show ((List.replicate k x.cps).foldl (· ++ ·) #[]).toList = _
  rw [this]
  simp
theorem rep_len (x : Str) (k : Nat) : (repS x k).length = k * x.length := by
  show (repS x k).cps.size = _
  have : (repS x k).cps.toList.length = k * x.cps.toList.length := by
    rw [rep_list]
    simp
  simpa [Str.length] using this
theorem rep_mem {x : Str} {k c : Nat} (h : c ∈ (repS x k).cps.toList) : c ∈ x.cps.toList := by
  rw [rep_list] at h
  obtain ⟨l, hl, hc⟩ := List.mem_flatten.mp h
  rw [(List.mem_replicate.mp hl).2] at hc
  exact hc
theorem ixs_pick {S : Store} {x : Str} {v : Int} {QD : D → Store → Prop} {E : EK} (hz : x.length ≤ sizeLine) (h0 : 0 ≤ v) (h1 : v < x.length) (h : ∀ c ∈ x.cps.toList, QD (ch c) S) : Wr (out (ixD S (.str x) (.int v)) S) QD E := by
  have hn : v.toNat < x.cps.toList.length := by
    have : x.cps.toList.length = x.length := by simp [Str.length]
    omega
  have := ix_str (S := S) hz (List.getElem?_eq_getElem hn)
  rw [Int.toNat_of_nonneg h0] at this
  exact Wr.out this (h _ (List.getElem_mem hn))
/-! ### equal data -/
theorem okq_all {n : Nat} {ds : List D} (h : okq (n + 1) (.lst ds) = true) : ∀ d ∈ ds, okq n d = true := by
  intro d hd
  have h' : ds.all (okq n) = true := by simpa only [okq] using h
  exact List.all_eq_true.mp h' d hd
theorem eqqL_self : ∀ ds : List D, (∀ d ∈ ds, eqq d d = true) → eqqL ds ds = true
  | [], _ => by simp only [eqqL]
  | d :: ds, h => by
    simp only [eqqL, Bool.and_eq_true]
    exact ⟨h d List.mem_cons_self, eqqL_self ds fun e he => h e (List.mem_cons_of_mem _ he)⟩
theorem eqq_self : ∀ (n : Nat) (d : D), okq n d = true → eqq d d = true := by
  intro n
  induction n with
  | zero => intro d h; cases d <;> simp [okq, eqq] at h ⊢
  | succ n ih =>
    intro d h
    cases d with
    | tup ds => simp only [okq, eqq] at h ⊢; exact eqqL_self ds fun d hd => ih d (List.all_eq_true.mp h d hd)
    | lst ds => simp only [okq, eqq] at h ⊢; exact eqqL_self ds fun d hd => ih d (List.all_eq_true.mp h d hd)
    | rol ds => simp only [okq, eqq] at h ⊢; exact eqqL_self ds fun d hd => ih d (List.all_eq_true.mp h d hd)
    | _ => simp [okq, eqq] at h ⊢
theorem eqB_self {S : Store} {d : D} (h : okq 40 d = true) : eqB S d d = some true := by
  have hr : rs S d = some d := by cases d <;> first | rfl | simp [okq] at h
  unfold eqB
  rw [hr]
  simp only
  rw [eqq_self 40 d h]
  split
  · rfl
  · rw [if_pos ⟨h, h⟩]
theorem ne_self {S : Store} {d : D} (h : okq 40 d = true) : neD S d d = some (.bl false) := by
  unfold neD; rw [eqB_self h]; rfl
theorem eq_self {S : Store} {d : D} (h : okq 40 d = true) : eqD S d d = some (.bl true) := by
  unfold eqD; rw [eqB_self h]; rfl
theorem ne_same {S : Store} {d e : D} (h : okq 40 d = true) (z : d = e) : neD S d e = some (.bl false) := by rw [← z]; exact ne_self h
theorem eq_same {S : Store} {d e : D} (h : okq 40 d = true) (z : d = e) : eqD S d e = some (.bl true) := by rw [← z]; exact eq_self h
theorem const_flat {α : Type} {xs : List α} {d : D} {n : Nat} (h : xs.length = n) : D.lst (xs.map fun _ => d) = .lst (List.replicate n [d]).flatten := by
  rw [List.map_const', h]
  congr 1
  clear h
  induction n with
  | zero => rfl
  | succ n ih => rw [List.replicate_succ, List.replicate_succ, List.flatten_cons, ← ih]; rfl
/-! ### texts of which only the length is wanted -/
theorem w_cut {S : Store} {x : Str} {lo hi : Option Int} {QD : D → Store → Prop} {E : EK} (hz : x.length ≤ 16777216) (h : ∀ y, y.length ≤ x.length → QD (.str y) S) : Wr (out (slD S (.str x) lo hi) S) QD E := Wr.out (sl_s hz) (h _ len_cut)
theorem w_app {S : Store} {x y : Str} {QD : D → Store → Prop} {E : EK} (hz : x.length + y.length ≤ 16777216) (h : ∀ z, z.length = x.length + y.length → QD (.str z) S) : Wr (out (addD S (.str x) (.str y)) S) QD E := Wr.out (add_ss hz) (h _ len_app)
theorem w_revS {S : Store} {x : Str} {QD : D → Store → Prop} {E : EK} (hz : x.length ≤ 16777216) (h : ∀ z, z.length = x.length → QD (.str z) S) : Wr (out (revD S (.str x)) S) QD E := by
  have e : revD S (.str x) = some (.str (revS x)) := if_pos hz
  exact Wr.out e (h _ len_rev)
theorem w_rev {S : Store} {m : EM D} {δ : Ev.Env} {QD : D → Store → Prop} {E : EK} (h : Wr (mUn revD m δ S) QD E) : Wr (mRev m δ S) QD E := h

namespace Lw
open PySem PySem.Spec PyProof.Rows L2 Ev
abbrev PR : Program := PySem.Challenge.pw_sameunits_k57_papers_and_arguments_of_si
def top (i : Nat) : Stmt := PR.main.body.getD i (.Pass ⟨0, 0, 0, 0⟩)
def inn (s : Stmt) : Stmt := match s with
  | .ClassDef _ _ _ body _ _ _ _ _ _ _ => body.headD (.Pass ⟨0, 0, 0, 0⟩)
  | _ => .Pass ⟨0, 0, 0, 0⟩
abbrev s_is_integer : Stmt := top 6
abbrev s_check_code : Stmt := top 12
abbrev s_is_text : Stmt := top 13
abbrev s_check_text : Stmt := top 14
abbrev s_sum_of : Stmt := top 15
abbrev s_check_sum : Stmt := top 16
abbrev s_is_guarded : Stmt := top 17
abbrev s_guards_of : Stmt := top 18
abbrev s_divisor : Stmt := top 19
abbrev s_judge_changes : Stmt := top 20
abbrev s_signs_of : Stmt := top 21
abbrev s_judge_turns : Stmt := top 22
abbrev s_accept_missed : Stmt := top 23
abbrev s_repairs : Stmt := top 24
abbrev s_turn_repairs : Stmt := top 25
abbrev s_filled : Stmt := top 26
abbrev s_good_weights : Stmt := top 27
abbrev s_extended : Stmt := top 28
abbrev s_turns_found : Stmt := top 29
abbrev s_missed_share : Stmt := top 30
abbrev s__law_start : Stmt := top 32
abbrev s__law_draw : Stmt := top 33
abbrev s__law_told : Stmt := top 34
abbrev s__law_signs : Stmt := top 35
abbrev s__law_sum : Stmt := top 36
abbrev s__law_due : Stmt := top 37
abbrev s_law : Stmt := top 38
abbrev i_KindError : Stmt := inn (top 2)
abbrev i_ArgumentError : Stmt := inn (top 3)
abbrev i_PaperError : Stmt := inn (top 4)
def d_is_integer : He.DefD := ⟨("is_integer", none), "is_integer", "is_integer", defArgs s_is_integer, defBody s_is_integer, defScope s_is_integer, [], []⟩
def d_check_code : He.DefD := ⟨("check_code", none), "check_code", "check_code", defArgs s_check_code, defBody s_check_code, defScope s_check_code, [], []⟩
def d_is_text : He.DefD := ⟨("is_text", none), "is_text", "is_text", defArgs s_is_text, defBody s_is_text, defScope s_is_text, [], []⟩
def d_check_text : He.DefD := ⟨("check_text", none), "check_text", "check_text", defArgs s_check_text, defBody s_check_text, defScope s_check_text, [], []⟩
def d_sum_of : He.DefD := ⟨("sum_of", none), "sum_of", "sum_of", defArgs s_sum_of, defBody s_sum_of, defScope s_sum_of, [], []⟩
def d_check_sum : He.DefD := ⟨("check_sum", none), "check_sum", "check_sum", defArgs s_check_sum, defBody s_check_sum, defScope s_check_sum, [], []⟩
def d_is_guarded : He.DefD := ⟨("is_guarded", none), "is_guarded", "is_guarded", defArgs s_is_guarded, defBody s_is_guarded, defScope s_is_guarded, [], []⟩
def d_guards_of : He.DefD := ⟨("guards_of", none), "guards_of", "guards_of", defArgs s_guards_of, defBody s_guards_of, defScope s_guards_of, [], []⟩
def d_divisor : He.DefD := ⟨("divisor", none), "divisor", "divisor", defArgs s_divisor, defBody s_divisor, defScope s_divisor, [], []⟩
def d_judge_changes : He.DefD := ⟨("judge_changes", none), "judge_changes", "judge_changes", defArgs s_judge_changes, defBody s_judge_changes, defScope s_judge_changes, [], []⟩
def d_signs_of : He.DefD := ⟨("signs_of", none), "signs_of", "signs_of", defArgs s_signs_of, defBody s_signs_of, defScope s_signs_of, [], []⟩
def d_judge_turns : He.DefD := ⟨("judge_turns", none), "judge_turns", "judge_turns", defArgs s_judge_turns, defBody s_judge_turns, defScope s_judge_turns, [], []⟩
def d_accept_missed : He.DefD := ⟨("accept_missed", none), "accept_missed", "accept_missed", defArgs s_accept_missed, defBody s_accept_missed, defScope s_accept_missed, [], []⟩
def d_repairs : He.DefD := ⟨("repairs", none), "repairs", "repairs", defArgs s_repairs, defBody s_repairs, defScope s_repairs, [], []⟩
def d_turn_repairs : He.DefD := ⟨("turn_repairs", none), "turn_repairs", "turn_repairs", defArgs s_turn_repairs, defBody s_turn_repairs, defScope s_turn_repairs, [], []⟩
def d_filled : He.DefD := ⟨("filled", none), "filled", "filled", defArgs s_filled, defBody s_filled, defScope s_filled, [], []⟩
def d_good_weights : He.DefD := ⟨("good_weights", none), "good_weights", "good_weights", defArgs s_good_weights, defBody s_good_weights, defScope s_good_weights, [], []⟩
def d_extended : He.DefD := ⟨("extended", none), "extended", "extended", defArgs s_extended, defBody s_extended, defScope s_extended, [], []⟩
def d_turns_found : He.DefD := ⟨("turns_found", none), "turns_found", "turns_found", defArgs s_turns_found, defBody s_turns_found, defScope s_turns_found, [], []⟩
def d_missed_share : He.DefD := ⟨("missed_share", none), "missed_share", "missed_share", defArgs s_missed_share, defBody s_missed_share, defScope s_missed_share, [], []⟩
def d__law_start : He.DefD := ⟨("_law_start", none), "_law_start", "_law_start", defArgs s__law_start, defBody s__law_start, defScope s__law_start, [], []⟩
def d__law_draw : He.DefD := ⟨("_law_draw", none), "_law_draw", "_law_draw", defArgs s__law_draw, defBody s__law_draw, defScope s__law_draw, [], []⟩
def d__law_told : He.DefD := ⟨("_law_told", none), "_law_told", "_law_told", defArgs s__law_told, defBody s__law_told, defScope s__law_told, [], []⟩
def d__law_signs : He.DefD := ⟨("_law_signs", none), "_law_signs", "_law_signs", defArgs s__law_signs, defBody s__law_signs, defScope s__law_signs, [], []⟩
def d__law_sum : He.DefD := ⟨("_law_sum", none), "_law_sum", "_law_sum", defArgs s__law_sum, defBody s__law_sum, defScope s__law_sum, [], []⟩
def d__law_due : He.DefD := ⟨("_law_due", none), "_law_due", "_law_due", defArgs s__law_due, defBody s__law_due, defScope s__law_due, [], []⟩
def d_law : He.DefD := ⟨("law", none), "law", "law", defArgs s_law, defBody s_law, defScope s_law, [], []⟩
def e_KindError : ErrD := ⟨"KindError", "reason", "KindError.__init__", defArgs i_KindError, defBody i_KindError, defScope i_KindError⟩
def e_ArgumentError : ErrD := ⟨"ArgumentError", "reason", "ArgumentError.__init__", defArgs i_ArgumentError, defBody i_ArgumentError, defScope i_ArgumentError⟩
def e_PaperError : ErrD := ⟨"PaperError", "reason", "PaperError.__init__", defArgs i_PaperError, defBody i_PaperError, defScope i_PaperError⟩
def fn : List He.DefD := [d_is_integer, d_check_code, d_is_text, d_check_text, d_sum_of, d_check_sum, d_is_guarded, d_guards_of, d_divisor, d_judge_changes, d_signs_of, d_judge_turns, d_accept_missed, d_repairs, d_turn_repairs, d_filled, d_good_weights, d_extended, d_turns_found, d_missed_share, d__law_start, d__law_draw, d__law_told, d__law_signs, d__law_sum, d__law_due, d_law]
def es : List ErrD := [e_KindError, e_ArgumentError, e_PaperError]
def fa0 : List He.Fa := [.glo "is_integer", .glo "check_code", .glo "is_text", .glo "check_text", .glo "sum_of", .glo "check_sum", .glo "is_guarded", .glo "guards_of", .glo "divisor", .glo "judge_changes", .glo "signs_of", .glo "judge_turns", .glo "accept_missed", .glo "repairs", .glo "turn_repairs"]
def fa1 : List He.Fa := [.glo "filled", .glo "good_weights", .glo "extended", .glo "turns_found", .glo "missed_share", .glo "_law_start", .glo "_law_draw", .glo "_law_told", .glo "_law_signs", .glo "_law_sum", .glo "_law_due", .glo "law", .glo "MeasureError", .int "MAX_COLUMNS" 12, .int "MAX_TEXT" 4000]
def fa2 : List He.Fa := [.int "MOST" 97, .str "SIGNS" "0123456789abcdefghijklmnopqrstuvwxyzABCDEFGHIJKLMNOPQRSTUVWXYZ ./-", .free "ValueError", .free "abs", .free "all", .free "bool", .free "enumerate", .free "int", .free "isinstance", .free "len", .free "list", .free "min", .free "range", .free "sorted", .free "str"]
def fa3 : List He.Fa := [.free "sum", .free "super", .free "tuple"]
def fa : List He.Fa := fa0 ++ fa1 ++ fa2 ++ fa3
abbrev R : PySem.W.OpenRow := PySem.W.OpenLaw.row PySem.Challenge.rw_sameunits_k57_papers_and_arguments_of_si
abbrev hk : PySem.W.Hook := hookI 5 fa fn es (exT PR es)
def ob (s : PySem.W.SharedT) : AlI := obsIG 5 fa fn es (exT PR es) (HandSHeadRun.getT s)
theorem ob_eq (s : PySem.W.SharedT) : ob s = hk.obs s.abs := obsIG_eq (HandSHeadRun.getT_eq s)
def names0 : List Str := ["is_integer", "check_code", "is_text", "check_text", "sum_of", "check_sum", "is_guarded", "guards_of", "divisor", "judge_changes", "signs_of", "judge_turns", "accept_missed", "repairs", "turn_repairs"]
def names1 : List Str := ["filled", "good_weights", "extended", "turns_found", "missed_share", "_law_start", "_law_draw", "_law_told", "_law_signs", "_law_sum", "_law_due", "KindError", "ArgumentError", "PaperError", "MeasureError"]
def names2 : List Str := ["MAX_COLUMNS", "MAX_TEXT", "MOST", "SIGNS"]
def names : List Str := names0 ++ names1 ++ names2
theorem run (w : World) : HandSHeadRun.RunEq R (PySem.W.view R.prog [38]) hk ob 3000 names w := by
  intro os
  kernel_rfl
section
variable {w : World} {K : PySem.W.Frag} {mg : Str → Option Value} {base : Heap}
theorem okr_KindError (G : Fct PR K mg fa fn es (exT PR es)) : OkR PR w K mg base (mkC K fn es) "KindError" 0 21 := by
  have E := G.err 0 _ rfl
  obtain ⟨oc, od, osl, kV, doc, pm, an, ct, lk⟩ := E.lk
  have S : InitScope (defScope i_KindError) "reason" := ⟨rfl, rfl, rfl, by decide +kernel, by decide +kernel, rfl, rfl, rfl, rfl, by decide⟩
  have z := okR (w := w) (base := base) (C := mkC K fn es) (c := 0) (m := "the kind is refused: ") E rfl rfl (init_fn E.init S lk E.cd rfl rfl (fun _ => rfl) (fun _ => rfl) (fun _ => rfl) rfl rfl (pe_text S rfl (G.free 44 _ rfl) rfl rfl)) (Binds.all fun us hl => match us, hl with | [_, _], _ => rfl)
  have hl : ("the kind is refused: " : Str).length = 21 := by decide +kernel
  rw [hl] at z
  exact z
theorem okr_ArgumentError (G : Fct PR K mg fa fn es (exT PR es)) : OkR PR w K mg base (mkC K fn es) "ArgumentError" 1 24 := by
  have E := G.err 1 _ rfl
  obtain ⟨oc, od, osl, kV, doc, pm, an, ct, lk⟩ := E.lk
  have S : InitScope (defScope i_ArgumentError) "reason" := ⟨rfl, rfl, rfl, by decide +kernel, by decide +kernel, rfl, rfl, rfl, rfl, by decide⟩
  have z := okR (w := w) (base := base) (C := mkC K fn es) (c := 1) (m := "an argument is refused: ") E rfl rfl (init_fn E.init S lk E.cd rfl rfl (fun _ => rfl) (fun _ => rfl) (fun _ => rfl) rfl rfl (pe_text S rfl (G.free 44 _ rfl) rfl rfl)) (Binds.all fun us hl => match us, hl with | [_, _], _ => rfl)
  have hl : ("an argument is refused: " : Str).length = 24 := by decide +kernel
  rw [hl] at z
  exact z
theorem okr_PaperError (G : Fct PR K mg fa fn es (exT PR es)) : OkR PR w K mg base (mkC K fn es) "PaperError" 2 22 := by
  have E := G.err 2 _ rfl
  obtain ⟨oc, od, osl, kV, doc, pm, an, ct, lk⟩ := E.lk
  have S : InitScope (defScope i_PaperError) "reason" := ⟨rfl, rfl, rfl, by decide +kernel, by decide +kernel, rfl, rfl, rfl, rfl, by decide⟩
  have z := okR (w := w) (base := base) (C := mkC K fn es) (c := 2) (m := "the paper is refused: ") E rfl rfl (init_fn E.init S lk E.cd rfl rfl (fun _ => rfl) (fun _ => rfl) (fun _ => rfl) rfl rfl (pe_text S rfl (G.free 44 _ rfl) rfl rfl)) (Binds.all fun us hl => match us, hl with | [_, _], _ => rfl)
  have hl : ("the paper is refused: " : Str).length = 22 := by decide +kernel
  rw [hl] at z
  exact z
abbrev N_is_integer : List Str := ["value"]
theorem nd_is_integer : N_is_integer.Nodup := by decide +kernel
theorem sc_is_integer : FnScope N_is_integer ["value"] (defScope s_is_integer) := ⟨rfl, rfl, rfl, nd_is_integer, rfl, by decide +kernel, by decide +kernel⟩
def m_is_integer : SM := (sRet (mAndV (mIsT "int" (mVar 0)) (mNotV (mIsT "bool" (mVar 0)))))
def F_is_integer : FM := mDef 1 m_is_integer
theorem ok_is_integer (G : Fct PR K mg fa fn es (exT PR es)) : OkF PR w K mg base (mkC K fn es) "is_integer" ["value"] 1 F_is_integer := by
  refine ⟨okE (G.def_ 0 _ rfl) sc_is_integer (by decide) ?_, G.glo 0 _ rfl, (G.def_ 0 _ rfl).kp, (G.def_ 0 _ rfl).bindsN fun _ _ _ _ _ _ us hl => match us, hl with | [_], _ => rfl⟩
  intro cdv A outer s H E hr tk po
  unfold m_is_integer
  exact (z_one (z_ret (e_and rfl (e_isT rfl rfl (G.free 38 _ rfl) (e_var rfl (by walk_at "vs")) (pe_bltn (v := .ty _) rfl (G.free 37 _ rfl) rfl rfl (by decide))) (pe_one (e_not rfl (e_isT rfl rfl (G.free 38 _ rfl) (e_var rfl (by walk_at "vs")) (pe_bltn (v := .ty _) rfl (G.free 35 _ rfl) rfl rfl (by decide))))))))
abbrev N_check_code : List Str := ["modulus", "weights", "weight"]
theorem nd_check_code : N_check_code.Nodup := by decide +kernel
theorem sc_check_code : FnScope N_check_code ["modulus", "weights"] (defScope s_check_code) := ⟨rfl, rfl, rfl, nd_check_code, rfl, by decide +kernel, by decide +kernel⟩
def m_check_code : SM := (sSeq (sIf (mOr (mNot (mTru (mCall F_is_integer (mCons (mVar 0) mNil)))) (mNot (mChainT leD leD (mC (.int 2)) (mVar 0) (mC (.int 97))))) (sRaise 1 24 (mC (.str "modulus"))) sNext) (sSeq (sIf (mOr (mNot (mTru (mIsT "tuple" (mVar 1)))) (mNot (mChainT leD leD (mC (.int 1)) (mCB lenD (mCons (mVar 1) mNil)) (mC (.int 12))))) (sRaise 1 24 (mC (.str "weights"))) sNext) (sIf (mNot (mTru (mCB allD (mCons (mLc (mIt (mVar 1)) (gmName 2) mYes (mAndV (mCall F_is_integer (mCons (mVar 2) mNil)) (mChain leD ltD (mC (.int 0)) (mVar 2) (mVar 0))) [2]) mNil)))) (sRaise 1 24 (mC (.str "weights"))) sNext)))
def F_check_code : FM := mDef 3 m_check_code
theorem ok_check_code (G : Fct PR K mg fa fn es (exT PR es)) : OkF PR w K mg base (mkC K fn es) "check_code" ["modulus", "weights"] 3 F_check_code := by
  refine ⟨okE (G.def_ 1 _ rfl) sc_check_code (by decide) ?_, G.glo 1 _ rfl, (G.def_ 1 _ rfl).kp, (G.def_ 1 _ rfl).bindsN fun _ _ _ _ _ _ us hl => match us, hl with | [_, _], _ => rfl⟩
  intro cdv A outer s H E hr tk po
  unfold m_check_code
  exact (z_cons (z_if (PW.pt (w_or (t_not (t_tru rfl (e_fn (ok_is_integer G) (hr.mono (by decide)) tk rfl (a_cons (e_var rfl (by walk_at "vs")) a_nil) (argN_cons argN_nil)) (fun _ => rfl))) (pw_or1 (t_not (t_chain le_ok le_ok e_int (e_var rfl (by walk_at "vs")) (e_gi (G.int 30 _ _ rfl) rfl)))))) (z_one (z_rs (okr_ArgumentError G) (hr.mono (by decide)) rfl tk rfl e_str)) z_nil) (z_cons (z_if (PW.pt (w_or (t_not (t_tru rfl (e_isT rfl rfl (G.free 38 _ rfl) (e_var rfl (by walk_at "vs")) (pe_bltn (v := .ty _) rfl (G.free 47 _ rfl) rfl rfl (by decide))) (fun _ => rfl))) (pw_or1 (t_not (t_chain le_ok le_ok e_int (e_cb (len_ok rfl) rfl (G.free 39 _ rfl) rfl (a_cons (e_var rfl (by walk_at "vs")) a_nil)) (e_gi (G.int 28 _ _ rfl) rfl)))))) (z_one (z_rs (okr_ArgumentError G) (hr.mono (by decide)) rfl tk rfl e_str)) z_nil) (z_one (z_if (t_not (t_tru rfl (e_cb (all_ok rfl rfl) rfl (G.free 34 _ rfl) rfl (a_cons (e_LC [("weight", 2)] ⟨rfl, nd_check_code, (i_seq rfl (e_var rfl (by walk_at "vs"))), by walk_at "blk", fun _ _ _ _ _ => (g_name nd_check_code rfl (by walk_at "lc") (by walk_at "fl") (by decide)), fun _ _ _ _ _ => ts_nil, fun _ _ _ _ _ => (e_and rfl (e_fn (ok_is_integer G) (hr.mono (by decide)) tkF rfl (a_cons (e_var rfl (by walk_at "vs")) a_nil) (argN_cons argN_nil)) (pe_one (e_chain le_ok lt_ok e_int (e_var rfl (by walk_at "vs")) (e_var rfl (by walk_at "vs"))))), fun _ => rfl⟩) a_nil)) (fun _ => rfl))) (z_one (z_rs (okr_ArgumentError G) (hr.mono (by decide)) rfl tk rfl e_str)) z_nil))))
abbrev N_is_text : List Str := ["value", "modulus", "signs", "sign"]
theorem nd_is_text : N_is_text.Nodup := by decide +kernel
theorem sc_is_text : FnScope N_is_text ["value", "modulus"] (defScope s_is_text) := ⟨rfl, rfl, rfl, nd_is_text, rfl, by decide +kernel, by decide +kernel⟩
def m_is_text : SM := (sSeq (sAsg (mSl (mC (.str "0123456789abcdefghijklmnopqrstuvwxyzABCDEFGHIJKLMNOPQRSTUVWXYZ ./-")) mNoPart (mPart (mVar 1))) (gmName 2)) (sRet (mAndV (mIsT "str" (mVar 0)) (mAndV (mOp leD (mCB lenD (mCons (mVar 0) mNil)) (mC (.int 4000))) (mCB allD (mCons (mLc (mIt (mVar 0)) (gmName 3) mYes (mOp inD (mVar 3) (mVar 2)) [3]) mNil))))))
def F_is_text : FM := mDef 4 m_is_text
theorem ok_is_text (G : Fct PR K mg fa fn es (exT PR es)) : OkF PR w K mg base (mkC K fn es) "is_text" ["value", "modulus"] 1 F_is_text := by
  refine ⟨okE (G.def_ 2 _ rfl) sc_is_text (by decide) ?_, G.glo 2 _ rfl, (G.def_ 2 _ rfl).kp, (G.def_ 2 _ rfl).bindsN fun _ _ _ _ _ _ us hl => match us, hl with | [_, _], _ => rfl⟩
  intro cdv A outer s H E hr tk po
  unfold m_is_text
  exact (z_cons (z_set nd_is_text rfl (by walk_at "lc") (e_sl rfl (e_gs (G.str 31 _ _ rfl) rfl) o_none (o_some (e_var rfl (by walk_at "vs")))) rfl (by walk_at "fl")) (z_one (z_ret (e_and rfl (e_isT rfl rfl (G.free 38 _ rfl) (e_var rfl (by walk_at "vs")) (pe_bltn (v := .ty _) rfl (G.free 44 _ rfl) rfl rfl (by decide))) (e_and rfl (e_cmp le_ok (e_cb (len_ok rfl) rfl (G.free 39 _ rfl) rfl (a_cons (e_var rfl (by walk_at "vs")) a_nil)) (e_gi (G.int 29 _ _ rfl) rfl) rfl) (pe_one (e_cb (all_ok rfl rfl) rfl (G.free 34 _ rfl) rfl (a_cons (e_LC [("sign", 3)] ⟨rfl, nd_is_text, (i_seq rfl (e_var rfl (by walk_at "vs"))), by walk_at "blk", fun _ _ _ _ _ => (g_name nd_is_text rfl (by walk_at "lc") (by walk_at "fl") (by decide)), fun _ _ _ _ _ => ts_nil, fun _ _ _ _ _ => (e_cmp (in_ok rfl (rm65 hr)) (e_var rfl (by walk_at "vs")) (e_var rfl (by walk_at "vs")) rfl), fun _ => rfl⟩) a_nil))))))))
abbrev N_check_text : List Str := ["text", "modulus"]
theorem nd_check_text : N_check_text.Nodup := by decide +kernel
theorem sc_check_text : FnScope N_check_text ["text", "modulus"] (defScope s_check_text) := ⟨rfl, rfl, rfl, nd_check_text, rfl, by decide +kernel, by decide +kernel⟩
def m_check_text : SM := (sIf (mNot (mTru (mCall F_is_text (mCons (mVar 0) (mCons (mVar 1) mNil))))) (sRaise 1 24 (mC (.str "text"))) sNext)
def F_check_text : FM := mDef 2 m_check_text
theorem ok_check_text (G : Fct PR K mg fa fn es (exT PR es)) : OkF PR w K mg base (mkC K fn es) "check_text" ["text", "modulus"] 3 F_check_text := by
  refine ⟨okE (G.def_ 3 _ rfl) sc_check_text (by decide) ?_, G.glo 3 _ rfl, (G.def_ 3 _ rfl).kp, (G.def_ 3 _ rfl).bindsN fun _ _ _ _ _ _ us hl => match us, hl with | [_, _], _ => rfl⟩
  intro cdv A outer s H E hr tk po
  unfold m_check_text
  exact (z_one (z_if (t_not (t_tru rfl (e_fn (ok_is_text G) (hr.mono (by decide)) tk rfl (a_cons (e_var rfl (by walk_at "vs")) (a_cons (e_var rfl (by walk_at "vs")) a_nil)) (argN_cons (argN_cons argN_nil))) (fun _ => rfl))) (z_one (z_rs (okr_ArgumentError G) (hr.mono (by decide)) rfl tk rfl e_str)) z_nil))
abbrev N_sum_of : List Str := ["modulus", "weights", "text", "total", "at", "sign"]
theorem nd_sum_of : N_sum_of.Nodup := by decide +kernel
theorem sc_sum_of : FnScope N_sum_of ["modulus", "weights", "text"] (defScope s_sum_of) := ⟨rfl, rfl, rfl, nd_sum_of, rfl, by decide +kernel, by decide +kernel⟩
def m_sum_of : SM := (sSeq (sAsg (mC (.int 0)) (gmName 3)) (sSeq (sFor (mItS enumD (mCons (mVar 2) mNil)) (gmTup 2 (gmCons (gmName 4) (gmCons (gmName 5) gmNil))) (sAug 3 iaddD (mOp mulV (mMt "str" sindexD (mC (.str "0123456789abcdefghijklmnopqrstuvwxyzABCDEFGHIJKLMNOPQRSTUVWXYZ ./-")) (mCons (mVar 5) mNil)) (mOp ixD (mVar 1) (mOp modD (mVar 4) (mCB lenD (mCons (mVar 1) mNil))))))) (sRet (mOp modD (mVar 3) (mVar 0)))))
def F_sum_of : FM := mDef 6 m_sum_of
theorem ok_sum_of (G : Fct PR K mg fa fn es (exT PR es)) : OkF PR w K mg base (mkC K fn es) "sum_of" ["modulus", "weights", "text"] 1 F_sum_of := by
  refine ⟨okE (G.def_ 4 _ rfl) sc_sum_of (by decide) ?_, G.glo 4 _ rfl, (G.def_ 4 _ rfl).kp, (G.def_ 4 _ rfl).bindsN fun _ _ _ _ _ _ us hl => match us, hl with | [_, _, _], _ => rfl⟩
  intro cdv A outer s H E hr tk po
  unfold m_sum_of
  exact (z_cons (z_set nd_sum_of rfl (by walk_at "lc") e_int rfl (by walk_at "fl")) (z_cons (z_for (ts := [4, 5]) po rfl (i_enum rfl rfl (G.free 36 _ rfl) (a_cons (e_var rfl (by walk_at "vs")) a_nil)) (g_tup rfl rfl (gs_cons (g_name nd_sum_of rfl (by walk_at "lc") (by walk_at "fl") (by decide)) (gs_cons (g_name nd_sum_of rfl (by walk_at "lc") (by walk_at "fl") (by decide)) gs_nil))) (z_one (z_aug nd_sum_of rfl (by walk_at "lc") (e_op (mul_ok rfl) (e_bm rfl PySem.F.plainAttrs_str PySem.F.slot_str_index PySem.F.type_str_index sindex_ok (e_gs (G.str 31 _ _ rfl) rfl) (a_cons (e_var rfl (by walk_at "vs")) a_nil)) (e_ix (ix_ok rfl) (e_var rfl (by walk_at "vs")) (e_op mod_ok (e_var rfl (by walk_at "vs")) (e_cb (len_ok rfl) rfl (G.free 39 _ rfl) rfl (a_cons (e_var rfl (by walk_at "vs")) a_nil))) (fun _ _ => rfl))) iadd_ok (by walk_at "fl"))) (fun _ => rfl)) (z_one (z_ret (e_op mod_ok (e_var rfl (by walk_at "vs")) (e_var rfl (by walk_at "vs")))))))
abbrev N_check_sum : List Str := ["modulus", "weights", "text"]
theorem nd_check_sum : N_check_sum.Nodup := by decide +kernel
theorem sc_check_sum : FnScope N_check_sum ["modulus", "weights", "text"] (defScope s_check_sum) := ⟨rfl, rfl, rfl, nd_check_sum, rfl, by decide +kernel, by decide +kernel⟩
def m_check_sum : SM := (sSeq (sDrop (mCall F_check_code (mCons (mVar 0) (mCons (mVar 1) mNil)))) (sSeq (sDrop (mCall F_check_text (mCons (mVar 2) (mCons (mVar 0) mNil)))) (sRet (mCall F_sum_of (mCons (mVar 0) (mCons (mVar 1) (mCons (mVar 2) mNil)))))))
def F_check_sum : FM := mDef 3 m_check_sum
theorem ok_check_sum (G : Fct PR K mg fa fn es (exT PR es)) : OkF PR w K mg base (mkC K fn es) "check_sum" ["modulus", "weights", "text"] 4 F_check_sum := by
  refine ⟨okE (G.def_ 5 _ rfl) sc_check_sum (by decide) ?_, G.glo 5 _ rfl, (G.def_ 5 _ rfl).kp, (G.def_ 5 _ rfl).bindsN fun _ _ _ _ _ _ us hl => match us, hl with | [_, _, _], _ => rfl⟩
  intro cdv A outer s H E hr tk po
  unfold m_check_sum
  exact (z_cons (z_expr (e_fn (ok_check_code G) (hr.mono (by decide)) tk rfl (a_cons (e_var rfl (by walk_at "vs")) (a_cons (e_var rfl (by walk_at "vs")) a_nil)) (argN_cons (argN_cons argN_nil)))) (z_cons (z_expr (e_fn (ok_check_text G) (hr.mono (by decide)) tk rfl (a_cons (e_var rfl (by walk_at "vs")) (a_cons (e_var rfl (by walk_at "vs")) a_nil)) (argN_cons (argN_cons argN_nil)))) (z_one (z_ret (e_fn (ok_sum_of G) (hr.mono (by decide)) tk rfl (a_cons (e_var rfl (by walk_at "vs")) (a_cons (e_var rfl (by walk_at "vs")) (a_cons (e_var rfl (by walk_at "vs")) a_nil))) (argN_cons (argN_cons (argN_cons argN_nil))))))))
abbrev N_is_guarded : List Str := ["modulus", "weights", "text"]
theorem nd_is_guarded : N_is_guarded.Nodup := by decide +kernel
theorem sc_is_guarded : FnScope N_is_guarded ["modulus", "weights", "text"] (defScope s_is_guarded) := ⟨rfl, rfl, rfl, nd_is_guarded, rfl, by decide +kernel, by decide +kernel⟩
def m_is_guarded : SM := (sSeq (sDrop (mCall F_check_code (mCons (mVar 0) (mCons (mVar 1) mNil)))) (sSeq (sDrop (mCall F_check_text (mCons (mVar 2) (mCons (mVar 0) mNil)))) (sRet (mOp eqD (mCall F_sum_of (mCons (mVar 0) (mCons (mVar 1) (mCons (mVar 2) mNil)))) (mC (.int 0))))))
def F_is_guarded : FM := mDef 3 m_is_guarded
theorem ok_is_guarded (G : Fct PR K mg fa fn es (exT PR es)) : OkF PR w K mg base (mkC K fn es) "is_guarded" ["modulus", "weights", "text"] 4 F_is_guarded := by
  refine ⟨okE (G.def_ 6 _ rfl) sc_is_guarded (by decide) ?_, G.glo 6 _ rfl, (G.def_ 6 _ rfl).kp, (G.def_ 6 _ rfl).bindsN fun _ _ _ _ _ _ us hl => match us, hl with | [_, _, _], _ => rfl⟩
  intro cdv A outer s H E hr tk po
  unfold m_is_guarded
  exact (z_cons (z_expr (e_fn (ok_check_code G) (hr.mono (by decide)) tk rfl (a_cons (e_var rfl (by walk_at "vs")) (a_cons (e_var rfl (by walk_at "vs")) a_nil)) (argN_cons (argN_cons argN_nil)))) (z_cons (z_expr (e_fn (ok_check_text G) (hr.mono (by decide)) tk rfl (a_cons (e_var rfl (by walk_at "vs")) (a_cons (e_var rfl (by walk_at "vs")) a_nil)) (argN_cons (argN_cons argN_nil)))) (z_one (z_ret (e_cmp (eq_ok rfl (rm64 hr)) (e_fn (ok_sum_of G) (hr.mono (by decide)) tk rfl (a_cons (e_var rfl (by walk_at "vs")) (a_cons (e_var rfl (by walk_at "vs")) (a_cons (e_var rfl (by walk_at "vs")) a_nil))) (argN_cons (argN_cons (argN_cons argN_nil)))) e_int rfl)))))
abbrev N_guards_of : List Str := ["modulus", "weights", "text", "signs", "sign"]
theorem nd_guards_of : N_guards_of.Nodup := by decide +kernel
theorem sc_guards_of : FnScope N_guards_of ["modulus", "weights", "text"] (defScope s_guards_of) := ⟨rfl, rfl, rfl, nd_guards_of, rfl, by decide +kernel, by decide +kernel⟩
def m_guards_of : SM := (sSeq (sDrop (mCall F_check_code (mCons (mVar 0) (mCons (mVar 1) mNil)))) (sSeq (sDrop (mCall F_check_text (mCons (mVar 2) (mCons (mVar 0) mNil)))) (sSeq (sIf (mTest (mOp eqD (mCB lenD (mCons (mVar 2) mNil)) (mC (.int 4000)))) (sRaise 1 24 (mC (.str "text"))) sNext) (sSeq (sAsg (mSl (mC (.str "0123456789abcdefghijklmnopqrstuvwxyzABCDEFGHIJKLMNOPQRSTUVWXYZ ./-")) mNoPart (mPart (mVar 0))) (gmName 3)) (sRet (mCB tupD (mCons (mLc (mIt (mVar 3)) (gmName 4) (mTest (mOp eqD (mCall F_sum_of (mCons (mVar 0) (mCons (mVar 1) (mCons (mOp addD (mVar 2) (mVar 4)) mNil)))) (mC (.int 0)))) (mVar 4) [4]) mNil)))))))
def F_guards_of : FM := mDef 5 m_guards_of
theorem ok_guards_of (G : Fct PR K mg fa fn es (exT PR es)) : OkF PR w K mg base (mkC K fn es) "guards_of" ["modulus", "weights", "text"] 4 F_guards_of := by
  refine ⟨okE (G.def_ 7 _ rfl) sc_guards_of (by decide) ?_, G.glo 7 _ rfl, (G.def_ 7 _ rfl).kp, (G.def_ 7 _ rfl).bindsN fun _ _ _ _ _ _ us hl => match us, hl with | [_, _, _], _ => rfl⟩
  intro cdv A outer s H E hr tk po
  unfold m_guards_of
  exact (z_cons (z_expr (e_fn (ok_check_code G) (hr.mono (by decide)) tk rfl (a_cons (e_var rfl (by walk_at "vs")) (a_cons (e_var rfl (by walk_at "vs")) a_nil)) (argN_cons (argN_cons argN_nil)))) (z_cons (z_expr (e_fn (ok_check_text G) (hr.mono (by decide)) tk rfl (a_cons (e_var rfl (by walk_at "vs")) (a_cons (e_var rfl (by walk_at "vs")) a_nil)) (argN_cons (argN_cons argN_nil)))) (z_cons (z_if (t_cmp (eq_ok rfl (rm64 hr)) (e_cb (len_ok rfl) rfl (G.free 39 _ rfl) rfl (a_cons (e_var rfl (by walk_at "vs")) a_nil)) (e_gi (G.int 29 _ _ rfl) rfl) rfl) (z_one (z_rs (okr_ArgumentError G) (hr.mono (by decide)) rfl tk rfl e_str)) z_nil) (z_cons (z_set nd_guards_of rfl (by walk_at "lc") (e_sl rfl (e_gs (G.str 31 _ _ rfl) rfl) o_none (o_some (e_var rfl (by walk_at "vs")))) rfl (by walk_at "fl")) (z_one (z_ret (e_ct (tuple_ok rfl) rfl (G.free 47 _ rfl) rfl (a_cons (e_LC [("sign", 4)] ⟨rfl, nd_guards_of, (i_seq rfl (e_var rfl (by walk_at "vs"))), by walk_at "blk", fun _ _ _ _ _ => (g_name nd_guards_of rfl (by walk_at "lc") (by walk_at "fl") (by decide)), fun _ _ _ _ _ => (ts_one (t_cmp (eq_ok rfl (rm64 hr)) (e_fn (ok_sum_of G) (hr.mono (by decide)) tkF rfl (a_cons (e_var rfl (by walk_at "vs")) (a_cons (e_var rfl (by walk_at "vs")) (a_cons (e_op (add_ok rfl) (e_var rfl (by walk_at "vs")) (e_var rfl (by walk_at "vs"))) a_nil))) (argN_cons (argN_cons (argN_cons argN_nil)))) e_int rfl)), fun _ _ _ _ _ => (e_var rfl (by walk_at "vs")), fun _ => rfl⟩) a_nil))))))))
abbrev N_divisor : List Str := ["one", "other"]
theorem nd_divisor : N_divisor.Nodup := by decide +kernel
theorem sc_divisor : FnScope N_divisor ["one", "other"] (defScope s_divisor) := ⟨rfl, rfl, rfl, nd_divisor, rfl, by decide +kernel, by decide +kernel⟩
def m_divisor : SM := (sSeq (sWhile (mTru (mVar 1)) (sPar 0 1 (mCons (mVar 1) (mCons (mOp modD (mVar 0) (mVar 1)) mNil))) bigN) (sRet (mVar 0)))
def F_divisor : FM := mDef 2 m_divisor
theorem ok_divisor (G : Fct PR K mg fa fn es (exT PR es)) : OkF PR w K mg base (mkC K fn es) "divisor" ["one", "other"] 1 F_divisor := by
  refine ⟨okE (G.def_ 8 _ rfl) sc_divisor (by decide) ?_, G.glo 8 _ rfl, (G.def_ 8 _ rfl).kp, (G.def_ 8 _ rfl).bindsN fun _ _ _ _ _ _ us hl => match us, hl with | [_, _], _ => rfl⟩
  intro cdv A outer s H E hr tk po
  unfold m_divisor
  exact (z_cons (z_while bigN po (t_tru rfl (e_var rfl (by walk_at "vs")) (fun _ => rfl)) (z_one (z_par rfl nd_divisor rfl rfl (by decide) rfl rfl (a_cons (e_var rfl (by walk_at "vs")) (a_cons (e_op mod_ok (e_var rfl (by walk_at "vs")) (e_var rfl (by walk_at "vs"))) a_nil)) rfl))) (z_one (z_ret (e_var rfl (by walk_at "vs")))))
abbrev N_signs_of : List Str := ["modulus"]
theorem nd_signs_of : N_signs_of.Nodup := by decide +kernel
theorem sc_signs_of : FnScope N_signs_of ["modulus"] (defScope s_signs_of) := ⟨rfl, rfl, rfl, nd_signs_of, rfl, by decide +kernel, by decide +kernel⟩
def m_signs_of : SM := (sRet (mCB minD (mCons (mVar 0) (mCons (mCB lenD (mCons (mC (.str "0123456789abcdefghijklmnopqrstuvwxyzABCDEFGHIJKLMNOPQRSTUVWXYZ ./-")) mNil)) mNil))))
def F_signs_of : FM := mDef 1 m_signs_of
theorem ok_signs_of (G : Fct PR K mg fa fn es (exT PR es)) : OkF PR w K mg base (mkC K fn es) "signs_of" ["modulus"] 1 F_signs_of := by
  refine ⟨okE (G.def_ 10 _ rfl) sc_signs_of (by decide) ?_, G.glo 10 _ rfl, (G.def_ 10 _ rfl).kp, (G.def_ 10 _ rfl).bindsN fun _ _ _ _ _ _ us hl => match us, hl with | [_], _ => rfl⟩
  intro cdv A outer s H E hr tk po
  unfold m_signs_of
  exact (z_one (z_ret (e_cb (min_ok rfl) rfl (G.free 41 _ rfl) rfl (a_cons (e_var rfl (by walk_at "vs")) (a_cons (e_cb (len_ok rfl) rfl (G.free 39 _ rfl) rfl (a_cons (e_gs (G.str 31 _ _ rfl) rfl) a_nil)) a_nil)))))
abbrev N_judge_changes : List Str := ["modulus", "weights", "at", "weight", "common"]
theorem nd_judge_changes : N_judge_changes.Nodup := by decide +kernel
theorem sc_judge_changes : FnScope N_judge_changes ["modulus", "weights"] (defScope s_judge_changes) := ⟨rfl, rfl, rfl, nd_judge_changes, rfl, by decide +kernel, by decide +kernel⟩
def m_judge_changes : SM := (sSeq (sDrop (mCall F_check_code (mCons (mVar 0) (mCons (mVar 1) mNil)))) (sSeq (sFor (mItS enumD (mCons (mVar 1) mNil)) (gmTup 2 (gmCons (gmName 2) (gmCons (gmName 3) gmNil))) (sSeq (sAsg (mCall F_divisor (mCons (mVar 0) (mCons (mVar 3) mNil))) (gmName 4)) (sIf (mAnd (mTest (mOp gtD (mVar 4) (mC (.int 1)))) (mTest (mOp ltD (mOp fdivD (mVar 0) (mVar 4)) (mCall F_signs_of (mCons (mVar 0) mNil))))) (sRet (mTup (mCons (mC (.str "misses")) (mCons (mVar 2) (mCons (mC (.int 0)) (mCons (mOp fdivD (mVar 0) (mVar 4)) mNil)))))) sNext))) (sRet (mTup (mCons (mC (.str "finds")) mNil)))))
def F_judge_changes : FM := mDef 5 m_judge_changes
theorem ok_judge_changes (G : Fct PR K mg fa fn es (exT PR es)) : OkF PR w K mg base (mkC K fn es) "judge_changes" ["modulus", "weights"] 4 F_judge_changes := by
  refine ⟨okE (G.def_ 9 _ rfl) sc_judge_changes (by decide) ?_, G.glo 9 _ rfl, (G.def_ 9 _ rfl).kp, (G.def_ 9 _ rfl).bindsN fun _ _ _ _ _ _ us hl => match us, hl with | [_, _], _ => rfl⟩
  intro cdv A outer s H E hr tk po
  unfold m_judge_changes
  exact (z_cons (z_expr (e_fn (ok_check_code G) (hr.mono (by decide)) tk rfl (a_cons (e_var rfl (by walk_at "vs")) (a_cons (e_var rfl (by walk_at "vs")) a_nil)) (argN_cons (argN_cons argN_nil)))) (z_cons (z_for (ts := [2, 3]) po rfl (i_enum rfl rfl (G.free 36 _ rfl) (a_cons (e_var rfl (by walk_at "vs")) a_nil)) (g_tup rfl rfl (gs_cons (g_name nd_judge_changes rfl (by walk_at "lc") (by walk_at "fl") (by decide)) (gs_cons (g_name nd_judge_changes rfl (by walk_at "lc") (by walk_at "fl") (by decide)) gs_nil))) (z_cons (z_set nd_judge_changes rfl (by walk_at "lc") (e_fn (ok_divisor G) (hr.mono (by decide)) tk rfl (a_cons (e_var rfl (by walk_at "vs")) (a_cons (e_var rfl (by walk_at "vs")) a_nil)) (argN_cons (argN_cons argN_nil))) rfl (by walk_at "fl")) (z_one (z_if (PW.pt (w_and (t_cmp gt_ok (e_var rfl (by walk_at "vs")) e_int rfl) (pw_and1 (t_cmp lt_ok (e_op fdiv_ok (e_var rfl (by walk_at "vs")) (e_var rfl (by walk_at "vs"))) (e_fn (ok_signs_of G) (hr.mono (by decide)) tk rfl (a_cons (e_var rfl (by walk_at "vs")) a_nil) (argN_cons argN_nil)) rfl)))) (z_one (z_ret (e_tup (a_cons e_str (a_cons (e_var rfl (by walk_at "vs")) (a_cons e_int (a_cons (e_op fdiv_ok (e_var rfl (by walk_at "vs")) (e_var rfl (by walk_at "vs"))) a_nil))))))) z_nil))) (fun _ => rfl)) (z_one (z_ret (e_tup (a_cons e_str a_nil))))))
abbrev N_judge_turns : List Str := ["modulus", "weights", "at", "gap", "common"]
theorem nd_judge_turns : N_judge_turns.Nodup := by decide +kernel
theorem sc_judge_turns : FnScope N_judge_turns ["modulus", "weights"] (defScope s_judge_turns) := ⟨rfl, rfl, rfl, nd_judge_turns, rfl, by decide +kernel, by decide +kernel⟩
def m_judge_turns : SM := (sSeq (sDrop (mCall F_check_code (mCons (mVar 0) (mCons (mVar 1) mNil)))) (sSeq (sFor (mItA rangeD1 (mCons (mCB lenD (mCons (mVar 1) mNil)) mNil)) (gmName 2) (sSeq (sAsg (mOp modD (mOp subD (mOp ixD (mVar 1) (mVar 2)) (mOp ixD (mVar 1) (mOp modD (mOp addD (mVar 2) (mC (.int 1))) (mCB lenD (mCons (mVar 1) mNil))))) (mVar 0)) (gmName 3)) (sSeq (sAsg (mCall F_divisor (mCons (mVar 0) (mCons (mVar 3) mNil))) (gmName 4)) (sIf (mAnd (mTest (mOp gtD (mVar 4) (mC (.int 1)))) (mTest (mOp ltD (mOp fdivD (mVar 0) (mVar 4)) (mCall F_signs_of (mCons (mVar 0) mNil))))) (sRet (mTup (mCons (mC (.str "misses")) (mCons (mVar 2) (mCons (mC (.int 0)) (mCons (mOp fdivD (mVar 0) (mVar 4)) mNil)))))) sNext)))) (sRet (mTup (mCons (mC (.str "finds")) mNil)))))
def F_judge_turns : FM := mDef 5 m_judge_turns
theorem ok_judge_turns (G : Fct PR K mg fa fn es (exT PR es)) : OkF PR w K mg base (mkC K fn es) "judge_turns" ["modulus", "weights"] 4 F_judge_turns := by
  refine ⟨okE (G.def_ 11 _ rfl) sc_judge_turns (by decide) ?_, G.glo 11 _ rfl, (G.def_ 11 _ rfl).kp, (G.def_ 11 _ rfl).bindsN fun _ _ _ _ _ _ us hl => match us, hl with | [_, _], _ => rfl⟩
  intro cdv A outer s H E hr tk po
  unfold m_judge_turns
  exact (z_cons (z_expr (e_fn (ok_check_code G) (hr.mono (by decide)) tk rfl (a_cons (e_var rfl (by walk_at "vs")) (a_cons (e_var rfl (by walk_at "vs")) a_nil)) (argN_cons (argN_cons argN_nil)))) (z_cons (z_for (ts := [2]) po rfl (i_rng1 rfl (G.free 42 _ rfl) (a_cons (e_cb (len_ok rfl) rfl (G.free 39 _ rfl) rfl (a_cons (e_var rfl (by walk_at "vs")) a_nil)) a_nil)) (g_name nd_judge_turns rfl (by walk_at "lc") (by walk_at "fl") (by decide)) (z_cons (z_set nd_judge_turns rfl (by walk_at "lc") (e_op mod_ok (e_op sub_ok (e_ix (ix_ok rfl) (e_var rfl (by walk_at "vs")) (e_var rfl (by walk_at "vs")) (fun _ _ => rfl)) (e_ix (ix_ok rfl) (e_var rfl (by walk_at "vs")) (e_op mod_ok (e_op (add_ok rfl) (e_var rfl (by walk_at "vs")) e_int) (e_cb (len_ok rfl) rfl (G.free 39 _ rfl) rfl (a_cons (e_var rfl (by walk_at "vs")) a_nil))) (fun _ _ => rfl))) (e_var rfl (by walk_at "vs"))) rfl (by walk_at "fl")) (z_cons (z_set nd_judge_turns rfl (by walk_at "lc") (e_fn (ok_divisor G) (hr.mono (by decide)) tk rfl (a_cons (e_var rfl (by walk_at "vs")) (a_cons (e_var rfl (by walk_at "vs")) a_nil)) (argN_cons (argN_cons argN_nil))) rfl (by walk_at "fl")) (z_one (z_if (PW.pt (w_and (t_cmp gt_ok (e_var rfl (by walk_at "vs")) e_int rfl) (pw_and1 (t_cmp lt_ok (e_op fdiv_ok (e_var rfl (by walk_at "vs")) (e_var rfl (by walk_at "vs"))) (e_fn (ok_signs_of G) (hr.mono (by decide)) tk rfl (a_cons (e_var rfl (by walk_at "vs")) a_nil) (argN_cons argN_nil)) rfl)))) (z_one (z_ret (e_tup (a_cons e_str (a_cons (e_var rfl (by walk_at "vs")) (a_cons e_int (a_cons (e_op fdiv_ok (e_var rfl (by walk_at "vs")) (e_var rfl (by walk_at "vs"))) a_nil))))))) z_nil)))) (fun _ => rfl)) (z_one (z_ret (e_tup (a_cons e_str a_nil))))))
abbrev N_accept_missed : List Str := ["modulus", "weights", "first", "second", "places", "turned", "at"]
theorem nd_accept_missed : N_accept_missed.Nodup := by decide +kernel
theorem sc_accept_missed : FnScope N_accept_missed ["modulus", "weights", "first", "second"] (defScope s_accept_missed) := ⟨rfl, rfl, rfl, nd_accept_missed, rfl, by decide +kernel, by decide +kernel⟩
def m_accept_missed : SM := (sSeq (sDrop (mCall F_check_code (mCons (mVar 0) (mCons (mVar 1) mNil)))) (sSeq (sIf (mOr (mNot (mTru (mCall F_is_text (mCons (mVar 2) (mCons (mVar 0) mNil))))) (mOr (mNot (mTru (mCall F_is_text (mCons (mVar 3) (mCons (mVar 0) mNil))))) (mTest (mOp neD (mCB lenD (mCons (mVar 2) mNil)) (mCB lenD (mCons (mVar 3) mNil)))))) (sRaise 2 22 (mC (.str "form"))) sNext) (sSeq (sAsg (mLc (mItA rangeD1 (mCons (mCB lenD (mCons (mVar 2) mNil)) mNil)) (gmName 6) (mTest (mOp neD (mOp ixD (mVar 2) (mVar 6)) (mOp ixD (mVar 3) (mVar 6)))) (mVar 6) [6]) (gmName 4)) (sSeq (sAsg (mAndV (mOp eqD (mCB lenD (mCons (mVar 4) mNil)) (mC (.int 2))) (mAndV (mOp eqD (mOp ixD (mVar 4) (mC (.int 1))) (mOp addD (mOp ixD (mVar 4) (mC (.int 0))) (mC (.int 1)))) (mOp eqD (mOp ixD (mVar 2) (mOp ixD (mVar 4) (mC (.int 0)))) (mOp ixD (mVar 3) (mOp ixD (mVar 4) (mC (.int 1))))))) (gmName 5)) (sSeq (sIf (mAnd (mTest (mOp neD (mCB lenD (mCons (mVar 4) mNil)) (mC (.int 1)))) (mNot (mAnd (mTru (mVar 5)) (mTest (mOp eqD (mOp ixD (mVar 2) (mOp ixD (mVar 4) (mC (.int 1)))) (mOp ixD (mVar 3) (mOp ixD (mVar 4) (mC (.int 0))))))))) (sRaise 2 22 (mC (.str "change"))) sNext) (sIf (mTest (mOp neD (mCall F_sum_of (mCons (mVar 0) (mCons (mVar 1) (mCons (mVar 2) mNil)))) (mCall F_sum_of (mCons (mVar 0) (mCons (mVar 1) (mCons (mVar 3) mNil)))))) (sRaise 2 22 (mC (.str "sum"))) sNext))))))
def F_accept_missed : FM := mDef 7 m_accept_missed
theorem ok_accept_missed (G : Fct PR K mg fa fn es (exT PR es)) : OkF PR w K mg base (mkC K fn es) "accept_missed" ["modulus", "weights", "first", "second"] 4 F_accept_missed := by
  refine ⟨okE (G.def_ 12 _ rfl) sc_accept_missed (by decide) ?_, G.glo 12 _ rfl, (G.def_ 12 _ rfl).kp, (G.def_ 12 _ rfl).bindsN fun _ _ _ _ _ _ us hl => match us, hl with | [_, _, _, _], _ => rfl⟩
  intro cdv A outer s H E hr tk po
  unfold m_accept_missed
  exact (z_cons (z_expr (e_fn (ok_check_code G) (hr.mono (by decide)) tk rfl (a_cons (e_var rfl (by walk_at "vs")) (a_cons (e_var rfl (by walk_at "vs")) a_nil)) (argN_cons (argN_cons argN_nil)))) (z_cons (z_if (PW.pt (w_or (t_not (t_tru rfl (e_fn (ok_is_text G) (hr.mono (by decide)) tk rfl (a_cons (e_var rfl (by walk_at "vs")) (a_cons (e_var rfl (by walk_at "vs")) a_nil)) (argN_cons (argN_cons argN_nil))) (fun _ => rfl))) (w_or (t_not (t_tru rfl (e_fn (ok_is_text G) (hr.mono (by decide)) tk rfl (a_cons (e_var rfl (by walk_at "vs")) (a_cons (e_var rfl (by walk_at "vs")) a_nil)) (argN_cons (argN_cons argN_nil))) (fun _ => rfl))) (pw_or1 (t_cmp (ne_ok rfl (rm64 hr)) (e_cb (len_ok rfl) rfl (G.free 39 _ rfl) rfl (a_cons (e_var rfl (by walk_at "vs")) a_nil)) (e_cb (len_ok rfl) rfl (G.free 39 _ rfl) rfl (a_cons (e_var rfl (by walk_at "vs")) a_nil)) rfl))))) (z_one (z_rs (okr_PaperError G) (hr.mono (by decide)) rfl tk rfl e_str)) z_nil) (z_cons (z_LC [("at", 6)] ⟨rfl, nd_accept_missed, (i_rng1 rfl (G.free 42 _ rfl) (a_cons (e_cb (len_ok rfl) rfl (G.free 39 _ rfl) rfl (a_cons (e_var rfl (by walk_at "vs")) a_nil)) a_nil)), by walk_at "blk", fun _ _ _ _ _ => (g_name nd_accept_missed rfl (by walk_at "lc") (by walk_at "fl") (by decide)), fun _ _ _ _ _ => (ts_one (t_cmp (ne_ok rfl (rm64 hr)) (e_ix (ix_ok rfl) (e_var rfl (by walk_at "vs")) (e_var rfl (by walk_at "vs")) (fun _ _ => rfl)) (e_ix (ix_ok rfl) (e_var rfl (by walk_at "vs")) (e_var rfl (by walk_at "vs")) (fun _ _ => rfl)) rfl)), fun _ _ _ _ _ => (e_var rfl (by walk_at "vs")), fun _ => rfl⟩ rfl (by walk_at "lcl") rfl) (z_cons (z_set nd_accept_missed rfl (by walk_at "lc") (e_and rfl (e_cmp (eq_ok rfl (rm64 hr)) (e_cb (len_ok rfl) rfl (G.free 39 _ rfl) rfl (a_cons (e_var rfl (by walk_at "vs")) a_nil)) e_int rfl) (e_and rfl (e_cmp (eq_ok rfl (rm64 hr)) (e_ix (ix_ok rfl) (e_var rfl (by walk_at "vs")) e_int (fun _ _ => rfl)) (e_op (add_ok rfl) (e_ix (ix_ok rfl) (e_var rfl (by walk_at "vs")) e_int (fun _ _ => rfl)) e_int) rfl) (pe_one (e_cmp (eq_ok rfl (rm64 hr)) (e_ix (ix_ok rfl) (e_var rfl (by walk_at "vs")) (e_ix (ix_ok rfl) (e_var rfl (by walk_at "vs")) e_int (fun _ _ => rfl)) (fun _ _ => rfl)) (e_ix (ix_ok rfl) (e_var rfl (by walk_at "vs")) (e_ix (ix_ok rfl) (e_var rfl (by walk_at "vs")) e_int (fun _ _ => rfl)) (fun _ _ => rfl)) rfl)))) rfl (by walk_at "fl")) (z_cons (z_if (PW.pt (w_and (t_cmp (ne_ok rfl (rm64 hr)) (e_cb (len_ok rfl) rfl (G.free 39 _ rfl) rfl (a_cons (e_var rfl (by walk_at "vs")) a_nil)) e_int rfl) (pw_and1 (t_not (PW.pt (w_and (t_tru rfl (e_var rfl (by walk_at "vs")) (fun _ => rfl)) (pw_and1 (t_cmp (eq_ok rfl (rm64 hr)) (e_ix (ix_ok rfl) (e_var rfl (by walk_at "vs")) (e_ix (ix_ok rfl) (e_var rfl (by walk_at "vs")) e_int (fun _ _ => rfl)) (fun _ _ => rfl)) (e_ix (ix_ok rfl) (e_var rfl (by walk_at "vs")) (e_ix (ix_ok rfl) (e_var rfl (by walk_at "vs")) e_int (fun _ _ => rfl)) (fun _ _ => rfl)) rfl)))))))) (z_one (z_rs (okr_PaperError G) (hr.mono (by decide)) rfl tk rfl e_str)) z_nil) (z_one (z_if (t_cmp (ne_ok rfl (rm64 hr)) (e_fn (ok_sum_of G) (hr.mono (by decide)) tk rfl (a_cons (e_var rfl (by walk_at "vs")) (a_cons (e_var rfl (by walk_at "vs")) (a_cons (e_var rfl (by walk_at "vs")) a_nil))) (argN_cons (argN_cons (argN_cons argN_nil)))) (e_fn (ok_sum_of G) (hr.mono (by decide)) tk rfl (a_cons (e_var rfl (by walk_at "vs")) (a_cons (e_var rfl (by walk_at "vs")) (a_cons (e_var rfl (by walk_at "vs")) a_nil))) (argN_cons (argN_cons (argN_cons argN_nil)))) rfl) (z_one (z_rs (okr_PaperError G) (hr.mono (by decide)) rfl tk rfl e_str)) z_nil)))))))
abbrev N_repairs : List Str := ["modulus", "weights", "text", "total", "found", "at", "sign", "weight", "number"]
theorem nd_repairs : N_repairs.Nodup := by decide +kernel
theorem sc_repairs : FnScope N_repairs ["modulus", "weights", "text"] (defScope s_repairs) := ⟨rfl, rfl, rfl, nd_repairs, rfl, by decide +kernel, by decide +kernel⟩
def m_repairs : SM := (sSeq (sDrop (mCall F_check_code (mCons (mVar 0) (mCons (mVar 1) mNil)))) (sSeq (sDrop (mCall F_check_text (mCons (mVar 2) (mCons (mVar 0) mNil)))) (sSeq (sAsg (mCall F_sum_of (mCons (mVar 0) (mCons (mVar 1) (mCons (mVar 2) mNil)))) (gmName 3)) (sSeq (sIf (mTest (mOp eqD (mVar 3) (mC (.int 0)))) (sRet (mTup (mCons (mVar 2) mNil))) sNext) (sSeq (sAsg (mLoc mNil) (gmName 4)) (sSeq (sFor (mItS enumD (mCons (mVar 2) mNil)) (gmTup 2 (gmCons (gmName 5) (gmCons (gmName 6) gmNil))) (sSeq (sAsg (mOp ixD (mVar 1) (mOp modD (mVar 5) (mCB lenD (mCons (mVar 1) mNil)))) (gmName 7)) (sFor (mItA rangeD1 (mCons (mCall F_signs_of (mCons (mVar 0) mNil)) mNil)) (gmName 8) (sIf (mTest (mOp eqD (mOp modD (mOp addD (mVar 3) (mOp mulV (mVar 7) (mOp subD (mVar 8) (mMt "str" sindexD (mC (.str "0123456789abcdefghijklmnopqrstuvwxyzABCDEFGHIJKLMNOPQRSTUVWXYZ ./-")) (mCons (mVar 6) mNil))))) (mVar 0)) (mC (.int 0)))) (sDrop (mMt "list" appendD (mVar 4) (mCons (mOp addD (mOp addD (mSl (mVar 2) mNoPart (mPart (mVar 5))) (mOp ixD (mC (.str "0123456789abcdefghijklmnopqrstuvwxyzABCDEFGHIJKLMNOPQRSTUVWXYZ ./-")) (mVar 8))) (mSl (mVar 2) (mPart (mOp addD (mVar 5) (mC (.int 1)))) mNoPart)) mNil))) sNext)))) sStuck))))))
def F_repairs : FM := mDef 9 m_repairs
theorem ok_repairs (G : Fct PR K mg fa fn es (exT PR es)) : OkF PR w K mg base (mkC K fn es) "repairs" ["modulus", "weights", "text"] 4 F_repairs := by
  refine ⟨okE (G.def_ 13 _ rfl) sc_repairs (by decide) ?_, G.glo 13 _ rfl, (G.def_ 13 _ rfl).kp, (G.def_ 13 _ rfl).bindsN fun _ _ _ _ _ _ us hl => match us, hl with | [_, _, _], _ => rfl⟩
  intro cdv A outer s H E hr tk po
  unfold m_repairs
  exact (z_cons (z_expr (e_fn (ok_check_code G) (hr.mono (by decide)) tk rfl (a_cons (e_var rfl (by walk_at "vs")) (a_cons (e_var rfl (by walk_at "vs")) a_nil)) (argN_cons (argN_cons argN_nil)))) (z_cons (z_expr (e_fn (ok_check_text G) (hr.mono (by decide)) tk rfl (a_cons (e_var rfl (by walk_at "vs")) (a_cons (e_var rfl (by walk_at "vs")) a_nil)) (argN_cons (argN_cons argN_nil)))) (z_cons (z_set nd_repairs rfl (by walk_at "lc") (e_fn (ok_sum_of G) (hr.mono (by decide)) tk rfl (a_cons (e_var rfl (by walk_at "vs")) (a_cons (e_var rfl (by walk_at "vs")) (a_cons (e_var rfl (by walk_at "vs")) a_nil))) (argN_cons (argN_cons (argN_cons argN_nil)))) rfl (by walk_at "fl")) (z_cons (z_if (t_cmp (eq_ok rfl (rm64 hr)) (e_var rfl (by walk_at "vs")) e_int rfl) (z_one (z_ret (e_tup (a_cons (e_var rfl (by walk_at "vs")) a_nil)))) z_nil) (z_cons (z_set nd_repairs rfl (by walk_at "lc") (e_loc a_nil) rfl (by walk_at "fl")) (z_cons (z_for (ts := [5, 6]) po rfl (i_enum rfl rfl (G.free 36 _ rfl) (a_cons (e_var rfl (by walk_at "vs")) a_nil)) (g_tup rfl rfl (gs_cons (g_name nd_repairs rfl (by walk_at "lc") (by walk_at "fl") (by decide)) (gs_cons (g_name nd_repairs rfl (by walk_at "lc") (by walk_at "fl") (by decide)) gs_nil))) (z_cons (z_set nd_repairs rfl (by walk_at "lc") (e_ix (ix_ok rfl) (e_var rfl (by walk_at "vs")) (e_op mod_ok (e_var rfl (by walk_at "vs")) (e_cb (len_ok rfl) rfl (G.free 39 _ rfl) rfl (a_cons (e_var rfl (by walk_at "vs")) a_nil))) (fun _ _ => rfl)) rfl (by walk_at "fl")) (z_one (z_for (ts := [8]) po rfl (i_rng1 rfl (G.free 42 _ rfl) (a_cons (e_fn (ok_signs_of G) (hr.mono (by decide)) tk rfl (a_cons (e_var rfl (by walk_at "vs")) a_nil) (argN_cons argN_nil)) a_nil)) (g_name nd_repairs rfl (by walk_at "lc") (by walk_at "fl") (by decide)) (z_one (z_if (t_cmp (eq_ok rfl (rm64 hr)) (e_op mod_ok (e_op (add_ok rfl) (e_var rfl (by walk_at "vs")) (e_op (mul_ok rfl) (e_var rfl (by walk_at "vs")) (e_op sub_ok (e_var rfl (by walk_at "vs")) (e_bm rfl PySem.F.plainAttrs_str PySem.F.slot_str_index PySem.F.type_str_index sindex_ok (e_gs (G.str 31 _ _ rfl) rfl) (a_cons (e_var rfl (by walk_at "vs")) a_nil))))) (e_var rfl (by walk_at "vs"))) e_int rfl) (z_one (z_expr (e_bm rfl PySem.F.plainAttrs_list PySem.F.slot_list_append PySem.F.type_list_append append_ok (e_var rfl (by walk_at "vs")) (a_cons (e_op (add_ok rfl) (e_op (add_ok rfl) (e_sl rfl (e_var rfl (by walk_at "vs")) o_none (o_some (e_var rfl (by walk_at "vs")))) (e_ix (ix_ok rfl) (e_gs (G.str 31 _ _ rfl) rfl) (e_var rfl (by walk_at "vs")) (fun _ _ => rfl))) (e_sl rfl (e_var rfl (by walk_at "vs")) (o_some (e_op (add_ok rfl) (e_var rfl (by walk_at "vs")) e_int)) o_none)) a_nil)))) z_nil)) (fun _ => rfl)))) (fun _ => rfl)) (z_one z_never)))))))
abbrev N_turn_repairs : List Str := ["modulus", "weights", "text", "found", "at", "other"]
theorem nd_turn_repairs : N_turn_repairs.Nodup := by decide +kernel
theorem sc_turn_repairs : FnScope N_turn_repairs ["modulus", "weights", "text"] (defScope s_turn_repairs) := ⟨rfl, rfl, rfl, nd_turn_repairs, rfl, by decide +kernel, by decide +kernel⟩
def m_turn_repairs : SM := (sSeq (sDrop (mCall F_check_code (mCons (mVar 0) (mCons (mVar 1) mNil)))) (sSeq (sDrop (mCall F_check_text (mCons (mVar 2) (mCons (mVar 0) mNil)))) (sSeq sStuck (sSeq (sFor (mItA rangeD1 (mCons (mOp subD (mCB lenD (mCons (mVar 2) mNil)) (mC (.int 1))) mNil)) (gmName 4) (sSeq (sAsg (mOp addD (mOp addD (mOp addD (mSl (mVar 2) mNoPart (mPart (mVar 4))) (mOp ixD (mVar 2) (mOp addD (mVar 4) (mC (.int 1))))) (mOp ixD (mVar 2) (mVar 4))) (mSl (mVar 2) (mPart (mOp addD (mVar 4) (mC (.int 2)))) mNoPart)) (gmName 5)) (sIf (mAnd (mTest (mOp neD (mVar 5) (mVar 2))) (mTest (mOp eqD (mCall F_sum_of (mCons (mVar 0) (mCons (mVar 1) (mCons (mVar 5) mNil)))) (mC (.int 0))))) (sAsg (mC (.bl true)) (gmSub (mVar 3) (mVar 5))) sNext))) sStuck))))
def F_turn_repairs : FM := mDef 6 m_turn_repairs
theorem ok_turn_repairs (G : Fct PR K mg fa fn es (exT PR es)) : OkF PR w K mg base (mkC K fn es) "turn_repairs" ["modulus", "weights", "text"] 4 F_turn_repairs := by
  refine ⟨okE (G.def_ 14 _ rfl) sc_turn_repairs (by decide) ?_, G.glo 14 _ rfl, (G.def_ 14 _ rfl).kp, (G.def_ 14 _ rfl).bindsN fun _ _ _ _ _ _ us hl => match us, hl with | [_, _, _], _ => rfl⟩
  intro cdv A outer s H E hr tk po
  unfold m_turn_repairs
  exact (z_cons (z_expr (e_fn (ok_check_code G) (hr.mono (by decide)) tk rfl (a_cons (e_var rfl (by walk_at "vs")) (a_cons (e_var rfl (by walk_at "vs")) a_nil)) (argN_cons (argN_cons argN_nil)))) (z_cons (z_expr (e_fn (ok_check_text G) (hr.mono (by decide)) tk rfl (a_cons (e_var rfl (by walk_at "vs")) (a_cons (e_var rfl (by walk_at "vs")) a_nil)) (argN_cons (argN_cons argN_nil)))) (z_cons z_never (z_cons (z_for (ts := [4]) po rfl (i_rng1 rfl (G.free 42 _ rfl) (a_cons (e_op sub_ok (e_cb (len_ok rfl) rfl (G.free 39 _ rfl) rfl (a_cons (e_var rfl (by walk_at "vs")) a_nil)) e_int) a_nil)) (g_name nd_turn_repairs rfl (by walk_at "lc") (by walk_at "fl") (by decide)) (z_cons (z_set nd_turn_repairs rfl (by walk_at "lc") (e_op (add_ok rfl) (e_op (add_ok rfl) (e_op (add_ok rfl) (e_sl rfl (e_var rfl (by walk_at "vs")) o_none (o_some (e_var rfl (by walk_at "vs")))) (e_ix (ix_ok rfl) (e_var rfl (by walk_at "vs")) (e_op (add_ok rfl) (e_var rfl (by walk_at "vs")) e_int) (fun _ _ => rfl))) (e_ix (ix_ok rfl) (e_var rfl (by walk_at "vs")) (e_var rfl (by walk_at "vs")) (fun _ _ => rfl))) (e_sl rfl (e_var rfl (by walk_at "vs")) (o_some (e_op (add_ok rfl) (e_var rfl (by walk_at "vs")) e_int)) o_none)) rfl (by walk_at "fl")) (z_one (z_if (PW.pt (w_and (t_cmp (ne_ok rfl (rm64 hr)) (e_var rfl (by walk_at "vs")) (e_var rfl (by walk_at "vs")) rfl) (pw_and1 (t_cmp (eq_ok rfl (rm64 hr)) (e_fn (ok_sum_of G) (hr.mono (by decide)) tk rfl (a_cons (e_var rfl (by walk_at "vs")) (a_cons (e_var rfl (by walk_at "vs")) (a_cons (e_var rfl (by walk_at "vs")) a_nil))) (argN_cons (argN_cons (argN_cons argN_nil)))) e_int rfl)))) (z_one (z_asg (ts := []) e_bl (g_sub (e_var rfl (by walk_at "vs")) (e_var rfl (by walk_at "vs"))))) z_nil))) (fun _ => rfl)) (z_one z_never)))))
abbrev N_filled : List Str := ["modulus", "weights", "text", "place", "rows", "sign", "row"]
theorem nd_filled : N_filled.Nodup := by decide +kernel
theorem sc_filled : FnScope N_filled ["modulus", "weights", "text", "place"] (defScope s_filled) := ⟨rfl, rfl, rfl, nd_filled, rfl, by decide +kernel, by decide +kernel⟩
def m_filled : SM := (sSeq (sDrop (mCall F_check_code (mCons (mVar 0) (mCons (mVar 1) mNil)))) (sSeq (sDrop (mCall F_check_text (mCons (mVar 2) (mCons (mVar 0) mNil)))) (sSeq (sIf (mOr (mNot (mTru (mCall F_is_integer (mCons (mVar 3) mNil)))) (mNot (mChainT leD ltD (mC (.int 0)) (mVar 3) (mCB lenD (mCons (mVar 2) mNil))))) (sRaise 1 24 (mC (.str "place"))) sNext) (sSeq (sAsg (mLc (mIt (mSl (mC (.str "0123456789abcdefghijklmnopqrstuvwxyzABCDEFGHIJKLMNOPQRSTUVWXYZ ./-")) mNoPart (mPart (mVar 0)))) (gmName 5) mYes (mOp addD (mOp addD (mSl (mVar 2) mNoPart (mPart (mVar 3))) (mVar 5)) (mSl (mVar 2) (mPart (mOp addD (mVar 3) (mC (.int 1)))) mNoPart)) [5]) (gmName 4)) (sRet (mCB tupD (mCons (mLc (mIt (mVar 4)) (gmName 6) (mTest (mOp eqD (mCall F_sum_of (mCons (mVar 0) (mCons (mVar 1) (mCons (mVar 6) mNil)))) (mC (.int 0)))) (mVar 6) [6]) mNil)))))))
def F_filled : FM := mDef 7 m_filled
theorem ok_filled (G : Fct PR K mg fa fn es (exT PR es)) : OkF PR w K mg base (mkC K fn es) "filled" ["modulus", "weights", "text", "place"] 4 F_filled := by
  refine ⟨okE (G.def_ 15 _ rfl) sc_filled (by decide) ?_, G.glo 15 _ rfl, (G.def_ 15 _ rfl).kp, (G.def_ 15 _ rfl).bindsN fun _ _ _ _ _ _ us hl => match us, hl with | [_, _, _, _], _ => rfl⟩
  intro cdv A outer s H E hr tk po
  unfold m_filled
  exact (z_cons (z_expr (e_fn (ok_check_code G) (hr.mono (by decide)) tk rfl (a_cons (e_var rfl (by walk_at "vs")) (a_cons (e_var rfl (by walk_at "vs")) a_nil)) (argN_cons (argN_cons argN_nil)))) (z_cons (z_expr (e_fn (ok_check_text G) (hr.mono (by decide)) tk rfl (a_cons (e_var rfl (by walk_at "vs")) (a_cons (e_var rfl (by walk_at "vs")) a_nil)) (argN_cons (argN_cons argN_nil)))) (z_cons (z_if (PW.pt (w_or (t_not (t_tru rfl (e_fn (ok_is_integer G) (hr.mono (by decide)) tk rfl (a_cons (e_var rfl (by walk_at "vs")) a_nil) (argN_cons argN_nil)) (fun _ => rfl))) (pw_or1 (t_not (t_chain le_ok lt_ok e_int (e_var rfl (by walk_at "vs")) (e_cb (len_ok rfl) rfl (G.free 39 _ rfl) rfl (a_cons (e_var rfl (by walk_at "vs")) a_nil))))))) (z_one (z_rs (okr_ArgumentError G) (hr.mono (by decide)) rfl tk rfl e_str)) z_nil) (z_cons (z_LC [("sign", 5)] ⟨rfl, nd_filled, (i_seq rfl (e_sl rfl (e_gs (G.str 31 _ _ rfl) rfl) o_none (o_some (e_var rfl (by walk_at "vs"))))), by walk_at "blk", fun _ _ _ _ _ => (g_name nd_filled rfl (by walk_at "lc") (by walk_at "fl") (by decide)), fun _ _ _ _ _ => ts_nil, fun _ _ _ _ _ => (e_op (add_ok rfl) (e_op (add_ok rfl) (e_sl rfl (e_var rfl (by walk_at "vs")) o_none (o_some (e_var rfl (by walk_at "vs")))) (e_var rfl (by walk_at "vs"))) (e_sl rfl (e_var rfl (by walk_at "vs")) (o_some (e_op (add_ok rfl) (e_var rfl (by walk_at "vs")) e_int)) o_none)), fun _ => rfl⟩ rfl (by walk_at "lcl") rfl) (z_one (z_ret (e_ct (tuple_ok rfl) rfl (G.free 47 _ rfl) rfl (a_cons (e_LC [("row", 6)] ⟨rfl, nd_filled, (i_seq rfl (e_var rfl (by walk_at "vs"))), by walk_at "blk", fun _ _ _ _ _ => (g_name nd_filled rfl (by walk_at "lc") (by walk_at "fl") (by decide)), fun _ _ _ _ _ => (ts_one (t_cmp (eq_ok rfl (rm64 hr)) (e_fn (ok_sum_of G) (hr.mono (by decide)) tkF rfl (a_cons (e_var rfl (by walk_at "vs")) (a_cons (e_var rfl (by walk_at "vs")) (a_cons (e_var rfl (by walk_at "vs")) a_nil))) (argN_cons (argN_cons (argN_cons argN_nil)))) e_int rfl)), fun _ _ _ _ _ => (e_var rfl (by walk_at "vs")), fun _ => rfl⟩) a_nil))))))))
abbrev N_extended : List Str := ["modulus", "row", "many", "fits", "weight", "told"]
theorem nd_extended : N_extended.Nodup := by decide +kernel
theorem sc_extended : FnScope N_extended ["modulus", "row", "many", "fits"] (defScope s_extended) := ⟨rfl, rfl, rfl, nd_extended, rfl, by decide +kernel, by decide +kernel⟩
def m_extended : SM := sStuck
def F_extended : FM := mDef 6 m_extended
theorem ok_extended (G : Fct PR K mg fa fn es (exT PR es)) : OkF PR w K mg base (mkC K fn es) "extended" ["modulus", "row", "many", "fits"] 1 F_extended := by
  refine ⟨okE (G.def_ 17 _ rfl) sc_extended (by decide) ?_, G.glo 17 _ rfl, (G.def_ 17 _ rfl).kp, (G.def_ 17 _ rfl).bindsN fun _ _ _ _ _ _ us hl => match us, hl with | [_, _, _, _], _ => rfl⟩
  intro cdv A outer s H E hr tk po
  unfold m_extended
  exact ⟨fun pins s σ H D I h => by obtain ⟨p, S, δ, _, _, _, po⟩ := h; exact po.elim⟩
abbrev N_good_weights : List Str := ["modulus", "many", "fits", "weight"]
theorem nd_good_weights : N_good_weights.Nodup := by decide +kernel
theorem sc_good_weights : FnScope N_good_weights ["modulus", "many"] (defScope s_good_weights) := ⟨rfl, rfl, rfl, nd_good_weights, rfl, by decide +kernel, by decide +kernel⟩
def m_good_weights : SM := (sSeq (sIf (mOr (mNot (mTru (mCall F_is_integer (mCons (mVar 0) mNil)))) (mNot (mChainT leD leD (mC (.int 2)) (mVar 0) (mC (.int 97))))) (sRaise 1 24 (mC (.str "modulus"))) sNext) (sSeq (sIf (mOr (mNot (mTru (mCall F_is_integer (mCons (mVar 1) mNil)))) (mNot (mChainT leD leD (mC (.int 1)) (mVar 1) (mC (.int 4))))) (sRaise 1 24 (mC (.str "many"))) sNext) (sSeq (sAsg (mLc (mItA rangeD1 (mCons (mVar 0) mNil)) (gmName 3) (mTest (mOp eqD (mCall F_judge_changes (mCons (mVar 0) (mCons (mTup (mCons (mVar 3) mNil)) mNil))) (mTup (mCons (mC (.str "finds")) mNil)))) (mVar 3) [3]) (gmName 2)) (sRet (mCall F_extended (mCons (mVar 0) (mCons (mTup mNil) (mCons (mVar 1) (mCons (mVar 2) mNil)))))))))
def F_good_weights : FM := mDef 4 m_good_weights
theorem ok_good_weights (G : Fct PR K mg fa fn es (exT PR es)) : OkF PR w K mg base (mkC K fn es) "good_weights" ["modulus", "many"] 5 F_good_weights := by
  refine ⟨okE (G.def_ 16 _ rfl) sc_good_weights (by decide) ?_, G.glo 16 _ rfl, (G.def_ 16 _ rfl).kp, (G.def_ 16 _ rfl).bindsN fun _ _ _ _ _ _ us hl => match us, hl with | [_, _], _ => rfl⟩
  intro cdv A outer s H E hr tk po
  unfold m_good_weights
  exact (z_cons (z_if (PW.pt (w_or (t_not (t_tru rfl (e_fn (ok_is_integer G) (hr.mono (by decide)) tk rfl (a_cons (e_var rfl (by walk_at "vs")) a_nil) (argN_cons argN_nil)) (fun _ => rfl))) (pw_or1 (t_not (t_chain le_ok le_ok e_int (e_var rfl (by walk_at "vs")) (e_gi (G.int 30 _ _ rfl) rfl)))))) (z_one (z_rs (okr_ArgumentError G) (hr.mono (by decide)) rfl tk rfl e_str)) z_nil) (z_cons (z_if (PW.pt (w_or (t_not (t_tru rfl (e_fn (ok_is_integer G) (hr.mono (by decide)) tk rfl (a_cons (e_var rfl (by walk_at "vs")) a_nil) (argN_cons argN_nil)) (fun _ => rfl))) (pw_or1 (t_not (t_chain le_ok le_ok e_int (e_var rfl (by walk_at "vs")) e_int))))) (z_one (z_rs (okr_ArgumentError G) (hr.mono (by decide)) rfl tk rfl e_str)) z_nil) (z_cons (z_LC [("weight", 3)] ⟨rfl, nd_good_weights, (i_rng1 rfl (G.free 42 _ rfl) (a_cons (e_var rfl (by walk_at "vs")) a_nil)), by walk_at "blk", fun _ _ _ _ _ => (g_name nd_good_weights rfl (by walk_at "lc") (by walk_at "fl") (by decide)), fun _ _ _ _ _ => (ts_one (t_cmp (eq_ok rfl (rm64 hr)) (e_fn (ok_judge_changes G) (hr.mono (by decide)) tkF rfl (a_cons (e_var rfl (by walk_at "vs")) (a_cons (e_tup (a_cons (e_var rfl (by walk_at "vs")) a_nil)) a_nil)) (argN_cons (argN_cons argN_nil))) (e_tup (a_cons e_str a_nil)) rfl)), fun _ _ _ _ _ => (e_var rfl (by walk_at "vs")), fun _ => rfl⟩ rfl (by walk_at "lcl") rfl) (z_one (z_ret (e_fn (ok_extended G) (hr.mono (by decide)) tk rfl (a_cons (e_var rfl (by walk_at "vs")) (a_cons (e_tup a_nil) (a_cons (e_var rfl (by walk_at "vs")) (a_cons (e_var rfl (by walk_at "vs")) a_nil)))) (argN_cons (argN_cons (argN_cons (argN_cons argN_nil))))))))))
abbrev N_turns_found : List Str := ["modulus", "one", "other", "common"]
theorem nd_turns_found : N_turns_found.Nodup := by decide +kernel
theorem sc_turns_found : FnScope N_turns_found ["modulus", "one", "other"] (defScope s_turns_found) := ⟨rfl, rfl, rfl, nd_turns_found, rfl, by decide +kernel, by decide +kernel⟩
def m_turns_found : SM := (sSeq (sAsg (mCall F_divisor (mCons (mVar 0) (mCons (mOp modD (mOp subD (mVar 1) (mVar 2)) (mVar 0)) mNil))) (gmName 3)) (sRet (mOrV (mOp eqD (mVar 3) (mC (.int 1))) (mOp geD (mOp fdivD (mVar 0) (mVar 3)) (mCall F_signs_of (mCons (mVar 0) mNil))))))
def F_turns_found : FM := mDef 4 m_turns_found
theorem ok_turns_found (G : Fct PR K mg fa fn es (exT PR es)) : OkF PR w K mg base (mkC K fn es) "turns_found" ["modulus", "one", "other"] 2 F_turns_found := by
  refine ⟨okE (G.def_ 18 _ rfl) sc_turns_found (by decide) ?_, G.glo 18 _ rfl, (G.def_ 18 _ rfl).kp, (G.def_ 18 _ rfl).bindsN fun _ _ _ _ _ _ us hl => match us, hl with | [_, _, _], _ => rfl⟩
  intro cdv A outer s H E hr tk po
  unfold m_turns_found
  exact (z_cons (z_set nd_turns_found rfl (by walk_at "lc") (e_fn (ok_divisor G) (hr.mono (by decide)) tk rfl (a_cons (e_var rfl (by walk_at "vs")) (a_cons (e_op mod_ok (e_op sub_ok (e_var rfl (by walk_at "vs")) (e_var rfl (by walk_at "vs"))) (e_var rfl (by walk_at "vs"))) a_nil)) (argN_cons (argN_cons argN_nil))) rfl (by walk_at "fl")) (z_one (z_ret (e_or rfl (e_cmp (eq_ok rfl (rm64 hr)) (e_var rfl (by walk_at "vs")) e_int rfl) (pe_one (e_cmp ge_ok (e_op fdiv_ok (e_var rfl (by walk_at "vs")) (e_var rfl (by walk_at "vs"))) (e_fn (ok_signs_of G) (hr.mono (by decide)) tk rfl (a_cons (e_var rfl (by walk_at "vs")) a_nil) (argN_cons argN_nil)) rfl))))))
abbrev N_missed_share : List Str := ["modulus", "weights", "text", "missed", "at", "sign", "number"]
theorem nd_missed_share : N_missed_share.Nodup := by decide +kernel
theorem sc_missed_share : FnScope N_missed_share ["modulus", "weights", "text"] (defScope s_missed_share) := ⟨rfl, rfl, rfl, nd_missed_share, rfl, by decide +kernel, by decide +kernel⟩
def m_missed_share : SM := (sSeq (sDrop (mCall F_check_code (mCons (mVar 0) (mCons (mVar 1) mNil)))) (sSeq (sDrop (mCall F_check_text (mCons (mVar 2) (mCons (mVar 0) mNil)))) (sSeq (sIf (mTest (mOp neD (mCall F_sum_of (mCons (mVar 0) (mCons (mVar 1) (mCons (mVar 2) mNil)))) (mC (.int 0)))) (sRaise 1 24 (mC (.str "text"))) sNext) (sSeq (sAsg (mC (.int 0)) (gmName 3)) (sSeq (sFor (mItS enumD (mCons (mVar 2) mNil)) (gmTup 2 (gmCons (gmName 4) (gmCons (gmName 5) gmNil))) (sFor (mItA rangeD1 (mCons (mCall F_signs_of (mCons (mVar 0) mNil)) mNil)) (gmName 6) (sIf (mAnd (mTest (mOp neD (mOp ixD (mC (.str "0123456789abcdefghijklmnopqrstuvwxyzABCDEFGHIJKLMNOPQRSTUVWXYZ ./-")) (mVar 6)) (mVar 5))) (mTest (mOp eqD (mOp modD (mOp mulV (mOp ixD (mVar 1) (mOp modD (mVar 4) (mCB lenD (mCons (mVar 1) mNil)))) (mOp subD (mVar 6) (mMt "str" sindexD (mC (.str "0123456789abcdefghijklmnopqrstuvwxyzABCDEFGHIJKLMNOPQRSTUVWXYZ ./-")) (mCons (mVar 5) mNil)))) (mVar 0)) (mC (.int 0))))) (sAug 3 iaddD (mC (.int 1))) sNext))) (sRet (mTup (mCons (mVar 3) (mCons (mOp mulV (mCB lenD (mCons (mVar 2) mNil)) (mOp subD (mCall F_signs_of (mCons (mVar 0) mNil)) (mC (.int 1)))) mNil)))))))))
def F_missed_share : FM := mDef 7 m_missed_share
theorem ok_missed_share (G : Fct PR K mg fa fn es (exT PR es)) : OkF PR w K mg base (mkC K fn es) "missed_share" ["modulus", "weights", "text"] 4 F_missed_share := by
  refine ⟨okE (G.def_ 19 _ rfl) sc_missed_share (by decide) ?_, G.glo 19 _ rfl, (G.def_ 19 _ rfl).kp, (G.def_ 19 _ rfl).bindsN fun _ _ _ _ _ _ us hl => match us, hl with | [_, _, _], _ => rfl⟩
  intro cdv A outer s H E hr tk po
  unfold m_missed_share
  exact (z_cons (z_expr (e_fn (ok_check_code G) (hr.mono (by decide)) tk rfl (a_cons (e_var rfl (by walk_at "vs")) (a_cons (e_var rfl (by walk_at "vs")) a_nil)) (argN_cons (argN_cons argN_nil)))) (z_cons (z_expr (e_fn (ok_check_text G) (hr.mono (by decide)) tk rfl (a_cons (e_var rfl (by walk_at "vs")) (a_cons (e_var rfl (by walk_at "vs")) a_nil)) (argN_cons (argN_cons argN_nil)))) (z_cons (z_if (t_cmp (ne_ok rfl (rm64 hr)) (e_fn (ok_sum_of G) (hr.mono (by decide)) tk rfl (a_cons (e_var rfl (by walk_at "vs")) (a_cons (e_var rfl (by walk_at "vs")) (a_cons (e_var rfl (by walk_at "vs")) a_nil))) (argN_cons (argN_cons (argN_cons argN_nil)))) e_int rfl) (z_one (z_rs (okr_ArgumentError G) (hr.mono (by decide)) rfl tk rfl e_str)) z_nil) (z_cons (z_set nd_missed_share rfl (by walk_at "lc") e_int rfl (by walk_at "fl")) (z_cons (z_for (ts := [4, 5]) po rfl (i_enum rfl rfl (G.free 36 _ rfl) (a_cons (e_var rfl (by walk_at "vs")) a_nil)) (g_tup rfl rfl (gs_cons (g_name nd_missed_share rfl (by walk_at "lc") (by walk_at "fl") (by decide)) (gs_cons (g_name nd_missed_share rfl (by walk_at "lc") (by walk_at "fl") (by decide)) gs_nil))) (z_one (z_for (ts := [6]) po rfl (i_rng1 rfl (G.free 42 _ rfl) (a_cons (e_fn (ok_signs_of G) (hr.mono (by decide)) tk rfl (a_cons (e_var rfl (by walk_at "vs")) a_nil) (argN_cons argN_nil)) a_nil)) (g_name nd_missed_share rfl (by walk_at "lc") (by walk_at "fl") (by decide)) (z_one (z_if (PW.pt (w_and (t_cmp (ne_ok rfl (rm64 hr)) (e_ix (ix_ok rfl) (e_gs (G.str 31 _ _ rfl) rfl) (e_var rfl (by walk_at "vs")) (fun _ _ => rfl)) (e_var rfl (by walk_at "vs")) rfl) (pw_and1 (t_cmp (eq_ok rfl (rm64 hr)) (e_op mod_ok (e_op (mul_ok rfl) (e_ix (ix_ok rfl) (e_var rfl (by walk_at "vs")) (e_op mod_ok (e_var rfl (by walk_at "vs")) (e_cb (len_ok rfl) rfl (G.free 39 _ rfl) rfl (a_cons (e_var rfl (by walk_at "vs")) a_nil))) (fun _ _ => rfl)) (e_op sub_ok (e_var rfl (by walk_at "vs")) (e_bm rfl PySem.F.plainAttrs_str PySem.F.slot_str_index PySem.F.type_str_index sindex_ok (e_gs (G.str 31 _ _ rfl) rfl) (a_cons (e_var rfl (by walk_at "vs")) a_nil)))) (e_var rfl (by walk_at "vs"))) e_int rfl)))) (z_one (z_aug nd_missed_share rfl (by walk_at "lc") e_int iadd_ok (by walk_at "fl"))) z_nil)) (fun _ => rfl))) (fun _ => rfl)) (z_one (z_ret (e_tup (a_cons (e_var rfl (by walk_at "vs")) (a_cons (e_op (mul_ok rfl) (e_cb (len_ok rfl) rfl (G.free 39 _ rfl) rfl (a_cons (e_var rfl (by walk_at "vs")) a_nil)) (e_op sub_ok (e_fn (ok_signs_of G) (hr.mono (by decide)) tk rfl (a_cons (e_var rfl (by walk_at "vs")) a_nil) (argN_cons argN_nil)) e_int)) a_nil))))))))))
abbrev N__law_start : List Str := ["script", "seed", "cell"]
theorem nd__law_start : N__law_start.Nodup := by decide +kernel
theorem sc__law_start : FnScope N__law_start ["script"] (defScope s__law_start) := ⟨rfl, rfl, rfl, nd__law_start, rfl, by decide +kernel, by decide +kernel⟩
def m__law_start : SM := (sSeq (sAsg (mC (.int 7)) (gmName 1)) (sSeq (sFor (mIt (mVar 0)) (gmName 2) (sAsg (mOp addD (mOp modD (mCB intD (mCons (mOp addD (mOp mulV (mVar 1) (mC (.int 48271))) (mVar 2)) mNil)) (mC (.int 2147483629))) (mC (.int 1))) (gmName 1))) (sRet (mLoc (mCons (mCB lstD (mCons (mVar 0) mNil)) (mCons (mC (.int 0)) (mCons (mC (.int 0)) (mCons (mVar 1) mNil))))))))
def F__law_start : FM := mDef 3 m__law_start
theorem ok__law_start (G : Fct PR K mg fa fn es (exT PR es)) : OkF PR w K mg base (mkC K fn es) "_law_start" ["script"] 1 F__law_start := by
  refine ⟨okE (G.def_ 20 _ rfl) sc__law_start (by decide) ?_, G.glo 20 _ rfl, (G.def_ 20 _ rfl).kp, (G.def_ 20 _ rfl).bindsN fun _ _ _ _ _ _ us hl => match us, hl with | [_], _ => rfl⟩
  intro cdv A outer s H E hr tk po
  unfold m__law_start
  exact (z_cons (z_set nd__law_start rfl (by walk_at "lc") e_int rfl (by walk_at "fl")) (z_cons (z_for (ts := [2]) po rfl (i_seq rfl (e_var rfl (by walk_at "vs"))) (g_name nd__law_start rfl (by walk_at "lc") (by walk_at "fl") (by decide)) (z_one (z_set nd__law_start rfl (by walk_at "lc") (e_op (add_ok rfl) (e_op mod_ok (e_ct int_ok rfl (G.free 37 _ rfl) rfl (a_cons (e_op (add_ok rfl) (e_op (mul_ok rfl) (e_var rfl (by walk_at "vs")) e_int) (e_var rfl (by walk_at "vs"))) a_nil)) e_int) e_int) rfl (by walk_at "fl"))) (fun _ => rfl)) (z_one (z_ret (e_loc (a_cons (e_ct (list_ok rfl) rfl (G.free 40 _ rfl) rfl (a_cons (e_var rfl (by walk_at "vs")) a_nil)) (a_cons e_int (a_cons e_int (a_cons (e_var rfl (by walk_at "vs")) a_nil)))))))))
abbrev N__law_draw : List Str := ["state", "many", "value"]
theorem nd__law_draw : N__law_draw.Nodup := by decide +kernel
theorem sc__law_draw : FnScope N__law_draw ["state", "many"] (defScope s__law_draw) := ⟨rfl, rfl, rfl, nd__law_draw, rfl, by decide +kernel, by decide +kernel⟩
def m__law_draw : SM := (sSeq (sIf (mAnd (mTest (mOp eqD (mOp ixD (mVar 0) (mC (.int 1))) (mC (.int 0)))) (mTest (mOp geD (mOp ixD (mVar 0) (mC (.int 2))) (mCB lenD (mCons (mOp ixD (mVar 0) (mC (.int 0))) mNil))))) (sSeq (sAsg (mOp modD (mCB intD (mCons (mOp addD (mOp mulV (mOp ixD (mVar 0) (mC (.int 3))) (mC (.int 48271))) (mC (.int 69621))) mNil)) (mC (.int 2147483629))) (gmSub (mVar 0) (mC (.int 3)))) (sRet (mOp modD (mCB intD (mCons (mOp fdivD (mOp ixD (mVar 0) (mC (.int 3))) (mC (.int 13))) mNil)) (mVar 1)))) sNext) (sSeq (sIf (mTest (mOp eqD (mOp ixD (mVar 0) (mC (.int 1))) (mC (.int 0)))) (sSeq (sAsg (mCB absD (mCons (mOp ixD (mOp ixD (mVar 0) (mC (.int 0))) (mOp ixD (mVar 0) (mC (.int 2)))) mNil)) (gmSub (mVar 0) (mC (.int 1)))) (sAsg (mOp addD (mOp ixD (mVar 0) (mC (.int 2))) (mC (.int 1))) (gmSub (mVar 0) (mC (.int 2))))) sNext) (sSeq (sAsg (mOp modD (mCB intD (mCons (mOp ixD (mVar 0) (mC (.int 1))) mNil)) (mVar 1)) (gmName 2)) (sSeq (sAsg (mOp fdivD (mOp ixD (mVar 0) (mC (.int 1))) (mVar 1)) (gmSub (mVar 0) (mC (.int 1)))) (sRet (mVar 2))))))
def F__law_draw : FM := mDef 3 m__law_draw
theorem ok__law_draw (G : Fct PR K mg fa fn es (exT PR es)) : OkF PR w K mg base (mkC K fn es) "_law_draw" ["state", "many"] 1 F__law_draw := by
  refine ⟨okE (G.def_ 21 _ rfl) sc__law_draw (by decide) ?_, G.glo 21 _ rfl, (G.def_ 21 _ rfl).kp, (G.def_ 21 _ rfl).bindsN fun _ _ _ _ _ _ us hl => match us, hl with | [_, _], _ => rfl⟩
  intro cdv A outer s H E hr tk po
  unfold m__law_draw
  exact (z_cons (z_if (PW.pt (w_and (t_cmp (eq_ok rfl (rm64 hr)) (e_ix (ix_ok rfl) (e_var rfl (by walk_at "vs")) e_int (fun _ _ => rfl)) e_int rfl) (pw_and1 (t_cmp ge_ok (e_ix (ix_ok rfl) (e_var rfl (by walk_at "vs")) e_int (fun _ _ => rfl)) (e_cb (len_ok rfl) rfl (G.free 39 _ rfl) rfl (a_cons (e_ix (ix_ok rfl) (e_var rfl (by walk_at "vs")) e_int (fun _ _ => rfl)) a_nil)) rfl)))) (z_cons (z_asg (ts := []) (e_op mod_ok (e_ct int_ok rfl (G.free 37 _ rfl) rfl (a_cons (e_op (add_ok rfl) (e_op (mul_ok rfl) (e_ix (ix_ok rfl) (e_var rfl (by walk_at "vs")) e_int (fun _ _ => rfl)) e_int) e_int) a_nil)) e_int) (g_sub (e_var rfl (by walk_at "vs")) e_int)) (z_one (z_ret (e_op mod_ok (e_ct int_ok rfl (G.free 37 _ rfl) rfl (a_cons (e_op fdiv_ok (e_ix (ix_ok rfl) (e_var rfl (by walk_at "vs")) e_int (fun _ _ => rfl)) e_int) a_nil)) (e_var rfl (by walk_at "vs")))))) z_nil) (z_cons (z_if (t_cmp (eq_ok rfl (rm64 hr)) (e_ix (ix_ok rfl) (e_var rfl (by walk_at "vs")) e_int (fun _ _ => rfl)) e_int rfl) (z_cons (z_asg (ts := []) (e_cb abs_ok rfl (G.free 33 _ rfl) rfl (a_cons (e_ix (ix_ok rfl) (e_ix (ix_ok rfl) (e_var rfl (by walk_at "vs")) e_int (fun _ _ => rfl)) (e_ix (ix_ok rfl) (e_var rfl (by walk_at "vs")) e_int (fun _ _ => rfl)) (fun _ _ => rfl)) a_nil)) (g_sub (e_var rfl (by walk_at "vs")) e_int)) (z_one (z_asg (ts := []) (e_op (add_ok rfl) (e_ix (ix_ok rfl) (e_var rfl (by walk_at "vs")) e_int (fun _ _ => rfl)) e_int) (g_sub (e_var rfl (by walk_at "vs")) e_int)))) z_nil) (z_cons (z_set nd__law_draw rfl (by walk_at "lc") (e_op mod_ok (e_ct int_ok rfl (G.free 37 _ rfl) rfl (a_cons (e_ix (ix_ok rfl) (e_var rfl (by walk_at "vs")) e_int (fun _ _ => rfl)) a_nil)) (e_var rfl (by walk_at "vs"))) rfl (by walk_at "fl")) (z_cons (z_asg (ts := []) (e_op fdiv_ok (e_ix (ix_ok rfl) (e_var rfl (by walk_at "vs")) e_int (fun _ _ => rfl)) (e_var rfl (by walk_at "vs"))) (g_sub (e_var rfl (by walk_at "vs")) e_int)) (z_one (z_ret (e_var rfl (by walk_at "vs"))))))))
abbrev N__law_told : List Str := ["which", "a", "b", "c", "d", "error", "found"]
theorem nd__law_told : N__law_told.Nodup := by decide +kernel
theorem sc__law_told : FnScope N__law_told ["which", "a", "b", "c", "d"] (defScope s__law_told) := ⟨rfl, rfl, rfl, nd__law_told, rfl, by decide +kernel, by decide +kernel⟩
def m__law_told : SM := (sSeq (sTry (sIf (mTest (mOp eqD (mVar 0) (mC (.int 0)))) (sRet (mCall F_accept_missed (mCons (mVar 1) (mCons (mVar 2) (mCons (mVar 3) (mCons (mVar 4) mNil)))))) (sIf (mTest (mOp eqD (mVar 0) (mC (.int 1)))) (sDrop (mCall F_check_sum (mCons (mVar 1) (mCons (mVar 2) (mCons (mVar 3) mNil))))) (sIf (mTest (mOp eqD (mVar 0) (mC (.int 2)))) (sDrop (mCall F_is_guarded (mCons (mVar 1) (mCons (mVar 2) (mCons (mVar 3) mNil))))) (sIf (mTest (mOp eqD (mVar 0) (mC (.int 3)))) (sDrop (mCall F_guards_of (mCons (mVar 1) (mCons (mVar 2) (mCons (mVar 3) mNil))))) (sIf (mTest (mOp eqD (mVar 0) (mC (.int 4)))) (sDrop (mCall F_repairs (mCons (mVar 1) (mCons (mVar 2) (mCons (mVar 3) mNil))))) (sIf (mTest (mOp eqD (mVar 0) (mC (.int 5)))) (sDrop (mCall F_turn_repairs (mCons (mVar 1) (mCons (mVar 2) (mCons (mVar 3) mNil))))) (sIf (mTest (mOp eqD (mVar 0) (mC (.int 6)))) (sDrop (mCall F_filled (mCons (mVar 1) (mCons (mVar 2) (mCons (mVar 3) (mCons (mVar 4) mNil)))))) (sIf (mTest (mOp eqD (mVar 0) (mC (.int 7)))) (sDrop (mCall F_missed_share (mCons (mVar 1) (mCons (mVar 2) (mCons (mVar 3) mNil))))) (sIf (mTest (mOp eqD (mVar 0) (mC (.int 8)))) (sDrop (mCall F_judge_changes (mCons (mVar 1) (mCons (mVar 2) mNil)))) (sIf (mTest (mOp eqD (mVar 0) (mC (.int 9)))) (sDrop (mCall F_judge_turns (mCons (mVar 1) (mCons (mVar 2) mNil)))) (sDrop (mCall F_good_weights (mCons (mVar 1) (mCons (mVar 2) mNil)))))))))))))) (tbV es) 5 (sSeq (sAsg (mLst (mCons (mIsE (tbC es 0) (mVar 5)) (mCons (mIsE (tbC es 1) (mVar 5)) (mCons (mIsE (tbC es 2) (mVar 5)) mNil)))) (gmName 6)) (sSeq (sIf (mOr (mNot (mTru (mIsE (tbV es) (mVar 5)))) (mTest (mOp neD (mMt "list" countD (mVar 6) (mCons (mC (.bl true)) mNil)) (mC (.int 1))))) (sRet (mC (.str "other"))) sNext) (sRet (mOp addD (mOp ixD (mLst (mCons (mC (.str "kind ")) (mCons (mC (.str "argument ")) (mCons (mC (.str "")) mNil)))) (mMt "list" indexD (mVar 6) (mCons (mC (.bl true)) mNil))) (mXf [0, 1, 2] (mVar 5))))))) (sRet (mC .non)))
def F__law_told : FM := mDef 7 m__law_told
theorem ok__law_told (G : Fct PR K mg fa fn es (exT PR es)) : OkF PR w K mg base (mkC K fn es) "_law_told" ["which", "a", "b", "c", "d"] 6 F__law_told := by
  refine ⟨okE (G.def_ 22 _ rfl) sc__law_told (by decide) ?_, G.glo 22 _ rfl, (G.def_ 22 _ rfl).kp, (G.def_ 22 _ rfl).bindsN fun _ _ _ _ _ _ us hl => match us, hl with | [_, _, _, _, _], _ => rfl⟩
  intro cdv A outer s H E hr tk po
  unfold m__law_told
  exact (z_cons (z_try rfl rfl nd__law_told (i := 5) rfl rfl ⟨rfl, by decide, .inl (G.glo 27 _ rfl)⟩ tk (yes_ok G) (fun _ _ _ tk2 po2 => (z_one (z_if (t_cmp (eq_ok rfl (rm64 hr)) (e_var rfl (by walk_at "vs")) e_int rfl) (z_one (z_ret (e_fn (ok_accept_missed G) (hr.mono (by decide)) tk2 rfl (a_cons (e_var rfl (by walk_at "vs")) (a_cons (e_var rfl (by walk_at "vs")) (a_cons (e_var rfl (by walk_at "vs")) (a_cons (e_var rfl (by walk_at "vs")) a_nil)))) (argN_cons (argN_cons (argN_cons (argN_cons argN_nil))))))) (z_one (z_if (t_cmp (eq_ok rfl (rm64 hr)) (e_var rfl (by walk_at "vs")) e_int rfl) (z_one (z_expr (e_fn (ok_check_sum G) (hr.mono (by decide)) tk2 rfl (a_cons (e_var rfl (by walk_at "vs")) (a_cons (e_var rfl (by walk_at "vs")) (a_cons (e_var rfl (by walk_at "vs")) a_nil))) (argN_cons (argN_cons (argN_cons argN_nil)))))) (z_one (z_if (t_cmp (eq_ok rfl (rm64 hr)) (e_var rfl (by walk_at "vs")) e_int rfl) (z_one (z_expr (e_fn (ok_is_guarded G) (hr.mono (by decide)) tk2 rfl (a_cons (e_var rfl (by walk_at "vs")) (a_cons (e_var rfl (by walk_at "vs")) (a_cons (e_var rfl (by walk_at "vs")) a_nil))) (argN_cons (argN_cons (argN_cons argN_nil)))))) (z_one (z_if (t_cmp (eq_ok rfl (rm64 hr)) (e_var rfl (by walk_at "vs")) e_int rfl) (z_one (z_expr (e_fn (ok_guards_of G) (hr.mono (by decide)) tk2 rfl (a_cons (e_var rfl (by walk_at "vs")) (a_cons (e_var rfl (by walk_at "vs")) (a_cons (e_var rfl (by walk_at "vs")) a_nil))) (argN_cons (argN_cons (argN_cons argN_nil)))))) (z_one (z_if (t_cmp (eq_ok rfl (rm64 hr)) (e_var rfl (by walk_at "vs")) e_int rfl) (z_one (z_expr (e_fn (ok_repairs G) (hr.mono (by decide)) tk2 rfl (a_cons (e_var rfl (by walk_at "vs")) (a_cons (e_var rfl (by walk_at "vs")) (a_cons (e_var rfl (by walk_at "vs")) a_nil))) (argN_cons (argN_cons (argN_cons argN_nil)))))) (z_one (z_if (t_cmp (eq_ok rfl (rm64 hr)) (e_var rfl (by walk_at "vs")) e_int rfl) (z_one (z_expr (e_fn (ok_turn_repairs G) (hr.mono (by decide)) tk2 rfl (a_cons (e_var rfl (by walk_at "vs")) (a_cons (e_var rfl (by walk_at "vs")) (a_cons (e_var rfl (by walk_at "vs")) a_nil))) (argN_cons (argN_cons (argN_cons argN_nil)))))) (z_one (z_if (t_cmp (eq_ok rfl (rm64 hr)) (e_var rfl (by walk_at "vs")) e_int rfl) (z_one (z_expr (e_fn (ok_filled G) (hr.mono (by decide)) tk2 rfl (a_cons (e_var rfl (by walk_at "vs")) (a_cons (e_var rfl (by walk_at "vs")) (a_cons (e_var rfl (by walk_at "vs")) (a_cons (e_var rfl (by walk_at "vs")) a_nil)))) (argN_cons (argN_cons (argN_cons (argN_cons argN_nil))))))) (z_one (z_if (t_cmp (eq_ok rfl (rm64 hr)) (e_var rfl (by walk_at "vs")) e_int rfl) (z_one (z_expr (e_fn (ok_missed_share G) (hr.mono (by decide)) tk2 rfl (a_cons (e_var rfl (by walk_at "vs")) (a_cons (e_var rfl (by walk_at "vs")) (a_cons (e_var rfl (by walk_at "vs")) a_nil))) (argN_cons (argN_cons (argN_cons argN_nil)))))) (z_one (z_if (t_cmp (eq_ok rfl (rm64 hr)) (e_var rfl (by walk_at "vs")) e_int rfl) (z_one (z_expr (e_fn (ok_judge_changes G) (hr.mono (by decide)) tk2 rfl (a_cons (e_var rfl (by walk_at "vs")) (a_cons (e_var rfl (by walk_at "vs")) a_nil)) (argN_cons (argN_cons argN_nil))))) (z_one (z_if (t_cmp (eq_ok rfl (rm64 hr)) (e_var rfl (by walk_at "vs")) e_int rfl) (z_one (z_expr (e_fn (ok_judge_turns G) (hr.mono (by decide)) tk2 rfl (a_cons (e_var rfl (by walk_at "vs")) (a_cons (e_var rfl (by walk_at "vs")) a_nil)) (argN_cons (argN_cons argN_nil))))) (z_one (z_expr (e_fn (ok_good_weights G) (hr.mono (by decide)) tk2 rfl (a_cons (e_var rfl (by walk_at "vs")) (a_cons (e_var rfl (by walk_at "vs")) a_nil)) (argN_cons (argN_cons argN_nil)))))))))))))))))))))))))) (fun _ _ _ => (z_cons (z_set nd__law_told rfl (by walk_at "lc") (e_lst (a_cons (e_isE List.mem_cons_self rfl (G.free 38 _ rfl) (e_var rfl (by walk_at "vs")) (pe_glob (v := .ref _) rfl (G.err 0 _ rfl).glo rfl) (.own _) (tbC_ok G 0 rfl)) (a_cons (e_isE List.mem_cons_self rfl (G.free 38 _ rfl) (e_var rfl (by walk_at "vs")) (pe_glob (v := .ref _) rfl (G.err 1 _ rfl).glo rfl) (.own _) (tbC_ok G 1 rfl)) (a_cons (e_isE List.mem_cons_self rfl (G.free 38 _ rfl) (e_var rfl (by walk_at "vs")) (pe_glob (v := .ref _) rfl (G.err 2 _ rfl).glo rfl) (.own _) (tbC_ok G 2 rfl)) a_nil)))) rfl (by walk_at "fl")) (z_cons (z_if (PW.pt (w_or (t_not (t_tru rfl (e_isE List.mem_cons_self rfl (G.free 38 _ rfl) (e_var rfl (by walk_at "vs")) (pe_bltn (v := .ty _) rfl (G.free 32 _ rfl) rfl rfl (by decide)) (.ty _) (tbV_ok G)) (fun _ => rfl))) (pw_or1 (t_cmp (ne_ok rfl (let z := rm64 hr; z)) (e_bm rfl PySem.F.plainAttrs_list PySem.F.slot_list_count PySem.F.type_list_count (count_ok rfl) (e_var rfl (by walk_at "vs")) (a_cons e_bl a_nil)) e_int rfl)))) (z_one (z_ret e_str)) z_nil) (z_one (z_ret (e_op (add_ok rfl) (e_ix (ix_ok rfl) (e_lst (a_cons e_str (a_cons e_str (a_cons e_str a_nil)))) (e_bm rfl PySem.F.plainAttrs_list PySem.F.slot_list_index PySem.F.type_list_index (index_ok rfl) (e_var rfl (by walk_at "vs")) (a_cons e_bl a_nil)) (fun _ _ => rfl)) (e_xf List.mem_cons_self (e_var rfl (by walk_at "vs")) (xfC G rfl))))))))) (z_one (z_ret e_non)))
abbrev N__law_signs : List Str := ["modulus"]
theorem nd__law_signs : N__law_signs.Nodup := by decide +kernel
theorem sc__law_signs : FnScope N__law_signs ["modulus"] (defScope s__law_signs) := ⟨rfl, rfl, rfl, nd__law_signs, rfl, by decide +kernel, by decide +kernel⟩
def m__law_signs : SM := (sRet (mSl (mC (.str "0123456789abcdefghijklmnopqrstuvwxyzABCDEFGHIJKLMNOPQRSTUVWXYZ ./-")) mNoPart (mPart (mVar 0))))
def F__law_signs : FM := mDef 1 m__law_signs
theorem ok__law_signs (G : Fct PR K mg fa fn es (exT PR es)) : OkF PR w K mg base (mkC K fn es) "_law_signs" ["modulus"] 1 F__law_signs := by
  refine ⟨okE (G.def_ 23 _ rfl) sc__law_signs (by decide) ?_, G.glo 23 _ rfl, (G.def_ 23 _ rfl).kp, (G.def_ 23 _ rfl).bindsN fun _ _ _ _ _ _ us hl => match us, hl with | [_], _ => rfl⟩
  intro cdv A outer s H E hr tk po
  unfold m__law_signs
  exact (z_one (z_ret (e_sl rfl e_str o_none (o_some (e_var rfl (by walk_at "vs"))))))
abbrev N__law_sum : List Str := ["modulus", "weights", "text", "signs", "k"]
theorem nd__law_sum : N__law_sum.Nodup := by decide +kernel
theorem sc__law_sum : FnScope N__law_sum ["modulus", "weights", "text"] (defScope s__law_sum) := ⟨rfl, rfl, rfl, nd__law_sum, rfl, by decide +kernel, by decide +kernel⟩
def m__law_sum : SM := (sSeq (sAsg (mCall F__law_signs (mCons (mVar 0) mNil)) (gmName 3)) (sRet (mOp modD (mCB sumD (mCons (mLc (mItA rangeD1 (mCons (mCB lenD (mCons (mVar 2) mNil)) mNil)) (gmName 4) mYes (mOp mulV (mMt "str" sindexD (mVar 3) (mCons (mOp ixD (mVar 2) (mVar 4)) mNil)) (mOp ixD (mVar 1) (mOp modD (mVar 4) (mCB lenD (mCons (mVar 1) mNil))))) [4]) mNil)) (mVar 0))))
def F__law_sum : FM := mDef 5 m__law_sum
theorem ok__law_sum (G : Fct PR K mg fa fn es (exT PR es)) : OkF PR w K mg base (mkC K fn es) "_law_sum" ["modulus", "weights", "text"] 2 F__law_sum := by
  refine ⟨okE (G.def_ 24 _ rfl) sc__law_sum (by decide) ?_, G.glo 24 _ rfl, (G.def_ 24 _ rfl).kp, (G.def_ 24 _ rfl).bindsN fun _ _ _ _ _ _ us hl => match us, hl with | [_, _, _], _ => rfl⟩
  intro cdv A outer s H E hr tk po
  unfold m__law_sum
  exact (z_cons (z_set nd__law_sum rfl (by walk_at "lc") (e_fn (ok__law_signs G) (hr.mono (by decide)) tk rfl (a_cons (e_var rfl (by walk_at "vs")) a_nil) (argN_cons argN_nil)) rfl (by walk_at "fl")) (z_one (z_ret (e_op mod_ok (e_cb (sum_ok rfl rfl) rfl (G.free 45 _ rfl) rfl (a_cons (e_LC [("k", 4)] ⟨rfl, nd__law_sum, (i_rng1 rfl (G.free 42 _ rfl) (a_cons (e_cb (len_ok rfl) rfl (G.free 39 _ rfl) rfl (a_cons (e_var rfl (by walk_at "vs")) a_nil)) a_nil)), by walk_at "blk", fun _ _ _ _ _ => (g_name nd__law_sum rfl (by walk_at "lc") (by walk_at "fl") (by decide)), fun _ _ _ _ _ => ts_nil, fun _ _ _ _ _ => (e_op (mul_ok rfl) (e_bm rfl PySem.F.plainAttrs_str PySem.F.slot_str_index PySem.F.type_str_index sindex_ok (e_var rfl (by walk_at "vs")) (a_cons (e_ix (ix_ok rfl) (e_var rfl (by walk_at "vs")) (e_var rfl (by walk_at "vs")) (fun _ _ => rfl)) a_nil)) (e_ix (ix_ok rfl) (e_var rfl (by walk_at "vs")) (e_op mod_ok (e_var rfl (by walk_at "vs")) (e_cb (len_ok rfl) rfl (G.free 39 _ rfl) rfl (a_cons (e_var rfl (by walk_at "vs")) a_nil))) (fun _ _ => rfl))), fun _ => rfl⟩) a_nil)) (e_var rfl (by walk_at "vs"))))))
abbrev N__law_due : List Str := ["modulus", "weights", "one", "other", "signs", "text", "places", "k", "at", "beside", "sign"]
theorem nd__law_due : N__law_due.Nodup := by decide +kernel
theorem sc__law_due : FnScope N__law_due ["modulus", "weights", "one", "other"] (defScope s__law_due) := ⟨rfl, rfl, rfl, nd__law_due, rfl, by decide +kernel, by decide +kernel⟩
def m__law_due : SM := (sSeq (sAsg (mCall F__law_signs (mCons (mVar 0) mNil)) (gmName 4)) (sSeq (sFor (mIt (mTup (mCons (mVar 2) (mCons (mVar 3) mNil)))) (gmName 5) (sIf (mOr (mNot (mTru (mIsT "str" (mVar 5)))) (mOr (mTest (mOp gtD (mCB lenD (mCons (mVar 5) mNil)) (mC (.int 4000)))) (mTru (mLc (mIt (mVar 5)) (gmName 10) (mTest (mOp ninD (mVar 10) (mVar 4))) (mVar 10) [10])))) (sRet (mC (.str "form"))) sNext)) (sSeq (sIf (mTest (mOp neD (mCB lenD (mCons (mVar 2) mNil)) (mCB lenD (mCons (mVar 3) mNil)))) (sRet (mC (.str "form"))) sNext) (sSeq (sAsg (mLc (mItA rangeD1 (mCons (mCB lenD (mCons (mVar 2) mNil)) mNil)) (gmName 7) (mTest (mOp neD (mOp ixD (mVar 2) (mVar 7)) (mOp ixD (mVar 3) (mVar 7)))) (mVar 7) [7]) (gmName 6)) (sSeq (sIf (mTest (mOp eqD (mCB lenD (mCons (mVar 6) mNil)) (mC (.int 2)))) (sSeq (sAsg (mVar 6) (gmUnp 2 (gmCons (gmName 8) (gmCons (gmName 9) gmNil)))) (sIf (mOr (mTest (mOp neD (mVar 9) (mOp addD (mVar 8) (mC (.int 1))))) (mTest (mOp neD (mOp addD (mOp ixD (mVar 2) (mVar 8)) (mOp ixD (mVar 2) (mVar 9))) (mOp addD (mOp ixD (mVar 3) (mVar 9)) (mOp ixD (mVar 3) (mVar 8)))))) (sRet (mC (.str "change"))) sNext)) (sIf (mTest (mOp neD (mCB lenD (mCons (mVar 6) mNil)) (mC (.int 1)))) (sRet (mC (.str "change"))) sNext)) (sRet (mIf (mTest (mOp eqD (mCall F__law_sum (mCons (mVar 0) (mCons (mVar 1) (mCons (mVar 2) mNil)))) (mCall F__law_sum (mCons (mVar 0) (mCons (mVar 1) (mCons (mVar 3) mNil)))))) (mC .non) (mC (.str "sum")))))))))
def F__law_due : FM := mDef 11 m__law_due
theorem ok__law_due (G : Fct PR K mg fa fn es (exT PR es)) : OkF PR w K mg base (mkC K fn es) "_law_due" ["modulus", "weights", "one", "other"] 3 F__law_due := by
  refine ⟨okE (G.def_ 25 _ rfl) sc__law_due (by decide) ?_, G.glo 25 _ rfl, (G.def_ 25 _ rfl).kp, (G.def_ 25 _ rfl).bindsN fun _ _ _ _ _ _ us hl => match us, hl with | [_, _, _, _], _ => rfl⟩
  intro cdv A outer s H E hr tk po
  unfold m__law_due
  exact (z_cons (z_set nd__law_due rfl (by walk_at "lc") (e_fn (ok__law_signs G) (hr.mono (by decide)) tk rfl (a_cons (e_var rfl (by walk_at "vs")) a_nil) (argN_cons argN_nil)) rfl (by walk_at "fl")) (z_cons (z_for (ts := [5]) po rfl (i_seq rfl (e_tup (a_cons (e_var rfl (by walk_at "vs")) (a_cons (e_var rfl (by walk_at "vs")) a_nil)))) (g_name nd__law_due rfl (by walk_at "lc") (by walk_at "fl") (by decide)) (z_one (z_if (PW.pt (w_or (t_not (t_tru rfl (e_isT rfl rfl (G.free 38 _ rfl) (e_var rfl (by walk_at "vs")) (pe_bltn (v := .ty _) rfl (G.free 44 _ rfl) rfl rfl (by decide))) (fun _ => rfl))) (w_or (t_cmp gt_ok (e_cb (len_ok rfl) rfl (G.free 39 _ rfl) rfl (a_cons (e_var rfl (by walk_at "vs")) a_nil)) e_int rfl) (pw_or1 (t_tru rfl (e_LC [("sign", 10)] ⟨rfl, nd__law_due, (i_seq rfl (e_var rfl (by walk_at "vs"))), by walk_at "blk", fun _ _ _ _ _ => (g_name nd__law_due rfl (by walk_at "lc") (by walk_at "fl") (by decide)), fun _ _ _ _ _ => (ts_one (t_cmp (nin_ok rfl (rm65 hr)) (e_var rfl (by walk_at "vs")) (e_var rfl (by walk_at "vs")) rfl)), fun _ _ _ _ _ => (e_var rfl (by walk_at "vs")), fun _ => rfl⟩) (fun _ => rfl)))))) (z_one (z_ret e_str)) z_nil)) (fun _ => rfl)) (z_cons (z_if (t_cmp (ne_ok rfl (rm64 hr)) (e_cb (len_ok rfl) rfl (G.free 39 _ rfl) rfl (a_cons (e_var rfl (by walk_at "vs")) a_nil)) (e_cb (len_ok rfl) rfl (G.free 39 _ rfl) rfl (a_cons (e_var rfl (by walk_at "vs")) a_nil)) rfl) (z_one (z_ret e_str)) z_nil) (z_cons (z_LC [("k", 7)] ⟨rfl, nd__law_due, (i_rng1 rfl (G.free 42 _ rfl) (a_cons (e_cb (len_ok rfl) rfl (G.free 39 _ rfl) rfl (a_cons (e_var rfl (by walk_at "vs")) a_nil)) a_nil)), by walk_at "blk", fun _ _ _ _ _ => (g_name nd__law_due rfl (by walk_at "lc") (by walk_at "fl") (by decide)), fun _ _ _ _ _ => (ts_one (t_cmp (ne_ok rfl (rm64 hr)) (e_ix (ix_ok rfl) (e_var rfl (by walk_at "vs")) (e_var rfl (by walk_at "vs")) (fun _ _ => rfl)) (e_ix (ix_ok rfl) (e_var rfl (by walk_at "vs")) (e_var rfl (by walk_at "vs")) (fun _ _ => rfl)) rfl)), fun _ _ _ _ _ => (e_var rfl (by walk_at "vs")), fun _ => rfl⟩ rfl (by walk_at "lcl") rfl) (z_cons (z_if (t_cmp (eq_ok rfl (rm64 hr)) (e_cb (len_ok rfl) rfl (G.free 39 _ rfl) rfl (a_cons (e_var rfl (by walk_at "vs")) a_nil)) e_int rfl) (z_cons (z_asg (ts := [8, 9]) (e_var rfl (by walk_at "vs")) (g_unp rfl rfl (gs_cons (g_name nd__law_due rfl (by walk_at "lc") (by walk_at "fl") (by decide)) (gs_cons (g_name nd__law_due rfl (by walk_at "lc") (by walk_at "fl") (by decide)) gs_nil)))) (z_one (z_if (PW.pt (w_or (t_cmp (ne_ok rfl (rm64 hr)) (e_var rfl (by walk_at "vs")) (e_op (add_ok rfl) (e_var rfl (by walk_at "vs")) e_int) rfl) (pw_or1 (t_cmp (ne_ok rfl (rm64 hr)) (e_op (add_ok rfl) (e_ix (ix_ok rfl) (e_var rfl (by walk_at "vs")) (e_var rfl (by walk_at "vs")) (fun _ _ => rfl)) (e_ix (ix_ok rfl) (e_var rfl (by walk_at "vs")) (e_var rfl (by walk_at "vs")) (fun _ _ => rfl))) (e_op (add_ok rfl) (e_ix (ix_ok rfl) (e_var rfl (by walk_at "vs")) (e_var rfl (by walk_at "vs")) (fun _ _ => rfl)) (e_ix (ix_ok rfl) (e_var rfl (by walk_at "vs")) (e_var rfl (by walk_at "vs")) (fun _ _ => rfl))) rfl)))) (z_one (z_ret e_str)) z_nil))) (z_one (z_if (t_cmp (ne_ok rfl (rm64 hr)) (e_cb (len_ok rfl) rfl (G.free 39 _ rfl) rfl (a_cons (e_var rfl (by walk_at "vs")) a_nil)) e_int rfl) (z_one (z_ret e_str)) z_nil))) (z_one (z_ret (e_if (t_cmp (eq_ok rfl (rm64 hr)) (e_fn (ok__law_sum G) (hr.mono (by decide)) tk rfl (a_cons (e_var rfl (by walk_at "vs")) (a_cons (e_var rfl (by walk_at "vs")) (a_cons (e_var rfl (by walk_at "vs")) a_nil))) (argN_cons (argN_cons (argN_cons argN_nil)))) (e_fn (ok__law_sum G) (hr.mono (by decide)) tk rfl (a_cons (e_var rfl (by walk_at "vs")) (a_cons (e_var rfl (by walk_at "vs")) (a_cons (e_var rfl (by walk_at "vs")) a_nil))) (argN_cons (argN_cons (argN_cons argN_nil)))) rfl) e_non e_str))))))))
abbrev N_law : List Str := ["script", "state", "turn", "modulus", "weights", "signs", "k", "lost", "odd", "bad", "text", "one", "at", "swap", "new", "other", "which", "j"]
theorem nd_law : N_law.Nodup := by decide +kernel
theorem sc_law : FnScope N_law ["script"] (defScope s_law) := ⟨rfl, rfl, rfl, nd_law, rfl, by decide +kernel, by decide +kernel⟩
def m_law : SM := (sSeq (sAsg (mCall F__law_start (mCons (mVar 0) mNil)) (gmName 1)) (sSeq (sFor (mItA rangeD1 (mCons (mC (.int 4)) mNil)) (gmName 2) (sSeq (sAsg (mOp ixD (mLst (mCons (mC (.int 2)) (mCons (mC (.int 3)) (mCons (mC (.int 4)) (mCons (mC (.int 6)) (mCons (mC (.int 10)) (mCons (mC (.int 11)) (mCons (mC (.int 12)) (mCons (mC (.int 36)) (mCons (mC (.int 97)) mNil)))))))))) (mCall F__law_draw (mCons (mVar 1) (mCons (mC (.int 9)) mNil)))) (gmName 3)) (sSeq (sAsg (mCB tupD (mCons (mLc (mItA rangeD1 (mCons (mOp addD (mC (.int 1)) (mCall F__law_draw (mCons (mVar 1) (mCons (mC (.int 4)) mNil)))) mNil)) (gmName 6) mYes (mCall F__law_draw (mCons (mVar 1) (mCons (mVar 3) mNil))) [6]) mNil)) (gmName 4)) (sSeq (sAsg (mCall F__law_signs (mCons (mVar 3) mNil)) (gmName 5)) (sSeq (sFor (mItA rangeD1 (mCons (mC (.int 6)) mNil)) (gmName 6) (sSeq (sAsg (mMt "str" joinD (mC (.str "")) (mCons (mLc (mItA rangeD1 (mCons (mCall F__law_draw (mCons (mVar 1) (mCons (mC (.int 7)) mNil))) mNil)) (gmName 17) mYes (mOp ixD (mVar 5) (mCall F__law_draw (mCons (mVar 1) (mCons (mCB lenD (mCons (mVar 5) mNil)) mNil)))) [17]) mNil)) (gmName 11)) (sSeq (sAsg (mCall F__law_draw (mCons (mVar 1) (mCons (mOp addD (mCB lenD (mCons (mVar 11) mNil)) (mC (.int 1))) mNil))) (gmName 12)) (sSeq (sAsg (mOp addD (mOp addD (mOp addD (mSl (mVar 11) mNoPart (mPart (mVar 12))) (mSl (mVar 11) (mPart (mOp addD (mVar 12) (mC (.int 1)))) (mPart (mOp addD (mVar 12) (mC (.int 2)))))) (mSl (mVar 11) (mPart (mVar 12)) (mPart (mOp addD (mVar 12) (mC (.int 1)))))) (mSl (mVar 11) (mPart (mOp addD (mVar 12) (mC (.int 2)))) mNoPart)) (gmName 13)) (sSeq (sAsg (mOp addD (mOp addD (mSl (mVar 11) mNoPart (mPart (mVar 12))) (mOp ixD (mVar 5) (mCall F__law_draw (mCons (mVar 1) (mCons (mCB lenD (mCons (mVar 5) mNil)) mNil))))) (mSl (mVar 11) (mPart (mOp addD (mVar 12) (mC (.int 1)))) mNoPart)) (gmName 14)) (sSeq (sAsg (mOp ixD (mLst (mCons (mVar 11) (mCons (mVar 13) (mCons (mVar 13) (mCons (mVar 14) (mCons (mVar 14) (mCons (mSl (mVar 11) (mPart (mC (.int 1))) mNoPart) (mCons (mRev (mVar 11)) (mCons (mOp addD (mVar 11) (mOp ixD (mVar 5) (mC (.int 0)))) (mCons (mC .non) (mCons (mOp addD (mC (.str "~")) (mSl (mVar 11) (mPart (mC (.int 1))) mNoPart)) mNil))))))))))) (mCall F__law_draw (mCons (mVar 1) (mCons (mC (.int 10)) mNil)))) (gmName 15)) (sIf (mOr (mTest (mOp neD (mCall F__law_told (mCons (mC (.int 0)) (mCons (mVar 3) (mCons (mVar 4) (mCons (mVar 11) (mCons (mVar 15) mNil)))))) (mCall F__law_due (mCons (mVar 3) (mCons (mVar 4) (mCons (mVar 11) (mCons (mVar 15) mNil))))))) (mTest (mOp neD (mCall F__law_told (mCons (mC (.int 0)) (mCons (mVar 3) (mCons (mVar 4) (mCons (mVar 15) (mCons (mVar 11) mNil)))))) (mCall F__law_due (mCons (mVar 3) (mCons (mVar 4) (mCons (mVar 15) (mCons (mVar 11) mNil)))))))) (sRet (mC (.bl false))) sNext))))))) (sSeq (sAsg (mOp ixD (mLst (mCons (mC (.int 1)) (mCons (mC (.int 0)) (mCons (mUn negD (mC (.int 5))) (mCons (mC (.int 98)) (mCons (mC .non) (mCons (mC (.bl true)) (mCons (mC (.str "7")) (mCons (mOp powD (mC (.int 10)) (mC (.int 30))) mNil))))))))) (mCall F__law_draw (mCons (mVar 1) (mCons (mC (.int 8)) mNil)))) (gmName 7)) (sSeq (sIf (mTest (mOp neD (mLc (mItA rangeD1 (mCons (mC (.int 11)) mNil)) (gmName 16) mYes (mCall F__law_told (mCons (mVar 16) (mCons (mVar 7) (mCons (mC .non) (mCons (mC .non) (mCons (mC .non) mNil)))))) [16]) (mOp mulV (mLst (mCons (mC (.str "argument modulus")) mNil)) (mC (.int 11))))) (sRet (mC (.bl false))) sNext) (sSeq (sAsg (mOp ixD (mLst (mCons (mC .non) (mCons (mTup mNil) (mCons (mTup (mCons (mVar 3) mNil)) (mCons (mTup (mCons (mUn negD (mC (.int 1))) mNil)) (mCons (mOp mulV (mTup (mCons (mC (.int 1)) mNil)) (mC (.int 13))) (mCons (mTup (mCons (mC (.int 0)) (mCons (mC .non) mNil))) (mCons (mTup (mCons (mC (.bl true)) mNil)) (mCons (mC (.int 5)) mNil))))))))) (mCall F__law_draw (mCons (mVar 1) (mCons (mC (.int 8)) mNil)))) (gmName 8)) (sSeq (sIf (mTest (mOp neD (mLc (mItA rangeD1 (mCons (mC (.int 10)) mNil)) (gmName 16) mYes (mCall F__law_told (mCons (mVar 16) (mCons (mVar 3) (mCons (mVar 8) (mCons (mC .non) (mCons (mC .non) mNil)))))) [16]) (mOp mulV (mLst (mCons (mC (.str "argument weights")) mNil)) (mC (.int 10))))) (sRet (mC (.bl false))) sNext) (sSeq (sAsg (mOp ixD (mLst (mCons (mC .non) (mCons (mC (.int 5)) (mCons (mC (.str "~")) (mCons (mOp mulV (mC (.str "0")) (mC (.int 4001))) (mCons (mTup (mCons (mC (.str "0")) mNil)) (mCons (mC (.str "0
")) mNil))))))) (mCall F__law_draw (mCons (mVar 1) (mCons (mC (.int 6)) mNil)))) (gmName 9)) (sSeq (sIf (mTest (mOp neD (mLc (mIt (mTup (mCons (mC (.int 1)) (mCons (mC (.int 2)) (mCons (mC (.int 3)) (mCons (mC (.int 4)) (mCons (mC (.int 5)) (mCons (mC (.int 6)) (mCons (mC (.int 7)) mNil))))))))) (gmName 16) mYes (mCall F__law_told (mCons (mVar 16) (mCons (mVar 3) (mCons (mVar 4) (mCons (mVar 9) (mCons (mC .non) mNil)))))) [16]) (mOp mulV (mLst (mCons (mC (.str "argument text")) mNil)) (mC (.int 7))))) (sRet (mC (.bl false))) sNext) (sSeq (sIf (mOr (mTest (mOp neD (mCall F__law_told (mCons (mC (.int 3)) (mCons (mVar 3) (mCons (mVar 4) (mCons (mOp mulV (mC (.str "0")) (mC (.int 4000))) (mCons (mC .non) mNil)))))) (mC (.str "argument text")))) (mTest (mOp nisD (mCall F__law_told (mCons (mC (.int 1)) (mCons (mVar 3) (mCons (mVar 4) (mCons (mOp mulV (mC (.str "0")) (mC (.int 4000))) (mCons (mC .non) mNil)))))) (mC .non)))) (sRet (mC (.bl false))) sNext) (sSeq (sAsg (mMt "str" joinD (mC (.str "")) (mCons (mLc (mItA rangeD1 (mCons (mOp addD (mC (.int 1)) (mCall F__law_draw (mCons (mVar 1) (mCons (mC (.int 6)) mNil)))) mNil)) (gmName 17) mYes (mOp ixD (mVar 5) (mCall F__law_draw (mCons (mVar 1) (mCons (mCB lenD (mCons (mVar 5) mNil)) mNil)))) [17]) mNil)) (gmName 10)) (sSeq (sIf (mTest (mOp neD (mCall F__law_told (mCons (mC (.int 6)) (mCons (mVar 3) (mCons (mVar 4) (mCons (mVar 10) (mCons (mOp ixD (mLst (mCons (mUn negD (mC (.int 1))) (mCons (mCB lenD (mCons (mVar 10) mNil)) (mCons (mC .non) (mCons (mC (.bl true)) (mCons (mC (.str "0")) mNil)))))) (mCall F__law_draw (mCons (mVar 1) (mCons (mC (.int 5)) mNil)))) mNil)))))) (mC (.str "argument place")))) (sRet (mC (.bl false))) sNext) (sSeq (sIf (mTest (mOp neD (mCall F__law_told (mCons (mC (.int 7)) (mCons (mVar 3) (mCons (mVar 4) (mCons (mVar 10) (mCons (mC .non) mNil)))))) (mIf (mTest (mOp eqD (mCall F__law_sum (mCons (mVar 3) (mCons (mVar 4) (mCons (mVar 10) mNil)))) (mC (.int 0)))) (mC .non) (mC (.str "argument text"))))) (sRet (mC (.bl false))) sNext) (sIf (mTest (mOp neD (mCall F__law_told (mCons (mC (.int 10)) (mCons (mVar 3) (mCons (mOp ixD (mLst (mCons (mC (.int 0)) (mCons (mC (.int 5)) (mCons (mC .non) (mCons (mC (.bl true)) (mCons (mC (.str "2")) (mCons (mUn negD (mC (.int 1))) mNil))))))) (mCall F__law_draw (mCons (mVar 1) (mCons (mC (.int 6)) mNil)))) (mCons (mC .non) (mCons (mC .non) mNil)))))) (mC (.str "argument many")))) (sRet (mC (.bl false))) sNext)))))))))))))))) (sRet (mC (.bl true)))))
def F_law : FM := mDef 18 m_law
theorem ok_law (G : Fct PR K mg fa fn es (exT PR es)) : OkF PR w K mg base (mkC K fn es) "law" ["script"] 7 F_law := by
  refine ⟨okE (G.def_ 26 _ rfl) sc_law (by decide) ?_, G.glo 26 _ rfl, (G.def_ 26 _ rfl).kp, (G.def_ 26 _ rfl).bindsN fun _ _ _ _ _ _ us hl => match us, hl with | [_], _ => rfl⟩
  intro cdv A outer s H E hr tk po
  unfold m_law
  exact (z_cons (z_set nd_law rfl (by walk_at "lc") (e_fn (ok__law_start G) (hr.mono (by decide)) tk rfl (a_cons (e_var rfl (by walk_at "vs")) a_nil) (argN_cons argN_nil)) rfl (by walk_at "fl")) (z_cons (z_for (ts := [2]) po rfl (i_rng1 rfl (G.free 42 _ rfl) (a_cons e_int a_nil)) (g_name nd_law rfl (by walk_at "lc") (by walk_at "fl") (by decide)) (z_cons (z_set nd_law rfl (by walk_at "lc") (e_ix (ix_ok rfl) (e_lst (a_cons e_int (a_cons e_int (a_cons e_int (a_cons e_int (a_cons e_int (a_cons e_int (a_cons e_int (a_cons e_int (a_cons e_int a_nil)))))))))) (e_fn (ok__law_draw G) (hr.mono (by decide)) tk rfl (a_cons (e_var rfl (by walk_at "vs")) (a_cons e_int a_nil)) (argN_cons (argN_cons argN_nil))) (fun _ _ => rfl)) rfl (by walk_at "fl")) (z_cons (z_set nd_law rfl (by walk_at "lc") (e_ct (tuple_ok rfl) rfl (G.free 47 _ rfl) rfl (a_cons (e_LC [("k", 6)] ⟨rfl, nd_law, (i_rng1 rfl (G.free 42 _ rfl) (a_cons (e_op (add_ok rfl) e_int (e_fn (ok__law_draw G) (hr.mono (by decide)) tk rfl (a_cons (e_var rfl (by walk_at "vs")) (a_cons e_int a_nil)) (argN_cons (argN_cons argN_nil)))) a_nil)), by walk_at "blk", fun _ _ _ _ _ => (g_name nd_law rfl (by walk_at "lc") (by walk_at "fl") (by decide)), fun _ _ _ _ _ => ts_nil, fun _ _ _ _ _ => (e_fn (ok__law_draw G) (hr.mono (by decide)) tkF rfl (a_cons (e_var rfl (by walk_at "vs")) (a_cons (e_var rfl (by walk_at "vs")) a_nil)) (argN_cons (argN_cons argN_nil))), fun _ => rfl⟩) a_nil)) rfl (by walk_at "fl")) (z_cons (z_set nd_law rfl (by walk_at "lc") (e_fn (ok__law_signs G) (hr.mono (by decide)) tk rfl (a_cons (e_var rfl (by walk_at "vs")) a_nil) (argN_cons argN_nil)) rfl (by walk_at "fl")) (z_cons (z_for (ts := [6]) po rfl (i_rng1 rfl (G.free 42 _ rfl) (a_cons e_int a_nil)) (g_name nd_law rfl (by walk_at "lc") (by walk_at "fl") (by decide)) (z_cons (z_set nd_law rfl (by walk_at "lc") (e_bm rfl PySem.F.plainAttrs_str PySem.F.slot_str_join PySem.F.type_str_join (join_ok rfl) e_str (a_cons (e_LC [("j", 17)] ⟨rfl, nd_law, (i_rng1 rfl (G.free 42 _ rfl) (a_cons (e_fn (ok__law_draw G) (hr.mono (by decide)) tk rfl (a_cons (e_var rfl (by walk_at "vs")) (a_cons e_int a_nil)) (argN_cons (argN_cons argN_nil))) a_nil)), by walk_at "blk", fun _ _ _ _ _ => (g_name nd_law rfl (by walk_at "lc") (by walk_at "fl") (by decide)), fun _ _ _ _ _ => ts_nil, fun _ _ _ _ _ => (e_ix (ix_ok rfl) (e_var rfl (by walk_at "vs")) (e_fn (ok__law_draw G) (hr.mono (by decide)) tkF rfl (a_cons (e_var rfl (by walk_at "vs")) (a_cons (e_cb (len_ok rfl) rfl (G.free 39 _ rfl) rfl (a_cons (e_var rfl (by walk_at "vs")) a_nil)) a_nil)) (argN_cons (argN_cons argN_nil))) (fun _ _ => rfl)), fun _ => rfl⟩) a_nil)) rfl (by walk_at "fl")) (z_cons (z_set nd_law rfl (by walk_at "lc") (e_fn (ok__law_draw G) (hr.mono (by decide)) tk rfl (a_cons (e_var rfl (by walk_at "vs")) (a_cons (e_op (add_ok rfl) (e_cb (len_ok rfl) rfl (G.free 39 _ rfl) rfl (a_cons (e_var rfl (by walk_at "vs")) a_nil)) e_int) a_nil)) (argN_cons (argN_cons argN_nil))) rfl (by walk_at "fl")) (z_cons (z_set nd_law rfl (by walk_at "lc") (e_op (add_ok rfl) (e_op (add_ok rfl) (e_op (add_ok rfl) (e_sl rfl (e_var rfl (by walk_at "vs")) o_none (o_some (e_var rfl (by walk_at "vs")))) (e_sl rfl (e_var rfl (by walk_at "vs")) (o_some (e_op (add_ok rfl) (e_var rfl (by walk_at "vs")) e_int)) (o_some (e_op (add_ok rfl) (e_var rfl (by walk_at "vs")) e_int)))) (e_sl rfl (e_var rfl (by walk_at "vs")) (o_some (e_var rfl (by walk_at "vs"))) (o_some (e_op (add_ok rfl) (e_var rfl (by walk_at "vs")) e_int)))) (e_sl rfl (e_var rfl (by walk_at "vs")) (o_some (e_op (add_ok rfl) (e_var rfl (by walk_at "vs")) e_int)) o_none)) rfl (by walk_at "fl")) (z_cons (z_set nd_law rfl (by walk_at "lc") (e_op (add_ok rfl) (e_op (add_ok rfl) (e_sl rfl (e_var rfl (by walk_at "vs")) o_none (o_some (e_var rfl (by walk_at "vs")))) (e_ix (ix_ok rfl) (e_var rfl (by walk_at "vs")) (e_fn (ok__law_draw G) (hr.mono (by decide)) tk rfl (a_cons (e_var rfl (by walk_at "vs")) (a_cons (e_cb (len_ok rfl) rfl (G.free 39 _ rfl) rfl (a_cons (e_var rfl (by walk_at "vs")) a_nil)) a_nil)) (argN_cons (argN_cons argN_nil))) (fun _ _ => rfl))) (e_sl rfl (e_var rfl (by walk_at "vs")) (o_some (e_op (add_ok rfl) (e_var rfl (by walk_at "vs")) e_int)) o_none)) rfl (by walk_at "fl")) (z_cons (z_set nd_law rfl (by walk_at "lc") (e_ix (ix_ok rfl) (e_lst (a_cons (e_var rfl (by walk_at "vs")) (a_cons (e_var rfl (by walk_at "vs")) (a_cons (e_var rfl (by walk_at "vs")) (a_cons (e_var rfl (by walk_at "vs")) (a_cons (e_var rfl (by walk_at "vs")) (a_cons (e_sl rfl (e_var rfl (by walk_at "vs")) (o_some e_int) o_none) (a_cons (e_rev rfl (e_var rfl (by walk_at "vs"))) (a_cons (e_op (add_ok rfl) (e_var rfl (by walk_at "vs")) (e_ix (ix_ok rfl) (e_var rfl (by walk_at "vs")) e_int (fun _ _ => rfl))) (a_cons e_non (a_cons (e_op (add_ok rfl) e_str (e_sl rfl (e_var rfl (by walk_at "vs")) (o_some e_int) o_none)) a_nil))))))))))) (e_fn (ok__law_draw G) (hr.mono (by decide)) tk rfl (a_cons (e_var rfl (by walk_at "vs")) (a_cons e_int a_nil)) (argN_cons (argN_cons argN_nil))) (fun _ _ => rfl)) rfl (by walk_at "fl")) (z_one (z_if (PW.pt (w_or (t_cmp (ne_ok rfl (rm64 hr)) (e_fn (ok__law_told G) (hr.mono (by decide)) tk rfl (a_cons e_int (a_cons (e_var rfl (by walk_at "vs")) (a_cons (e_var rfl (by walk_at "vs")) (a_cons (e_var rfl (by walk_at "vs")) (a_cons (e_var rfl (by walk_at "vs")) a_nil))))) (argN_cons (argN_cons (argN_cons (argN_cons (argN_cons argN_nil)))))) (e_fn (ok__law_due G) (hr.mono (by decide)) tk rfl (a_cons (e_var rfl (by walk_at "vs")) (a_cons (e_var rfl (by walk_at "vs")) (a_cons (e_var rfl (by walk_at "vs")) (a_cons (e_var rfl (by walk_at "vs")) a_nil)))) (argN_cons (argN_cons (argN_cons (argN_cons argN_nil))))) rfl) (pw_or1 (t_cmp (ne_ok rfl (rm64 hr)) (e_fn (ok__law_told G) (hr.mono (by decide)) tk rfl (a_cons e_int (a_cons (e_var rfl (by walk_at "vs")) (a_cons (e_var rfl (by walk_at "vs")) (a_cons (e_var rfl (by walk_at "vs")) (a_cons (e_var rfl (by walk_at "vs")) a_nil))))) (argN_cons (argN_cons (argN_cons (argN_cons (argN_cons argN_nil)))))) (e_fn (ok__law_due G) (hr.mono (by decide)) tk rfl (a_cons (e_var rfl (by walk_at "vs")) (a_cons (e_var rfl (by walk_at "vs")) (a_cons (e_var rfl (by walk_at "vs")) (a_cons (e_var rfl (by walk_at "vs")) a_nil)))) (argN_cons (argN_cons (argN_cons (argN_cons argN_nil))))) rfl)))) (z_one (z_ret e_bl)) z_nil))))))) (fun _ => rfl)) (z_cons (z_set nd_law rfl (by walk_at "lc") (e_ix (ix_ok rfl) (e_lst (a_cons e_int (a_cons e_int (a_cons (e_un neg_ok e_int) (a_cons e_int (a_cons e_non (a_cons e_bl (a_cons e_str (a_cons (e_op pow_ok e_int e_int) a_nil))))))))) (e_fn (ok__law_draw G) (hr.mono (by decide)) tk rfl (a_cons (e_var rfl (by walk_at "vs")) (a_cons e_int a_nil)) (argN_cons (argN_cons argN_nil))) (fun _ _ => rfl)) rfl (by walk_at "fl")) (z_cons (z_if (t_cmp (ne_ok rfl (rm64 hr)) (e_LC [("which", 16)] ⟨rfl, nd_law, (i_rng1 rfl (G.free 42 _ rfl) (a_cons e_int a_nil)), by walk_at "blk", fun _ _ _ _ _ => (g_name nd_law rfl (by walk_at "lc") (by walk_at "fl") (by decide)), fun _ _ _ _ _ => ts_nil, fun _ _ _ _ _ => (e_fn (ok__law_told G) (hr.mono (by decide)) tkF rfl (a_cons (e_var rfl (by walk_at "vs")) (a_cons (e_var rfl (by walk_at "vs")) (a_cons e_non (a_cons e_non (a_cons e_non a_nil))))) (argN_cons (argN_cons (argN_cons (argN_cons (argN_cons argN_nil)))))), fun _ => rfl⟩) (e_op (mul_ok rfl) (e_lst (a_cons e_str a_nil)) e_int) rfl) (z_one (z_ret e_bl)) z_nil) (z_cons (z_set nd_law rfl (by walk_at "lc") (e_ix (ix_ok rfl) (e_lst (a_cons e_non (a_cons (e_tup a_nil) (a_cons (e_tup (a_cons (e_var rfl (by walk_at "vs")) a_nil)) (a_cons (e_tup (a_cons (e_un neg_ok e_int) a_nil)) (a_cons (e_op (mul_ok rfl) (e_tup (a_cons e_int a_nil)) e_int) (a_cons (e_tup (a_cons e_int (a_cons e_non a_nil))) (a_cons (e_tup (a_cons e_bl a_nil)) (a_cons e_int a_nil))))))))) (e_fn (ok__law_draw G) (hr.mono (by decide)) tk rfl (a_cons (e_var rfl (by walk_at "vs")) (a_cons e_int a_nil)) (argN_cons (argN_cons argN_nil))) (fun _ _ => rfl)) rfl (by walk_at "fl")) (z_cons (z_if (t_cmp (ne_ok rfl (rm64 hr)) (e_LC [("which", 16)] ⟨rfl, nd_law, (i_rng1 rfl (G.free 42 _ rfl) (a_cons e_int a_nil)), by walk_at "blk", fun _ _ _ _ _ => (g_name nd_law rfl (by walk_at "lc") (by walk_at "fl") (by decide)), fun _ _ _ _ _ => ts_nil, fun _ _ _ _ _ => (e_fn (ok__law_told G) (hr.mono (by decide)) tkF rfl (a_cons (e_var rfl (by walk_at "vs")) (a_cons (e_var rfl (by walk_at "vs")) (a_cons (e_var rfl (by walk_at "vs")) (a_cons e_non (a_cons e_non a_nil))))) (argN_cons (argN_cons (argN_cons (argN_cons (argN_cons argN_nil)))))), fun _ => rfl⟩) (e_op (mul_ok rfl) (e_lst (a_cons e_str a_nil)) e_int) rfl) (z_one (z_ret e_bl)) z_nil) (z_cons (z_set nd_law rfl (by walk_at "lc") (e_ix (ix_ok rfl) (e_lst (a_cons e_non (a_cons e_int (a_cons e_str (a_cons (e_op (mul_ok rfl) e_str e_int) (a_cons (e_tup (a_cons e_str a_nil)) (a_cons e_str a_nil))))))) (e_fn (ok__law_draw G) (hr.mono (by decide)) tk rfl (a_cons (e_var rfl (by walk_at "vs")) (a_cons e_int a_nil)) (argN_cons (argN_cons argN_nil))) (fun _ _ => rfl)) rfl (by walk_at "fl")) (z_cons (z_if (t_cmp (ne_ok rfl (rm64 hr)) (e_LC [("which", 16)] ⟨rfl, nd_law, (i_seq rfl (e_tup (a_cons e_int (a_cons e_int (a_cons e_int (a_cons e_int (a_cons e_int (a_cons e_int (a_cons e_int a_nil))))))))), by walk_at "blk", fun _ _ _ _ _ => (g_name nd_law rfl (by walk_at "lc") (by walk_at "fl") (by decide)), fun _ _ _ _ _ => ts_nil, fun _ _ _ _ _ => (e_fn (ok__law_told G) (hr.mono (by decide)) tkF rfl (a_cons (e_var rfl (by walk_at "vs")) (a_cons (e_var rfl (by walk_at "vs")) (a_cons (e_var rfl (by walk_at "vs")) (a_cons (e_var rfl (by walk_at "vs")) (a_cons e_non a_nil))))) (argN_cons (argN_cons (argN_cons (argN_cons (argN_cons argN_nil)))))), fun _ => rfl⟩) (e_op (mul_ok rfl) (e_lst (a_cons e_str a_nil)) e_int) rfl) (z_one (z_ret e_bl)) z_nil) (z_cons (z_if (PW.pt (w_or (t_cmp (ne_ok rfl (rm64 hr)) (e_fn (ok__law_told G) (hr.mono (by decide)) tk rfl (a_cons e_int (a_cons (e_var rfl (by walk_at "vs")) (a_cons (e_var rfl (by walk_at "vs")) (a_cons (e_op (mul_ok rfl) e_str e_int) (a_cons e_non a_nil))))) (argN_cons (argN_cons (argN_cons (argN_cons (argN_cons argN_nil)))))) e_str rfl) (pw_or1 (t_cmp nis_ok (e_fn (ok__law_told G) (hr.mono (by decide)) tk rfl (a_cons e_int (a_cons (e_var rfl (by walk_at "vs")) (a_cons (e_var rfl (by walk_at "vs")) (a_cons (e_op (mul_ok rfl) e_str e_int) (a_cons e_non a_nil))))) (argN_cons (argN_cons (argN_cons (argN_cons (argN_cons argN_nil)))))) e_non rfl)))) (z_one (z_ret e_bl)) z_nil) (z_cons (z_set nd_law rfl (by walk_at "lc") (e_bm rfl PySem.F.plainAttrs_str PySem.F.slot_str_join PySem.F.type_str_join (join_ok rfl) e_str (a_cons (e_LC [("j", 17)] ⟨rfl, nd_law, (i_rng1 rfl (G.free 42 _ rfl) (a_cons (e_op (add_ok rfl) e_int (e_fn (ok__law_draw G) (hr.mono (by decide)) tk rfl (a_cons (e_var rfl (by walk_at "vs")) (a_cons e_int a_nil)) (argN_cons (argN_cons argN_nil)))) a_nil)), by walk_at "blk", fun _ _ _ _ _ => (g_name nd_law rfl (by walk_at "lc") (by walk_at "fl") (by decide)), fun _ _ _ _ _ => ts_nil, fun _ _ _ _ _ => (e_ix (ix_ok rfl) (e_var rfl (by walk_at "vs")) (e_fn (ok__law_draw G) (hr.mono (by decide)) tkF rfl (a_cons (e_var rfl (by walk_at "vs")) (a_cons (e_cb (len_ok rfl) rfl (G.free 39 _ rfl) rfl (a_cons (e_var rfl (by walk_at "vs")) a_nil)) a_nil)) (argN_cons (argN_cons argN_nil))) (fun _ _ => rfl)), fun _ => rfl⟩) a_nil)) rfl (by walk_at "fl")) (z_cons (z_if (t_cmp (ne_ok rfl (rm64 hr)) (e_fn (ok__law_told G) (hr.mono (by decide)) tk rfl (a_cons e_int (a_cons (e_var rfl (by walk_at "vs")) (a_cons (e_var rfl (by walk_at "vs")) (a_cons (e_var rfl (by walk_at "vs")) (a_cons (e_ix (ix_ok rfl) (e_lst (a_cons (e_un neg_ok e_int) (a_cons (e_cb (len_ok rfl) rfl (G.free 39 _ rfl) rfl (a_cons (e_var rfl (by walk_at "vs")) a_nil)) (a_cons e_non (a_cons e_bl (a_cons e_str a_nil)))))) (e_fn (ok__law_draw G) (hr.mono (by decide)) tk rfl (a_cons (e_var rfl (by walk_at "vs")) (a_cons e_int a_nil)) (argN_cons (argN_cons argN_nil))) (fun _ _ => rfl)) a_nil))))) (argN_cons (argN_cons (argN_cons (argN_cons (argN_cons argN_nil)))))) e_str rfl) (z_one (z_ret e_bl)) z_nil) (z_cons (z_if (t_cmp (ne_ok rfl (rm64 hr)) (e_fn (ok__law_told G) (hr.mono (by decide)) tk rfl (a_cons e_int (a_cons (e_var rfl (by walk_at "vs")) (a_cons (e_var rfl (by walk_at "vs")) (a_cons (e_var rfl (by walk_at "vs")) (a_cons e_non a_nil))))) (argN_cons (argN_cons (argN_cons (argN_cons (argN_cons argN_nil)))))) (e_if (t_cmp (eq_ok rfl (rm64 hr)) (e_fn (ok__law_sum G) (hr.mono (by decide)) tk rfl (a_cons (e_var rfl (by walk_at "vs")) (a_cons (e_var rfl (by walk_at "vs")) (a_cons (e_var rfl (by walk_at "vs")) a_nil))) (argN_cons (argN_cons (argN_cons argN_nil)))) e_int rfl) e_non e_str) rfl) (z_one (z_ret e_bl)) z_nil) (z_one (z_if (t_cmp (ne_ok rfl (rm64 hr)) (e_fn (ok__law_told G) (hr.mono (by decide)) tk rfl (a_cons e_int (a_cons (e_var rfl (by walk_at "vs")) (a_cons (e_ix (ix_ok rfl) (e_lst (a_cons e_int (a_cons e_int (a_cons e_non (a_cons e_bl (a_cons e_str (a_cons (e_un neg_ok e_int) a_nil))))))) (e_fn (ok__law_draw G) (hr.mono (by decide)) tk rfl (a_cons (e_var rfl (by walk_at "vs")) (a_cons e_int a_nil)) (argN_cons (argN_cons argN_nil))) (fun _ _ => rfl)) (a_cons e_non (a_cons e_non a_nil))))) (argN_cons (argN_cons (argN_cons (argN_cons (argN_cons argN_nil)))))) e_str rfl) (z_one (z_ret e_bl)) z_nil)))))))))))))))) (fun _ => rfl)) (z_one (z_ret e_bl))))
end
theorem plains : ∀ d ∈ fn, PlainD d := by
  intro d hd
  unfold fn at hd
  simp only [List.mem_cons, List.not_mem_nil, or_false] at hd
  rcases hd with rfl | rfl | rfl | rfl | rfl | rfl | rfl | rfl | rfl | rfl | rfl | rfl | rfl | rfl | rfl | rfl | rfl | rfl | rfl | rfl | rfl | rfl | rfl | rfl | rfl | rfl | rfl <;> exact ⟨rfl, rfl, rfl⟩
end Lw

namespace Lw
open PySem Ev
section
variable {S : Store} {QD : D → Store → Prop} {E : EK}
def isI : D → Bool
  | .int _ => true
  | _ => false
def plainA : D → Bool
  | .int _ => true
  | .bl _ => true
  | .str _ => true
  | .non => true
  | .tup _ => true
  | _ => false
def isTup : D → Bool
  | .tup _ => true
  | _ => false
def isStr : D → Bool
  | .str _ => true
  | _ => false
theorem isT_tuple {d : D} (h : plainA d = true) : isT "tuple" S d = some (isTup d) := by cases d <;> first | rfl | cases h
theorem isT_str {d : D} (h : plainA d = true) : isT "str" S d = some (isStr d) := by cases d <;> first | rfl | cases h
theorem is_integer_ok {d : D} (h : plainA d = true) : F_is_integer [d] S = .ok (.bl (isI d)) S := by
  cases d <;> first | rfl | cases h
/-- 0 <= d < m of a whole number -/
def inM (m : Int) : D → Bool
  | .int w => decide (0 ≤ w ∧ w < m)
  | _ => false
/-- what check_code says -/
def tupV (m : Int) : D → Option Str
  | .tup ds => if 1 ≤ ds.length ∧ ds.length ≤ 12 ∧ ds.all (inM m) = true then none else some "weights"
  | _ => some "weights"
def codeV (m ws : D) : Option Str := match m with
  | .int m => if 2 ≤ m ∧ m ≤ 97 then tupV m ws else some "modulus"
  | _ => some "modulus"
theorem check_code_ok {m ws : D} (hm : plainA m = true) (hw : plainA ws = true) (ha : ∀ ds, ws = .tup ds → ∀ d ∈ ds, plainA d = true) (h1 : codeV m ws = none → QD .non S) (h2 : ∀ x, codeV m ws = some x → E 1 (.str x) S) : Wr (F_check_code [m, ws] S) QD E := by
  unfold F_check_code
  refine w_def ?_
  show Ws (m_check_code [some m, some ws, none] S) _
  unfold m_check_code
  walk_at "wps"
  refine Wr.eq (is_integer_ok hm) ?_
  have bad : ∀ (x : Str), rsnOk 24 (.str x) = true → codeV m ws = some x → ∀ {δ : Ev.Env} {K : Ko}, K.ex = E → Ws (sRaise 1 24 (mC (.str x)) δ S) K := fun x hx e δ K hK => by
    walk_at "wps"
    rw [hK]
    exact ⟨hx, h2 x e⟩
  have r1 : rsnOk 24 (.str "modulus") = true := by decide +kernel
  have r2 : rsnOk 24 (.str "weights") = true := by decide +kernel
  walk_at "wqs"
  refine ⟨fun h => ⟨fun _ => bad _ r1 ?_ rfl, fun z => by cases z⟩, fun h => ?_⟩
  · cases m <;> simp [isI] at h <;> rfl
  have hI : isI m = true := by simpa using h
  cases m with
  | int m =>
    walk_at "wqs"
    refine ⟨fun a1 => ?_, fun a1 => ?_⟩
    rotate_left
    · walk_at "wqs"
      have a1 := of_decide_eq_false a1
      refine ⟨fun _ => bad _ r1 (by unfold codeV; simp only; rw [if_neg (by omega)]) rfl, fun z => by cases z⟩
    walk_at "wqs"
    have a1 := of_decide_eq_true a1
    refine ⟨fun a2 => bad _ r1 (by simp at a2; unfold codeV; simp only; rw [if_neg (by omega)]) rfl, fun a2 => ?_⟩
    have a2 : m ≤ 97 := by simpa using a2
    have b0 : codeV (.int m) ws = tupV m ws := if_pos ⟨a1, a2⟩
    walk_at "wqs"
    refine ⟨_, isT_tuple hw, ?_⟩
    walk_at "wqs"
    refine ⟨fun h => ⟨fun _ => bad _ r2 (by rw [b0]; cases ws <;> first | rfl | simp [isTup] at h) rfl, fun z => by cases z⟩, fun h => ?_⟩
    cases ws with
    | tup ds =>
      walk_at "wqs"
      refine ⟨fun a3 => ?_, fun a3 => ?_⟩
      rotate_left
      · have a3 := of_decide_eq_false a3
        walk_at "wqs"
        refine ⟨fun _ => bad _ r2 (by rw [b0]; exact if_neg (by omega)) rfl, fun z => by cases z⟩
      have a3 := of_decide_eq_true a3
      walk_at "wqs"
      refine ⟨fun a4 => bad _ r2 (by simp at a4; rw [b0]; exact if_neg (by omega)) rfl, fun a4 => ?_⟩
      have a4 : ds.length ≤ 12 := by simp at a4; omega
      walk_at "wqs"
      refine w_lcm ?_
      walk_at "wqs"
      refine Wr.out (a := itL ds) rfl ?_
      have h12 : ds.length ≤ sizeLine := Nat.le_trans a4 (by decide)
      refine ⟨D, ds, id, fun d => .bl (inM m d), its_L, h12, fun d hd => ⟨_, rfl, ?_⟩, ?_⟩
      · have hp := ha ds rfl d hd
        refine Wr.eqn ?_
        show Wr (mAndV _ _ [some (.int m), some (.tup ds), some d] S) _ _
        walk_at "wqs"
        refine Wr.eq (is_integer_ok hp) ?_
        walk_at "wqs"
        cases d with
        | int w =>
          refine ⟨fun _ => ?_, fun z => by cases z⟩
          walk_at "wqs"
          refine ⟨fun z => ?_, fun z => ?_⟩
          · walk_at "wqs"
            have z := of_decide_eq_true z
            exact ⟨by unfold inM; simp [z], rfl⟩
          · have z := of_decide_eq_false z
            exact ⟨by unfold inM; simp [z], rfl⟩
        | _ => exact ⟨fun z => (by cases z), fun _ => ⟨rfl, rfl⟩⟩
      walk_at "wqs"
      refine Wr.out all_map ?_
      walk_at "wqs"
      refine ⟨fun z => bad _ r2 (by rw [b0]; exact if_neg (by simp at z; simp [z])) rfl, fun z => ?_⟩
      walk_at "wqs"
      have e0 : codeV (.int m) (.tup ds) = none := by rw [b0]; exact if_pos ⟨by omega, a4, by simpa using z⟩
      exact h1 e0
    | _ => simp [isTup] at h
  | _ => cases hI
abbrev SG : Str := "0123456789abcdefghijklmnopqrstuvwxyzABCDEFGHIJKLMNOPQRSTUVWXYZ ./-"
def sgn (m : Int) : Str := L2.cutS SG none (some m)
def okText (m : Int) : D → Bool
  | .str x => decide (x.length ≤ 4000) && x.cps.toList.all fun c => decide (c ∈ (sgn m).cps.toList)
  | _ => false
def shortD : D → Bool
  | .str x => decide (x.length ≤ sizeLine)
  | d => plainA d
theorem short_plain {d : D} (h : shortD d = true) : plainA d = true := by cases d <;> first | rfl | exact h
theorem is_text_ok {d : D} {m : Int} (h : shortD d = true) : F_is_text [d, .int m] S = .ok (.bl (okText m d)) S := by
  refine Wr.eqn ?_
  unfold F_is_text
  refine w_def ?_
  show Ws (m_is_text [some d, some (.int m), none, none] S) _
  unfold m_is_text
  walk_at "wqs"
  have hs : slD S (.str SG) none (some m) = some (.str (sgn m)) := by
    simp only [slD]
    rw [if_pos (by decide +kernel)]
    rfl
  refine Wr.out hs ?_
  walk_at "wqs"
  refine ⟨_, isT_str (short_plain h), ?_⟩
  walk_at "wqs"
  cases d with
  | str x =>
    have hx : x.length ≤ sizeLine := of_decide_eq_true h
    refine ⟨fun _ => ?_, fun z => (by cases z)⟩
    walk_at "wqs"
    refine Wr.out (len_str hx) ?_
    walk_at "wqs"
    refine ⟨fun z => ?_, fun z => ?_⟩
    · walk_at "wqs"
      refine w_lcm ?_
      walk_at "wqs"
      refine Wr.out (a := itL (chars x)) rfl ?_
      refine ⟨Nat, x.cps.toList, _, fun c => .bl (decide (c ∈ (sgn m).cps.toList)), its_chars, hx, fun d hd => ⟨_, rfl, rfl⟩, ?_⟩
      walk_at "wqs"
      refine Wr.out all_map ?_
      have z := of_decide_eq_true z
      have e : okText m (.str x) = x.cps.toList.all fun c => decide (c ∈ (sgn m).cps.toList) := by
        show (decide (x.length ≤ 4000) && _) = _
        rw [decide_eq_true (show x.length ≤ 4000 by omega)]
        exact Bool.true_and _
      exact ⟨by rw [e], rfl⟩
    · have z := of_decide_eq_false z
      have e : okText m (.str x) = false := by
        show (decide (x.length ≤ 4000) && _) = _
        rw [decide_eq_false (show ¬ x.length ≤ 4000 by omega)]
        exact Bool.false_and _
      exact ⟨by rw [e, decide_eq_false z], rfl⟩
  | _ => exact ⟨fun z => (by cases z), fun _ => ⟨rfl, rfl⟩⟩
theorem check_text_ok {d : D} {m : Int} (h : shortD d = true) (h1 : okText m d = true → QD .non S) (h2 : okText m d = false → E 1 (.str "text") S) : Wr (F_check_text [d, .int m] S) QD E := by
  unfold F_check_text
  refine w_def ?_
  show Ws (m_check_text [some d, some (.int m)] S) _
  unfold m_check_text
  walk_at "wqs"
  refine Wr.eq (is_text_ok h) ?_
  walk_at "wqs"
  refine ⟨fun z => ?_, fun z => ?_⟩
  · walk_at "wqs"
    exact ⟨by decide +kernel, h2 (by simpa using z)⟩
  · walk_at "wqs"
    exact h1 (by simpa using z)
/-! ### the sum -/
def ix (c : Nat) : Nat := SG.cps.toList.idxOf c
def sumL (ws : List Int) : Nat → List Nat → Int
  | _, [] => 0
  | k, c :: cs => (ix c : Int) * ws.getD (k % ws.length) 0 + sumL ws (k + 1) cs
structure Ws0 (m : Int) (ws : List Int) : Prop where
  m2 : 2 ≤ m
  m97 : m ≤ 97
  l1 : 1 ≤ ws.length
  l2 : ws.length ≤ 12
  all : ∀ w ∈ ws, 0 ≤ w ∧ w < m
theorem sg_index : ∀ c ∈ SG.cps.toList, Builtin.Str.occurrences SG ⟨#[c]⟩ 0 SG.length 1 = [ix c] := by decide +kernel
theorem ix_lt {c : Nat} (h : c ∈ SG.cps.toList) : ix c < 66 := by
  have := List.idxOf_lt_length_of_mem h
  have e : SG.cps.toList.length = 66 := by decide +kernel
  unfold ix
  omega
theorem w_index {δ : Ev.Env} {c : Nat} {x : Str} {ms : EM (List D)} (h : Wr (ms δ S) (fun ds S1 => ds = [.str ⟨#[c]⟩] ∧ Builtin.Str.occurrences x ⟨#[c]⟩ 0 x.length 1 = [ix c] ∧ QD (.int (ix c : Nat)) S1) E) {mo : EM D} (ho : mo δ S = .ok (.str x) S) : Wr (mMt "str" sindexD mo ms δ S) QD E := by
  unfold mMt
  rw [ho]
  refine Wr.bind (Wr.eq rfl ?_)
  rw [if_pos (by rfl)]
  refine Wr.bind (h.mono (fun ds S1 ⟨e, e1, q⟩ => ?_) fun _ _ _ h => h)
  subst e
  have : sindexD S1 (.str x) [.str ⟨#[c]⟩] = some (.int (ix c : Nat), S1) := by
    show (match Builtin.Str.occurrences x ⟨#[c]⟩ 0 x.length 1 with | i :: _ => some (D.int (i : Nat), S1) | [] => none) = _
    rw [e1]
  rw [this]
  exact q
theorem sum_of_ok {m : Int} {ws : List Int} {x : Str} (h : Ws0 m ws) (hz : x.length ≤ sizeLine) (hx : ∀ c ∈ x.cps.toList, c ∈ SG.cps.toList) : F_sum_of [.int m, .tup (ws.map D.int), .str x] S = .ok (.int (sumL ws 0 x.cps.toList % m)) S := by
  have m2 := h.m2
  refine Wr.eqn ?_
  unfold F_sum_of
  refine w_def ?_
  show Ws (m_sum_of [some (.int m), some (.tup (ws.map D.int)), some (.str x), none, none, none] S) _
  unfold m_sum_of
  walk_at "wqs"
  refine Wr.out (a := itE (chars x)) rfl ?_
  have hc : (chars x).length = x.cps.toList.length := by simp [chars]
  refine forGo_inv (I := fun i δ S' => S' = S ∧ i ≤ x.cps.toList.length ∧ ∃ (t : Int) (o1 o2 : Option D), δ = [some (.int m), some (.tup (ws.map D.int)), some (.str x), some (.int t), o1, o2] ∧ t + sumL ws i (x.cps.toList.drop i) = sumL ws 0 x.cps.toList) ?_ ?_ _ 0 _ _ (by simp) ⟨rfl, by omega, 0, none, none, rfl, by simp⟩
  · rintro i δ S' ⟨rfl, hi, t, o1, o2, rfl, ht⟩
    have hn : (itE (chars x)).n = x.cps.toList.length := hc
    rw [hn]
    refine ⟨hi, fun e => ?_, fun e => ?_⟩
    · show (if i ≤ (chars x).length then some ((chars x)[i]?.map fun d => D.tup [.int i, d]) else none) = _
      rw [if_pos (by omega), List.getElem?_eq_none (by omega)]
      rfl
    · have he : (chars x)[i]? = some (.str ⟨#[x.cps.toList[i]]⟩) := by
        show (x.cps.toList.map fun c => D.str ⟨#[c]⟩)[i]? = _
        rw [List.getElem?_map, List.getElem?_eq_getElem e]
        rfl
      refine ⟨.tup [.int i, .str ⟨#[x.cps.toList[i]]⟩], ?_, _, _, rfl, ?_⟩
      · show (if i ≤ (chars x).length then some ((chars x)[i]?.map fun d => D.tup [.int i, d]) else none) = _
        rw [if_pos (by omega), he]
        rfl
      · show Ws (sAug _ _ _ [some (.int m), some (.tup (ws.map D.int)), some (.str x), some (.int t), some (.int i), some (.str ⟨#[x.cps.toList[i]]⟩)] S') _
        have hm := hx _ (List.getElem_mem e)
        refine s_aug rfl ?_
        walk_at "wqs"
        refine w_index (c := x.cps.toList[i]) ?_ rfl
        walk_at "wqs"
        refine ⟨rfl, sg_index _ hm, ?_⟩
        walk_at "wqs"
        refine Wr.out (mod_ii (by have := h.l1; simp; omega)) ?_
        have hk : i % ws.length < ws.length := Nat.mod_lt _ h.l1
        have e1 : ((i : Int) % ((ws.map D.int).length : Nat)) = ((i % ws.length : Nat) : Int) := by
          rw [List.length_map]
          omega
        rw [e1]
        have e2 : (ws.map D.int)[i % ws.length]? = some (.int ws[i % ws.length]) := by
          rw [List.getElem?_map, List.getElem?_eq_getElem hk]
          rfl
        refine Wr.out (ix_tup e2) ?_
        have hw := h.all _ (List.getElem_mem hk)
        have hix := ix_lt hm
        have hm97 := h.m97
        refine Wr.out (mul_ii ?_) ?_
        · have a1 := log_le (i := ((ix x.cps.toList[i] : Nat) : Int)) (k := 10) (by omega)
          have a2 := log_le (i := ws[i % ws.length]) (k := 10) (by omega)
          omega
        refine ⟨_, rfl, rfl, by omega, _, _, _, rfl, ?_⟩
        rw [← ht, List.drop_eq_getElem_cons e, sumL]
        have e3 : ws.getD (i % ws.length) 0 = ws[i % ws.length] := by simp [List.getD, hk]
        rw [e3]
        omega
  · rintro δ S' ⟨rfl, -, t, o1, o2, rfl, ht⟩
    have ht' : t = sumL ws 0 x.cps.toList := by
      rw [← ht]
      show t = t + sumL ws (chars x).length (x.cps.toList.drop (chars x).length)
      rw [hc, List.drop_length]
      simp [sumL]
    subst ht'
    walk_at "wqs"
    exact ⟨rfl, rfl⟩
abbrev mods : List Int := [2, 3, 4, 6, 10, 11, 12, 36, 97]
theorem sgn_index : ∀ m ∈ mods, ∀ c ∈ (sgn m).cps.toList, Builtin.Str.occurrences (sgn m) ⟨#[c]⟩ 0 (sgn m).length 1 = [ix c] ∧ c ∈ SG.cps.toList := by decide +kernel
theorem law_signs_ok {m : Int} : F__law_signs [.int m] S = .ok (.str (sgn m)) S := by
  refine Wr.eqn ?_
  unfold F__law_signs
  refine w_def ?_
  show Ws (m__law_signs [some (.int m)] S) _
  unfold m__law_signs
  walk_at "wqs"
  have hs : slD S (.str SG) none (some m) = some (.str (sgn m)) := by
    simp only [slD]
    rw [if_pos (by decide +kernel)]
    rfl
  refine Wr.out hs ?_
  exact ⟨rfl, rfl⟩
theorem sumL_eq (ws : List Int) : ∀ (cs : List Nat) (j : Nat), sumL ws j cs = ((List.range cs.length).map fun k => (ix (cs.getD k 0) : Int) * ws.getD ((j + k) % ws.length) 0).sum
  | [], _ => rfl
  | c :: cs, j => by
    rw [sumL, sumL_eq ws cs (j + 1), List.length_cons, List.range_succ_eq_map, List.map_cons, List.sum_cons, List.map_map]
    congr 2
    apply List.map_congr_left
    intro k _
    show _ = (ix ((c :: cs).getD (k + 1) 0) : Int) * ws.getD ((j + (k + 1)) % ws.length) 0
    rw [show j + 1 + k = j + (k + 1) by omega]
    rfl
theorem law_sum_ok {m : Int} {ws : List Int} {x : Str} (h : Ws0 m ws) (hm : m ∈ mods) (hz : x.length ≤ 5000) (hx : ∀ c ∈ x.cps.toList, c ∈ (sgn m).cps.toList) : F__law_sum [.int m, .tup (ws.map D.int), .str x] S = .ok (.int (sumL ws 0 x.cps.toList % m)) S := by
  have m2 := h.m2
  have hz' : x.length ≤ sizeLine := Nat.le_trans hz (by decide)
  have hl : x.cps.toList.length = x.length := by simp [Str.length]
  refine Wr.eqn ?_
  unfold F__law_sum
  refine w_def ?_
  show Ws (m__law_sum [some (.int m), some (.tup (ws.map D.int)), some (.str x), none, none] S) _
  unfold m__law_sum
  walk_at "wqs"
  refine Wr.eq law_signs_ok ?_
  walk_at "wqs"
  refine w_lcm ?_
  walk_at "wqs"
  refine Wr.out (len_str hz') ?_
  walk_at "wqs"
  have hr : rangeD1 [.int (x.length : Nat)] = some (itR 0 x.length) := by
    simp only [rangeD1]
    rw [if_pos (by omega)]
    simp
  with_reducible refine Wr.out hr ?_
  refine ⟨Nat, List.range x.length, _, fun k => .int ((ix (x.cps.toList.getD k 0) : Int) * ws.getD (k % ws.length) 0), its_R, by simpa using hz', fun k hk => ⟨_, rfl, ?_⟩, ?_⟩
  · have hk' : k < x.cps.toList.length := by rw [hl]; simpa using hk
    refine Wr.eqn ?_
    have hc := hx _ (List.getElem_mem hk')
    have hc2 := sgn_index m hm _ hc
    show Wr (mOp mulV _ _ [some (.int m), some (.tup (ws.map D.int)), some (.str x), some (.str (sgn m)), some (.int (0 + (k : Nat)))] S) _ _
    rw [Int.zero_add]
    walk_at "wqs"
    refine w_index (c := x.cps.toList[k]) ?_ rfl
    walk_at "wqs"
    refine Wr.out (ix_str hz' (List.getElem?_eq_getElem hk')) ?_
    walk_at "wqs"
    refine ⟨rfl, hc2.1, ?_⟩
    walk_at "wqs"
    refine Wr.out (mod_ii (by have := h.l1; simp; omega)) ?_
    have hk2 : k % ws.length < ws.length := Nat.mod_lt _ h.l1
    have e1 : ((k : Int) % ((ws.map D.int).length : Nat)) = ((k % ws.length : Nat) : Int) := by
      rw [List.length_map]
      omega
    rw [e1]
    have e2 : (ws.map D.int)[k % ws.length]? = some (.int ws[k % ws.length]) := by
      rw [List.getElem?_map, List.getElem?_eq_getElem hk2]
      rfl
    refine Wr.out (ix_tup e2) ?_
    have hw := h.all _ (List.getElem_mem hk2)
    have hix := ix_lt hc2.2
    have hm97 := h.m97
    refine Wr.out (mul_ii ?_) ?_
    · have a1 := log_le (i := ((ix x.cps.toList[k] : Nat) : Int)) (k := 10) (by omega)
      have a2 := log_le (i := ws[k % ws.length]) (k := 10) (by omega)
      omega
    have e3 : ws.getD (k % ws.length) 0 = ws[k % ws.length] := by simp [List.getD, hk2]
    have e4 : x.cps.toList.getD k 0 = x.cps.toList[k] := by
      rw [List.getD_eq_getElem?_getD, List.getElem?_eq_getElem hk']
      rfl
    refine ⟨?_, rfl⟩
    show _ = D.int ((ix (x.cps.toList.getD k 0) : Int) * ws.getD (k % ws.length) 0)
    rw [e3, e4]
  · walk_at "wqs"
    refine Wr.out sum_map ?_
    walk_at "wqs"
    rw [sumL_eq, hl]
    simp only [Nat.zero_add]
    exact ⟨trivial, trivial⟩
/-! ### the verdict over two texts -/
def gx (x : Str) (k : Nat) : Nat := x.cps.toList.getD k 0
def places (x y : Str) : List Nat := (List.range x.length).filter fun k => decide (gx x k ≠ gx y k)
def sums (m : Int) (ws : List Int) (x y : Str) : Option Str := if sumL ws 0 x.cps.toList % m = sumL ws 0 y.cps.toList % m then none else some "sum"
def plV (m : Int) (ws : List Int) (x y : Str) : List Nat → Option Str
  | [_] => sums m ws x y
  | [k, l] => if l = k + 1 ∧ gx x k = gx y l ∧ gx x l = gx y k then sums m ws x y else some "change"
  | _ => some "change"
def verdict (m : Int) (ws : List Int) : D → D → Option Str
  | .str x, .str y => if okText m (.str x) = true ∧ okText m (.str y) = true ∧ x.length = y.length then plV m ws x y (places x y) else some "form"
  | _, _ => some "form"
theorem code_ok {m : Int} {ws : List Int} (h : Ws0 m ws) : codeV (.int m) (.tup (ws.map D.int)) = none := by
  show (if 2 ≤ m ∧ m ≤ 97 then tupV m _ else _) = _
  rw [if_pos ⟨h.m2, h.m97⟩]
  show (if _ then _ else _) = _
  rw [if_pos]
  refine ⟨by simpa using h.l1, by simpa using h.l2, ?_⟩
  rw [List.all_map, List.all_eq_true]
  intro w hw
  exact decide_eq_true (h.all w hw)
theorem check_code_good {m : Int} {ws : List Int} (h : Ws0 m ws) (q : QD .non S) : Wr (F_check_code [.int m, .tup (ws.map D.int)] S) QD E :=
  check_code_ok rfl rfl (fun ds e d hd => by
    cases e
    obtain ⟨w, _, rfl⟩ := List.mem_map.mp hd
    rfl) (fun _ => q) fun x e => by rw [code_ok h] at e; cases e
end
end Lw

open PySem
theorem eq_ss {S : Store} {x y : Str} : eqD S (.str x) (.str y) = some (.bl (decide (x = y))) := by
  show some (D.bl (x == y)) = _
  by_cases h : x = y
  · subst h; simp
  · rw [decide_eq_false h]
    congr 2
    exact beq_eq_false_iff_ne.mpr h
theorem ne_ss {S : Store} {x y : Str} : neD S (.str x) (.str y) = some (.bl (!decide (x = y))) := by
  show some (D.bl (!(x == y))) = _
  by_cases h : x = y
  · subst h; simp
  · rw [decide_eq_false h, beq_eq_false_iff_ne.mpr h]
theorem ch_eq {c d : Nat} : decide ((⟨#[c]⟩ : Str) = ⟨#[d]⟩) = decide (c = d) := by
  by_cases h : c = d
  · subst h; simp
  · rw [decide_eq_false h, decide_eq_false (fun e => h (by cases e; rfl))]

namespace Lw
open PySem Ev
section
variable {S : Store} {QD : D → Store → Prop} {E : EK}
theorem okText_len {m : Int} {x : Str} (h : okText m (.str x) = true) : x.length ≤ 4000 := by
  have h' : (decide (x.length ≤ 4000) && x.cps.toList.all fun c => decide (c ∈ (sgn m).cps.toList)) = true := h
  rw [Bool.and_eq_true] at h'
  exact of_decide_eq_true h'.1
theorem okText_all {m : Int} {x : Str} (h : okText m (.str x) = true) : ∀ c ∈ x.cps.toList, c ∈ (sgn m).cps.toList := by
  have h' : (decide (x.length ≤ 4000) && x.cps.toList.all fun c => decide (c ∈ (sgn m).cps.toList)) = true := h
  rw [Bool.and_eq_true, List.all_eq_true] at h'
  exact fun c hc => of_decide_eq_true (h'.2 c hc)
theorem verdict_a {m : Int} {ws : List Int} {a b : D} (h : okText m a = false) : verdict m ws a b = some "form" := by
  cases a <;> cases b <;> first | rfl | skip
  exact if_neg fun q => by rw [h] at q; cases q.1
theorem verdict_b {m : Int} {ws : List Int} {a b : D} (h : okText m b = false) : verdict m ws a b = some "form" := by
  cases a <;> cases b <;> first | rfl | skip
  exact if_neg fun q => by rw [h] at q; cases q.2.1
theorem missed_ok {m : Int} {ws : List Int} {a b : D} (h : Ws0 m ws) (hm : m ∈ mods) (ha : shortD a = true) (hb : shortD b = true) (q0 : verdict m ws a b = none → QD .non S) (q1 : ∀ x, verdict m ws a b = some x → E 2 (.str x) S) :
    Wr (F_accept_missed [.int m, .tup (ws.map D.int), a, b] S) QD E := by
  unfold F_accept_missed
  refine w_def ?_
  show Ws (m_accept_missed [some (.int m), some (.tup (ws.map D.int)), some a, some b, none, none, none] S) _
  unfold m_accept_missed
  have bad : ∀ (x : Str), rsnOk 22 (.str x) = true → verdict m ws a b = some x → ∀ {δ : Ev.Env} {K : Ko}, K.ex = E → Ws (sRaise 2 22 (mC (.str x)) δ S) K := fun x hx e δ K hK => by
    walk_at "wqs"
    rw [hK]
    exact ⟨hx, q1 x e⟩
  have r1 : rsnOk 22 (.str "form") = true := by decide +kernel
  have r2 : rsnOk 22 (.str "change") = true := by decide +kernel
  have r3 : rsnOk 22 (.str "sum") = true := by decide +kernel
  walk_at "wqs"
  refine check_code_good h ?_
  walk_at "wqs"
  refine Wr.eq (is_text_ok ha) ?_
  walk_at "wqs"
  refine ⟨fun z => ⟨fun _ => bad _ r1 (verdict_a (by simpa using z)) rfl, fun z => by cases z⟩, fun z => ?_⟩
  walk_at "wqs"
  refine Wr.eq (is_text_ok hb) ?_
  walk_at "wqs"
  refine ⟨fun z => ⟨fun _ => bad _ r1 (verdict_b (by simpa using z)) rfl, fun z => by cases z⟩, fun z2 => ?_⟩
  have z : okText m a = true := by simpa using z
  have z2 : okText m b = true := by simpa using z2
  cases a with
  | str x =>
    cases b with
    | str y =>
      have lx := okText_len z
      have ly := okText_len z2
      walk_at "wqs"
      refine Wr.out (len_str (of_decide_eq_true ha)) ?_
      walk_at "wqs"
      refine Wr.out (len_str (of_decide_eq_true hb)) ?_
      walk_at "wqs"
      refine ⟨fun c => bad _ r1 ?_ rfl, fun c => ?_⟩
      · have c : ¬ x.length = y.length := by simp at c; omega
        show (if _ then _ else _) = _
        rw [if_neg (fun q => c q.2.2)]
      have c : x.length = y.length := by simp at c; omega
      have v0 : verdict m ws (.str x) (.str y) = plV m ws x y (places x y) := if_pos ⟨z, z2, c⟩
      have zx : x.length ≤ sizeLine := Nat.le_trans lx (by decide)
      have zy : y.length ≤ sizeLine := Nat.le_trans ly (by decide)
      have hlx : x.cps.toList.length = x.length := by simp [Str.length]
      have hly : y.cps.toList.length = y.length := by simp [Str.length]
      have gX : ∀ k, k < x.length → x.cps.toList[k]? = some (gx x k) := fun k hk => by
        unfold gx
        rw [List.getD_eq_getElem?_getD, List.getElem?_eq_getElem (by omega)]
        rfl
      have gY : ∀ k, k < x.length → y.cps.toList[k]? = some (gx y k) := fun k hk => by
        unfold gx
        rw [List.getD_eq_getElem?_getD, List.getElem?_eq_getElem (by omega)]
        rfl
      walk_at "wqs"
      refine w_lcp ?_
      walk_at "wqs"
      refine Wr.out (len_str zx) ?_
      walk_at "wqs"
      have hr : rangeD1 [.int (x.length : Nat)] = some (itR 0 x.length) := by
        simp only [rangeD1]
        rw [if_pos (by omega)]
        simp
      with_reducible refine Wr.out hr ?_
      refine ⟨Nat, List.range x.length, _, fun k => decide (gx x k ≠ gx y k), fun k => .int (k : Nat), its_R, by simpa using zx, fun k hk => ⟨_, rfl, ?_, fun _ => by simp only [Int.zero_add]; rfl⟩, ?_⟩
      · have hk : k < x.length := by simpa using hk
        refine Wr.eqn ?_
        show Wr (mTest _ [some (.int m), some (.tup (ws.map D.int)), some (.str x), some (.str y), none, none, some (.int (0 + (k : Nat)))] S) _ _
        rw [Int.zero_add]
        walk_at "wqs"
        refine Wr.out (ix_str zx (gX k hk)) ?_
        walk_at "wqs"
        refine Wr.out (ix_str zy (gY k hk)) ?_
        walk_at "wqs"
        refine Wr.out ne_ss ?_
        walk_at "wqs"
        rw [ch_eq]
        exact ⟨by simp, rfl⟩
      have hpm : ∀ k ∈ places x y, k < x.length := fun k hk => by
        unfold places at hk
        simpa using (List.mem_filter.mp hk).1
      have ep : (List.range x.length).filter (fun k => decide (gx x k ≠ gx y k)) = places x y := rfl
      rw [ep]
      rw [v0] at q0 q1
      have bad' : ∀ (u : Str), rsnOk 22 (.str u) = true → plV m ws x y (places x y) = some u → ∀ {δ : Ev.Env} {K : Ko}, K.ex = E → Ws (sRaise 2 22 (mC (.str u)) δ S) K := fun u hu e => bad u hu (v0.trans e)
      generalize places x y = ps at hpm q0 q1 bad'
      have last : ∀ {δ : Ev.Env}, δ[0]? = some (some (.int m)) → δ[1]? = some (some (.tup (ws.map D.int))) → δ[2]? = some (some (.str x)) → δ[3]? = some (some (.str y)) → plV m ws x y ps = sums m ws x y →
          Ws (sIf (mTest (mOp neD (mCall F_sum_of (mCons (mVar 0) (mCons (mVar 1) (mCons (mVar 2) mNil)))) (mCall F_sum_of (mCons (mVar 0) (mCons (mVar 1) (mCons (mVar 3) mNil)))))) (sRaise 2 22 (mC (.str "sum"))) sNext δ S) (kE QD E) := by
        intro δ h0 h1 h2 h3 hv
        have w0 : ∀ {Q : D → Store → Prop} {E : EK} {i : Nat} {d : D} {S : Store}, δ[i]? = some (some d) → Q d S → Wr (mVar i δ S) Q E := fun h q => w_var h q
        have sx : ∀ c ∈ x.cps.toList, c ∈ SG.cps.toList := fun c hc => (sgn_index m hm c (okText_all z c hc)).2
        have sy : ∀ c ∈ y.cps.toList, c ∈ SG.cps.toList := fun c hc => (sgn_index m hm c (okText_all z2 c hc)).2
        walk_at "wqs"
        with_reducible refine w0 h0 ?_
        walk_at "wqs"
        with_reducible refine w0 h1 ?_
        walk_at "wqs"
        with_reducible refine w0 h2 ?_
        walk_at "wqs"
        refine Wr.eq (sum_of_ok h zx sx) ?_
        walk_at "wqs"
        with_reducible refine w0 h0 ?_
        walk_at "wqs"
        with_reducible refine w0 h1 ?_
        walk_at "wqs"
        with_reducible refine w0 h3 ?_
        walk_at "wqs"
        refine Wr.eq (sum_of_ok h zy sy) ?_
        walk_at "wqs"
        refine ⟨fun u => bad' _ r3 (by rw [hv]; exact if_neg (by simpa using u)) rfl, fun u => ?_⟩
        walk_at "wqs"
        exact q0 (by rw [hv]; exact if_pos (by simpa using u))
      cases ps with
      | nil =>
        walk_at "wqs"
        refine ⟨fun z => by simp at z, fun _ => ?_⟩
        walk_at "wqs"
        refine ⟨fun _ => ?_, fun z => by simp at z⟩
        walk_at "wqs"
        refine ⟨fun z => by simp at z, fun _ => ?_⟩
        walk_at "wqs"
        refine ⟨fun _ => bad' _ r2 rfl rfl, fun z => by cases z⟩
      | cons k ps =>
        have hk := hpm k List.mem_cons_self
        cases ps with
        | nil =>
          walk_at "wqs"
          refine ⟨fun z => by simp at z, fun _ => ?_⟩
          walk_at "wqs"
          refine ⟨fun z => by simp at z, fun _ => ⟨fun z => (by cases z), fun _ => ?_⟩⟩
          refine s_next ?_
          exact last rfl rfl rfl rfl rfl
        | cons l ps =>
          have hl := hpm l (List.mem_cons_of_mem _ List.mem_cons_self)
          cases ps with
          | nil =>
            have i0 : ∀ {S : Store}, ixD S (.lst ([k, l].map fun k : Nat => D.int (k : Nat))) (.int 0) = some (.int (k : Nat)) := rfl
            have i1 : ∀ {S : Store}, ixD S (.lst ([k, l].map fun k : Nat => D.int (k : Nat))) (.int 1) = some (.int (l : Nat)) := rfl
            have xk : ∀ {S : Store}, ixD S (.str x) (.int (k : Nat)) = some (.str ⟨#[gx x k]⟩) := ix_str zx (gX k hk)
            have xl : ∀ {S : Store}, ixD S (.str x) (.int (l : Nat)) = some (.str ⟨#[gx x l]⟩) := ix_str zx (gX l hl)
            have yk : ∀ {S : Store}, ixD S (.str y) (.int (k : Nat)) = some (.str ⟨#[gx y k]⟩) := ix_str zy (gY k hk)
            have yl : ∀ {S : Store}, ixD S (.str y) (.int (l : Nat)) = some (.str ⟨#[gx y l]⟩) := ix_str zy (gY l hl)
            have fin : ∀ (b : Bool), (b = true ↔ l = k + 1 ∧ gx x k = gx y l) → Ws (sSeq (sIf (mAnd (mTest (mOp neD (mCB lenD (mCons (mVar 4) mNil)) (mC (.int 1)))) (mNot (mAnd (mTru (mVar 5)) (mTest (mOp eqD (mOp ixD (mVar 2) (mOp ixD (mVar 4) (mC (.int 1)))) (mOp ixD (mVar 3) (mOp ixD (mVar 4) (mC (.int 0))))))))) (sRaise 2 22 (mC (.str "change"))) sNext)
                (sIf (mTest (mOp neD (mCall F_sum_of (mCons (mVar 0) (mCons (mVar 1) (mCons (mVar 2) mNil)))) (mCall F_sum_of (mCons (mVar 0) (mCons (mVar 1) (mCons (mVar 3) mNil)))))) (sRaise 2 22 (mC (.str "sum"))) sNext)
                [some (.int m), some (.tup (ws.map D.int)), some (.str x), some (.str y), some (.lst ([k, l].map fun k : Nat => D.int (k : Nat))), some (.bl b), none] S) (kE QD E) := by
              intro b hb
              walk_at "wqs"
              refine ⟨fun _ => ?_, fun z => by simp at z⟩
              walk_at "wqs"
              refine ⟨fun hb1 => ?_, fun hb1 => ?_⟩
              · obtain ⟨q1', q2'⟩ := hb.mp hb1
                walk_at "wqs"
                refine Wr.out i1 ?_
                refine Wr.out xl ?_
                walk_at "wqs"
                refine Wr.out i0 ?_
                refine Wr.out yk ?_
                refine Wr.out eq_ss ?_
                walk_at "wqs"
                refine ⟨fun e => ?_, fun e => ?_⟩
                · refine bad' _ r2 ?_ rfl
                  rw [ch_eq] at e
                  have e : ¬ gx x l = gx y k := by simpa using e
                  exact if_neg fun q => e q.2.2
                · rw [ch_eq] at e
                  have e : gx x l = gx y k := by simpa using e
                  refine s_next ?_
                  exact last rfl rfl rfl rfl (if_pos ⟨q1', q2', e⟩)
              · walk_at "wqs"
                refine ⟨fun _ => bad' _ r2 ?_ rfl, fun z => by cases z⟩
                refine if_neg fun q => ?_
                have := hb.mpr ⟨q.1, q.2.1⟩
                rw [this] at hb1
                cases hb1
            walk_at "wqs"
            refine ⟨fun _ => ?_, fun z => by simp at z⟩
            walk_at "wqs"
            refine Wr.out i1 ?_
            walk_at "wqs"
            refine Wr.out i0 ?_
            walk_at "wqs"
            refine ⟨fun e => ?_, fun e => ?_⟩
            · have e : l = k + 1 := by have := of_decide_eq_true e; omega
              walk_at "wqs"
              refine Wr.out i0 ?_
              refine Wr.out xk ?_
              walk_at "wqs"
              refine Wr.out i1 ?_
              refine Wr.out yl ?_
              refine Wr.out eq_ss ?_
              rw [ch_eq]
              exact fin _ ⟨fun z => ⟨e, of_decide_eq_true z⟩, fun z => decide_eq_true z.2⟩
            · rw [e]
              exact fin false ⟨fun z => (by cases z), fun z => by
                have := of_decide_eq_false e
                omega⟩
          | cons j ps =>
            have h2 : ¬ ((((k :: l :: j :: ps).map fun k : Nat => D.int (k : Nat)).length : Int) = 2) := by simp; omega
            have h1 : ¬ ((((k :: l :: j :: ps).map fun k : Nat => D.int (k : Nat)).length : Int) = 1) := by simp; omega
            walk_at "wqs"
            refine ⟨fun z => absurd (of_decide_eq_true z) h2, fun _ => ?_⟩
            walk_at "wqs"
            refine ⟨fun _ => ?_, fun z => (by rw [decide_eq_false h1] at z; cases z)⟩
            walk_at "wqs"
            refine ⟨fun z => absurd (of_decide_eq_true z) h2, fun _ => ?_⟩
            walk_at "wqs"
            refine ⟨fun _ => bad' _ r2 rfl rfl, fun z => by cases z⟩
    | _ => cases z2
  | _ => cases z
end
end Lw

namespace Lw
open PySem Ev
section
variable {S : Store} {QD : D → Store → Prop} {E : EK}
def vd : Option Str → D
  | none => .non
  | some x => .str x
theorem due_bad {m : Int} {t e0 e1 e2 e3 : D} (ht : shortD t = true) : mOr (mNot (mTru (mIsT "str" (mVar 5)))) (mOr (mTest (mOp gtD (mCB lenD (mCons (mVar 5) mNil)) (mC (.int 4000)))) (mTru (mLc (mIt (mVar 5)) (gmName 10) (mTest (mOp ninD (mVar 10) (mVar 4))) (mVar 10) [10])))
    [some e0, some e1, some e2, some e3, some (.str (sgn m)), some t, none, none, none, none, none] S = .ok (!okText m t) S := by
  refine Wr.eqn ?_
  walk_at "wqs"
  refine ⟨_, isT_str (short_plain ht), ?_⟩
  walk_at "wqs"
  cases t with
  | str x =>
    have hx : x.length ≤ sizeLine := of_decide_eq_true ht
    refine ⟨fun z => (by cases z), fun _ => ?_⟩
    walk_at "wqs"
    refine Wr.out (len_str hx) ?_
    walk_at "wqs"
    have e : okText m (.str x) = (decide (x.length ≤ 4000) && x.cps.toList.all fun c => decide (c ∈ (sgn m).cps.toList)) := rfl
    refine ⟨fun z => ?_, fun z => ?_⟩
    · have z := of_decide_eq_true z
      rw [e, decide_eq_false (by omega)]
      exact ⟨rfl, rfl⟩
    · have z := of_decide_eq_false z
      walk_at "wqs"
      refine w_lcp ?_
      walk_at "wqs"
      refine Wr.out (a := itL (chars x)) rfl ?_
      refine ⟨Nat, x.cps.toList, _, fun c => !decide (c ∈ (sgn m).cps.toList), fun c => .str ⟨#[c]⟩, its_chars, hx, fun d hd => ⟨_, rfl, rfl, fun _ => rfl⟩, ?_⟩
      refine Wr.out (a := !((x.cps.toList.filter fun c => !decide (c ∈ (sgn m).cps.toList)).map fun c => D.str ⟨#[c]⟩).isEmpty) rfl ?_
      refine ⟨?_, rfl⟩
      rw [e, decide_eq_true (by omega), Bool.true_and, List.isEmpty_map]
      congr 1
      generalize x.cps.toList = cs
      induction cs with
      | nil => rfl
      | cons c cs ih =>
        by_cases hc : c ∈ (sgn m).cps.toList
        · rw [List.filter_cons_of_neg (by simp [hc]), ih, List.all_cons, decide_eq_true hc, Bool.true_and]
        · rw [List.filter_cons_of_pos (by simp [hc]), List.all_cons, decide_eq_false hc]
          rfl
  | _ => exact ⟨fun _ => ⟨rfl, rfl⟩, fun z => by cases z⟩
theorem due_ok {m : Int} {ws : List Int} {a b : D} (h : Ws0 m ws) (hm : m ∈ mods) (ha : shortD a = true) (hb : shortD b = true) : F__law_due [.int m, .tup (ws.map D.int), a, b] S = .ok (vd (verdict m ws a b)) S := by
  refine Wr.eqn ?_
  unfold F__law_due
  refine w_def ?_
  show Ws (m__law_due [some (.int m), some (.tup (ws.map D.int)), some a, some b, none, none, none, none, none, none, none] S) _
  unfold m__law_due
  walk_at "wqs"
  refine Wr.eq law_signs_ok ?_
  walk_at "wqs"
  refine ⟨by rfl, ?_⟩
  refine Wr.out (a := itL [a, b]) rfl ?_
  refine forGo_1 (k := 1) rfl rfl ?_
  refine s_if (Wr.eq (due_bad ha) ?_)
  refine ⟨fun z => ?_, fun z => ?_⟩
  · walk_at "wqs"
    rw [verdict_a (by simpa using z)]
    exact ⟨rfl, rfl⟩
  have z : okText m a = true := by simpa using z
  walk_at "wqs"
  refine forGo_1 (k := 0) rfl rfl ?_
  refine s_if (Wr.eq (due_bad hb) ?_)
  refine ⟨fun z => ?_, fun z2 => ?_⟩
  · walk_at "wqs"
    rw [verdict_b (by simpa using z)]
    exact ⟨rfl, rfl⟩
  have z2 : okText m b = true := by simpa using z2
  walk_at "wqs"
  show Ws _ _
  cases a with
  | str x =>
    cases b with
    | str y =>
      have lx := okText_len z
      have ly := okText_len z2
      have zx : x.length ≤ sizeLine := Nat.le_trans lx (by decide)
      have zy : y.length ≤ sizeLine := Nat.le_trans ly (by decide)
      walk_at "wqs"
      refine Wr.out (len_str zx) ?_
      walk_at "wqs"
      refine Wr.out (len_str zy) ?_
      walk_at "wqs"
      refine ⟨fun c => ?_, fun c => ?_⟩
      · have c : ¬ x.length = y.length := by simp at c; omega
        walk_at "wqs"
        have : verdict m ws (.str x) (.str y) = some ("form" : Str) := by
          show (if _ then _ else _) = _
          rw [if_neg (fun q => c q.2.2)]
        rw [this]
        exact ⟨rfl, rfl⟩
      have c : x.length = y.length := by simp at c; omega
      have v0 : verdict m ws (.str x) (.str y) = plV m ws x y (places x y) := if_pos ⟨z, z2, c⟩
      have hlx : x.cps.toList.length = x.length := by simp [Str.length]
      have hly : y.cps.toList.length = y.length := by simp [Str.length]
      have gX : ∀ k, k < x.length → x.cps.toList[k]? = some (gx x k) := fun k hk => by
        unfold gx
        rw [List.getD_eq_getElem?_getD, List.getElem?_eq_getElem (by omega)]
        rfl
      have gY : ∀ k, k < x.length → y.cps.toList[k]? = some (gx y k) := fun k hk => by
        unfold gx
        rw [List.getD_eq_getElem?_getD, List.getElem?_eq_getElem (by omega)]
        rfl
      walk_at "wqs"
      refine w_lcp ?_
      walk_at "wqs"
      refine Wr.out (len_str zx) ?_
      walk_at "wqs"
      with_reducible refine Wr.out (rangeD1_n zx) ?_
      refine ⟨Nat, List.range x.length, _, fun k => decide (gx x k ≠ gx y k), fun k => .int (k : Nat), itsA_R.its, by simpa using zx, fun k hk => ⟨_, rfl, ?_, fun _ => rfl⟩, ?_⟩
      · have hk : k < x.length := by simpa using hk
        refine Wr.eqn ?_
        show Wr (mTest _ [some (.int m), some (.tup (ws.map D.int)), some (.str x), some (.str y), _, _, none, some (.int (k : Nat)), none, none, none] S) _ _
        walk_at "wqs"
        refine Wr.out (ix_str zx (gX k hk)) ?_
        walk_at "wqs"
        refine Wr.out (ix_str zy (gY k hk)) ?_
        walk_at "wqs"
        refine Wr.out ne_ss ?_
        walk_at "wqs"
        rw [ch_eq]
        exact ⟨by simp, rfl⟩
      have hpm : ∀ k ∈ places x y, k < x.length := fun k hk => by
        unfold places at hk
        simpa using (List.mem_filter.mp hk).1
      have ep : (List.range x.length).filter (fun k => decide (gx x k ≠ gx y k)) = places x y := rfl
      rw [ep, v0]
      generalize places x y = ps at hpm
      have sx : ∀ c ∈ x.cps.toList, c ∈ (sgn m).cps.toList := okText_all z
      have sy : ∀ c ∈ y.cps.toList, c ∈ (sgn m).cps.toList := okText_all z2
      have last : ∀ {δ : Ev.Env}, δ[0]? = some (some (.int m)) → δ[1]? = some (some (.tup (ws.map D.int))) → δ[2]? = some (some (.str x)) → δ[3]? = some (some (.str y)) → plV m ws x y ps = sums m ws x y →
          Ws (sRet (mIf (mTest (mOp eqD (mCall F__law_sum (mCons (mVar 0) (mCons (mVar 1) (mCons (mVar 2) mNil)))) (mCall F__law_sum (mCons (mVar 0) (mCons (mVar 1) (mCons (mVar 3) mNil)))))) (mC .non) (mC (.str "sum"))) δ S)
            { nx := fun _ S' => D.non = vd (plV m ws x y ps) ∧ S' = S, rt := fun a S' => a = vd (plV m ws x y ps) ∧ S' = S, bk := fun _ _ => False, ct := fun _ _ => False, ex := fun _ _ _ => False } := by
        intro δ h0 h1 h2 h3 hv
        have w0 : ∀ {Q : D → Store → Prop} {E : EK} {i : Nat} {d : D} {S : Store}, δ[i]? = some (some d) → Q d S → Wr (mVar i δ S) Q E := fun h q => w_var h q
        walk_at "wqs"
        with_reducible refine w0 h0 ?_
        walk_at "wqs"
        with_reducible refine w0 h1 ?_
        walk_at "wqs"
        with_reducible refine w0 h2 ?_
        walk_at "wqs"
        refine Wr.eq (law_sum_ok h hm (by omega) sx) ?_
        walk_at "wqs"
        with_reducible refine w0 h0 ?_
        walk_at "wqs"
        with_reducible refine w0 h1 ?_
        walk_at "wqs"
        with_reducible refine w0 h3 ?_
        walk_at "wqs"
        refine Wr.eq (law_sum_ok h hm (by omega) sy) ?_
        walk_at "wqs"
        refine ⟨fun u => ?_, fun u => ?_⟩
        · walk_at "wqs"
          have : sums m ws x y = none := if_pos (by simpa using u)
          rw [hv, this]
          exact ⟨rfl, rfl⟩
        · walk_at "wqs"
          have : sums m ws x y = some ("sum" : Str) := if_neg (by simpa using u)
          rw [hv, this]
          exact ⟨rfl, rfl⟩
      cases ps with
      | nil =>
        walk_at "wqs"
        refine ⟨fun z => by simp at z, fun _ => ?_⟩
        walk_at "wqs"
        refine ⟨fun _ => ?_, fun z => by simp at z⟩
        walk_at "wqs"
        exact ⟨rfl, rfl⟩
      | cons k ps =>
        have hk := hpm k List.mem_cons_self
        cases ps with
        | nil =>
          walk_at "wqs"
          refine ⟨fun z => by simp at z, fun _ => ?_⟩
          walk_at "wqs"
          refine ⟨fun z => by simp at z, fun _ => ?_⟩
          refine s_next ?_
          exact last rfl rfl rfl rfl rfl
        | cons l ps =>
          have hl := hpm l (List.mem_cons_of_mem _ List.mem_cons_self)
          cases ps with
          | nil =>
            have xk : ∀ {S : Store}, ixD S (.str x) (.int (k : Nat)) = some (.str ⟨#[gx x k]⟩) := ix_str zx (gX k hk)
            have xl : ∀ {S : Store}, ixD S (.str x) (.int (l : Nat)) = some (.str ⟨#[gx x l]⟩) := ix_str zx (gX l hl)
            have yk : ∀ {S : Store}, ixD S (.str y) (.int (k : Nat)) = some (.str ⟨#[gx y k]⟩) := ix_str zy (gY k hk)
            have yl : ∀ {S : Store}, ixD S (.str y) (.int (l : Nat)) = some (.str ⟨#[gx y l]⟩) := ix_str zy (gY l hl)
            have ad : ∀ {S : Store} {a b : Nat}, addD S (.str ⟨#[a]⟩) (.str ⟨#[b]⟩) = some (.str ⟨#[a, b]⟩) := rfl
            walk_at "wqs"
            refine ⟨fun _ => ?_, fun z => by simp at z⟩
            refine s_seq (s_asg (w_var (by with_unfolding_all rfl) ⟨_, _, rfl, ?_⟩))
            show Ws (sIf _ _ _ [some (.int m), some (.tup (ws.map D.int)), some (.str x), some (.str y), _, _, _, none, some (.int (k : Nat)), some (.int (l : Nat)), none] S) _
            walk_at "wqs"
            refine ⟨fun u => ?_, fun u => ?_⟩
            · walk_at "wz"
              have : plV m ws x y [k, l] = some ("change" : Str) := if_neg (by simp at u; omega)
              rw [this]
              exact ⟨rfl, rfl⟩
            have u : l = k + 1 := by simp at u; omega
            walk_at "wqs"
            refine Wr.out xk ?_
            walk_at "wqs"
            refine Wr.out xl ?_
            walk_at "wqs"
            refine Wr.out ad ?_
            walk_at "wqs"
            refine Wr.out yl ?_
            walk_at "wqs"
            refine Wr.out yk ?_
            walk_at "wqs"
            refine Wr.out ad ?_
            walk_at "wqs"
            refine Wr.out ne_ss ?_
            walk_at "wqs"
            have e2 : decide ((⟨#[gx x k, gx x l]⟩ : Str) = ⟨#[gx y l, gx y k]⟩) = decide (gx x k = gx y l ∧ gx x l = gx y k) := by
              by_cases q : gx x k = gx y l ∧ gx x l = gx y k
              · rw [q.1, q.2]; simp
              · rw [decide_eq_false q, decide_eq_false]
                intro e
                injection e with e
                exact q (by simpa using e)
            rw [e2]
            refine ⟨fun v => ?_, fun v => ?_⟩
            · walk_at "wqs"
              have : plV m ws x y [k, l] = some ("change" : Str) := if_neg (by intro q; simp [q.2.1, q.2.2] at v)
              rw [this]
              exact ⟨rfl, rfl⟩
            · have v : gx x k = gx y l ∧ gx x l = gx y k := by simpa using v
              refine s_next ?_
              exact last rfl rfl rfl rfl (if_pos ⟨u, v⟩)
          | cons j ps =>
            have h2 : ¬ ((((k :: l :: j :: ps).map fun k : Nat => D.int (k : Nat)).length : Int) = 2) := by simp; omega
            have h1 : ¬ ((((k :: l :: j :: ps).map fun k : Nat => D.int (k : Nat)).length : Int) = 1) := by simp; omega
            walk_at "wqs"
            refine ⟨fun z => absurd (of_decide_eq_true z) h2, fun _ => ?_⟩
            walk_at "wqs"
            refine ⟨fun _ => ?_, fun z => (by rw [decide_eq_false h1] at z; cases z)⟩
            walk_at "wqs"
            exact ⟨rfl, rfl⟩
    | _ => cases z2
  | _ => cases z
end
end Lw

namespace Lw
open PySem Ev
section
variable {S : Store} {QD : D → Store → Prop} {E : EK}
theorem wd_is_integer {a0 : D} (h : Ws (m_is_integer [some a0] S) (kE QD E)) : Wr (F_is_integer [a0] S) QD E := by
  unfold F_is_integer
  exact w_def' (n := 1) (b := m_is_integer) (ds := [a0]) (δ := [some a0]) rfl h
theorem wd_check_code {a0 a1 : D} (h : Ws (m_check_code [some a0, some a1, none] S) (kE QD E)) : Wr (F_check_code [a0, a1] S) QD E := by
  unfold F_check_code
  exact w_def' (n := 3) (b := m_check_code) (ds := [a0, a1]) (δ := [some a0, some a1, none]) rfl h
theorem wd_is_text {a0 a1 : D} (h : Ws (m_is_text [some a0, some a1, none, none] S) (kE QD E)) : Wr (F_is_text [a0, a1] S) QD E := by
  unfold F_is_text
  exact w_def' (n := 4) (b := m_is_text) (ds := [a0, a1]) (δ := [some a0, some a1, none, none]) rfl h
theorem wd_check_text {a0 a1 : D} (h : Ws (m_check_text [some a0, some a1] S) (kE QD E)) : Wr (F_check_text [a0, a1] S) QD E := by
  unfold F_check_text
  exact w_def' (n := 2) (b := m_check_text) (ds := [a0, a1]) (δ := [some a0, some a1]) rfl h
theorem wd_sum_of {a0 a1 a2 : D} (h : Ws (m_sum_of [some a0, some a1, some a2, none, none, none] S) (kE QD E)) : Wr (F_sum_of [a0, a1, a2] S) QD E := by
  unfold F_sum_of
  exact w_def' (n := 6) (b := m_sum_of) (ds := [a0, a1, a2]) (δ := [some a0, some a1, some a2, none, none, none]) rfl h
theorem wd_check_sum {a0 a1 a2 : D} (h : Ws (m_check_sum [some a0, some a1, some a2] S) (kE QD E)) : Wr (F_check_sum [a0, a1, a2] S) QD E := by
  unfold F_check_sum
  exact w_def' (n := 3) (b := m_check_sum) (ds := [a0, a1, a2]) (δ := [some a0, some a1, some a2]) rfl h
theorem wd_is_guarded {a0 a1 a2 : D} (h : Ws (m_is_guarded [some a0, some a1, some a2] S) (kE QD E)) : Wr (F_is_guarded [a0, a1, a2] S) QD E := by
  unfold F_is_guarded
  exact w_def' (n := 3) (b := m_is_guarded) (ds := [a0, a1, a2]) (δ := [some a0, some a1, some a2]) rfl h
theorem wd_guards_of {a0 a1 a2 : D} (h : Ws (m_guards_of [some a0, some a1, some a2, none, none] S) (kE QD E)) : Wr (F_guards_of [a0, a1, a2] S) QD E := by
  unfold F_guards_of
  exact w_def' (n := 5) (b := m_guards_of) (ds := [a0, a1, a2]) (δ := [some a0, some a1, some a2, none, none]) rfl h
theorem wd_signs_of {a0 : D} (h : Ws (m_signs_of [some a0] S) (kE QD E)) : Wr (F_signs_of [a0] S) QD E := by
  unfold F_signs_of
  exact w_def' (n := 1) (b := m_signs_of) (ds := [a0]) (δ := [some a0]) rfl h
theorem wd_judge_changes {a0 a1 : D} (h : Ws (m_judge_changes [some a0, some a1, none, none, none] S) (kE QD E)) : Wr (F_judge_changes [a0, a1] S) QD E := by
  unfold F_judge_changes
  exact w_def' (n := 5) (b := m_judge_changes) (ds := [a0, a1]) (δ := [some a0, some a1, none, none, none]) rfl h
theorem wd_judge_turns {a0 a1 : D} (h : Ws (m_judge_turns [some a0, some a1, none, none, none] S) (kE QD E)) : Wr (F_judge_turns [a0, a1] S) QD E := by
  unfold F_judge_turns
  exact w_def' (n := 5) (b := m_judge_turns) (ds := [a0, a1]) (δ := [some a0, some a1, none, none, none]) rfl h
theorem wd_accept_missed {a0 a1 a2 a3 : D} (h : Ws (m_accept_missed [some a0, some a1, some a2, some a3, none, none, none] S) (kE QD E)) : Wr (F_accept_missed [a0, a1, a2, a3] S) QD E := by
  unfold F_accept_missed
  exact w_def' (n := 7) (b := m_accept_missed) (ds := [a0, a1, a2, a3]) (δ := [some a0, some a1, some a2, some a3, none, none, none]) rfl h
theorem wd_repairs {a0 a1 a2 : D} (h : Ws (m_repairs [some a0, some a1, some a2, none, none, none, none, none, none] S) (kE QD E)) : Wr (F_repairs [a0, a1, a2] S) QD E := by
  unfold F_repairs
  exact w_def' (n := 9) (b := m_repairs) (ds := [a0, a1, a2]) (δ := [some a0, some a1, some a2, none, none, none, none, none, none]) rfl h
theorem wd_turn_repairs {a0 a1 a2 : D} (h : Ws (m_turn_repairs [some a0, some a1, some a2, none, none, none] S) (kE QD E)) : Wr (F_turn_repairs [a0, a1, a2] S) QD E := by
  unfold F_turn_repairs
  exact w_def' (n := 6) (b := m_turn_repairs) (ds := [a0, a1, a2]) (δ := [some a0, some a1, some a2, none, none, none]) rfl h
theorem wd_filled {a0 a1 a2 a3 : D} (h : Ws (m_filled [some a0, some a1, some a2, some a3, none, none, none] S) (kE QD E)) : Wr (F_filled [a0, a1, a2, a3] S) QD E := by
  unfold F_filled
  exact w_def' (n := 7) (b := m_filled) (ds := [a0, a1, a2, a3]) (δ := [some a0, some a1, some a2, some a3, none, none, none]) rfl h
theorem wd_turns_found {a0 a1 a2 : D} (h : Ws (m_turns_found [some a0, some a1, some a2, none] S) (kE QD E)) : Wr (F_turns_found [a0, a1, a2] S) QD E := by
  unfold F_turns_found
  exact w_def' (n := 4) (b := m_turns_found) (ds := [a0, a1, a2]) (δ := [some a0, some a1, some a2, none]) rfl h
theorem wd_extended {a0 a1 a2 a3 : D} (h : Ws (m_extended [some a0, some a1, some a2, some a3, none, none] S) (kE QD E)) : Wr (F_extended [a0, a1, a2, a3] S) QD E := by
  unfold F_extended
  exact w_def' (n := 6) (b := m_extended) (ds := [a0, a1, a2, a3]) (δ := [some a0, some a1, some a2, some a3, none, none]) rfl h
theorem wd_good_weights {a0 a1 : D} (h : Ws (m_good_weights [some a0, some a1, none, none] S) (kE QD E)) : Wr (F_good_weights [a0, a1] S) QD E := by
  unfold F_good_weights
  exact w_def' (n := 4) (b := m_good_weights) (ds := [a0, a1]) (δ := [some a0, some a1, none, none]) rfl h
theorem wd_missed_share {a0 a1 a2 : D} (h : Ws (m_missed_share [some a0, some a1, some a2, none, none, none, none] S) (kE QD E)) : Wr (F_missed_share [a0, a1, a2] S) QD E := by
  unfold F_missed_share
  exact w_def' (n := 7) (b := m_missed_share) (ds := [a0, a1, a2]) (δ := [some a0, some a1, some a2, none, none, none, none]) rfl h
theorem wd__law_start {a0 : D} (h : Ws (m__law_start [some a0, none, none] S) (kE QD E)) : Wr (F__law_start [a0] S) QD E := by
  unfold F__law_start
  exact w_def' (n := 3) (b := m__law_start) (ds := [a0]) (δ := [some a0, none, none]) rfl h
theorem wd__law_draw {a0 a1 : D} (h : Ws (m__law_draw [some a0, some a1, none] S) (kE QD E)) : Wr (F__law_draw [a0, a1] S) QD E := by
  unfold F__law_draw
  exact w_def' (n := 3) (b := m__law_draw) (ds := [a0, a1]) (δ := [some a0, some a1, none]) rfl h
theorem wd__law_told {a0 a1 a2 a3 a4 : D} (h : Ws (m__law_told [some a0, some a1, some a2, some a3, some a4, none, none] S) (kE QD E)) : Wr (F__law_told [a0, a1, a2, a3, a4] S) QD E := by
  unfold F__law_told
  exact w_def' (n := 7) (b := m__law_told) (ds := [a0, a1, a2, a3, a4]) (δ := [some a0, some a1, some a2, some a3, some a4, none, none]) rfl h
theorem wd__law_signs {a0 : D} (h : Ws (m__law_signs [some a0] S) (kE QD E)) : Wr (F__law_signs [a0] S) QD E := by
  unfold F__law_signs
  exact w_def' (n := 1) (b := m__law_signs) (ds := [a0]) (δ := [some a0]) rfl h
theorem wd__law_sum {a0 a1 a2 : D} (h : Ws (m__law_sum [some a0, some a1, some a2, none, none] S) (kE QD E)) : Wr (F__law_sum [a0, a1, a2] S) QD E := by
  unfold F__law_sum
  exact w_def' (n := 5) (b := m__law_sum) (ds := [a0, a1, a2]) (δ := [some a0, some a1, some a2, none, none]) rfl h
theorem wd__law_due {a0 a1 a2 a3 : D} (h : Ws (m__law_due [some a0, some a1, some a2, some a3, none, none, none, none, none, none, none] S) (kE QD E)) : Wr (F__law_due [a0, a1, a2, a3] S) QD E := by
  unfold F__law_due
  exact w_def' (n := 11) (b := m__law_due) (ds := [a0, a1, a2, a3]) (δ := [some a0, some a1, some a2, some a3, none, none, none, none, none, none, none]) rfl h
theorem wd_law {a0 : D} (h : Ws (m_law [some a0, none, none, none, none, none, none, none, none, none, none, none, none, none, none, none, none, none] S) (kE QD E)) : Wr (F_law [a0] S) QD E := by
  unfold F_law
  exact w_def' (n := 18) (b := m_law) (ds := [a0]) (δ := [some a0, none, none, none, none, none, none, none, none, none, none, none, none, none, none, none, none, none]) rfl h
end
end Lw

namespace Lw
open PySem Ev
section
variable {S : Store} {QD : D → Store → Prop} {E : EK}
def preT : Nat → Str
  | 0 => "kind "
  | 1 => "argument "
  | _ => ""
def hnd : SM := (sSeq (sAsg (mLst (mCons (mIsE (tbC es 0) (mVar 5)) (mCons (mIsE (tbC es 1) (mVar 5)) (mCons (mIsE (tbC es 2) (mVar 5)) mNil)))) (gmName 6)) (sSeq (sIf (mOr (mNot (mTru (mIsE (tbV es) (mVar 5)))) (mTest (mOp neD (mMt "list" countD (mVar 6) (mCons (mC (.bl true)) mNil)) (mC (.int 1))))) (sRet (mC (.str "other"))) sNext) (sRet (mOp addD (mOp ixD (mLst (mCons (mC (.str "kind ")) (mCons (mC (.str "argument ")) (mCons (mC (.str "")) mNil)))) (mMt "list" indexD (mVar 6) (mCons (mC (.bl true)) mNil))) (mXf [0, 1, 2] (mVar 5))))))
theorem hnd_ok {c : Nat} {x : Str} (hc : c < 3) (hx : x.length ≤ 100) {K : Ko} (q : K.rt (.str (preT c ++ x)) []) : Ws (hnd ((List.replicate 7 none).set 5 (some (.err c (.str x)))) []) K := by
  show Ws (hnd [none, none, none, none, none, some (.err c (.str x)), none] []) K
  have hz : ∀ (p : Str), p.length ≤ 20 → p.length + x.length ≤ sizeLine := fun p hp => Nat.le_trans (Nat.add_le_add hp hx) (by decide)
  have a0 : ∀ {S : Store}, addD S (.str "kind ") (.str x) = some (.str ("kind " ++ x)) := fun {S} => add_ss (hz _ (by decide +kernel))
  have a1 : ∀ {S : Store}, addD S (.str "argument ") (.str x) = some (.str ("argument " ++ x)) := fun {S} => add_ss (hz _ (by decide +kernel))
  have a2 : ∀ {S : Store}, addD S (.str "") (.str x) = some (.str ("" ++ x)) := fun {S} => add_ss (hz _ (by decide +kernel))
  unfold hnd
  match c, hc with
  | 0, _ =>
    walk_at "wz"
    refine w_isE (w_var rfl ⟨_, _, true, rfl, rfl, ?_⟩)
    walk_at "wz"
    refine w_isE (w_var rfl ⟨_, _, false, rfl, rfl, ?_⟩)
    walk_at "wz"
    refine w_isE (w_var rfl ⟨_, _, false, rfl, rfl, ?_⟩)
    walk_at "wz"
    refine ⟨rfl, ?_⟩
    walk_at "wz"
    refine w_isE (w_var rfl ⟨_, _, true, rfl, rfl, ?_⟩)
    walk_at "wz"
    refine w_mt (w_var rfl ⟨rfl, ?_⟩)
    walk_at "wz"
    refine ⟨.int 1, _, rfl, ?_⟩
    walk_at "wz"
    refine ⟨rfl, ?_⟩
    refine w_mt (w_var rfl ⟨rfl, ?_⟩)
    walk_at "wz"
    refine ⟨.int 0, _, rfl, ?_⟩
    refine Wr.out (a := .str "kind ") rfl ?_
    refine w_xf (w_var rfl ⟨_, _, rfl, by decide, ?_⟩)
    exact Wr.out a0 q
  | 1, _ =>
    walk_at "wz"
    refine w_isE (w_var rfl ⟨_, _, false, rfl, rfl, ?_⟩)
    walk_at "wz"
    refine w_isE (w_var rfl ⟨_, _, true, rfl, rfl, ?_⟩)
    walk_at "wz"
    refine w_isE (w_var rfl ⟨_, _, false, rfl, rfl, ?_⟩)
    walk_at "wz"
    refine ⟨rfl, ?_⟩
    walk_at "wz"
    refine w_isE (w_var rfl ⟨_, _, true, rfl, rfl, ?_⟩)
    walk_at "wz"
    refine w_mt (w_var rfl ⟨rfl, ?_⟩)
    walk_at "wz"
    refine ⟨.int 1, _, rfl, ?_⟩
    walk_at "wz"
    refine ⟨rfl, ?_⟩
    refine w_mt (w_var rfl ⟨rfl, ?_⟩)
    walk_at "wz"
    refine ⟨.int 1, _, rfl, ?_⟩
    refine Wr.out (a := .str "argument ") rfl ?_
    refine w_xf (w_var rfl ⟨_, _, rfl, by decide, ?_⟩)
    exact Wr.out a1 q
  | 2, _ =>
    walk_at "wz"
    refine w_isE (w_var rfl ⟨_, _, false, rfl, rfl, ?_⟩)
    walk_at "wz"
    refine w_isE (w_var rfl ⟨_, _, false, rfl, rfl, ?_⟩)
    walk_at "wz"
    refine w_isE (w_var rfl ⟨_, _, true, rfl, rfl, ?_⟩)
    walk_at "wz"
    refine ⟨rfl, ?_⟩
    walk_at "wz"
    refine w_isE (w_var rfl ⟨_, _, true, rfl, rfl, ?_⟩)
    walk_at "wz"
    refine w_mt (w_var rfl ⟨rfl, ?_⟩)
    walk_at "wz"
    refine ⟨.int 1, _, rfl, ?_⟩
    walk_at "wz"
    refine ⟨rfl, ?_⟩
    refine w_mt (w_var rfl ⟨rfl, ?_⟩)
    walk_at "wz"
    refine ⟨.int 2, _, rfl, ?_⟩
    refine Wr.out (a := .str "") rfl ?_
    refine w_xf (w_var rfl ⟨_, _, rfl, by decide, ?_⟩)
    exact Wr.out a2 q
def tcall (a b c d : D) : Nat → Res D
  | 0 => F_accept_missed [a, b, c, d] S
  | 1 => F_check_sum [a, b, c] S
  | 2 => F_is_guarded [a, b, c] S
  | 3 => F_guards_of [a, b, c] S
  | 4 => F_repairs [a, b, c] S
  | 5 => F_turn_repairs [a, b, c] S
  | 6 => F_filled [a, b, c, d] S
  | 7 => F_missed_share [a, b, c] S
  | 8 => F_judge_changes [a, b] S
  | 9 => F_judge_turns [a, b] S
  | _ => F_good_weights [a, b] S
theorem told_x {a b c d : D} {k e : Nat} {x : Str} (hk : k < 11) (he : e < 3) (hx : x.length ≤ 100) (h : tcall a b c d (S := S) k = .exc e (.str x) S) : F__law_told [.int k, a, b, c, d] S = .ok (.str (preT e ++ x)) S := by
  refine Wr.eqn ?_
  refine wd__law_told ?_
  unfold m__law_told
  refine s_seq (s_try ?_ ?_)
  · repeat (first | exact lp_ret | exact lp_drop | refine lp_if ?_ ?_)
  have fin : ∀ {K : Ko}, K.rt (.str (preT e ++ x)) S → (tbV es e = some true ∧ plainD (.str x) = true ∧ Ws (hnd ((List.replicate 7 none).set 5 (some (.err e (.str x)))) []) { nx := fun _ _ => False, rt := fun r _ => plainD r = true ∧ K.rt r S, bk := fun _ _ => False, ct := fun _ _ => False, ex := fun _ _ _ => False }) :=
    fun {K} q => ⟨by match e, he with | 0, _ | 1, _ | 2, _ => rfl, rfl, hnd_ok he hx ⟨rfl, q⟩⟩
  match k, hk with
  | 0, _ | 1, _ | 2, _ | 3, _ | 4, _ | 5, _ | 6, _ | 7, _ | 8, _ | 9, _ | 10, _ =>
    walk_at "wz"
    refine Wr.eqx h ?_
    refine Or.inl (fin ?_)
    exact ⟨rfl, rfl⟩
theorem told_n {a b c d v : D} {k : Nat} (hk : k < 11) (h : tcall a b c d (S := S) k = .ok v S) (h0 : k = 0 → v = .non) : F__law_told [.int k, a, b, c, d] S = .ok .non S := by
  refine Wr.eqn ?_
  refine wd__law_told ?_
  unfold m__law_told
  refine s_seq (s_try ?_ ?_)
  · repeat (first | exact lp_ret | exact lp_drop | refine lp_if ?_ ?_)
  match k, hk with
  | 0, _ =>
    rw [h0 rfl] at h
    walk_at "wz"
    refine Wr.eq h ?_
    exact ⟨rfl, rfl⟩
  | 1, _ | 2, _ | 3, _ | 4, _ | 5, _ | 6, _ | 7, _ | 8, _ | 9, _ | 10, _ =>
    walk_at "wz"
    refine Wr.eq h ?_
    walk_at "wz"
    exact ⟨rfl, rfl⟩
/-- which = 0 -/
theorem told_0 {m : Int} {ws : List Int} {a b : D} (h : Ws0 m ws) (hm : m ∈ mods) (ha : shortD a = true) (hb : shortD b = true) : F__law_told [.int (0 : Nat), .int m, .tup (ws.map D.int), a, b] S = .ok (vd (verdict m ws a b)) S := by
  cases e : verdict m ws a b with
  | none => exact told_n (by omega) (v := .non) (Wr.eqn (missed_ok h hm ha hb (fun _ => ⟨rfl, rfl⟩) fun x hx => by rw [e] at hx; cases hx)) fun _ => rfl
  | some x =>
    have hs : ∀ u v, sums m ws u v = none ∨ sums m ws u v = some ("sum" : Str) := fun u v => by
      unfold sums
      split <;> simp
    have hp : ∀ u v ps, plV m ws u v ps = none ∨ plV m ws u v ps = some ("change" : Str) ∨ plV m ws u v ps = some ("sum" : Str) := fun u v ps => by
      unfold plV
      split
      · rcases hs u v with z | z <;> simp [z]
      · split
        · rcases hs u v with z | z <;> simp [z]
        · simp
      · simp
    have hx : x = "form" ∨ x = "change" ∨ x = "sum" := by
      have e' := e
      unfold verdict at e'
      split at e'
      · split at e'
        · rename_i u v _
          rcases hp u v (places u v) with z | z | z <;> rw [z] at e' <;> simp at e' <;> simp [← e']
        · simp at e'; simp [← e']
      · simp at e'; simp [← e']
    have := told_x (S := S) (k := 0) (e := 2) (a := .int m) (b := .tup (ws.map D.int)) (c := a) (d := b) (x := x) (by omega) (by omega) (by rcases hx with rfl | rfl | rfl <;> decide +kernel) (Wr.exn (missed_ok h hm ha hb (fun z => by rw [e] at z; cases z) fun y hy => by
      rw [e] at hy
      cases hy
      exact ⟨rfl, rfl, rfl⟩))
    rw [this]
    congr 2
    rcases hx with rfl | rfl | rfl <;> decide +kernel
end
end Lw

namespace Lw
open PySem Ev
section
variable {S : Store} {QD : D → Store → Prop} {E : EK}
theorem code_x {m : Int} {w : D} {x : Str} (hw : plainA w = true) (ha : ∀ ds, w = .tup ds → ∀ d ∈ ds, plainA d = true) (h : codeV (.int m) w = some x) : F_check_code [.int m, w] S = .exc 1 (.str x) S :=
  Wr.exn (check_code_ok rfl hw ha (fun z => by rw [h] at z; cases z) fun y hy => by rw [h] at hy; cases hy; exact ⟨rfl, rfl, rfl⟩)
theorem wts_told {m : Int} {w : D} (hw : plainA w = true) (ha : ∀ ds, w = .tup ds → ∀ d ∈ ds, plainA d = true) (h : codeV (.int m) w = some ("weights" : Str)) : ∀ k, k < 10 → F__law_told [.int (k : Nat), .int m, w, .non, .non] S = .ok (.str "argument weights") S := by
  intro k hk
  have hc : F_check_code [.int m, w] S = .exc 1 (.str "weights") S := code_x hw ha h
  refine told_x (e := 1) (x := "weights") (by omega) (by omega) (by decide +kernel) ?_
  match k, hk with
  | 0, _ => refine Wr.exn (wd_accept_missed ?_); unfold m_accept_missed; walk_at "wz"; exact Wr.eqx hc ⟨rfl, rfl, rfl⟩
  | 1, _ => refine Wr.exn (wd_check_sum ?_); unfold m_check_sum; walk_at "wz"; exact Wr.eqx hc ⟨rfl, rfl, rfl⟩
  | 2, _ => refine Wr.exn (wd_is_guarded ?_); unfold m_is_guarded; walk_at "wz"; exact Wr.eqx hc ⟨rfl, rfl, rfl⟩
  | 3, _ => refine Wr.exn (wd_guards_of ?_); unfold m_guards_of; walk_at "wz"; exact Wr.eqx hc ⟨rfl, rfl, rfl⟩
  | 4, _ => refine Wr.exn (wd_repairs ?_); unfold m_repairs; walk_at "wz"; exact Wr.eqx hc ⟨rfl, rfl, rfl⟩
  | 5, _ => refine Wr.exn (wd_turn_repairs ?_); unfold m_turn_repairs; walk_at "wz"; exact Wr.eqx hc ⟨rfl, rfl, rfl⟩
  | 6, _ => refine Wr.exn (wd_filled ?_); unfold m_filled; walk_at "wz"; exact Wr.eqx hc ⟨rfl, rfl, rfl⟩
  | 7, _ => refine Wr.exn (wd_missed_share ?_); unfold m_missed_share; walk_at "wz"; exact Wr.eqx hc ⟨rfl, rfl, rfl⟩
  | 8, _ => refine Wr.exn (wd_judge_changes ?_); unfold m_judge_changes; walk_at "wz"; exact Wr.eqx hc ⟨rfl, rfl, rfl⟩
  | 9, _ => refine Wr.exn (wd_judge_turns ?_); unfold m_judge_turns; walk_at "wz"; exact Wr.eqx hc ⟨rfl, rfl, rfl⟩
theorem text_x {m : Int} {b : D} (hb : shortD b = true) (h : okText m b = false) : F_check_text [b, .int m] S = .exc 1 (.str "text") S :=
  Wr.exn (check_text_ok hb (fun z => by rw [h] at z; cases z) fun _ => ⟨rfl, rfl, rfl⟩)
theorem txt_told {m : Int} {ws : List Int} {b : D} (hw : Ws0 m ws) (hb : shortD b = true) (h : okText m b = false) : ∀ k : Nat, 1 ≤ k → k < 8 → F__law_told [.int (k : Nat), .int m, .tup (ws.map D.int), b, .non] S = .ok (.str "argument text") S := by
  intro k hk1 hk
  have hc : F_check_text [b, .int m] S = .exc 1 (.str "text") S := text_x hb h
  refine told_x (e := 1) (x := "text") (by omega) (by omega) (by decide +kernel) ?_
  match k, hk1, hk with
  | 1, _, _ => refine Wr.exn (wd_check_sum ?_); unfold m_check_sum; walk_at "wz"; refine check_code_good hw ?_; walk_at "wz"; exact Wr.eqx hc ⟨rfl, rfl, rfl⟩
  | 2, _, _ => refine Wr.exn (wd_is_guarded ?_); unfold m_is_guarded; walk_at "wz"; refine check_code_good hw ?_; walk_at "wz"; exact Wr.eqx hc ⟨rfl, rfl, rfl⟩
  | 3, _, _ => refine Wr.exn (wd_guards_of ?_); unfold m_guards_of; walk_at "wz"; refine check_code_good hw ?_; walk_at "wz"; exact Wr.eqx hc ⟨rfl, rfl, rfl⟩
  | 4, _, _ => refine Wr.exn (wd_repairs ?_); unfold m_repairs; walk_at "wz"; refine check_code_good hw ?_; walk_at "wz"; exact Wr.eqx hc ⟨rfl, rfl, rfl⟩
  | 5, _, _ => refine Wr.exn (wd_turn_repairs ?_); unfold m_turn_repairs; walk_at "wz"; refine check_code_good hw ?_; walk_at "wz"; exact Wr.eqx hc ⟨rfl, rfl, rfl⟩
  | 6, _, _ => refine Wr.exn (wd_filled ?_); unfold m_filled; walk_at "wz"; refine check_code_good hw ?_; walk_at "wz"; exact Wr.eqx hc ⟨rfl, rfl, rfl⟩
  | 7, _, _ => refine Wr.exn (wd_missed_share ?_); unfold m_missed_share; walk_at "wz"; refine check_code_good hw ?_; walk_at "wz"; exact Wr.eqx hc ⟨rfl, rfl, rfl⟩
theorem text_good {m : Int} {x : Str} (h : okText m (.str x) = true) (q : QD .non S) : Wr (F_check_text [.str x, .int m] S) QD E :=
  check_text_ok (decide_eq_true (Nat.le_trans (okText_len h) (by decide))) (fun _ => q) fun z => by rw [h] at z; cases z
theorem sum_good {m : Int} {ws : List Int} {x : Str} (hw : Ws0 m ws) (hm : m ∈ mods) (h : okText m (.str x) = true) (q : QD (.int (sumL ws 0 x.cps.toList % m)) S) : Wr (F_sum_of [.int m, .tup (ws.map D.int), .str x] S) QD E :=
  Wr.eq (sum_of_ok hw (Nat.le_trans (okText_len h) (by decide)) fun c hc => (sgn_index m hm c (okText_all h c hc)).2) q
/-- the longest text -/
theorem long_told {m : Int} {ws : List Int} {x : Str} (hw : Ws0 m ws) (hm : m ∈ mods) (h : okText m (.str x) = true) (hl : x.length = 4000) : F__law_told [.int (3 : Nat), .int m, .tup (ws.map D.int), .str x, .non] S = .ok (.str "argument text") S ∧
    F__law_told [.int (1 : Nat), .int m, .tup (ws.map D.int), .str x, .non] S = .ok .non S := by
  have zx : x.length ≤ sizeLine := Nat.le_trans (okText_len h) (by decide)
  constructor
  · refine told_x (e := 1) (x := "text") (by omega) (by omega) (by decide +kernel) ?_
    refine Wr.exn (wd_guards_of ?_)
    unfold m_guards_of
    walk_at "wz"
    refine check_code_good hw ?_
    walk_at "wz"
    refine text_good h ?_
    walk_at "wz"
    refine Wr.out (len_str zx) ?_
    walk_at "wz"
    rw [hl]
    walk_at "wz"
    exact ⟨by decide +kernel, rfl, rfl, rfl⟩
  · refine told_n (by omega) (v := .int (sumL ws 0 x.cps.toList % m)) ?_ (fun z => by cases z)
    refine Wr.eqn (wd_check_sum ?_)
    unfold m_check_sum
    walk_at "wz"
    refine check_code_good hw ?_
    walk_at "wz"
    refine text_good h ?_
    walk_at "wz"
    exact sum_good hw hm h ⟨rfl, rfl⟩
def badPlace (n : Nat) : D → Bool
  | .int i => decide (i < 0 ∨ (n : Int) ≤ i)
  | _ => true
theorem place_told {m : Int} {ws : List Int} {x : Str} {d : D} (hw : Ws0 m ws) (h : okText m (.str x) = true) (hd : plainA d = true) (hb : badPlace x.length d = true) : F__law_told [.int (6 : Nat), .int m, .tup (ws.map D.int), .str x, d] S = .ok (.str "argument place") S := by
  have zx : x.length ≤ sizeLine := Nat.le_trans (okText_len h) (by decide)
  refine told_x (e := 1) (x := "place") (by omega) (by omega) (by decide +kernel) ?_
  refine Wr.exn (wd_filled ?_)
  unfold m_filled
  walk_at "wz"
  refine check_code_good hw ?_
  walk_at "wz"
  refine text_good h ?_
  walk_at "wz"
  refine Wr.eq (is_integer_ok hd) ?_
  walk_at "wz"
  have fin : rsnOk 24 (.str "place") = true ∧ (1 = 1 ∧ D.str "place" = D.str "place" ∧ S = S) := ⟨by decide +kernel, rfl, rfl, rfl⟩
  cases d with
  | int i =>
    have hb : i < 0 ∨ (x.length : Int) ≤ i := of_decide_eq_true hb
    walk_at "wz"
    refine ⟨fun z => ?_, fun z => ?_⟩
    · have z := of_decide_eq_true z
      walk_at "wz"
      refine Wr.out (len_str zx) ?_
      walk_at "wz"
      rw [decide_eq_false (by omega)]
      walk_at "wz"
      exact fin
    · walk_at "wz"
      exact fin
  | _ =>
    walk_at "wz"
    exact fin
theorem many_told {m : Int} {d : D} (hm : 2 ≤ m) (hm2 : m ≤ 97) (hd : plainA d = true) (hb : (match d with | .int i => decide (i < 1 ∨ 4 < i) | _ => true) = true) : F__law_told [.int (10 : Nat), .int m, d, .non, .non] S = .ok (.str "argument many") S := by
  refine told_x (e := 1) (x := "many") (by omega) (by omega) (by decide +kernel) ?_
  refine Wr.exn (wd_good_weights ?_)
  unfold m_good_weights
  walk_at "wz"
  refine Wr.eq (is_integer_ok rfl) ?_
  walk_at "wz"
  refine ya_of (decide_eq_true hm) ?_
  walk_at "wz"
  refine no_of (by simp [hm2]) ?_
  walk_at "wz"
  refine Wr.eq (is_integer_ok hd) ?_
  walk_at "wz"
  have fin : rsnOk 24 (.str "many") = true ∧ (1 = 1 ∧ D.str "many" = D.str "many" ∧ S = S) := ⟨by decide +kernel, rfl, rfl, rfl⟩
  cases d with
  | int i =>
    have hb : i < 1 ∨ 4 < i := of_decide_eq_true hb
    walk_at "wz"
    refine ⟨fun z => ?_, fun z => ?_⟩
    · have z := of_decide_eq_true z
      walk_at "wz"
      refine ya_of (by simp; omega) ?_
      walk_at "wz"
      exact fin
    · walk_at "wz"
      exact fin
  | _ =>
    walk_at "wz"
    exact fin
theorem signs_of_ok {m : Int} (h2 : 2 ≤ m) : ∃ n : Nat, n ≤ 66 ∧ 1 ≤ n ∧ ∀ S, F_signs_of [.int m] S = .ok (.int (n : Nat)) S := by
  refine ⟨(if 66 < m then 66 else m).toNat, by split <;> omega, by split <;> omega, fun S => ?_⟩
  refine Wr.eqn (wd_signs_of ?_)
  unfold m_signs_of
  walk_at "wz"
  refine Wr.out (a := .int 66) (by rfl) ?_
  walk_at "wz"
  refine Wr.out (a := .int (if 66 < m then 66 else m)) (by rfl) ?_
  refine ⟨?_, rfl⟩
  congr 1
  split <;> omega
theorem share_ok {m : Int} {ws : List Int} {x : Str} (hw : Ws0 m ws) (hm : m ∈ mods) (h : okText m (.str x) = true) (hs : sumL ws 0 x.cps.toList % m = 0) : ∃ v, F_missed_share [.int m, .tup (ws.map D.int), .str x] S = .ok v S := by
  have m2 := hw.m2
  have zx : x.length ≤ sizeLine := Nat.le_trans (okText_len h) (by decide)
  have hx : ∀ c ∈ x.cps.toList, c ∈ SG.cps.toList := fun c hc => (sgn_index m hm c (okText_all h c hc)).2
  obtain ⟨n, n66, n1, hn⟩ := signs_of_ok m2
  have key : Wr (F_missed_share [.int m, .tup (ws.map D.int), .str x] S) (fun _ S' => S' = S) fun _ _ _ => False := by
    refine wd_missed_share ?_
    unfold m_missed_share
    walk_at "wz"
    refine check_code_good hw ?_
    walk_at "wz"
    refine text_good h ?_
    walk_at "wz"
    refine sum_good hw hm h ?_
    walk_at "wz"
    refine no_of (by simp [hs]) ?_
    walk_at "wz"
    refine Wr.out (a := itE (chars x)) rfl ?_
    refine forGo_its itsA_E (I := fun i δ S' => S' = S ∧ ∃ (t : Int) (o4 o5 o6 : Option D), δ = [some (.int m), some (.tup (ws.map D.int)), some (.str x), some (.int t), o4, o5, o6]) ⟨rfl, 0, none, none, none, rfl⟩ ?_ ?_
    · rintro i hi δ S' ⟨rfl, t, o4, o5, o6, rfl⟩
      have hi' : i < x.cps.toList.length := by simpa [chars] using hi
      have ei : (((List.range (chars x).length).map fun i => (i, (chars x).getD i .non))[i]'hi) = (i, .str ⟨#[x.cps.toList[i]]⟩) := by
        rw [List.getElem_map, List.getElem_range, List.getD_eq_getElem?_getD]
        congr 1
        show ((x.cps.toList.map fun c => D.str ⟨#[c]⟩)[i]?).getD .non = _
        rw [List.getElem?_map, List.getElem?_eq_getElem hi']
        rfl
      rw [ei]
      generalize hc : x.cps.toList[i] = c
      have hcm : c ∈ SG.cps.toList := hc ▸ hx _ (List.getElem_mem hi')
      refine ⟨_, _, rfl, ?_⟩
      show Ws (sFor _ _ _ [some (.int m), some (.tup (ws.map D.int)), some (.str x), some (.int t), some (.int (i : Nat)), some (.str ⟨#[c]⟩), o6] S') _
      walk_at "wz"
      refine Wr.eq (hn _) ?_
      walk_at "wz"
      with_reducible refine Wr.out (rangeD1_n (Nat.le_trans n66 (by decide))) ?_
      refine forGo_its itsA_R (I := fun j δ S2 => S2 = S' ∧ ∃ (t : Int) (o6 : Option D), δ = [some (.int m), some (.tup (ws.map D.int)), some (.str x), some (.int t), some (.int (i : Nat)), some (.str ⟨#[c]⟩), o6]) ⟨rfl, t, o6, rfl⟩ ?_ ?_
      · rintro j hj δ S2 ⟨rfl, t, o6, rfl⟩
        have hj' : j < n := by simpa using hj
        rw [List.getElem_range]
        refine ⟨_, _, rfl, ?_⟩
        show Ws (sIf _ _ _ [some (.int m), some (.tup (ws.map D.int)), some (.str x), some (.int t), some (.int (i : Nat)), some (.str ⟨#[c]⟩), some (.int (j : Nat))] S2) _
        have hsl : SG.cps.toList.length = 66 := by decide +kernel
        have hsg : SG.cps.toList[j]? = some (SG.cps.toList[j]'(by omega)) := List.getElem?_eq_getElem (by omega)
        walk_at "wz"
        refine Wr.out (ix_str (by decide +kernel) hsg) ?_
        walk_at "wz"
        refine Wr.out ne_ss ?_
        walk_at "wz"
        refine ⟨fun _ => ?_, fun _ => ?_⟩
        · walk_at "wz"
          refine Wr.out (mod_ii (by have := hw.l1; simp; omega)) ?_
          have hk : i % ws.length < ws.length := Nat.mod_lt _ hw.l1
          have e1 : ((i : Int) % ((ws.map D.int).length : Nat)) = ((i % ws.length : Nat) : Int) := by
            rw [List.length_map]
            omega
          rw [e1]
          have e2 : (ws.map D.int)[i % ws.length]? = some (.int ws[i % ws.length]) := by
            rw [List.getElem?_map, List.getElem?_eq_getElem hk]
            rfl
          refine Wr.out (ix_tup e2) ?_
          walk_at "wz"
          refine w_index (c := c) ?_ rfl
          walk_at "wz"
          refine ⟨rfl, sg_index _ hcm, ?_⟩
          walk_at "wz"
          have hwk := hw.all _ (List.getElem_mem hk)
          have hix := ix_lt hcm
          have hm97 := hw.m97
          refine Wr.out (mul_ii ?_) ?_
          · have a1 := log_le (i := ((j : Int) - (ix c : Nat))) (k := 10) (by omega)
            have a2 := log_le (i := ws[i % ws.length]) (k := 10) (by omega)
            omega
          walk_at "wz"
          refine ⟨fun _ => ?_, fun _ => ?_⟩
          · refine s_aug rfl ?_
            walk_at "wz"
            exact ⟨_, rfl, rfl, _, _, rfl⟩
          · walk_at "wz"
            exact ⟨rfl, _, _, rfl⟩
        · walk_at "wz"
          exact ⟨rfl, _, _, rfl⟩
      · rintro δ S2 ⟨rfl, t, o6, rfl⟩
        exact ⟨rfl, _, _, _, _, rfl⟩
    · rintro δ S2 ⟨rfl, t, o4, o5, o6, rfl⟩
      show Ws _ _
      walk_at "wz"
      refine Wr.out (len_str zx) ?_
      walk_at "wz"
      refine Wr.eq (hn _) ?_
      walk_at "wz"
      refine Wr.out (mul_ii ?_) ?_
      · have a1 := log_le (i := (x.length : Int)) (k := 100) (by have := okText_len h; omega)
        have a2 := log_le (i := (n : Int) - 1) (k := 100) (by omega)
        omega
      walk_at "wz"
      exact ⟨rfl, rfl⟩
  obtain ⟨v, S', e, rfl⟩ := key.ok
  exact ⟨v, e⟩
/-- which = 7 -/
theorem share_told {m : Int} {ws : List Int} {x : Str} (hw : Ws0 m ws) (hm : m ∈ mods) (h : okText m (.str x) = true) : F__law_told [.int (7 : Nat), .int m, .tup (ws.map D.int), .str x, .non] S = .ok (if sumL ws 0 x.cps.toList % m = 0 then .non else .str "argument text") S := by
  by_cases hs : sumL ws 0 x.cps.toList % m = 0
  · rw [if_pos hs]
    obtain ⟨v, e⟩ := share_ok (S := S) hw hm h hs
    exact told_n (by omega) e (fun z => by cases z)
  · rw [if_neg hs]
    refine told_x (e := 1) (x := "text") (by omega) (by omega) (by decide +kernel) ?_
    refine Wr.exn (wd_missed_share ?_)
    unfold m_missed_share
    walk_at "wz"
    refine check_code_good hw ?_
    walk_at "wz"
    refine text_good h ?_
    walk_at "wz"
    refine sum_good hw hm h ?_
    walk_at "wz"
    refine ya_of (by simp [hs]) ?_
    walk_at "wz"
    exact ⟨by decide +kernel, rfl, rfl, rfl⟩
end
end Lw

namespace Lw
open PySem Ev
abbrev losts : List D := [.int 1, .int 0, .int (-5), .int 98, .non, .bl true, .str "7", .int (10 ^ 30)]
theorem lost_told {S : Store} {l : D} (hl : l ∈ losts) : ∀ k, k < 11 → F__law_told [.int (k : Nat), l, .non, .non, .non] S = .ok (.str "argument modulus") S := by
  intro k hk
  simp only [losts, List.mem_cons, List.not_mem_nil, or_false] at hl
  rcases hl with rfl | rfl | rfl | rfl | rfl | rfl | rfl | rfl <;>
  match k, hk with
  | 0, _ | 1, _ | 2, _ | 3, _ | 4, _ | 5, _ | 6, _ | 7, _ | 8, _ | 9, _ | 10, _ => with_unfolding_all rfl
end Lw

namespace Lw
open PySem Ev
def b_law_0 : SM := (sAsg (mCall F__law_start (mCons (mVar 0) mNil)) (gmName 1))
def b_law_1_0 : SM := (sAsg (mOp ixD (mLst (mCons (mC (.int 2)) (mCons (mC (.int 3)) (mCons (mC (.int 4)) (mCons (mC (.int 6)) (mCons (mC (.int 10)) (mCons (mC (.int 11)) (mCons (mC (.int 12)) (mCons (mC (.int 36)) (mCons (mC (.int 97)) mNil)))))))))) (mCall F__law_draw (mCons (mVar 1) (mCons (mC (.int 9)) mNil)))) (gmName 3))
def b_law_1_1 : SM := (sAsg (mCB tupD (mCons (mLc (mItA rangeD1 (mCons (mOp addD (mC (.int 1)) (mCall F__law_draw (mCons (mVar 1) (mCons (mC (.int 4)) mNil)))) mNil)) (gmName 6) mYes (mCall F__law_draw (mCons (mVar 1) (mCons (mVar 3) mNil))) [6]) mNil)) (gmName 4))
def b_law_1_2 : SM := (sAsg (mCall F__law_signs (mCons (mVar 3) mNil)) (gmName 5))
def b_law_1_3_0 : SM := (sAsg (mMt "str" joinD (mC (.str "")) (mCons (mLc (mItA rangeD1 (mCons (mCall F__law_draw (mCons (mVar 1) (mCons (mC (.int 7)) mNil))) mNil)) (gmName 17) mYes (mOp ixD (mVar 5) (mCall F__law_draw (mCons (mVar 1) (mCons (mCB lenD (mCons (mVar 5) mNil)) mNil)))) [17]) mNil)) (gmName 11))
def b_law_1_3_1 : SM := (sAsg (mCall F__law_draw (mCons (mVar 1) (mCons (mOp addD (mCB lenD (mCons (mVar 11) mNil)) (mC (.int 1))) mNil))) (gmName 12))
def b_law_1_3_2 : SM := (sAsg (mOp addD (mOp addD (mOp addD (mSl (mVar 11) mNoPart (mPart (mVar 12))) (mSl (mVar 11) (mPart (mOp addD (mVar 12) (mC (.int 1)))) (mPart (mOp addD (mVar 12) (mC (.int 2)))))) (mSl (mVar 11) (mPart (mVar 12)) (mPart (mOp addD (mVar 12) (mC (.int 1)))))) (mSl (mVar 11) (mPart (mOp addD (mVar 12) (mC (.int 2)))) mNoPart)) (gmName 13))
def b_law_1_3_3 : SM := (sAsg (mOp addD (mOp addD (mSl (mVar 11) mNoPart (mPart (mVar 12))) (mOp ixD (mVar 5) (mCall F__law_draw (mCons (mVar 1) (mCons (mCB lenD (mCons (mVar 5) mNil)) mNil))))) (mSl (mVar 11) (mPart (mOp addD (mVar 12) (mC (.int 1)))) mNoPart)) (gmName 14))
def b_law_1_3_4 : SM := (sAsg (mOp ixD (mLst (mCons (mVar 11) (mCons (mVar 13) (mCons (mVar 13) (mCons (mVar 14) (mCons (mVar 14) (mCons (mSl (mVar 11) (mPart (mC (.int 1))) mNoPart) (mCons (mRev (mVar 11)) (mCons (mOp addD (mVar 11) (mOp ixD (mVar 5) (mC (.int 0)))) (mCons (mC .non) (mCons (mOp addD (mC (.str "~")) (mSl (mVar 11) (mPart (mC (.int 1))) mNoPart)) mNil))))))))))) (mCall F__law_draw (mCons (mVar 1) (mCons (mC (.int 10)) mNil)))) (gmName 15))
def b_law_1_3_5 : SM := (sIf (mOr (mTest (mOp neD (mCall F__law_told (mCons (mC (.int 0)) (mCons (mVar 3) (mCons (mVar 4) (mCons (mVar 11) (mCons (mVar 15) mNil)))))) (mCall F__law_due (mCons (mVar 3) (mCons (mVar 4) (mCons (mVar 11) (mCons (mVar 15) mNil))))))) (mTest (mOp neD (mCall F__law_told (mCons (mC (.int 0)) (mCons (mVar 3) (mCons (mVar 4) (mCons (mVar 15) (mCons (mVar 11) mNil)))))) (mCall F__law_due (mCons (mVar 3) (mCons (mVar 4) (mCons (mVar 15) (mCons (mVar 11) mNil)))))))) (sRet (mC (.bl false))) sNext)
def b_law_1_4 : SM := (sAsg (mOp ixD (mLst (mCons (mC (.int 1)) (mCons (mC (.int 0)) (mCons (mUn negD (mC (.int 5))) (mCons (mC (.int 98)) (mCons (mC .non) (mCons (mC (.bl true)) (mCons (mC (.str "7")) (mCons (mOp powD (mC (.int 10)) (mC (.int 30))) mNil))))))))) (mCall F__law_draw (mCons (mVar 1) (mCons (mC (.int 8)) mNil)))) (gmName 7))
def b_law_1_5 : SM := (sIf (mTest (mOp neD (mLc (mItA rangeD1 (mCons (mC (.int 11)) mNil)) (gmName 16) mYes (mCall F__law_told (mCons (mVar 16) (mCons (mVar 7) (mCons (mC .non) (mCons (mC .non) (mCons (mC .non) mNil)))))) [16]) (mOp mulV (mLst (mCons (mC (.str "argument modulus")) mNil)) (mC (.int 11))))) (sRet (mC (.bl false))) sNext)
def b_law_1_6 : SM := (sAsg (mOp ixD (mLst (mCons (mC .non) (mCons (mTup mNil) (mCons (mTup (mCons (mVar 3) mNil)) (mCons (mTup (mCons (mUn negD (mC (.int 1))) mNil)) (mCons (mOp mulV (mTup (mCons (mC (.int 1)) mNil)) (mC (.int 13))) (mCons (mTup (mCons (mC (.int 0)) (mCons (mC .non) mNil))) (mCons (mTup (mCons (mC (.bl true)) mNil)) (mCons (mC (.int 5)) mNil))))))))) (mCall F__law_draw (mCons (mVar 1) (mCons (mC (.int 8)) mNil)))) (gmName 8))
def b_law_1_7 : SM := (sIf (mTest (mOp neD (mLc (mItA rangeD1 (mCons (mC (.int 10)) mNil)) (gmName 16) mYes (mCall F__law_told (mCons (mVar 16) (mCons (mVar 3) (mCons (mVar 8) (mCons (mC .non) (mCons (mC .non) mNil)))))) [16]) (mOp mulV (mLst (mCons (mC (.str "argument weights")) mNil)) (mC (.int 10))))) (sRet (mC (.bl false))) sNext)
def b_law_1_8 : SM := (sAsg (mOp ixD (mLst (mCons (mC .non) (mCons (mC (.int 5)) (mCons (mC (.str "~")) (mCons (mOp mulV (mC (.str "0")) (mC (.int 4001))) (mCons (mTup (mCons (mC (.str "0")) mNil)) (mCons (mC (.str "0
")) mNil))))))) (mCall F__law_draw (mCons (mVar 1) (mCons (mC (.int 6)) mNil)))) (gmName 9))
def b_law_1_9 : SM := (sIf (mTest (mOp neD (mLc (mIt (mTup (mCons (mC (.int 1)) (mCons (mC (.int 2)) (mCons (mC (.int 3)) (mCons (mC (.int 4)) (mCons (mC (.int 5)) (mCons (mC (.int 6)) (mCons (mC (.int 7)) mNil))))))))) (gmName 16) mYes (mCall F__law_told (mCons (mVar 16) (mCons (mVar 3) (mCons (mVar 4) (mCons (mVar 9) (mCons (mC .non) mNil)))))) [16]) (mOp mulV (mLst (mCons (mC (.str "argument text")) mNil)) (mC (.int 7))))) (sRet (mC (.bl false))) sNext)
def b_law_1_10 : SM := (sIf (mOr (mTest (mOp neD (mCall F__law_told (mCons (mC (.int 3)) (mCons (mVar 3) (mCons (mVar 4) (mCons (mOp mulV (mC (.str "0")) (mC (.int 4000))) (mCons (mC .non) mNil)))))) (mC (.str "argument text")))) (mTest (mOp nisD (mCall F__law_told (mCons (mC (.int 1)) (mCons (mVar 3) (mCons (mVar 4) (mCons (mOp mulV (mC (.str "0")) (mC (.int 4000))) (mCons (mC .non) mNil)))))) (mC .non)))) (sRet (mC (.bl false))) sNext)
def b_law_1_11 : SM := (sAsg (mMt "str" joinD (mC (.str "")) (mCons (mLc (mItA rangeD1 (mCons (mOp addD (mC (.int 1)) (mCall F__law_draw (mCons (mVar 1) (mCons (mC (.int 6)) mNil)))) mNil)) (gmName 17) mYes (mOp ixD (mVar 5) (mCall F__law_draw (mCons (mVar 1) (mCons (mCB lenD (mCons (mVar 5) mNil)) mNil)))) [17]) mNil)) (gmName 10))
def b_law_1_12 : SM := (sIf (mTest (mOp neD (mCall F__law_told (mCons (mC (.int 6)) (mCons (mVar 3) (mCons (mVar 4) (mCons (mVar 10) (mCons (mOp ixD (mLst (mCons (mUn negD (mC (.int 1))) (mCons (mCB lenD (mCons (mVar 10) mNil)) (mCons (mC .non) (mCons (mC (.bl true)) (mCons (mC (.str "0")) mNil)))))) (mCall F__law_draw (mCons (mVar 1) (mCons (mC (.int 5)) mNil)))) mNil)))))) (mC (.str "argument place")))) (sRet (mC (.bl false))) sNext)
def b_law_1_13 : SM := (sIf (mTest (mOp neD (mCall F__law_told (mCons (mC (.int 7)) (mCons (mVar 3) (mCons (mVar 4) (mCons (mVar 10) (mCons (mC .non) mNil)))))) (mIf (mTest (mOp eqD (mCall F__law_sum (mCons (mVar 3) (mCons (mVar 4) (mCons (mVar 10) mNil)))) (mC (.int 0)))) (mC .non) (mC (.str "argument text"))))) (sRet (mC (.bl false))) sNext)
def b_law_1_14 : SM := (sIf (mTest (mOp neD (mCall F__law_told (mCons (mC (.int 10)) (mCons (mVar 3) (mCons (mOp ixD (mLst (mCons (mC (.int 0)) (mCons (mC (.int 5)) (mCons (mC .non) (mCons (mC (.bl true)) (mCons (mC (.str "2")) (mCons (mUn negD (mC (.int 1))) mNil))))))) (mCall F__law_draw (mCons (mVar 1) (mCons (mC (.int 6)) mNil)))) (mCons (mC .non) (mCons (mC .non) mNil)))))) (mC (.str "argument many")))) (sRet (mC (.bl false))) sNext)
def b_law_2 : SM := (sRet (mC (.bl true)))
theorem m_law_eq : m_law = (sSeq b_law_0 (sSeq (sFor (mItA rangeD1 (mCons (mC (.int 4)) mNil)) (gmName 2) (sSeq b_law_1_0 (sSeq b_law_1_1 (sSeq b_law_1_2 (sSeq (sFor (mItA rangeD1 (mCons (mC (.int 6)) mNil)) (gmName 6) (sSeq b_law_1_3_0 (sSeq b_law_1_3_1 (sSeq b_law_1_3_2 (sSeq b_law_1_3_3 (sSeq b_law_1_3_4 b_law_1_3_5)))))) (sSeq b_law_1_4 (sSeq b_law_1_5 (sSeq b_law_1_6 (sSeq b_law_1_7 (sSeq b_law_1_8 (sSeq b_law_1_9 (sSeq b_law_1_10 (sSeq b_law_1_11 (sSeq b_law_1_12 (sSeq b_law_1_13 b_law_1_14))))))))))))))) b_law_2)) := rfl
end Lw

namespace Lw
open PySem Ev
section
variable {S : Store} {QD : D → Store → Prop} {E : EK} {K : Ko} {e0 e2 e3 e4 e5 e6 e7 e8 e9 e10 e11 e12 e13 e14 e15 e16 e17 : Option D}
theorem dr {m : Int} (h : St S []) (hm : 0 < m) (hm2 : m < 2 ^ 60) (q : ∀ v S', 0 ≤ v → v < m → St S' [] → QD (.int v) S') : Wr (F__law_draw [.loc 0, .int m] S) QD E :=
  draw_ok h hm (Nat.lt_of_le_of_lt (log_le (k := 60) (by omega)) (by decide)) q
theorem sgn_len : ∀ m ∈ mods, 2 ≤ (sgn m).length ∧ (sgn m).length ≤ 100 ∧ 2 ≤ m ∧ m ≤ 97 := by decide +kernel
theorem okText_of {m : Int} {x : Str} (hl : x.length ≤ 4000) (h : ∀ c ∈ x.cps.toList, c ∈ (sgn m).cps.toList) : okText m (.str x) = true := by
  show (decide (x.length ≤ 4000) && x.cps.toList.all fun c => decide (c ∈ (sgn m).cps.toList)) = true
  rw [decide_eq_true hl, Bool.true_and, List.all_eq_true]
  exact fun c hc => decide_eq_true (h c hc)
theorem short_s {x : Str} (h : x.length ≤ 1000) : shortD (.str x) = true := decide_eq_true (Nat.le_trans h (by decide))
theorem text_len {cs : List Nat} : (⟨cs.toArray⟩ : Str).length = cs.length := by simp [Str.length]
/-- a text of drawn signs -/
theorem drawn {m : Int} {t : EM D} {δ : Ev.Env} {w : Nat} (hm : m ∈ mods) (h1 : δ[1]? = some (some (.loc 0))) (h5 : δ[5]? = some (some (.str (sgn m)))) (hw1 : w ≠ 1) (hw5 : w ≠ 5)
    (ht : ∀ {Q : D → Store → Prop}, (∀ v S', 0 ≤ v → v < 8 → St S' [] → Q (.int v) S') → Wr (t δ S) Q E)
    (q : ∀ x S', x.length ≤ 8 → (∀ c ∈ x.cps.toList, c ∈ (sgn m).cps.toList) → St S' [] → QD (.str x) S') :
    Wr (mMt "str" joinD (mC (.str "")) (mCons (mLc (mItA rangeD1 (mCons t mNil)) (gmName w) mYes (mOp ixD (mVar 5) (mCall F__law_draw (mCons (mVar 1) (mCons (mCB lenD (mCons (mVar 5) mNil)) mNil)))) [w]) mNil) δ S) QD E := by
  obtain ⟨l2, l100, m2, m97⟩ := sgn_len m hm
  have zs : (sgn m).length ≤ sizeLine := Nat.le_trans l100 (by decide)
  refine w_mt (w_c ⟨rfl, ?_⟩)
  refine w_cons ?_
  refine w_lcS (P := fun d => ∃ c, d = ch c ∧ c ∈ (sgn m).cps.toList) (J := fun S => St S []) ?_
  refine w_itA (w_cons (ht fun v S' v0 v1 hS => ?_))
  walk_at "wz"
  have hv : v.toNat ≤ sizeLine := by show _ ≤ 16777216; omega
  with_reducible refine Wr.out (rangeD1_i v0 (by omega)) ?_
  refine ⟨Nat, List.range v.toNat, _, itsA_R, by simpa using hv, hS, fun i hi S1 hS1 => ⟨_, rfl, ?_⟩, fun ds S2 hl hp hS2 => ?_⟩
  · have g1 : ∀ {x : Option D}, ((δ.set w none).set w x)[1]? = some (some (.loc 0)) := fun {x} => by
      rw [List.getElem?_set_ne hw1, List.getElem?_set_ne hw1]
      exact h1
    have g5 : ∀ {x : Option D}, ((δ.set w none).set w x)[5]? = some (some (.str (sgn m))) := fun {x} => by
      rw [List.getElem?_set_ne hw5, List.getElem?_set_ne hw5]
      exact h5
    refine w_op (w_var g5 ?_)
    refine w_call (w_cons (w_var g1 (w_cons (w_cb (w_cons (w_var g5 (w_nil ?_)))))))
    refine Wr.out (len_str zs) ?_
    walk_at "wz"
    refine dr hS1 (by omega) (by omega) fun v S3 v0 v1 hS3 => ?_
    refine ixs_pick zs v0 (by omega) fun c hc => ?_
    exact ⟨⟨c, rfl, hc⟩, hS3⟩
  · obtain ⟨cs, rfl, hl2, hc⟩ := chs_of hp
    walk_at "wz"
    have hl8 : cs.length ≤ 8 := by
      rw [hl2, hl]
      simp
      omega
    refine ⟨_, _, join_chars (by omega), ?_⟩
    exact q _ _ (by rw [text_len]; exact hl8) (by simpa using hc) hS2
theorem neq_self {d : D} (h : neD S d d = some (.bl false)) (q : QD (.bl false) S) : Wr (out (neD S d d) S) QD E := Wr.out h q
theorem vd_ne {m : Int} {ws : List Int} {a b : D} : neD S (vd (verdict m ws a b)) (vd (verdict m ws a b)) = some (.bl false) := by
  cases verdict m ws a b with
  | none => rfl
  | some x =>
    show neD S (.str x) (.str x) = _
    rw [ne_ss]
    simp
theorem no_w {m : Int} {ds : List D} (h : ¬ (1 ≤ ds.length ∧ ds.length ≤ 12 ∧ ds.all (inM m) = true)) : tupV m (.tup ds) = some ("weights" : Str) := if_neg h
abbrev Odd (m : Int) (odd : D) : Prop := plainA odd = true ∧ (∀ ds, odd = .tup ds → ∀ d ∈ ds, plainA d = true) ∧ tupV m odd = some ("weights" : Str)
theorem o1 (m : Int) : Odd m .non := ⟨rfl, fun ds e => (by cases e), rfl⟩
theorem o2 (m : Int) : Odd m (.tup []) := ⟨rfl, fun ds e => (by cases e; intro d hd; cases hd), no_w fun q => absurd q.1 (by simp)⟩
theorem o3 (m : Int) : Odd m (.tup [.int m]) := ⟨rfl, fun ds e => (by cases e; intro d hd; rw [List.mem_singleton.mp hd]; rfl), no_w fun q => absurd q.2.2 (by simp [inM])⟩
theorem o4 (m : Int) : Odd m (.tup [.int (-1)]) := ⟨rfl, fun ds e => (by cases e; intro d hd; rw [List.mem_singleton.mp hd]; rfl), no_w fun q => absurd q.2.2 (by simp [inM])⟩
theorem o5 (m : Int) : Odd m (.tup (List.replicate 13 [D.int 1]).flatten) := ⟨rfl, fun ds e => (by cases e; intro d hd; simp at hd; rw [hd]; rfl), no_w fun q => absurd q.2.1 (by simp)⟩
theorem o6 (m : Int) : Odd m (.tup [.int 0, .non]) := ⟨rfl, fun ds e => (by cases e; intro d hd; simp at hd; rcases hd with rfl | rfl <;> rfl), no_w fun q => absurd q.2.2 (by simp [inM])⟩
theorem o7 (m : Int) : Odd m (.tup [.bl true]) := ⟨rfl, fun ds e => (by cases e; intro d hd; rw [List.mem_singleton.mp hd]; rfl), no_w fun q => absurd q.2.2 (by simp [inM])⟩
theorem o8 (m : Int) : Odd m (.int 5) := ⟨rfl, fun ds e => (by cases e), rfl⟩
theorem odd_all {m : Int} {odd : D} (ho : odd ∈ [.non, .tup [], .tup [.int m], .tup [.int (-1)], .tup (List.replicate 13 [D.int 1]).flatten, .tup [.int 0, .non], .tup [.bl true], .int 5]) : Odd m odd := by
  simp only [List.mem_cons, List.not_mem_nil, or_false] at ho
  rcases ho with rfl | rfl | rfl | rfl | rfl | rfl | rfl | rfl
  · exact o1 m
  · exact o2 m
  · exact o3 m
  · exact o4 m
  · exact o5 m
  · exact o6 m
  · exact o7 m
  · exact o8 m
theorem mul_s0 {k : Int} (h : 2 ≤ k) (h2 : k ≤ 10000) : mulV S (.str "0") (.int k) = some (.str (repS "0" k.toNat)) := by
  have l0 : ("0" : Str).length = 1 := by decide +kernel
  have : mulV S (.str "0") (.int k) = if 2 ≤ k ∧ k ≤ 100000 ∧ 1 ≤ ("0" : Str).length ∧ ("0" : Str).length ≤ 100 ∧ (repS "0" k.toNat).length ≤ sizeLine then some (.str (repS "0" k.toNat)) else none := rfl
  rw [this, if_pos]
  refine ⟨h, by omega, by omega, by omega, ?_⟩
  rw [rep_len, l0]
  show _ ≤ 16777216
  omega
theorem zero_ok : ∀ m ∈ mods, ∀ c ∈ ("0" : Str).cps.toList, c ∈ (sgn m).cps.toList := by decide +kernel
/-- so many noughts -/
structure Zs (k : Nat) (x : Str) : Prop where
  len : x.length = k
  all : ∀ c ∈ x.cps.toList, c ∈ ("0" : Str).cps.toList
theorem w_zs {k : Int} (h : 2 ≤ k) (h2 : k ≤ 10000) (q : ∀ x, Zs k.toNat x → QD (.str x) S) : Wr (out (mulV S (.str "0") (.int k)) S) QD E :=
  Wr.out (mul_s0 h h2) (q _ ⟨by rw [rep_len]; have l0 : ("0" : Str).length = 1 := (by decide +kernel); rw [l0]; omega, fun c hc => rep_mem hc⟩)
theorem ok_zeros {m : Int} (hm : m ∈ mods) {k : Nat} {x : Str} (hk : k ≤ 4000) (hx : Zs k x) : okText m (.str x) = true :=
  okText_of (by rw [hx.len]; omega) fun c hc => zero_ok m hm c (hx.all c hc)
theorem bad_two : ∀ m ∈ mods, okText m (.str "~") = false ∧ okText m (.str "0\n") = false := by decide +kernel
theorem bad_all {m : Int} {b : D} {x : Str} (hm : m ∈ mods) (hx : Zs 4001 x) (hb : b ∈ [.non, .int 5, .str "~", .str x, .tup [.str "0"], .str "0\n"]) : shortD b = true ∧ okText m b = false := by
  have hl := hx.len
  simp only [List.mem_cons, List.not_mem_nil, or_false] at hb
  rcases hb with rfl | rfl | rfl | rfl | rfl | rfl
  · exact ⟨rfl, rfl⟩
  · exact ⟨rfl, rfl⟩
  · exact ⟨by decide +kernel, (bad_two m hm).1⟩
  · refine ⟨decide_eq_true ?_, ?_⟩
    · rw [hl]; decide
    · show (decide (x.length ≤ 4000) && _) = false
      rw [hl]
      rfl
  · exact ⟨rfl, rfl⟩
  · exact ⟨by decide +kernel, (bad_two m hm).2⟩
theorem its_seven : ItsA (itL [D.int 1, .int 2, .int 3, .int 4, .int 5, .int 6, .int 7]) (List.range 7) (fun k => D.int (k + 1 : Nat)) := by
  have : [D.int 1, .int 2, .int 3, .int 4, .int 5, .int 6, .int 7] = (List.range 7).map (fun k => D.int (k + 1 : Nat)) := rfl
  rw [this]
  exact itsA_map
theorem places_ok {n : Nat} {d : D} (hd : d ∈ [.int (-1), .int (n : Nat), .non, .bl true, .str "0"]) : plainA d = true ∧ badPlace n d = true := by
  simp only [List.mem_cons, List.not_mem_nil, or_false] at hd
  rcases hd with rfl | rfl | rfl | rfl | rfl
  · exact ⟨rfl, by simp [badPlace]⟩
  · exact ⟨rfl, by simp [badPlace]⟩
  · exact ⟨rfl, rfl⟩
  · exact ⟨rfl, rfl⟩
  · exact ⟨rfl, rfl⟩
theorem many_all {m : Int} {d : D} (m2 : 2 ≤ m) (m97 : m ≤ 97) (hd : d ∈ [D.int 0, .int 5, .non, .bl true, .str "2", .int (-1)]) : F__law_told [.int (10 : Nat), .int m, d, .non, .non] S = .ok (.str "argument many") S := by
  simp only [List.mem_cons, List.not_mem_nil, or_false] at hd
  rcases hd with rfl | rfl | rfl | rfl | rfl | rfl
  · exact many_told m2 m97 rfl (by decide)
  · exact many_told m2 m97 rfl (by decide)
  · exact many_told m2 m97 rfl rfl
  · exact many_told m2 m97 rfl rfl
  · exact many_told m2 m97 rfl rfl
  · exact many_told m2 m97 rfl (by decide)
end
end Lw

namespace Lw
open PySem Ev
section
variable {S : Store} {QD : D → Store → Prop} {E : EK} {K : Ko} {e0 e2 e3 e4 e5 e6 e7 e8 e9 e10 e11 e12 e13 e14 e15 e16 e17 : Option D}
theorem s0  (hS : St S []) (q : ∀ m S, m ∈ mods → St S [] → K.nx [e0, some (.loc 0), e2, some (.int m), e4, e5, e6, e7, e8, e9, e10, e11, e12, e13, e14, e15, e16, e17] S) : Ws (b_law_1_0 [e0, some (.loc 0), e2, e3, e4, e5, e6, e7, e8, e9, e10, e11, e12, e13, e14, e15, e16, e17] S) K := by
  unfold b_law_1_0
  walk_at "wz"
  refine ⟨rfl, ?_⟩
  walk_at "wz"
  refine dr hS (by omega) (by omega) fun v S1 v0 v1 hS1 => ?_
  refine w_pick v0 v1 fun d hd => ?_
  obtain ⟨m, hm, rfl⟩ : ∃ m ∈ mods, d = .int m := by
    simp only [List.mem_cons, List.not_mem_nil, or_false] at hd
    rcases hd with rfl | rfl | rfl | rfl | rfl | rfl | rfl | rfl | rfl <;> exact ⟨_, by decide, rfl⟩
  exact q m S1 hm hS1
theorem s1 {m : Int} (hm : m ∈ mods) (hS : St S []) (q : ∀ ws S, Ws0 m ws → St S [] → K.nx [e0, some (.loc 0), e2, some (.int m), some (.tup (ws.map D.int)), e5, e6, e7, e8, e9, e10, e11, e12, e13, e14, e15, e16, e17] S) : Ws (b_law_1_1 [e0, some (.loc 0), e2, some (.int m), e4, e5, e6, e7, e8, e9, e10, e11, e12, e13, e14, e15, e16, e17] S) K := by
  unfold b_law_1_1
  obtain ⟨l2, l100, m2, m97⟩ := sgn_len m hm
  walk_at "wz"
  refine w_lcS (P := fun d => ∃ w, d = .int w ∧ 0 ≤ w ∧ w < m) (J := fun S => St S []) ?_
  walk_at "wz"
  refine dr hS (by omega) (by omega) fun v S2 v0 v1 hS2 => ?_
  walk_at "wz"
  with_reducible refine Wr.out (rangeD1_i (by omega) (by omega)) ?_
  refine ⟨Nat, List.range (1 + v).toNat, _, itsA_R, by simp; show _ ≤ 16777216; omega, hS2, fun j hj S3 hS3 => ⟨_, rfl, ?_⟩, fun ds S3 hl hp hS3 => ?_⟩
  · walk_at "wz"
    refine dr hS3 (by omega) (by omega) fun w S4 w0 w1 hS4 => ?_
    exact ⟨⟨w, rfl, w0, w1⟩, hS4⟩
  obtain ⟨ws, rfl, hl2, hws⟩ := ints_of hp
  walk_at "wz"
  refine Wr.out (a := .tup (ws.map D.int)) rfl ?_
  exact q ws S3 ⟨m2, m97, by rw [hl2, hl]; simp; omega, by rw [hl2, hl]; simp; omega, hws⟩ hS3
theorem s2 {m : Int} {ws : List Int} (hS : St S []) (q : K.nx [e0, some (.loc 0), e2, some (.int m), some (.tup (ws.map D.int)), some (.str (sgn m)), e6, e7, e8, e9, e10, e11, e12, e13, e14, e15, e16, e17] S) : Ws (b_law_1_2 [e0, some (.loc 0), e2, some (.int m), some (.tup (ws.map D.int)), e5, e6, e7, e8, e9, e10, e11, e12, e13, e14, e15, e16, e17] S) K := by
  unfold b_law_1_2
  walk_at "wz"
  refine Wr.eq law_signs_ok ?_
  exact q
theorem round {m : Int} {ws : List Int} (hm : m ∈ mods) (hw : Ws0 m ws) (hS : St S []) (q : ∀ o11 o12 o13 o14 o15 S, St S [] → K.nx [e0, some (.loc 0), e2, some (.int m), some (.tup (ws.map D.int)), some (.str (sgn m)), e6, e7, e8, e9, e10, o11, o12, o13, o14, o15, e16, e17] S) : Ws (sSeq b_law_1_3_0 (sSeq b_law_1_3_1 (sSeq b_law_1_3_2 (sSeq b_law_1_3_3 (sSeq b_law_1_3_4 b_law_1_3_5)))) [e0, some (.loc 0), e2, some (.int m), some (.tup (ws.map D.int)), some (.str (sgn m)), e6, e7, e8, e9, e10, e11, e12, e13, e14, e15, e16, e17] S) K := by
  obtain ⟨l2, l100, m2, m97⟩ := sgn_len m hm
  have zs : (sgn m).length ≤ sizeLine := Nat.le_trans l100 (by decide)
  unfold b_law_1_3_0
  refine s_seq (s_set ?_)
  refine drawn hm rfl rfl (by decide) (by decide) (fun q => ?_) fun x S4 hx hxs hS4 => ?_
  · walk_at "wz"
    exact dr hS (by omega) (by omega) fun v S' v0 v1 h => q v S' v0 (by omega) h
  have zx : x.length ≤ sizeLine := Nat.le_trans hx (by decide)
  unfold b_law_1_3_1
  walk_at "wz"
  refine Wr.out (len_str zx) ?_
  walk_at "wz"
  refine dr hS4 (by omega) (by omega) fun v S5 v0 v1 hS5 => ?_
  unfold b_law_1_3_2
  walk_at "wz"
  have cut : ∀ {lo hi : Option Int} {S : Store} {Q : D → Store → Prop} {E : EK}, (∀ y, y.length ≤ 8 → Q (.str y) S) → Wr (out (slD S (.str x) lo hi) S) Q E := fun q => w_cut zx fun y hy => q y (by omega)
  refine cut fun c1 l1 => ?_
  walk_at "wz"
  refine cut fun c2 l2 => ?_
  refine w_app (by omega) fun c3 l3 => ?_
  walk_at "wz"
  refine cut fun c4 l4 => ?_
  refine w_app (by omega) fun c5 l5 => ?_
  walk_at "wz"
  refine cut fun c6 l6 => ?_
  refine w_app (by omega) fun swap lswap => ?_
  unfold b_law_1_3_3
  walk_at "wz"
  refine cut fun c7 l7 => ?_
  walk_at "wz"
  refine Wr.out (len_str zs) ?_
  walk_at "wz"
  refine dr hS5 (by omega) (by omega) fun w S6 w0 w1 hS6 => ?_
  refine ixs_pick zs w0 (by omega) fun c hc => ?_
  have lch : (⟨#[c]⟩ : Str).length = 1 := rfl
  refine w_app (by omega) fun c8 l8 => ?_
  walk_at "wz"
  refine cut fun c9 l9 => ?_
  refine w_app (by omega) fun new lnew => ?_
  unfold b_law_1_3_4
  walk_at "wz"
  refine cut fun c10 l10 => ?_
  walk_at "wz"
  refine w_rev ?_
  walk_at "wz"
  refine w_revS zx fun c11 l11 => ?_
  walk_at "wz"
  refine ixs_pick zs (by omega) (by omega) fun c' hc' => ?_
  have lch' : (⟨#[c']⟩ : Str).length = 1 := rfl
  refine w_app (by omega) fun c12 l12 => ?_
  walk_at "wz"
  refine cut fun c13 l13 => ?_
  have lt : ("~" : Str).length = 1 := by decide +kernel
  refine w_app (by omega) fun c14 l14 => ?_
  refine ⟨rfl, ?_⟩
  walk_at "wz"
  refine dr hS6 (by omega) (by omega) fun w' S7 w0' w1' hS7 => ?_
  refine w_pick w0' w1' fun d hd => ?_
  have hsd : shortD d = true := by
    simp only [List.mem_cons, List.not_mem_nil, or_false] at hd
    rcases hd with rfl | rfl | rfl | rfl | rfl | rfl | rfl | rfl | rfl | rfl <;> first | rfl | exact short_s (by omega)
  clear hd
  have hsx : shortD (.str x) = true := short_s (by omega)
  unfold b_law_1_3_5
  walk_at "wz"
  refine Wr.eq (told_0 hw hm hsx hsd) ?_
  walk_at "wz"
  refine Wr.eq (due_ok hw hm hsx hsd) ?_
  refine neq_self vd_ne ?_
  walk_at "wz"
  refine Wr.eq (told_0 hw hm hsd hsx) ?_
  walk_at "wz"
  refine Wr.eq (due_ok hw hm hsd hsx) ?_
  refine neq_self vd_ne ?_
  walk_at "wz"
  exact q _ _ _ _ _ _ hS7
theorem s4 {m : Int} {ws : List Int} (hS : St S []) (q : ∀ l S, l ∈ losts → St S [] → K.nx [e0, some (.loc 0), e2, some (.int m), some (.tup (ws.map D.int)), some (.str (sgn m)), e6, some l, e8, e9, e10, e11, e12, e13, e14, e15, e16, e17] S) : Ws (b_law_1_4 [e0, some (.loc 0), e2, some (.int m), some (.tup (ws.map D.int)), some (.str (sgn m)), e6, e7, e8, e9, e10, e11, e12, e13, e14, e15, e16, e17] S) K := by
  unfold b_law_1_4
  walk_at "wz"
  refine Wr.out (a := .int (10 ^ 30)) rfl ?_
  refine ⟨rfl, ?_⟩
  walk_at "wz"
  refine dr hS (by omega) (by omega) fun v S1 v0 v1 hS1 => ?_
  refine w_pick v0 v1 fun l hl => ?_
  exact q l S1 hl hS1
theorem s5 {m : Int} {ws : List Int} {l : D} (hl : l ∈ losts) (hS : St S []) (q : K.nx [e0, some (.loc 0), e2, some (.int m), some (.tup (ws.map D.int)), some (.str (sgn m)), e6, some l, e8, e9, e10, e11, e12, e13, e14, e15, e16, e17] S) : Ws (b_law_1_5 [e0, some (.loc 0), e2, some (.int m), some (.tup (ws.map D.int)), some (.str (sgn m)), e6, some l, e8, e9, e10, e11, e12, e13, e14, e15, e16, e17] S) K := by
  unfold b_law_1_5
  walk_at "wz"
  refine w_lcm ?_
  walk_at "wz"
  refine Wr.out (rangeD1_n (n := 11) (by decide)) ?_
  refine ⟨Nat, List.range 11, _, fun _ => .str "argument modulus", itsA_R.its, by decide, fun k hk => ⟨_, rfl, ?_⟩, ?_⟩
  · refine Wr.eqn ?_
    walk_at "wz"
    refine Wr.eq (lost_told hl k (List.mem_range.mp hk)) ?_
    exact ⟨rfl, rfl⟩
  walk_at "wz"
  refine ⟨rfl, ?_⟩
  walk_at "wz"
  refine Wr.out (a := .lst (List.replicate 11 [D.str "argument modulus"]).flatten) rfl ?_
  refine Wr.out (ne_same (by decide +kernel) (const_flat rfl)) ?_
  walk_at "wz"
  exact q
theorem s6 {m : Int} {ws : List Int} {l : D} (hS : St S []) (q : ∀ o S, Odd m o → St S [] → K.nx [e0, some (.loc 0), e2, some (.int m), some (.tup (ws.map D.int)), some (.str (sgn m)), e6, some l, some o, e9, e10, e11, e12, e13, e14, e15, e16, e17] S) : Ws (b_law_1_6 [e0, some (.loc 0), e2, some (.int m), some (.tup (ws.map D.int)), some (.str (sgn m)), e6, some l, e8, e9, e10, e11, e12, e13, e14, e15, e16, e17] S) K := by
  unfold b_law_1_6
  walk_at "wz"
  refine ⟨rfl, ?_⟩
  walk_at "wz"
  refine ⟨rfl, ?_⟩
  walk_at "wz"
  refine ⟨rfl, ?_⟩
  walk_at "wz"
  refine ⟨rfl, ?_⟩
  walk_at "wz"
  refine Wr.out (a := .tup (List.replicate 13 [D.int 1]).flatten) rfl ?_
  walk_at "wz"
  refine ⟨rfl, ?_⟩
  walk_at "wz"
  refine ⟨rfl, ?_⟩
  walk_at "wz"
  refine ⟨rfl, ?_⟩
  walk_at "wz"
  refine dr hS (by omega) (by omega) fun v S2 v0 v1 hS2 => ?_
  refine w_pick v0 v1 fun odd ho => ?_
  exact q odd S2 (odd_all ho) hS2
theorem s7 {m : Int} {ws : List Int} {l o : D} (hm : m ∈ mods) (ho : Odd m o) (hS : St S []) (q : K.nx [e0, some (.loc 0), e2, some (.int m), some (.tup (ws.map D.int)), some (.str (sgn m)), e6, some l, some o, e9, e10, e11, e12, e13, e14, e15, e16, e17] S) : Ws (b_law_1_7 [e0, some (.loc 0), e2, some (.int m), some (.tup (ws.map D.int)), some (.str (sgn m)), e6, some l, some o, e9, e10, e11, e12, e13, e14, e15, e16, e17] S) K := by
  unfold b_law_1_7
  obtain ⟨l2, l100, m2, m97⟩ := sgn_len m hm
  obtain ⟨ho1, ho2, ho3⟩ := ho
  have ho4 : codeV (.int m) o = some ("weights" : Str) := by
    rw [← ho3]
    exact if_pos ⟨m2, m97⟩
  walk_at "wz"
  refine w_lcm ?_
  walk_at "wz"
  refine Wr.out (rangeD1_n (n := 10) (by decide)) ?_
  refine ⟨Nat, List.range 10, _, fun _ => .str "argument weights", itsA_R.its, by decide, fun k hk => ⟨_, rfl, ?_⟩, ?_⟩
  · refine Wr.eqn ?_
    walk_at "wz"
    refine Wr.eq (wts_told ho1 ho2 ho4 k (List.mem_range.mp hk)) ?_
    exact ⟨rfl, rfl⟩
  walk_at "wz"
  refine ⟨rfl, ?_⟩
  walk_at "wz"
  refine Wr.out (a := .lst (List.replicate 10 [D.str "argument weights"]).flatten) rfl ?_
  refine Wr.out (ne_same (by decide +kernel) (const_flat rfl)) ?_
  walk_at "wz"
  exact q
theorem s8 {m : Int} {ws : List Int} {l o : D} (hS : St S []) (q : ∀ b x S, Zs 4001 x → b ∈ [.non, .int 5, .str "~", .str x, .tup [.str "0"], .str "0\n"] → St S [] → K.nx [e0, some (.loc 0), e2, some (.int m), some (.tup (ws.map D.int)), some (.str (sgn m)), e6, some l, some o, some b, e10, e11, e12, e13, e14, e15, e16, e17] S) : Ws (b_law_1_8 [e0, some (.loc 0), e2, some (.int m), some (.tup (ws.map D.int)), some (.str (sgn m)), e6, some l, some o, e9, e10, e11, e12, e13, e14, e15, e16, e17] S) K := by
  unfold b_law_1_8
  walk_at "wz"
  with_reducible refine w_zs (by decide) (by decide) fun x hx => ?_
  walk_at "wz"
  refine ⟨rfl, ?_⟩
  walk_at "wz"
  refine ⟨rfl, ?_⟩
  walk_at "wz"
  refine dr hS (by omega) (by omega) fun v S2 v0 v1 hS2 => ?_
  refine w_pick v0 v1 fun b hb => ?_
  exact q b x S2 hx hb hS2
theorem s9 {m : Int} {ws : List Int} {l o b : D} (hm : m ∈ mods) (hw : Ws0 m ws) (hb : shortD b = true ∧ okText m b = false) (hS : St S []) (q : K.nx [e0, some (.loc 0), e2, some (.int m), some (.tup (ws.map D.int)), some (.str (sgn m)), e6, some l, some o, some b, e10, e11, e12, e13, e14, e15, e16, e17] S) : Ws (b_law_1_9 [e0, some (.loc 0), e2, some (.int m), some (.tup (ws.map D.int)), some (.str (sgn m)), e6, some l, some o, some b, e10, e11, e12, e13, e14, e15, e16, e17] S) K := by
  unfold b_law_1_9
  walk_at "wz"
  refine w_lcm ?_
  walk_at "wz"
  refine ⟨rfl, ?_⟩
  refine Wr.out (a := itL [D.int 1, .int 2, .int 3, .int 4, .int 5, .int 6, .int 7]) rfl ?_
  refine ⟨Nat, List.range 7, _, fun _ => .str "argument text", its_seven.its, by decide, fun k hk => ⟨_, rfl, ?_⟩, ?_⟩
  · refine Wr.eqn ?_
    walk_at "wz"
    refine Wr.eq (txt_told hw hb.1 hb.2 (k + 1) (by omega) (by have := List.mem_range.mp hk; omega)) ?_
    exact ⟨rfl, rfl⟩
  walk_at "wz"
  refine ⟨rfl, ?_⟩
  walk_at "wz"
  refine Wr.out (a := .lst (List.replicate 7 [D.str "argument text"]).flatten) rfl ?_
  refine Wr.out (ne_same (by decide +kernel) (const_flat rfl)) ?_
  walk_at "wz"
  exact q
theorem s10 {m : Int} {ws : List Int} {l o b : D} (hm : m ∈ mods) (hw : Ws0 m ws) (hS : St S []) (q : K.nx [e0, some (.loc 0), e2, some (.int m), some (.tup (ws.map D.int)), some (.str (sgn m)), e6, some l, some o, some b, e10, e11, e12, e13, e14, e15, e16, e17] S) : Ws (b_law_1_10 [e0, some (.loc 0), e2, some (.int m), some (.tup (ws.map D.int)), some (.str (sgn m)), e6, some l, some o, some b, e10, e11, e12, e13, e14, e15, e16, e17] S) K := by
  unfold b_law_1_10
  walk_at "wz"
  with_reducible refine w_zs (by decide) (by decide) fun x hx => ?_
  walk_at "wz"
  refine Wr.eq (long_told hw hm (ok_zeros hm (by decide) hx) hx.len).1 ?_
  walk_at "wz"
  refine Wr.out (ne_same (by decide +kernel) rfl) ?_
  walk_at "wz"
  with_reducible refine w_zs (by decide) (by decide) fun x hx => ?_
  walk_at "wz"
  refine Wr.eq (long_told hw hm (ok_zeros hm (by decide) hx) hx.len).2 ?_
  walk_at "wz"
  refine Wr.out (a := D.bl false) rfl ?_
  walk_at "wz"
  exact q
theorem s11 {m : Int} {ws : List Int} {l o b : D} (hm : m ∈ mods) (hS : St S []) (q : ∀ x S, okText m (.str x) = true → St S [] → K.nx [e0, some (.loc 0), e2, some (.int m), some (.tup (ws.map D.int)), some (.str (sgn m)), e6, some l, some o, some b, some (.str x), e11, e12, e13, e14, e15, e16, e17] S) : Ws (b_law_1_11 [e0, some (.loc 0), e2, some (.int m), some (.tup (ws.map D.int)), some (.str (sgn m)), e6, some l, some o, some b, e10, e11, e12, e13, e14, e15, e16, e17] S) K := by
  unfold b_law_1_11
  refine s_set ?_
  refine drawn hm rfl rfl (by decide) (by decide) (fun q => ?_) fun x S4 hx hxs hS4 => ?_
  · walk_at "wz"
    refine dr hS (by omega) (by omega) fun v S' v0 v1 h => ?_
    walk_at "wz"
    exact q (1 + v) S' (by omega) (by omega) h
  exact q x S4 (okText_of (by omega) hxs) hS4
theorem s12 {m : Int} {ws : List Int} {l o b : D} {x : Str} (hm : m ∈ mods) (hw : Ws0 m ws) (hx : okText m (.str x) = true) (hS : St S []) (q : ∀ S, St S [] → K.nx [e0, some (.loc 0), e2, some (.int m), some (.tup (ws.map D.int)), some (.str (sgn m)), e6, some l, some o, some b, some (.str x), e11, e12, e13, e14, e15, e16, e17] S) : Ws (b_law_1_12 [e0, some (.loc 0), e2, some (.int m), some (.tup (ws.map D.int)), some (.str (sgn m)), e6, some l, some o, some b, some (.str x), e11, e12, e13, e14, e15, e16, e17] S) K := by
  unfold b_law_1_12
  have zx : x.length ≤ sizeLine := Nat.le_trans (okText_len hx) (by decide)
  walk_at "wz"
  refine Wr.out (len_str zx) ?_
  walk_at "wz"
  refine ⟨rfl, ?_⟩
  walk_at "wz"
  refine dr hS (by omega) (by omega) fun v S1 v0 v1 hS1 => ?_
  refine w_pick v0 v1 fun d hd => ?_
  walk_at "wz"
  obtain ⟨p1, p2⟩ := places_ok hd
  refine Wr.eq (place_told hw hx p1 p2) ?_
  walk_at "wz"
  refine Wr.out (ne_same (by decide +kernel) rfl) ?_
  walk_at "wz"
  exact q S1 hS1
theorem s13 {m : Int} {ws : List Int} {l o b : D} {x : Str} (hm : m ∈ mods) (hw : Ws0 m ws) (hx : okText m (.str x) = true) (hS : St S []) (q : K.nx [e0, some (.loc 0), e2, some (.int m), some (.tup (ws.map D.int)), some (.str (sgn m)), e6, some l, some o, some b, some (.str x), e11, e12, e13, e14, e15, e16, e17] S) : Ws (b_law_1_13 [e0, some (.loc 0), e2, some (.int m), some (.tup (ws.map D.int)), some (.str (sgn m)), e6, some l, some o, some b, some (.str x), e11, e12, e13, e14, e15, e16, e17] S) K := by
  unfold b_law_1_13
  walk_at "wz"
  refine Wr.eq (share_told hw hm hx) ?_
  walk_at "wz"
  refine Wr.eq (law_sum_ok hw hm (by have := okText_len hx; omega) (okText_all hx)) ?_
  walk_at "wz"
  refine ⟨fun z => ?_, fun z => ?_⟩
  · rw [if_pos (of_decide_eq_true z)]
    walk_at "wz"
    refine Wr.out (a := D.bl false) rfl ?_
    walk_at "wz"
    exact q
  · rw [if_neg (of_decide_eq_false z)]
    walk_at "wz"
    refine Wr.out (ne_same (by decide +kernel) rfl) ?_
    walk_at "wz"
    exact q
theorem s14 {m : Int} {ws : List Int} {l o b : D} {x : Str} (hm : m ∈ mods) (hS : St S []) (q : ∀ S, St S [] → K.nx [e0, some (.loc 0), e2, some (.int m), some (.tup (ws.map D.int)), some (.str (sgn m)), e6, some l, some o, some b, some (.str x), e11, e12, e13, e14, e15, e16, e17] S) : Ws (b_law_1_14 [e0, some (.loc 0), e2, some (.int m), some (.tup (ws.map D.int)), some (.str (sgn m)), e6, some l, some o, some b, some (.str x), e11, e12, e13, e14, e15, e16, e17] S) K := by
  unfold b_law_1_14
  obtain ⟨l2, l100, m2, m97⟩ := sgn_len m hm
  walk_at "wz"
  refine ⟨rfl, ?_⟩
  walk_at "wz"
  refine dr hS (by omega) (by omega) fun v S1 v0 v1 hS1 => ?_
  refine w_pick v0 v1 fun d hd => ?_
  walk_at "wz"
  refine Wr.eq (many_all m2 m97 hd) ?_
  walk_at "wz"
  refine Wr.out (ne_same (by decide +kernel) rfl) ?_
  walk_at "wz"
  exact q S1 hS1
end
end Lw

namespace Lw
open PySem Ev
theorem law_ok (ns : List Int) : Wr (F_law [.rol (ns.map D.int)] []) (fun d _ => d = .bl true) fun _ _ _ => False := by
  refine wd_law ?_
  rw [m_law_eq]
  unfold b_law_0
  walk_at "wz"
  refine start_ok ns fun S hS => ?_
  walk_at "wz"
  refine Wr.out (rangeD1_n (n := 4) (by decide)) ?_
  refine forGo_its itsA_R (I := fun i δ S => St S [] ∧ ∃ o0 o2 o3 o4 o5 o6 o7 o8 o9 o10 o11 o12 o13 o14 o15 o16 o17, δ = [o0, some (.loc 0), o2, o3, o4, o5, o6, o7, o8, o9, o10, o11, o12, o13, o14, o15, o16, o17]) ⟨hS, _, _, _, _, _, _, _, _, _, _, _, _, _, _, _, _, _, rfl⟩ ?_ ?_
  · rintro i hi δ S ⟨hS, o0, o2, o3, o4, o5, o6, o7, o8, o9, o10, o11, o12, o13, o14, o15, o16, o17, rfl⟩
    refine ⟨_, _, rfl, ?_⟩
    rw [List.getElem_range]
    dsimp only [List.set_cons_succ, List.set_cons_zero]
    with_reducible refine s_seq (s0 hS fun m S hm hS => ?_)
    with_reducible refine s_seq (s1 hm hS fun ws S hw hS => ?_)
    with_reducible refine s_seq (s2 hS ?_)
    with_reducible refine s_seq ?_
    walk_at "wz"
    refine Wr.out (rangeD1_n (n := 6) (by decide)) ?_
    refine forGo_its itsA_R (I := fun j δ S => St S [] ∧ ∃ o0 o2 o6 o7 o8 o9 o10 o11 o12 o13 o14 o15 o16 o17, δ = [o0, some (.loc 0), o2, some (.int m), some (.tup (ws.map D.int)), some (.str (sgn m)), o6, o7, o8, o9, o10, o11, o12, o13, o14, o15, o16, o17]) ⟨hS, _, _, _, _, _, _, _, _, _, _, _, _, _, _, rfl⟩ ?_ ?_
    · rintro j hj δ S ⟨hS, o0, o2, o6, o7, o8, o9, o10, o11, o12, o13, o14, o15, o16, o17, rfl⟩
      refine ⟨_, _, rfl, ?_⟩
      dsimp only [List.set_cons_succ, List.set_cons_zero]
      with_reducible exact round hm hw hS fun _ _ _ _ _ S hS => ⟨hS, _, _, _, _, _, _, _, _, _, _, _, _, _, _, rfl⟩
    · rintro δ S ⟨hS, o0, o2, o6, o7, o8, o9, o10, o11, o12, o13, o14, o15, o16, o17, rfl⟩
      with_reducible refine s_seq (s4 hS fun l S hl hS => ?_)
      with_reducible refine s_seq (s5 hl hS ?_)
      with_reducible refine s_seq (s6 hS fun o S ho hS => ?_)
      with_reducible refine s_seq (s7 hm ho hS ?_)
      with_reducible refine s_seq (s8 hS fun b x S hx hb hS => ?_)
      with_reducible refine s_seq (s9 hm hw (bad_all hm hx hb) hS ?_)
      with_reducible refine s_seq (s10 hm hw hS ?_)
      with_reducible refine s_seq (s11 hm hS fun x S hx hS => ?_)
      with_reducible refine s_seq (s12 hm hw hx hS fun S hS => ?_)
      with_reducible refine s_seq (s13 hm hw hx hS ?_)
      with_reducible refine s14 hm hS fun S hS => ?_
      exact ⟨hS, _, _, _, _, _, _, _, _, _, _, _, _, _, _, _, _, _, rfl⟩
  · rintro δ S ⟨hS, o0, o2, o3, o4, o5, o6, o7, o8, o9, o10, o11, o12, o13, o14, o15, o16, o17, rfl⟩
    unfold b_law_2
    walk_at "wz"
    rfl
theorem law_true (ns : List Int) (h : ns.length ≤ 63) : ∃ S', F_law [.rol (ns.map D.int)] [] = .ok (.bl true) S' := by
  obtain ⟨d, S', e, rfl⟩ := (law_ok ns).ok
  exact ⟨S', e⟩
end Lw

open PySem PySem.W PySem.Calls PyProof.Rows
theorem law_end (hF : ∀ ns : List Int, ns.length ≤ 63 → ∃ S', Lw.F_law [.rol (ns.map Ev.D.int)] [] = .ok (.bl true) S') : PySem.Challenge.rw_sameunits_k57_papers_and_arguments_of_si.Holds := by
  w_on; o_law
  refine HandSHeadRun.head_any (r := OpenLaw.row PySem.Challenge.rw_sameunits_k57_papers_and_arguments_of_si) (q := view (OpenLaw.row PySem.Challenge.rw_sameunits_k57_papers_and_arguments_of_si).prog [38]) (H := Lw.hk) (ob := Lw.ob) (M := 3000) (loose := Lw.names) (d := HandSHeadRun.topDef (OpenLaw.row PySem.Challenge.rw_sameunits_k57_papers_and_arguments_of_si).prog 38) (kwd := []) Lw.ob_eq
    (by kernel_rfl) (fun s => by kernel_rfl) Lw.run (by kernel_rfl) (by kernel_rfl) (by kernel_rfl) (by rfl) (by first | assumption | decide +kernel) (by decide +kernel) ⟨rfl, rfl, rfl, rfl, rfl, by decide +kernel⟩ ?hw ?hc
  case hw => w_witness2
  case hc =>
    exact Ev.walk_ev (l := PySem.Challenge.rw_sameunits_k57_papers_and_arguments_of_si) (n := 63) (k := 7) (i := 46) (F := Lw.F_law) rfl (by decide) (by kernel_rfl) ⟨rfl, by decide, by decide⟩ (by kernel_rfl) Lw.plains rfl (by kernel_rfl) (fun w K mg base G => Lw.ok_law G) (fun K mg G s u => (G.def_ 26 _ rfl).bindsA (ps := ["script"]) (fun _ _ _ _ _ _ us hl => match us, hl with | [_], _ => rfl) s [u] rfl) hF

end Ev
open PySem PySem.W PyProof.Rows
theorem PySem.Challenge.cw_sameunits_k57_papers_and_arguments_of_si_holds : PySem.Challenge.rw_sameunits_k57_papers_and_arguments_of_si.Holds := by
  exact Ev.law_end fun ns h => Ev.Lw.law_true ns h
