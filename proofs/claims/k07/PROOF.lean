import PyProof.Rows.All
import Wide.All
import OpenK.AllK
import Wide.FinOn
import HandS.ForMost
import HandS.ForExc
import HandS.CallSlots
import HandS.Defaults
import HandS.Style
import HandS.IsInst
import KE.GoesEnum
import PyProof.FactsSeq
import HandS.ExcField
import HandS.ExcIs
import HandS.ExcInit
import KE.KExcSuper
import KE.KExcInit
import KE.KExcIs
import HandS.TupAny
import OpenK.KOps
import HandS.IterVal
import HandS.OwnIter
import HandS.Head0
import HandS.Head1
import HandS.Head2
import HandS.HeadEnd
import HandS.HeadHook1
import HandS.HeadHook2
import HandS.Words
import HandS.Ends
import HandS.More
import HandS.WordsExc
import KE.KStateDown
import Lean
import PySem.Challenge.RW_calmmornings_k07_row_or_ring
set_option Elab.async false
set_option linter.all false
set_option maxRecDepth 100000
set_option maxHeartbeats 2000000
namespace TL
open PySem PySem.Spec PyProof.Rows L2

/-! ### values as trees -/
/-- a frozen value: nothing in it is changed any more -/
inductive FV where
  | non | bl (b : Bool) | int (i : Int) | str (s : Str) | tup (xs : List FV) | lst (xs : List FV) | obj (c : Nat) (fs : List FV) | dic
/-- a list that one frame owns, its items frozen or owned too -/
inductive OT where
  | fz (v : FV) | own (xs : List OT)
/-- an exception of the text: its class by number, its fields -/
structure EV where
  c : Nat
  fs : List FV
/-- a slot of a frame -/
inductive Sl where
  | un | fz (v : FV) | own (xs : List OT) | al (j : Nat) (p : List Nat) | dr | new (c : Nat) (fs : List FV) | ex (e : EV) | scr (ns : List Int)
/-- the state of a frame: its slots, the draws -/
structure MS where
  sl : List Sl
  dr : Option (List Int)
/-- what an expression gives -/
inductive RV where
  | fz (v : FV) | tmp (xs : List OT) | pl (j : Nat) (p : List Nat) | dr | scr (ns : List Int)

/-- the text's classes by number -/
structure GT where
  K : PySem.W.Frag
  C : Nat → Addr
  nm : Nat → List Str
  X : Nat → Addr
  xn : Nat → List Str
  ex : Option (Addr × Value × Option Addr) := none

section
variable (G : GT) (B : Addr → Prop) (H : Hp)
mutual
def FRep : FV → V → Prop
  | .non, x => x = .non
  | .bl b, x => x = .bl b
  | .int i, x => x = .int i
  | .str s, x => x = .str s
  | .tup ps, x => ∃ a xs, x = .ref a ∧ H a = some (.tup xs) ∧ FReps ps xs
  | .lst ps, x => ∃ a xs, x = .ref a ∧ B a ∧ H a = some (.lst xs) ∧ FReps ps xs
  | .dic, x => ∃ a, x = .ref a ∧ H a = some (.dK [])
  | .obj c ps, x => ∃ a dx fs, x = .ref a ∧ B a ∧ H a = some (.ins (G.C c) dx fs) ∧ fs.map (·.1) = G.nm c ∧ FReps ps (fs.map (·.2))
def FReps : List FV → List V → Prop
  | [], xs => xs = []
  | p :: ps, xs => ∃ x r, xs = x :: r ∧ FRep p x ∧ FReps ps r
end
mutual
def ORep : OT → V → List Addr → Prop
  | .fz v, x, f => FRep G B H v x ∧ f = []
  | .own ts, x, f => ∃ a xs g, x = .ref a ∧ H a = some (.lst xs) ∧ OReps ts xs g ∧ f = a :: g
def OReps : List OT → List V → List Addr → Prop
  | [], xs, f => xs = [] ∧ f = []
  | t :: ts, xs, f => ∃ x r g h, xs = x :: r ∧ ORep t x g ∧ OReps ts r h ∧ f = g ++ h
end
end

/-- what may change: a list, an instance -/
def mutO : HO → Prop
  | .lst _ => True
  | .ins _ _ _ => True
  | _ => False

section
variable {G : GT} {B B' : Addr → Prop} {H H' : Hp}
mutual
theorem FRep.keep (hk : ∀ b o, H b = some o → (mutO o → B b) → H' b = some o) (hB : ∀ b, B b → B' b) : ∀ (v : FV) (x : V), FRep G B H v x → FRep G B' H' v x
  | .non, x, h => by unfold FRep at h ⊢; exact h
  | .bl _, x, h => by unfold FRep at h ⊢; exact h
  | .int _, x, h => by unfold FRep at h ⊢; exact h
  | .str _, x, h => by unfold FRep at h ⊢; exact h
  | .tup ps, x, h => by
    unfold FRep at h ⊢
    obtain ⟨a, xs, e, s, r⟩ := h
    exact ⟨a, xs, e, hk _ _ s (fun z => z.elim), FReps.keep hk hB ps xs r⟩
  | .lst ps, x, h => by
    unfold FRep at h ⊢
    obtain ⟨a, xs, e, b, s, r⟩ := h
    exact ⟨a, xs, e, hB a b, hk _ _ s (fun _ => b), FReps.keep hk hB ps xs r⟩
  | .dic, x, h => by
    unfold FRep at h ⊢
    obtain ⟨a, e, s⟩ := h
    exact ⟨a, e, hk _ _ s (fun z => z.elim)⟩
  | .obj c ps, x, h => by
    unfold FRep at h ⊢
    obtain ⟨a, dx, fs, e, b, s, n, r⟩ := h
    exact ⟨a, dx, fs, e, hB a b, hk _ _ s (fun _ => b), n, FReps.keep hk hB ps _ r⟩
theorem FReps.keep (hk : ∀ b o, H b = some o → (mutO o → B b) → H' b = some o) (hB : ∀ b, B b → B' b) : ∀ (v : List FV) (x : List V), FReps G B H v x → FReps G B' H' v x
  | [], x, h => by unfold FReps at h ⊢; exact h
  | p :: ps, x, h => by
    unfold FReps at h ⊢
    obtain ⟨y, r, e, h1, h2⟩ := h
    exact ⟨y, r, e, FRep.keep hk hB p y h1, FReps.keep hk hB ps r h2⟩
end
/-! the footprint's addresses are lists -/
mutual
theorem ORep.lst : ∀ (t : OT) (x : V) (f : List Addr), ORep G B H t x f → ∀ a ∈ f, ∃ xs, H a = some (.lst xs)
  | .fz v, x, f, h, a, ha => by unfold ORep at h; rw [h.2] at ha; cases ha
  | .own ts, x, f, h, a, ha => by
    unfold ORep at h
    obtain ⟨b, xs, g, _, hb, r, e⟩ := h
    subst e
    rcases List.mem_cons.mp ha with rfl | ha
    · exact ⟨xs, hb⟩
    · exact OReps.lst ts xs g r a ha
theorem OReps.lst : ∀ (t : List OT) (x : List V) (f : List Addr), OReps G B H t x f → ∀ a ∈ f, ∃ xs, H a = some (.lst xs)
  | [], x, f, h, a, ha => by unfold OReps at h; rw [h.2] at ha; cases ha
  | t :: ts, x, f, h, a, ha => by
    unfold OReps at h
    obtain ⟨y, r, g, k, _, h1, h2, e⟩ := h
    subst e
    rcases List.mem_append.mp ha with ha | ha
    · exact ORep.lst t y g h1 a ha
    · exact OReps.lst ts r k h2 a ha
end
mutual
theorem ORep.keep (hk : ∀ b o, H b = some o → (mutO o → B b) → H' b = some o) (hB : ∀ b, B b → B' b) : ∀ (t : OT) (x : V) (f : List Addr), (∀ a ∈ f, H' a = H a) → ORep G B H t x f → ORep G B' H' t x f
  | .fz v, x, f, hf, h => by unfold ORep at h ⊢; exact ⟨FRep.keep hk hB v x h.1, h.2⟩
  | .own ts, x, f, hf, h => by
    unfold ORep at h ⊢
    obtain ⟨b, xs, g, e1, hb, r, e⟩ := h
    subst e
    exact ⟨b, xs, g, e1, (hf b List.mem_cons_self).trans hb, OReps.keep hk hB ts xs g (fun a ha => hf a (List.mem_cons_of_mem _ ha)) r, rfl⟩
theorem OReps.keep (hk : ∀ b o, H b = some o → (mutO o → B b) → H' b = some o) (hB : ∀ b, B b → B' b) : ∀ (t : List OT) (x : List V) (f : List Addr), (∀ a ∈ f, H' a = H a) → OReps G B H t x f → OReps G B' H' t x f
  | [], x, f, hf, h => by unfold OReps at h ⊢; exact h
  | t :: ts, x, f, hf, h => by
    unfold OReps at h ⊢
    obtain ⟨y, r, g, k, e1, h1, h2, e⟩ := h
    subst e
    exact ⟨y, r, g, k, e1, ORep.keep hk hB t y g (fun a ha => hf a (List.mem_append_left _ ha)) h1, OReps.keep hk hB ts r k (fun a ha => hf a (List.mem_append_right _ ha)) h2, rfl⟩
end
/-! ### frozen for good -/
mutual
def OT.frz : OT → FV
  | .fz v => v
  | .own ts => .lst (frzs ts)
def frzs : List OT → List FV
  | [] => []
  | t :: ts => t.frz :: frzs ts
end
mutual
theorem ORep.frz : ∀ (t : OT) (x : V) (f : List Addr), ORep G B H t x f → (∀ b, B b → B' b) → (∀ a ∈ f, B' a) → FRep G B' H t.frz x
  | .fz v, x, f, h, hB, hf => by unfold ORep at h; unfold OT.frz; exact FRep.keep (fun _ _ e _ => e) hB v x h.1
  | .own ts, x, f, h, hB, hf => by
    unfold ORep at h
    obtain ⟨b, xs, g, e1, hb, r, e⟩ := h
    subst e
    unfold OT.frz FRep
    exact ⟨b, xs, e1, hf b List.mem_cons_self, hb, OReps.frz ts xs g r hB fun a ha => hf a (List.mem_cons_of_mem _ ha)⟩
theorem OReps.frz : ∀ (t : List OT) (x : List V) (f : List Addr), OReps G B H t x f → (∀ b, B b → B' b) → (∀ a ∈ f, B' a) → FReps G B' H (frzs t) x
  | [], x, f, h, hB, hf => by unfold OReps at h; unfold frzs FReps; exact h.1
  | t :: ts, x, f, h, hB, hf => by
    unfold OReps at h
    obtain ⟨y, r, g, k, e1, h1, h2, e⟩ := h
    subst e
    unfold frzs FReps
    exact ⟨y, r, e1, ORep.frz t y g h1 hB (fun a ha => hf a (List.mem_append_left _ ha)), OReps.frz ts r k h2 hB fun a ha => hf a (List.mem_append_right _ ha)⟩
end
theorem FReps.len : ∀ {ps : List FV} {xs : List V}, FReps G B H ps xs → ps.length = xs.length
  | [], _, h => by unfold FReps at h; subst h; rfl
  | _ :: _, _, h => by
    unfold FReps at h
    obtain ⟨_, r, e, _, h2⟩ := h
    subst e
    exact congrArg Nat.succ (FReps.len h2)
theorem FReps.get : ∀ {ps : List FV} {xs : List V} {i : Nat} {p : FV}, FReps G B H ps xs → ps[i]? = some p → ∃ x, xs[i]? = some x ∧ FRep G B H p x
  | [], _, _, _, h, e => by simp at e
  | q :: ps, _, 0, p, h, e => by
    unfold FReps at h
    obtain ⟨x, r, e1, h1, _⟩ := h
    subst e1
    simp at e
    subst e
    exact ⟨x, rfl, h1⟩
  | q :: ps, _, i + 1, p, h, e => by
    unfold FReps at h
    obtain ⟨x, r, e1, _, h2⟩ := h
    subst e1
    obtain ⟨y, e2, h3⟩ := FReps.get (i := i) (p := p) h2 (by simpa using e)
    exact ⟨y, by simpa using e2, h3⟩
theorem FReps.app : ∀ {ps qs : List FV} {xs ys : List V}, FReps G B H ps xs → FReps G B H qs ys → FReps G B H (ps ++ qs) (xs ++ ys)
  | [], _, _, _, h, k => by unfold FReps at h; subst h; exact k
  | p :: ps, qs, _, ys, h, k => by
    unfold FReps at h
    obtain ⟨x, r, e, h1, h2⟩ := h
    subst e
    show FReps G B H (p :: (ps ++ qs)) (x :: (r ++ ys))
    unfold FReps
    exact ⟨x, _, rfl, h1, FReps.app h2 k⟩
theorem OReps.len : ∀ {ts : List OT} {xs : List V} {f : List Addr}, OReps G B H ts xs f → ts.length = xs.length
  | [], _, _, h => by unfold OReps at h; rw [h.1]; rfl
  | _ :: _, _, _, h => by
    unfold OReps at h
    obtain ⟨_, r, _, _, e, _, h2, _⟩ := h
    subst e
    exact congrArg Nat.succ (OReps.len h2)
theorem OReps.app : ∀ {ps qs : List OT} {xs ys : List V} {f g : List Addr}, OReps G B H ps xs f → OReps G B H qs ys g → OReps G B H (ps ++ qs) (xs ++ ys) (f ++ g)
  | [], _, _, _, _, _, h, k => by unfold OReps at h; rw [h.1, h.2]; exact k
  | p :: ps, qs, _, ys, _, g, h, k => by
    unfold OReps at h
    obtain ⟨x, r, g1, g2, e, h1, h2, e2⟩ := h
    subst e e2
    show OReps G B H (p :: (ps ++ qs)) (x :: (r ++ ys)) _
    unfold OReps
    exact ⟨x, _, g1, g2 ++ g, rfl, h1, OReps.app h2 k, List.append_assoc ..⟩
/-- frozen items as items of an owned list -/
theorem FReps.ofz : ∀ {ps : List FV} {xs : List V}, FReps G B H ps xs → OReps G B H (ps.map OT.fz) xs []
  | [], _, h => by unfold FReps at h; subst h; unfold List.map OReps; exact ⟨rfl, rfl⟩
  | p :: ps, _, h => by
    unfold FReps at h
    obtain ⟨x, r, e, h1, h2⟩ := h
    subst e
    show OReps G B H (OT.fz p :: ps.map OT.fz) _ _
    unfold OReps
    refine ⟨x, r, [], [], rfl, ?_, FReps.ofz h2, rfl⟩
    unfold ORep
    exact ⟨h1, rfl⟩
theorem FRep.raw {v : FV} {b : Addr} {xs : List V} (h : FRep G B H v (.ref b)) (e : H b = some (.lst xs)) : B b := by
  cases v with
  | tup ps => unfold FRep at h; obtain ⟨a, ys, e1, e2, _⟩ := h; cases e1; rw [e] at e2; cases e2
  | lst ps => unfold FRep at h; obtain ⟨a, ys, e1, e2, _⟩ := h; cases e1; exact e2
  | obj c ps => unfold FRep at h; obtain ⟨a, dx, fs, e1, e2, _⟩ := h; cases e1; exact e2
  | dic => unfold FRep at h; obtain ⟨a, e1, e2⟩ := h; cases e1; rw [e] at e2; cases e2
  | _ => unfold FRep at h; cases h
end
end TL
set_option Elab.async false
set_option linter.all false
set_option maxRecDepth 100000
set_option maxHeartbeats 2000000
namespace TL
open PySem PySem.Spec PyProof.Rows L2

abbrev St := L2.St
/-- what is fixed of a frame: the heap and what is frozen at its entry, the draws, the instance in the making, the exception that a suite holds -/
structure Fc where
  H0 : Hp
  B0 : Addr → Prop
  ad : Option Addr
  nw : Option Addr
  ex : Option (Addr × Value × Option Addr)

def AtP (H : Hp) (P : Addr → Prop) : V → List Nat → V → Prop
  | v, [], w => v = w
  | v, k :: p, w => ∃ a xs u, v = .ref a ∧ P a ∧ H a = some (.lst xs) ∧ xs[k]? = some u ∧ AtP H P u p w

def XRep (G : GT) (B : Addr → Prop) (H : Hp) (e : EV) (cls : Value) (d : Option Addr) : Prop :=
  cls = .ref (G.X e.c) ∧ ((G.xn e.c = [] ∧ e.fs = [] ∧ d = none) ∨ ∃ dd fs, d = some dd ∧ H dd = some (.xd fs) ∧ fs.map (·.1) = G.xn e.c ∧ FReps G B H e.fs (fs.map (·.2)))

/-- a list of ints that nobody changes: the script -/
def ScR (G : GT) (H : Hp) (a : Addr) (ns : List Int) : Prop :=
  (∃ o, H a = some (.frz o (.lst (ns.map V.int)))) ∨ ∃ (o : Obj) (its : Array Value) (n : Nat), G.K.lookup a = some o ∧ o.cls = .type "list" ∧ o.dict = none ∧ o.data = .seq its n ∧ its.size ≤ sizeLine ∧ Vals (ns.map V.int) its.toList
theorem ScR.sq {G : GT} {H : Hp} {a : Addr} {ns : List Int} (h : ScR G H a ns) : SqL G.K H a (ns.map V.int) := by
  rcases h with ⟨o, h⟩ | h
  · exact .inl (.inr ⟨o, h⟩)
  · exact .inr h
def SlR (G : GT) (F : Fc) (B : Addr → Prop) (H : Hp) (σ : St) (fp : Nat → List Addr) (i : Nat) : Sl → Prop
  | .un => fp i = []
  | .fz v => fp i = [] ∧ ∃ x, σ[i]? = some (some x) ∧ FRep G B H v x
  | .own ts => ∃ x, σ[i]? = some (some x) ∧ ORep G B H (.own ts) x (fp i)
  | .al j p => fp i = [] ∧ ∃ x r, σ[i]? = some (some x) ∧ σ[j]? = some (some r) ∧ AtP H (fun a => a ∈ fp j) r p x
  | .dr => fp i = [] ∧ ∃ a, F.ad = some a ∧ σ[i]? = some (some (.ref a))
  | .new c fs => fp i = [] ∧ ∃ a dx ss, F.nw = some a ∧ σ[i]? = some (some (.ref a)) ∧ H a = some (.ins (G.C c) dx ss) ∧ ss.map (·.1) = (G.nm c).take fs.length ∧ FReps G B H fs (ss.map (·.2))
  | .scr ns => fp i = [] ∧ ∃ a, σ[i]? = some (some (.ref a)) ∧ ScR G H a ns
  | .ex e => fp i = [] ∧ ∃ a cls d, G.ex = some (a, cls, d) ∧ σ[i]? = some (some (.ref a)) ∧ XRep G B H e cls d

def DrR (F : Fc) (d : Option (List Int)) (H : Hp) : Prop := match F.ad, d with
  | some a, some ds => H a = some (.lst (ds.map V.int)) ∧ F.H0 a ≠ none ∧ ¬ F.B0 a
  | none, none => True
  | _, _ => False

structure SR (G : GT) (F : Fc) (B : Addr → Prop) (fp : Nat → List Addr) (S : MS) (σ : St) (H : Hp) : Prop where
  len : σ.length = S.sl.length
  sl : ∀ i s, S.sl[i]? = some s → SlR G F B H σ fp i s
  out : ∀ i, S.sl[i]? = none → fp i = []
  nd : ∀ i, (fp i).Nodup
  dj : ∀ i j a, a ∈ fp i → a ∈ fp j → i = j
  nb : ∀ i a, a ∈ fp i → ¬ B a ∧ F.H0 a = none
  ext : ∀ b o, F.H0 b = some o → F.ad ≠ some b → F.nw ≠ some b → H b = some o
  dr : DrR F S.dr H
  nw : ∀ a, F.nw = some a → (∃ C dx fs, H a = some (.ins C dx fs)) ∧ F.H0 a ≠ none ∧ ¬ F.B0 a ∧ F.ad ≠ some a
  bm : ∀ b, F.B0 b → B b
  bg : ∀ b, B b → F.B0 b ∨ F.H0 b = none
  bt : ∀ b, B b → H b ≠ none

structure Eff (F : Fc) (B : Addr → Prop) (fp : Nat → List Addr) (H : Hp) (B' : Addr → Prop) (fp' : Nat → List Addr) (H' : Hp) : Prop where
  keep : ∀ b o, H b = some o → F.ad ≠ some b → H' b = some o
  there : ∀ b, H b ≠ none → H' b ≠ none
  fpg : ∀ i a, a ∈ fp' i → (∃ j, a ∈ fp j) ∨ H a = none
  bg : ∀ b, B' b → B b ∨ (∃ j, b ∈ fp j) ∨ H b = none
  bm : ∀ b, B b → B' b

section
variable {G : GT} {F : Fc} {B B' B'' : Addr → Prop} {fp fp' fp'' : Nat → List Addr} {S S' : MS} {σ : St} {H H' H'' : Hp}
theorem Eff.refl : Eff F B fp H B fp H := ⟨fun _ _ e _ => e, fun _ e => e, fun _ _ h => .inl ⟨_, h⟩, fun _ h => .inl h, fun _ h => h⟩
theorem Eff.trans (a : Eff F B fp H B' fp' H') (b : Eff F B' fp' H' B'' fp'' H'') : Eff F B fp H B'' fp'' H'' where
  keep := fun c o e n => b.keep c o (a.keep c o e n) n
  there := fun c h => b.there c (a.there c h)
  fpg := fun i c h => by
    rcases b.fpg i c h with ⟨j, hj⟩ | h
    · exact a.fpg j c hj
    · exact .inr (Classical.byContradiction fun n => a.there c n h)
  bg := fun c h => by
    rcases b.bg c h with h | ⟨j, hj⟩ | h
    · exact a.bg c h
    · rcases a.fpg j c hj with h | h
      · exact .inr (.inl h)
      · exact .inr (.inr h)
    · exact .inr (.inr (Classical.byContradiction fun n => a.there c n h))
  bm := fun c h => b.bm c (a.bm c h)

theorem SR.notBad (R : SR G F B fp S σ H) {a : Addr} (h : F.ad = some a) : ¬ B a ∧ (∀ i, a ∉ fp i) ∧ (∃ xs, H a = some (.lst xs)) ∧ F.H0 a ≠ none := by
  have d := R.dr
  unfold DrR at d
  rw [h] at d
  cases e : S.dr with
  | none => rw [e] at d; exact d.elim
  | some ds =>
    rw [e] at d
    obtain ⟨d1, d2, d3⟩ := d
    refine ⟨fun hb => ?_, fun i hi => d2 (R.nb i a hi).2, ⟨_, d1⟩, d2⟩
    rcases R.bg a hb with z | z
    · exact d3 z
    · exact d2 z
theorem SR.notNw (R : SR G F B fp S σ H) {a : Addr} (h : F.nw = some a) : ¬ B a ∧ (∀ i, a ∉ fp i) ∧ (∃ C dx fs, H a = some (.ins C dx fs)) := by
  obtain ⟨d1, d2, d3, _⟩ := R.nw a h
  refine ⟨fun hb => ?_, fun i hi => d2 (R.nb i a hi).2, d1⟩
  rcases R.bg a hb with z | z
  · exact d3 z
  · exact d2 z
theorem SR.fpl (R : SR G F B fp S σ H) {i : Nat} {a : Addr} (h : a ∈ fp i) : ∃ xs, H a = some (.lst xs) := by
  cases e : S.sl[i]? with
  | none => rw [R.out i e] at h; cases h
  | some s =>
    have q := R.sl i s e
    cases s with
    | un => unfold SlR at q; rw [q] at h; cases h
    | own ts => unfold SlR at q; obtain ⟨x, _, r⟩ := q; exact ORep.lst _ _ _ r a h
    | _ => unfold SlR at q; rw [q.1] at h; cases h
/-- frozen things are kept -/
theorem SR.keepF (R : SR G F B fp S σ H) (E : Eff F B fp H B' fp' H') : ∀ b o, H b = some o → (mutO o → B b) → H' b = some o := fun b o e m => by
  refine E.keep b o e fun h => ?_
  obtain ⟨n, _, ⟨xs, q⟩, _⟩ := R.notBad h
  rw [e] at q
  cases q
  exact n (m trivial)
theorem SR.frep (R : SR G F B fp S σ H) (E : Eff F B fp H B' fp' H') {v : FV} {x : V} (h : FRep G B H v x) : FRep G B' H' v x := FRep.keep (R.keepF E) E.bm v x h
theorem SR.freps (R : SR G F B fp S σ H) (E : Eff F B fp H B' fp' H') {v : List FV} {x : List V} (h : FReps G B H v x) : FReps G B' H' v x := FReps.keep (R.keepF E) E.bm v x h
theorem XRep.keep {e : EV} {c : Value} {d : Option Addr} (hk : ∀ b o, H b = some o → (mutO o → B b) → H' b = some o) (hB : ∀ b, B b → B' b) (h : XRep G B H e c d) : XRep G B' H' e c d := by
  obtain ⟨h1, h2⟩ := h
  refine ⟨h1, ?_⟩
  rcases h2 with h2 | ⟨dd, fs, a, b, c, r⟩
  · exact .inl h2
  · exact .inr ⟨dd, fs, a, hk _ _ b (fun z => z.elim), c, FReps.keep hk hB _ _ r⟩
theorem ScR.keep {a : Addr} {ns : List Int} (hk : ∀ b o, H b = some o → (mutO o → B b) → H' b = some o) (h : ScR G H a ns) : ScR G H' a ns := by
  rcases h with ⟨o, h⟩ | h
  · exact .inl ⟨o, hk _ _ h (fun z => z.elim)⟩
  · exact .inr h
theorem AtP.mono {P P' : Addr → Prop} : ∀ {p : List Nat} {v w : V}, (∀ a xs, P a → H a = some (.lst xs) → P' a ∧ H' a = some (.lst xs)) → AtP H P v p w → AtP H' P' v p w
  | [], _, _, _, h => h
  | k :: p, v, w, hk, h => by
    obtain ⟨a, xs, u, e, pa, ha, hx, r⟩ := h
    obtain ⟨q1, q2⟩ := hk a xs pa ha
    exact ⟨a, xs, u, e, q1, q2, hx, AtP.mono hk r⟩
/-- the slots stand where all that is tracked stands -/
theorem SR.same (R : SR G F B fp S σ H) (hs : ∀ b o, H b = some o → H' b = some o) (hm : ∀ b, B b → B' b) (hg : ∀ b, B' b → B b ∨ H b = none) (ht : ∀ b, B' b → H' b ≠ none) : SR G F B' fp S σ H' := by
  have hk : ∀ b o, H b = some o → (mutO o → B b) → H' b = some o := fun b o e _ => hs b o e
  have h0 : ∀ b, H b = none → F.H0 b = none := fun b e => by
    cases q : F.H0 b with
    | none => rfl
    | some o =>
      by_cases h1 : F.ad = some b
      · obtain ⟨_, _, ⟨xs, z⟩, _⟩ := R.notBad h1; rw [e] at z; cases z
      · by_cases h2 : F.nw = some b
        · obtain ⟨_, _, ⟨_, _, _, z⟩⟩ := R.notNw h2; rw [e] at z; cases z
        · have := R.ext b o q h1 h2; rw [e] at this; cases this
  refine ⟨R.len, fun i s e => ?_, R.out, R.nd, R.dj, fun i a h => ⟨fun hb => ?_, (R.nb i a h).2⟩, fun b o e n1 n2 => hs b o (R.ext b o e n1 n2), ?_, fun a h => ?_, fun b h => hm b (R.bm b h), fun b h => ?_, ht⟩
  · have q := R.sl i s e
    cases s with
    | un => exact q
    | fz v => obtain ⟨q0, x, q1, q2⟩ := q; exact ⟨q0, x, q1, FRep.keep hk hm v x q2⟩
    | own ts =>
      obtain ⟨x, q1, q2⟩ := q
      exact ⟨x, q1, ORep.keep hk hm _ x _ (fun a ha => by obtain ⟨xs, z⟩ := R.fpl ha; rw [z, hs a _ z]) q2⟩
    | al j p =>
      obtain ⟨q0, x, r, q1, q2, q3⟩ := q
      exact ⟨q0, x, r, q1, q2, AtP.mono (fun a xs pa ha => ⟨pa, hs a _ ha⟩) q3⟩
    | dr => exact q
    | new c fs =>
      obtain ⟨q0, a, dx, ss, q1, q2, q3, q4, q5⟩ := q
      exact ⟨q0, a, dx, ss, q1, q2, hs _ _ q3, q4, FReps.keep hk hm _ _ q5⟩
    | scr ns =>
      obtain ⟨q0, a, q1, q2⟩ := q
      exact ⟨q0, a, q1, ScR.keep hk q2⟩
    | ex e =>
      obtain ⟨q0, a, c, d, q1, q2, q3⟩ := q
      exact ⟨q0, a, c, d, q1, q2, XRep.keep hk hm q3⟩
  · rcases hg a hb with z | z
    · exact (R.nb i a h).1 z
    · obtain ⟨xs, q⟩ := R.fpl h; rw [z] at q; cases q
  · have d := R.dr
    unfold DrR at d ⊢
    split at d
    · obtain ⟨d1, d2, d3⟩ := d; exact ⟨hs _ _ d1, d2, d3⟩
    · trivial
    · exact d
  · obtain ⟨⟨C, dx, fs, n1⟩, n2⟩ := R.nw a h
    exact ⟨⟨C, dx, fs, hs _ _ n1⟩, n2⟩
  · rcases hg b h with z | z
    · exact R.bg b z
    · exact .inr (h0 b z)
theorem SR.h0 (R : SR G F B fp S σ H) {b : Addr} (e : H b = none) : F.H0 b = none := by
  cases q : F.H0 b with
  | none => rfl
  | some o =>
    by_cases h1 : F.ad = some b
    · obtain ⟨_, _, ⟨xs, z⟩, _⟩ := R.notBad h1; rw [e] at z; cases z
    · by_cases h2 : F.nw = some b
      · obtain ⟨_, _, ⟨_, _, _, z⟩⟩ := R.notNw h2; rw [e] at z; cases z
      · have := R.ext b o q h1 h2; rw [e] at this; cases this
/-- a new object, not frozen -/
theorem same_upd {p : Addr} {o : HO} (n : H p = none) : ∀ b u, H b = some u → upd H p o b = some u := fun b u e => by
  rw [upd_ne (ne_of_none e n)]; exact e
theorem there_upd {p : Addr} {o : HO} (n : H p = none) : ∀ b, H b ≠ none → upd H p o b ≠ none := fun b h z => by
  cases q : H b with
  | none => exact h q
  | some u => rw [same_upd n b u q] at z; cases z
theorem SR.new (R : SR G F B fp S σ H) {p : Addr} {o : HO} (n : H p = none) : SR G F B fp S σ (upd H p o) :=
  R.same (same_upd n) (fun _ h => h) (fun _ h => .inl h) fun b h z => by
    have := R.bt b h
    cases q : H b with
    | none => exact this q
    | some u => rw [same_upd n b u q] at z; cases z
theorem Eff.new {p : Addr} {o : HO} (n : H p = none) : Eff F B fp H B fp (upd H p o) :=
  ⟨fun b u e _ => same_upd n b u e, there_upd n, fun _ _ h => .inl ⟨_, h⟩, fun _ h => .inl h, fun _ h => h⟩
/-- .. frozen at once -/
theorem SR.newB (R : SR G F B fp S σ H) {p : Addr} {o : HO} (n : H p = none) : SR G F (fun b => B b ∨ b = p) fp S σ (upd H p o) :=
  R.same (same_upd n) (fun _ h => .inl h) (fun b h => h.elim .inl fun e => .inr (by rw [e]; exact n)) fun b h z => by
    rcases h with h | h
    · have := R.bt b h
      cases q : H b with
      | none => exact this q
      | some u => rw [same_upd n b u q] at z; cases z
    · rw [h, upd_same] at z; cases z
theorem Eff.newB {p : Addr} {o : HO} (n : H p = none) : Eff F B fp H (fun b => B b ∨ b = p) fp (upd H p o) :=
  ⟨fun b u e _ => same_upd n b u e, there_upd n, fun _ _ h => .inl ⟨_, h⟩, fun b h => h.elim .inl fun e => .inr (.inr (by rw [e]; exact n)), fun _ h => .inl h⟩
/-- the frozen set grows by fresh addresses, nothing else -/
theorem SR.keepN {p : Addr} {o : HO} (n : H p = none) (B : Addr → Prop) : ∀ b u, H b = some u → (mutO u → B b) → upd H p o b = some u := fun b u e _ => same_upd n b u e
end

/-! ### results -/
inductive ER (α : Type) where
  | ok (a : α) (S : MS) | err (e : EV) (S : MS) | stuck
def ER.bind {α β : Type} : ER α → (α → MS → ER β) → ER β
  | .ok a S, k => k a S
  | .err e S, _ => .err e S
  | .stuck, _ => .stuck
abbrev M (α : Type) := MS → ER α

/-- what is wanted of a result, from the state (B, fp, H) on; W of what is raised -/
def Post (W : WX) (G : GT) (F : Fc) (B : Addr → Prop) (fp : Nat → List Addr) (σ : St) (H : Hp) {α : Type} (r : ER α) (Q : α → MS → (Addr → Prop) → (Nat → List Addr) → Hp → Prop) : Prop := match r with
  | .ok v S' => ∀ B' fp' H', Eff F B fp H B' fp' H' → SR G F B' fp' S' σ H' → Q v S' B' fp' H'
  | .err e S' => ∀ B' fp' H' c d, Eff F B fp H B' fp' H' → SR G F B' fp' S' σ H' → XRep G B' H' e c d → W c d σ H'
  | .stuck => False
section
variable {W : WX} {G : GT} {F : Fc} {B B' : Addr → Prop} {fp fp' : Nat → List Addr} {σ : St} {H H' : Hp} {α β : Type}
theorem Post.bind {r : ER α} {k : α → MS → ER β} {Q : β → MS → (Addr → Prop) → (Nat → List Addr) → Hp → Prop} (h : Post W G F B fp σ H (r.bind k) Q) :
    Post W G F B fp σ H r fun v S' B' fp' H' => Post W G F B' fp' σ H' (k v S') Q := by
  cases r with
  | ok v S1 =>
    intro B1 fp1 H1 E1 R1
    show Post W G F B1 fp1 σ H1 (k v S1) Q
    have h' : Post W G F B fp σ H (k v S1) Q := h
    cases e : k v S1 with
    | ok w S2 =>
      rw [e] at h'
      intro B2 fp2 H2 E2 R2
      exact h' B2 fp2 H2 (E1.trans E2) R2
    | err x S2 =>
      rw [e] at h'
      intro B2 fp2 H2 c d E2 R2
      exact h' B2 fp2 H2 c d (E1.trans E2) R2
    | stuck => rw [e] at h'; exact h'
  | err e S1 => exact h
  | stuck => exact h
theorem Post.imp {r : ER α} {Q Q' : α → MS → (Addr → Prop) → (Nat → List Addr) → Hp → Prop} (h : Post W G F B fp σ H r Q)
    (k : ∀ v S' B' fp' H', Eff F B fp H B' fp' H' → SR G F B' fp' S' σ H' → Q v S' B' fp' H' → Q' v S' B' fp' H') : Post W G F B fp σ H r Q' := by
  cases r with
  | ok v S1 => exact fun B1 fp1 H1 E1 R1 => k v S1 B1 fp1 H1 E1 R1 (h B1 fp1 H1 E1 R1)
  | err e S1 => exact h
  | stuck => exact h
end
/-- values of any kind; f: the footprint of a list that no slot holds yet -/
def RVR (G : GT) (F : Fc) (B : Addr → Prop) (fp : Nat → List Addr) (S : MS) (σ : St) (H : Hp) : RV → V → List Addr → Prop
  | .fz v, x, f => FRep G B H v x ∧ f = []
  | .tmp ts, x, f => ORep G B H (.own ts) x f ∧ f.Nodup ∧ ∀ a ∈ f, ¬ B a ∧ F.H0 a = none ∧ ∀ i, a ∉ fp i
  | .pl j p, x, f => (∃ r, σ[j]? = some (some r) ∧ AtP H (fun a => F.ad ≠ some a) r p x) ∧ f = []
  | .dr, x, f => (∃ a, F.ad = some a ∧ x = .ref a) ∧ f = []
  | .scr ns, x, f => (∃ a, x = .ref a ∧ ScR G H a ns) ∧ f = []
/-- how a result is related to what the machine gives; Hs: the heap where the reading began -/
abbrev Rel (α β : Type) := Fc → Hp → (Addr → Prop) → (Nat → List Addr) → MS → St → Hp → α → β → Prop
abbrev rX (G : GT) : Rel RV V := fun F Hs B fp S σ H v x => ∃ f, RVR G F B fp S σ H v x f ∧ ∀ a ∈ f, Hs a = none
abbrev rF (G : GT) : Rel FV V := fun _ _ B _ _ _ H v x => FRep G B H v x
abbrev rA (G : GT) : Rel (List FV) (List V) := fun _ _ B _ _ _ H v x => FReps G B H v x
abbrev rB : Rel Bool Bool := fun _ _ _ _ _ _ _ v x => v = x
/-- a reading by a meaning m, its values related by R -/
def tG (W : WX) (G : GT) {α β : Type} (R : Rel α β) (m : M α) : St → Hp → (β → Hp → Prop) → Prop := fun σ H Q =>
  ∃ F B fp S, SR G F B fp S σ H ∧ Post W G F B fp σ H (m S) fun v S' B' fp' H' => ∀ x, R F H B' fp' S' σ H' v x → Q x H'

/-! ### judgements -/
/-- an expression -/
abbrev JX (W : WX) (G : GT) (X : Cx) (e : Expr) (m : M RV) : Prop := PE X e (tG W G (rX G) m)
/-- a test -/
abbrev JT (W : WX) (G : GT) (X : Cx) (e : Expr) (m : M Bool) : Prop := PT X e (tG W G rB m)
abbrev JW (W : WX) (G : GT) (X : Cx) (e : Expr) (m : M Bool) : Prop := PW X e (tG W G rB m)
/-- arguments, frozen -/
abbrev JA (W : WX) (G : GT) (X : Cx) (es : List Expr) (m : M (List FV)) : Prop := PA X es (tG W G (rA G) m)

theorem PE.imp {X : Cx} {e : Expr} {t t' : TE} (h : PE X e t) (k : ∀ σ H Q, t' σ H Q → t σ H Q) : PE X e t' := ⟨fun pins s σ H Q I q => h.run pins s σ H Q I (k σ H Q q)⟩
theorem PT.imp {X : Cx} {e : Expr} {t t' : TT} (h : PT X e t) (k : ∀ σ H Q, t' σ H Q → t σ H Q) : PT X e t' := ⟨fun pins s σ H Q I q => h.run pins s σ H Q I (k σ H Q q)⟩
theorem PW.imp {X : Cx} {e : Expr} {t t' : TT} (h : PW X e t) (k : ∀ σ H Q, t' σ H Q → t σ H Q) : PW X e t' := ⟨fun wh pins s σ H Q I q => h.run wh pins s σ H Q I (k σ H Q q)⟩
theorem PA.imp {X : Cx} {es : List Expr} {t t' : TA} (h : PA X es t) (k : ∀ σ H Q, t' σ H Q → t σ H Q) : PA X es t' := ⟨fun pos pins s σ H Q I q => h.run pos pins s σ H Q I (k σ H Q q)⟩
theorem PS.imp {X : Cx} {e : Stmt} {t t' : TS} (h : PS X e t) (k : ∀ D σ H, t' D σ H → t D σ H) : PS X e t' := ⟨fun pins s σ H D I q => h.run pins s σ H D I (k D σ H q)⟩
theorem PSs.imp {X : Cx} {e : List Stmt} {t t' : TS} (h : PSs X e t) (k : ∀ D σ H, t' D σ H → t D σ H) : PSs X e t' := ⟨fun pins s σ H D I q => h.run pins s σ H D I (k D σ H q)⟩

section
variable {W : WX} {G : GT} {F : Fc} {Bs B B' : Addr → Prop} {fps fp fp' : Nat → List Addr} {S S' : MS} {σ : St} {Hs H H' : Hp}
/-- what a value was, it stays -/
theorem rX.keep (R : SR G F B fp S σ H) (E : Eff F B fp H B' fp' H') {v : RV} {x : V} (h : rX G F Hs B fp S σ H v x) : rX G F Hs B' fp' S' σ H' v x := by
  obtain ⟨f, h, hf⟩ := h
  have kl : ∀ a xs, H a = some (.lst xs) → F.ad ≠ some a → H' a = some (.lst xs) := fun a xs e n => E.keep a _ e n
  refine ⟨f, ?_, hf⟩
  cases v with
  | fz v => exact ⟨R.frep E h.1, h.2⟩
  | tmp ts =>
    obtain ⟨h1, h2, h3⟩ := h
    have lst := ORep.lst _ _ _ h1
    have nad : ∀ a ∈ f, F.ad ≠ some a := fun a ha z => (R.notBad z).2.2.2 (h3 a ha).2.1
    refine ⟨ORep.keep (R.keepF E) E.bm _ x f (fun a ha => by obtain ⟨xs, w⟩ := lst a ha; rw [w, kl a xs w (nad a ha)]) h1, h2, fun a ha => ⟨fun z => ?_, (h3 a ha).2.1, fun i z => ?_⟩⟩
    · rcases E.bg a z with z | ⟨j, z⟩ | z
      · exact (h3 a ha).1 z
      · exact (h3 a ha).2.2 j z
      · obtain ⟨xs, w⟩ := lst a ha; rw [z] at w; cases w
    · rcases E.fpg i a z with ⟨j, z⟩ | z
      · exact (h3 a ha).2.2 j z
      · obtain ⟨xs, w⟩ := lst a ha; rw [z] at w; cases w
  | pl j p =>
    obtain ⟨⟨r, h1, h2⟩, h3⟩ := h
    exact ⟨⟨r, h1, AtP.mono (fun a xs n e => ⟨n, kl a xs e n⟩) h2⟩, h3⟩
  | dr => exact h
  | scr ns =>
    obtain ⟨⟨a, h1, h2⟩, h3⟩ := h
    exact ⟨⟨a, h1, ScR.keep (R.keepF E) h2⟩, h3⟩
theorem rX.start {v : RV} {x : V} (E : Eff F Bs fps Hs B fp H) (h : rX G F H B' fp' S σ H' v x) : rX G F Hs B' fp' S σ H' v x := by
  obtain ⟨f, h, hf⟩ := h
  exact ⟨f, h, fun a ha => Classical.byContradiction fun n => E.there a n (hf a ha)⟩
end
end TL
set_option Elab.async false
set_option linter.all false
set_option maxRecDepth 100000
set_option maxHeartbeats 2000000
namespace TL
open PySem PySem.Spec PyProof.Rows L2
/-! ### places in owned trees -/
def OT.at : OT → List Nat → Option OT
  | t, [] => some t
  | .own xs, k :: p => match xs[k]? with
    | some u => OT.at u p
    | none => none
  | .fz _, _ :: _ => none
def OT.put : OT → List Nat → OT → OT
  | _, [], u => u
  | .own xs, k :: p, u => match xs[k]? with
    | some t => .own (xs.set k (OT.put t p u))
    | none => .own xs
  | .fz v, _ :: _, _ => .fz v
section
variable {G : GT} {B B' : Addr → Prop} {H H' : Hp}
theorem AtP.inj {P P' : Addr → Prop} : ∀ {p : List Nat} {v w w' : V}, AtP H P v p w → AtP H P' v p w' → w = w'
  | [], _, _, _, a, b => a.symm.trans b
  | k :: p, v, w, w', a, b => by
    obtain ⟨x, xs, u, e, _, h1, h2, r⟩ := a
    obtain ⟨y, ys, z, e', _, k1, k2, r'⟩ := b
    rw [e] at e'
    cases e'
    rw [h1] at k1
    cases k1
    rw [h2] at k2
    cases k2
    exact AtP.inj r r'
/-- the k-th item of items, what stands on both sides -/
theorem OReps.split : ∀ {ts : List OT} {xs : List V} {f : List Addr} {k : Nat} {u : OT}, OReps G B H ts xs f → ts[k]? = some u →
    ∃ y f1 g f2, xs[k]? = some y ∧ ORep G B H u y g ∧ f = f1 ++ g ++ f2 ∧
      ∀ (B' : Addr → Prop) (H' : Hp) u' g' y', (∀ b o, H b = some o → (mutO o → B b) → H' b = some o) → (∀ b, B b → B' b) → (∀ b ∈ f1 ++ f2, H' b = H b) → ORep G B' H' u' y' g' → OReps G B' H' (ts.set k u') (xs.set k y') (f1 ++ g' ++ f2)
  | [], _, _, k, u, h, e => by simp at e
  | t :: ts, xs, f, 0, u, h, e => by
    unfold OReps at h
    obtain ⟨x, r, g, hh, rfl, h1, h2, rfl⟩ := h
    simp at e
    subst e
    refine ⟨x, [], g, hh, rfl, h1, rfl, fun B' H' u' g' y' hk hB hf hu => ?_⟩
    show OReps G B' H' (u' :: ts) (y' :: r) _
    unfold OReps
    exact ⟨y', r, g', hh, rfl, hu, OReps.keep hk hB ts r hh (fun a ha => hf a (by simpa using ha)) h2, rfl⟩
  | t :: ts, xs, f, k + 1, u, h, e => by
    unfold OReps at h
    obtain ⟨x, r, g, hh, rfl, h1, h2, rfl⟩ := h
    obtain ⟨y, f1, g1, f2, q1, q2, rfl, q4⟩ := OReps.split (k := k) h2 (by simpa using e)
    refine ⟨y, g ++ f1, g1, f2, by simpa using q1, q2, by simp [List.append_assoc], fun B' H' u' g' y' hk hB hf hu => ?_⟩
    show OReps G B' H' (t :: ts.set k u') (x :: r.set k y') _
    unfold OReps
    refine ⟨x, _, g, f1 ++ g' ++ f2, rfl, ORep.keep hk hB t x g (fun a ha => hf a (by simp [ha])) h1, q4 B' H' u' g' y' hk hB (fun b hb => hf b ?_) hu, by simp [List.append_assoc]⟩
    rcases List.mem_append.mp hb with z | z <;> simp [z]
/-! the footprint of a tree is one -/
mutual
theorem ORep.det : ∀ (t : OT) (x : V) (f g : List Addr), ORep G B H t x f → ORep G B H t x g → f = g
  | .fz v, x, f, g, h, k => by unfold ORep at h k; rw [h.2, k.2]
  | .own ts, x, f, g, h, k => by
    unfold ORep at h k
    obtain ⟨a, xs, f1, e1, h1, h2, e2⟩ := h
    obtain ⟨b, ys, g1, k1, k2, k3, k4⟩ := k
    rw [e1] at k1
    cases k1
    rw [h1] at k2
    cases k2
    rw [e2, k4, OReps.det ts xs f1 g1 h2 k3]
theorem OReps.det : ∀ (t : List OT) (x : List V) (f g : List Addr), OReps G B H t x f → OReps G B H t x g → f = g
  | [], x, f, g, h, k => by unfold OReps at h k; rw [h.2, k.2]
  | t :: ts, x, f, g, h, k => by
    unfold OReps at h k
    obtain ⟨y, r, f1, f2, e, h1, h2, e2⟩ := h
    obtain ⟨z, s, g1, g2, e', k1, k2, k3⟩ := k
    rw [e] at e'
    cases e'
    rw [e2, k3, ORep.det t y f1 g1 h1 k1, OReps.det ts r f2 g2 h2 k2]
end
theorem OReps.sub : ∀ {ts : List OT} {xs : List V} {f : List Addr} {k : Nat} {t : OT} {y : V} {g : List Addr}, OReps G B H ts xs f → ts[k]? = some t → xs[k]? = some y → ORep G B H t y g → ∀ a ∈ g, a ∈ f
  | [], _, _, _, _, _, _, _, e, _, _, _, _ => by simp at e
  | t :: ts, _, f, 0, u, y, g, h, e1, e2, hg, a, ha => by
    unfold OReps at h
    obtain ⟨x, r, f1, f2, rfl, h1, h2, rfl⟩ := h
    simp at e1 e2
    subst e1 e2
    rw [ORep.det _ _ _ _ hg h1] at ha
    exact List.mem_append_left _ ha
  | t :: ts, _, f, k + 1, u, y, g, h, e1, e2, hg, a, ha => by
    unfold OReps at h
    obtain ⟨x, r, f1, f2, rfl, h1, h2, rfl⟩ := h
    exact List.mem_append_right _ (OReps.sub (k := k) h2 (by simpa using e1) (by simpa using e2) hg a ha)
theorem OReps.apart : ∀ {ts : List OT} {xs : List V} {f : List Addr} {k j : Nat} {t u : OT} {y z : V} {g h : List Addr} {a : Addr}, OReps G B H ts xs f → k ≠ j → ts[k]? = some t → ts[j]? = some u →
      ORep G B H t y g → ORep G B H u z h → f.Nodup → xs[k]? = some y → xs[j]? = some z → a ∈ g → a ∈ h → False
  | [], _, _, _, _, _, _, _, _, _, _, _, _, _, e, _, _, _, _, _, _, _, _ => by simp at e
  | t0 :: ts, _, f, 0, 0, _, _, _, _, _, _, _, _, n, _, _, _, _, _, _, _, _, _ => n rfl
  | t0 :: ts, _, f, 0, j + 1, t, u, y, z, g, h, a, hs, n, e1, e2, r1, r2, hn, hy, hz, ha, hb => by
    unfold OReps at hs
    obtain ⟨x, r, f1, f2, rfl, h1, h2, rfl⟩ := hs
    simp at e1 hy
    subst e1 hy
    rw [ORep.det _ _ _ _ r1 h1] at ha
    have hb2 := OReps.sub (k := j) h2 (by simpa using e2) (by simpa using hz) r2 a hb
    exact (List.nodup_append.mp hn).2.2 a ha a hb2 rfl
  | t0 :: ts, _, f, k + 1, 0, t, u, y, z, g, h, a, hs, n, e1, e2, r1, r2, hn, hy, hz, ha, hb => by
    unfold OReps at hs
    obtain ⟨x, r, f1, f2, rfl, h1, h2, rfl⟩ := hs
    simp at e2 hz
    subst e2 hz
    rw [ORep.det _ _ _ _ r2 h1] at hb
    have ha2 := OReps.sub (k := k) h2 (by simpa using e1) (by simpa using hy) r1 a ha
    exact (List.nodup_append.mp hn).2.2 a hb a ha2 rfl
  | t0 :: ts, _, f, k + 1, j + 1, t, u, y, z, g, h, a, hs, n, e1, e2, r1, r2, hn, hy, hz, ha, hb => by
    unfold OReps at hs
    obtain ⟨x, r, f1, f2, rfl, h1, h2, rfl⟩ := hs
    exact OReps.apart (k := k) (j := j) h2 (fun e => n (by rw [e])) (by simpa using e1) (by simpa using e2) r1 r2 (List.nodup_append.mp hn).2.1 (by simpa using hy) (by simpa using hz) ha hb
/-- the subtree at a path, and what may stand there instead -/
theorem ORep.zip : ∀ {p : List Nat} {t u : OT} {x : V} {f : List Addr}, ORep G B H t x f → t.at p = some u →
    ∃ y f1 g f2, AtP H (fun a => a ∈ f) x p y ∧ ORep G B H u y g ∧ f = f1 ++ g ++ f2 ∧
      ∀ (B' : Addr → Prop) (H' : Hp) u' g', (∀ b o, H b = some o → (mutO o → B b) → H' b = some o) → (∀ b, B b → B' b) → (∀ b ∈ f1 ++ f2, H' b = H b) → ORep G B' H' u' y g' → ORep G B' H' (t.put p u') x (f1 ++ g' ++ f2)
  | [], t, u, x, f, h, e => by
    have e : t = u := by simpa [OT.at] using e
    subst e
    refine ⟨x, [], f, [], rfl, h, by simp, fun B' H' u' g' _ _ _ hu => ?_⟩
    simpa [OT.put] using hu
  | k :: p, .fz v, u, x, f, h, e => by simp [OT.at] at e
  | k :: p, .own ts, u, x, f, h, e => by
    unfold ORep at h
    obtain ⟨a, xs, g, rfl, ha, hs, rfl⟩ := h
    unfold OT.at at e
    cases q : ts[k]? with
    | none => rw [q] at e; cases e
    | some t =>
      rw [q] at e
      obtain ⟨y0, f1, g1, f2, s1, s2, rfl, s4⟩ := OReps.split hs q
      obtain ⟨y, h1, h2, h3, r1, r2, rfl, r4⟩ := ORep.zip (p := p) s2 e
      refine ⟨y, a :: f1 ++ h1, h2, h3 ++ f2, ⟨a, xs, y0, rfl, List.mem_cons_self, ha, s1, AtP.mono (fun b ys hb e2 => ⟨List.mem_cons_of_mem _ (List.mem_append_left _ (List.mem_append_right _ hb)), e2⟩) r1⟩, r2, by simp [List.append_assoc], fun B' H' u' g' hk hB hf hu => ?_⟩
      have z := s4 B' H' (t.put p u') (h1 ++ g' ++ h3) y0 hk hB (fun b hb => hf b (by rcases List.mem_append.mp hb with z | z <;> simp [z])) (r4 B' H' u' g' hk hB (fun b hb => hf b (by rcases List.mem_append.mp hb with z | z <;> simp [z])) hu)
      unfold OT.put
      rw [q]
      unfold ORep
      have e0 : xs.set k y0 = xs := by
        obtain ⟨hl, e1⟩ := List.getElem?_eq_some_iff.mp s1
        rw [← e1]; exact List.set_getElem_self ..
      rw [e0] at z
      exact ⟨a, xs, _, rfl, (hf a (by simp)).trans ha, z, by simp [List.append_assoc]⟩
/-- q ends above p -/
def above : List Nat → List Nat → Bool
  | [], [] => false
  | [], _ :: _ => true
  | _ :: _, [] => false
  | k :: q, j :: p => decide (k = j) && above q p
/-- a path that stays away from N -/
theorem AtP.off {N : Addr → Prop} {P P' : Addr → Prop} (hk : ∀ b xs, ¬ N b → P b → H b = some (.lst xs) → P' b ∧ H' b = some (.lst xs)) (hp : ∀ b, P b → ¬ B b) :
    ∀ {p : List Nat} {t : OT} {y w : V} {f : List Addr}, ORep G B H t y f → (∀ b ∈ f, ¬ N b) → AtP H P y p w → AtP H' P' y p w
  | [], _, _, _, _, _, _, h => h
  | k :: p, .fz v, y, w, f, ho, ha, h => by
    obtain ⟨b, xs, u, rfl, pb, hb, _, _⟩ := h
    unfold ORep at ho
    exact absurd (ho.1.raw hb) (hp b pb)
  | k :: p, .own ts, y, w, f, ho, ha, h => by
    obtain ⟨b, xs, u, rfl, pb, hb, hx, r⟩ := h
    unfold ORep at ho
    obtain ⟨c, ys, g, e1, hc, hs, rfl⟩ := ho
    cases e1
    rw [hb] at hc
    cases hc
    obtain ⟨q1, q2⟩ := hk b xs (ha b List.mem_cons_self) pb hb
    have hl : k < ts.length := by
      rw [OReps.len hs]
      exact (List.getElem?_eq_some_iff.mp hx).1
    obtain ⟨y', f1, g1, f2, s1, s2, rfl, _⟩ := OReps.split (k := k) (u := ts[k]) hs (by simp [hl])
    rw [hx] at s1
    cases s1
    exact ⟨b, xs, u, rfl, q1, q2, hx, AtP.off hk hp s2 (fun z hz => ha z (by simp [hz])) r⟩
/-- a path that does not look into the list at q, where only what stands there changes -/
theorem AtP.mod {P P' : Addr → Prop} {g : List Addr} (hk : ∀ b xs, b ∉ g → P b → H b = some (.lst xs) → P' b ∧ H' b = some (.lst xs)) (hp : ∀ b, P b → ¬ B b) :
    ∀ {q : List Nat} {t : OT} {x y : V} {f : List Addr} {u : OT} {p : List Nat} {w : V}, ORep G B H t x f → f.Nodup → t.at q = some u → AtP H (fun _ => True) x q y → ORep G B H u y g → above q p = false → AtP H P x p w → AtP H' P' x p w
  | [], t, x, y, f, us, [], w, _, _, _, _, _, _, h => h
  | [], t, x, y, f, us, k :: p, w, _, _, _, _, _, hs, h => by simp [above] at hs
  | k :: q, t, x, y, f, us, [], w, _, _, _, _, _, _, h => h
  | k :: q, .fz v, x, y, f, us, j :: p, w, _, _, e, _, _, _, h => by simp [OT.at] at e
  | k :: q, .own ts, x, y, f, us, j :: p, w, ho, hn, e, hq, hy, hs, h => by
    obtain ⟨b, xs, u, rfl, pb, hb, hx, r⟩ := h
    unfold ORep at ho
    obtain ⟨c, ys, g0, e1, hc, hss, rfl⟩ := ho
    cases e1
    rw [hb] at hc
    cases hc
    obtain ⟨c, zs, z, e2, _, hc, hz, rq⟩ := hq
    cases e2
    rw [hb] at hc
    cases hc
    unfold OT.at at e
    cases qt : ts[k]? with
    | none => rw [qt] at e; cases e
    | some t1 =>
      rw [qt] at e
      obtain ⟨z', f1, g1, f2, s1, s2, rfl, _⟩ := OReps.split hss qt
      rw [hz] at s1
      cases s1
      obtain ⟨hn1, hn2⟩ := List.nodup_cons.mp hn
      obtain ⟨y1, h1, h2, h3, r1, r2, rfl, _⟩ := ORep.zip s2 e
      have ea : y1 = y := (AtP.inj r1 rq)
      subst ea
      have eg : h2 = g := ORep.det _ _ _ _ r2 hy
      subst eg
      have ne : b ∉ h2 := fun z => hn1 (List.mem_append_left _ (List.mem_append_right _ (List.mem_append_left _ (List.mem_append_right _ z))))
      obtain ⟨q1, q2⟩ := hk b xs ne pb hb
      refine ⟨b, xs, u, rfl, q1, q2, hx, ?_⟩
      by_cases hkj : k = j
      · subst hkj
        rw [hz] at hx
        cases hx
        refine AtP.mod hk hp s2 ?_ e rq hy (by simpa [above] using hs) r
        have := hn2
        rw [List.append_assoc] at this
        exact (List.nodup_append.mp (List.nodup_append.mp this).2.1).1
      · have hl : j < ts.length := by
          rw [OReps.len hss]
          exact (List.getElem?_eq_some_iff.mp hx).1
        obtain ⟨y', k1, g2, k2, w1, w2, ef, _⟩ := OReps.split (k := j) (u := ts[j]) hss (by simp [hl])
        rw [hx] at w1
        cases w1
        refine AtP.off (N := fun b => b ∈ h2) hk hp w2 (fun c hc z => ?_) r
        exact OReps.apart hss hkj qt (by simp [hl]) s2 w2 hn2 hz hx (by simp [z]) hc
end
end TL
set_option Elab.async false
set_option linter.all false
set_option maxRecDepth 100000
set_option maxHeartbeats 2000000
namespace TL
open PySem PySem.Spec PyProof.Rows L2
/-! ### what a frame's state becomes -/
def slOf : OT → Sl
  | .fz v => .fz v
  | .own ts => .own ts
def MS.tree (S : MS) (j : Nat) : Option OT := match S.sl[j]? with
  | some (.own ts) => some (.own ts)
  | _ => none
def MS.at (S : MS) (j : Nat) (q : List Nat) : Option OT := match S.tree j with
  | some t => t.at q
  | none => none
/-- aliases below q of slot j are forgotten -/
def kill (j : Nat) (q : List Nat) : Sl → Sl
  | .al i p => if i = j ∧ above q p = true then .un else .al i p
  | s => s
/-- .. and the one at q is the frozen v -/
def thaw (j : Nat) (q : List Nat) (v : FV) : Sl → Sl
  | .al i p => if i = j ∧ p = q then .fz v else if i = j ∧ above q p = true then .un else .al i p
  | s => s
/-- aliases of slot i are forgotten -/
def dropAl (i : Nat) : Sl → Sl
  | .al j p => if j = i then .un else .al j p
  | s => s
def MS.put (S : MS) (j : Nat) (q : List Nat) (u : OT) : MS := match S.tree j with
  | some t => { S with sl := (S.sl.map (kill j q)).set j (slOf (t.put q u)) }
  | none => S
def MS.frz (S : MS) (j : Nat) (q : List Nat) (v : FV) : MS := match S.tree j with
  | some t => { S with sl := (S.sl.map (thaw j q v)).set j (slOf (t.put q (.fz v))) }
  | none => S
def MS.set (S : MS) (i : Nat) (s : Sl) : MS := { S with sl := (S.sl.map (dropAl i)).set i s }

section
variable {G : GT} {F : Fc} {B B' : Addr → Prop} {fp fp' : Nat → List Addr} {S S' : MS} {σ : St} {H H' : Hp}
theorem tree_eq {j : Nat} {t : OT} (h : S.tree j = some t) : ∃ ts, t = .own ts ∧ S.sl[j]? = some (.own ts) := by
  unfold MS.tree at h
  split at h
  · cases h; exact ⟨_, rfl, by assumption⟩
  · cases h
theorem SR.repl (R : SR G F B fp S σ H) {j : Nat} {q : List Nat} {t0 : List OT} {u u' : OT} {r y : V} {g g' : List Addr} {sl' : List Sl}
    (hj : S.sl[j]? = some (.own t0)) (hu : (OT.own t0).at q = some u) (hr : σ[j]? = some (some r)) (hy : AtP H (fun _ => True) r q y) (hg : ORep G B H u y g)
    (hk : ∀ b o, H b = some o → b ∉ g → H' b = some o) (hB : ∀ b, B b → B' b) (hB' : ∀ b, B' b → B b ∨ b ∈ g ∨ (F.H0 b = none ∧ ∀ i, b ∉ fp i)) (hT : ∀ b, B' b → H' b ≠ none)
    (hu' : ORep G B' H' u' y g') (hn : g'.Nodup) (hg' : ∀ b ∈ g', ¬ B' b ∧ (b ∈ g ∨ (F.H0 b = none ∧ ∀ i, b ∉ fp i)))
    (hl : sl'.length = S.sl.length)
    (hsl : ∀ i s s', i ≠ j → S.sl[i]? = some s → sl'[i]? = some s' → (s' = s ∧ ∀ p, s = .al j p → above q p = false) ∨ (∃ k p, s = .al k p ∧ s' = .un) ∨ ∃ v, s = .al j q ∧ s' = .fz v ∧ FRep G B' H' v y)
    (hsj : sl'[j]? = some (slOf ((OT.own t0).put q u'))) :
    ∃ fp', SR G F B' fp' ⟨sl', S.dr⟩ σ H' ∧ (∀ i a, a ∈ fp' i → a ∈ fp i ∨ a ∈ g') ∧ ∀ a ∈ g, a ∈ fp j := by
  have q0 := R.sl j _ hj
  obtain ⟨x, e1, ho⟩ : ∃ x, σ[j]? = some (some x) ∧ ORep G B H (.own t0) x (fp j) := q0
  rw [hr] at e1
  cases e1
  obtain ⟨y1, f1, g1, f2, z1, z2, ef, z4⟩ := ORep.zip ho hu
  have ey : y1 = y := AtP.inj z1 hy
  subst ey
  have eg : g1 = g := ORep.det _ _ _ _ z2 hg
  subst eg
  have nd := R.nd j
  rw [ef] at nd
  have gin : ∀ a ∈ g1, a ∈ fp j := fun a ha => by rw [ef]; exact List.mem_append_left _ (List.mem_append_right _ ha)
  have glst : ∀ a ∈ g1, ∃ xs, H a = some (.lst xs) := fun a ha => R.fpl (gin a ha)
  have out12 : ∀ b ∈ f1 ++ f2, b ∈ fp j ∧ b ∉ g1 := fun b hb => by
    rw [List.append_assoc] at nd
    obtain ⟨n1, n2, n3⟩ := List.nodup_append.mp nd
    obtain ⟨m1, m2, m3⟩ := List.nodup_append.mp n2
    rcases List.mem_append.mp hb with h | h
    · exact ⟨by rw [ef]; simp [h], fun z => n3 b h b (List.mem_append_left _ z) rfl⟩
    · exact ⟨by rw [ef]; simp [h], fun z => m3 b z b h rfl⟩
  have kept : ∀ b, b ∉ g1 → H b ≠ none → H' b = H b := fun b n z => by
    cases e : H b with
    | none => exact absurd e z
    | some o => exact hk b o e n
  have keptF : ∀ i b, b ∈ fp i → b ∉ g1 → H' b = H b := fun i b hb n => kept b n fun z => by obtain ⟨xs, w⟩ := R.fpl hb; rw [z] at w; cases w
  have kF : ∀ b o, H b = some o → (mutO o → B b) → H' b = some o := fun b o e m => hk b o e fun z => by
    obtain ⟨xs, w⟩ := glst b z
    rw [e] at w
    cases w
    exact (R.nb j b (gin b z)).1 (m trivial)
  have new := z4 B' H' u' g' kF hB (fun b hb => keptF j b (out12 b hb).1 (out12 b hb).2) hu'
  have notB : ∀ i b, b ∈ fp i → b ∉ g1 → ¬ B' b := fun i b hb n z => by
    rcases hB' b z with z | z | ⟨_, z⟩
    · exact (R.nb i b hb).1 z
    · exact n z
    · exact z i hb
  have ng : ∀ i b, i ≠ j → b ∈ fp i → b ∉ g1 := fun i b n hb z => n (R.dj i j b hb (gin b z))
  have h0g : ∀ b, F.H0 b ≠ none → b ∉ g1 := fun b n z => n (R.nb j b (gin b z)).2
  let fp' : Nat → List Addr := fun i => if i = j then f1 ++ g' ++ f2 else fp i
  have fpj : fp' j = f1 ++ g' ++ f2 := if_pos rfl
  have fpi : ∀ {i}, i ≠ j → fp' i = fp i := fun n => if_neg n
  refine ⟨fp', ⟨?_, fun i s e => ?_, fun i e => ?_, fun i => ?_, fun i k a h1 h2 => ?_, fun i a h => ?_, fun b o e n1 n2 => ?_, ?_, fun a h => ?_, fun b h => hB b (R.bm b h), fun b h => ?_, hT⟩, fun i a h => ?_, gin⟩
  · rw [R.len, ← hl]
  · by_cases n : i = j
    · subst n
      rw [hsj] at e
      cases e
      cases ep : (OT.own t0).put q u' with
      | fz v =>
        rw [ep] at new
        have new' := new
        unfold ORep at new'
        show SlR G F B' H' σ fp' i (.fz v)
        exact ⟨by rw [fpj]; exact new'.2, r, hr, new'.1⟩
      | own ts =>
        rw [ep] at new
        show SlR G F B' H' σ fp' i (.own ts)
        exact ⟨r, hr, by rw [fpj]; exact new⟩
    · have hi : i < S.sl.length := by
        rw [← hl]; exact (List.getElem?_eq_some_iff.mp e).1
      have es : S.sl[i]? = some (S.sl[i]) := by simp [hi]
      rcases hsl i _ s n es e with ⟨e2, hab⟩ | ⟨k, p, e2, e3⟩ | ⟨v, e2, e3, fr⟩
      · have q := R.sl i _ es
        rw [← e2] at q hab
        cases s with
        | un => show fp' i = []; rw [fpi n]; exact q
        | fz v => obtain ⟨q0, x, q1, q2⟩ := q; exact ⟨by rw [fpi n]; exact q0, x, q1, FRep.keep kF hB v x q2⟩
        | own ts =>
          obtain ⟨x, q1, q2⟩ := q
          exact ⟨x, q1, by rw [fpi n]; exact ORep.keep kF hB _ x _ (fun a ha => keptF i a ha (ng i a n ha)) q2⟩
        | al k p =>
          obtain ⟨q0, x, r', q1, q2, q3⟩ := q
          refine ⟨by rw [fpi n]; exact q0, x, r', q1, q2, ?_⟩
          by_cases nk : k = j
          · subst nk
            rw [hr] at q2
            cases q2
            refine AtP.mod (P := fun a => a ∈ fp k) (P' := fun a => a ∈ fp' k) (B := B) (g := g1) (fun b xs nb pb hb => ⟨?_, hk b _ hb nb⟩) (fun b pb => (R.nb k b pb).1) ho (R.nd k) hu hy hg (hab p rfl) q3
            show b ∈ fp' k
            rw [fpj]
            rw [ef] at pb
            rcases List.mem_append.mp pb with z | z
            · rcases List.mem_append.mp z with z | z
              · simp [z]
              · exact absurd z nb
            · simp [z]
          · exact AtP.mono (fun a xs pa ha => ⟨by show a ∈ fp' k; rw [fpi nk]; exact pa, hk a _ ha (ng k a nk pa)⟩) q3
        | dr => obtain ⟨q0, q1⟩ := q; exact ⟨by rw [fpi n]; exact q0, q1⟩
        | new c fs =>
          obtain ⟨q0, a, dx, ss, q1, q2, q3, q4, q5⟩ := q
          exact ⟨by rw [fpi n]; exact q0, a, dx, ss, q1, q2, hk _ _ q3 (h0g a (R.nw a q1).2.1), q4, FReps.keep kF hB _ _ q5⟩
        | scr ns => obtain ⟨q0, a, q1, q2⟩ := q; exact ⟨by rw [fpi n]; exact q0, a, q1, ScR.keep kF q2⟩
        | ex e =>
          obtain ⟨q0, a, c, d, q1, q2, q3⟩ := q
          exact ⟨by rw [fpi n]; exact q0, a, c, d, q1, q2, XRep.keep kF hB q3⟩
      · subst e3
        show fp' i = []
        rw [fpi n]
        have q := R.sl i _ es
        rw [e2] at q
        exact q.1
      · subst e3
        have q := R.sl i _ es
        rw [e2] at q
        obtain ⟨q0, x, r', q1, q2, q3⟩ := q
        rw [hr] at q2
        cases q2
        have ex : x = y1 := AtP.inj q3 hy
        subst ex
        exact ⟨by rw [fpi n]; exact q0, x, q1, fr⟩
  · have n : i ≠ j := fun z => by rw [z, hsj] at e; cases e
    rw [fpi n]
    refine R.out i ?_
    have : sl'.length ≤ i := List.getElem?_eq_none_iff.mp e
    exact List.getElem?_eq_none_iff.mpr (by omega)
  · by_cases n : i = j
    · subst n
      rw [fpj]
      rw [List.append_assoc] at nd ⊢
      obtain ⟨n1, n2, n3⟩ := List.nodup_append.mp nd
      obtain ⟨m1, m2, m3⟩ := List.nodup_append.mp n2
      have dis : ∀ a ∈ g', ∀ b ∈ f1 ++ f2, a ≠ b := fun a ha b hb z => by
        subst z
        rcases (hg' a ha).2 with w | ⟨_, w⟩
        · exact (out12 a hb).2 w
        · exact w i (out12 a hb).1
      refine List.nodup_append.mpr ⟨n1, List.nodup_append.mpr ⟨hn, m2, fun a ha b hb => dis a ha b (by simp [hb])⟩, fun a ha b hb => ?_⟩
      rcases List.mem_append.mp hb with z | z
      · exact Ne.symm (dis b z a (by simp [ha]))
      · exact n3 a ha b (List.mem_append_right _ z)
    · rw [fpi n]; exact R.nd i
  · have cross : ∀ {a : Addr} {k : Nat}, k ≠ j → a ∈ f1 ++ g' ++ f2 → a ∈ fp k → False := fun {a k} nk ha hb => by
      rcases List.mem_append.mp ha with z | z
      · rcases List.mem_append.mp z with z | z
        · exact nk (R.dj k j a hb (out12 a (by simp [z])).1)
        · rcases (hg' a z).2 with w | ⟨_, w⟩
          · exact ng k a nk hb w
          · exact w k hb
      · exact nk (R.dj k j a hb (out12 a (by simp [z])).1)
    by_cases ni : i = j
    · by_cases nk : k = j
      · rw [ni, nk]
      · subst ni; rw [fpj] at h1; rw [fpi nk] at h2; exact (cross nk h1 h2).elim
    · by_cases nk : k = j
      · subst nk; rw [fpj] at h2; rw [fpi ni] at h1; exact (cross ni h2 h1).elim
      · rw [fpi ni] at h1; rw [fpi nk] at h2; exact R.dj i k a h1 h2
  · by_cases n : i = j
    · subst n
      rw [fpj] at h
      rcases List.mem_append.mp h with z | z
      · rcases List.mem_append.mp z with z | z
        · have w := out12 a (by simp [z]); exact ⟨notB i a w.1 w.2, (R.nb i a w.1).2⟩
        · obtain ⟨w1, w2⟩ := hg' a z
          refine ⟨w1, ?_⟩
          rcases w2 with w | ⟨w, _⟩
          · exact (R.nb i a (gin a w)).2
          · exact w
      · have w := out12 a (by simp [z]); exact ⟨notB i a w.1 w.2, (R.nb i a w.1).2⟩
    · rw [fpi n] at h; exact ⟨notB i a h (ng i a n h), (R.nb i a h).2⟩
  · exact hk b o (R.ext b o e n1 n2) (h0g b (by rw [e]; simp))
  · have d := R.dr
    unfold DrR at d ⊢
    cases e1 : F.ad with
    | none =>
      rw [e1] at d
      cases e2 : S.dr with
      | none => trivial
      | some ds => rw [e2] at d; exact d
    | some a =>
      rw [e1] at d
      cases e2 : S.dr with
      | none => rw [e2] at d; exact d
      | some ds =>
        rw [e2] at d
        obtain ⟨d1, d2, d3⟩ := d
        exact ⟨hk _ _ d1 (h0g a d2), d2, d3⟩
  · obtain ⟨⟨C, dx, fs, n1⟩, n2, n3⟩ := R.nw a h
    exact ⟨⟨C, dx, fs, hk _ _ n1 (h0g a n2)⟩, n2, n3⟩
  · rcases hB' b h with z | z | ⟨z, _⟩
    · exact R.bg b z
    · exact .inr (R.nb j b (gin b z)).2
    · exact .inr z
  · by_cases n : i = j
    · subst n
      rw [fpj] at h
      rcases List.mem_append.mp h with z | z
      · rcases List.mem_append.mp z with z | z
        · exact .inl (out12 a (by simp [z])).1
        · exact .inr z
      · exact .inl (out12 a (by simp [z])).1
    · rw [fpi n] at h; exact .inl h
end
end TL
set_option Elab.async false
set_option linter.all false
set_option maxRecDepth 100000
set_option maxHeartbeats 2000000
namespace TL
open PySem PySem.Spec PyProof.Rows L2
section
variable {G : GT} {F : Fc} {B B' : Addr → Prop} {fp fp' : Nat → List Addr} {S S' : MS} {σ : St} {H H' : Hp}
theorem get_map_set {f : Sl → Sl} {l : List Sl} {i j : Nat} {s s' z : Sl} (n : i ≠ j) (e : l[i]? = some s) (e' : ((l.map f).set j z)[i]? = some s') : s' = f s := by
  rw [List.getElem?_set_ne (Ne.symm n), List.getElem?_map, e] at e'
  exact (Option.some.inj e').symm
theorem set_self {f : Sl → Sl} {l : List Sl} {j : Nat} {s z : Sl} (e : l[j]? = some s) : ((l.map f).set j z)[j]? = some z := by
  have h : j < l.length := (List.getElem?_eq_some_iff.mp e).1
  rw [List.getElem?_set_self (by simpa using h)]
/-- what stands at a place of a slot's tree -/
theorem SR.place {P : Addr → Prop} (R : SR G F B fp S σ H) {j : Nat} {q : List Nat} {u : OT} {y r : V} (hu : S.at j q = some u) (hr : σ[j]? = some (some r)) (hy : AtP H P r q y) :
    ∃ t0 g, S.sl[j]? = some (.own t0) ∧ S.tree j = some (.own t0) ∧ (OT.own t0).at q = some u ∧ ORep G B H u y g ∧ g.Nodup ∧ (∀ a ∈ g, a ∈ fp j) ∧ AtP H (fun a => a ∈ fp j) r q y := by
  unfold MS.at at hu
  cases e : S.tree j with
  | none => rw [e] at hu; cases hu
  | some t =>
    rw [e] at hu
    obtain ⟨t0, rfl, hj⟩ := tree_eq e
    obtain ⟨x, e1, ho⟩ : ∃ x, σ[j]? = some (some x) ∧ ORep G B H (.own t0) x (fp j) := R.sl j _ hj
    rw [hr] at e1
    cases e1
    obtain ⟨y1, f1, g1, f2, z1, z2, ef, z4⟩ := ORep.zip ho hu
    have ey : y1 = y := AtP.inj z1 hy
    subst ey
    have nd := R.nd j
    rw [ef, List.append_assoc] at nd
    exact ⟨t0, g1, hj, rfl, hu, z2, (List.nodup_append.mp (List.nodup_append.mp nd).2.1).1, fun a ha => by rw [ef]; simp [ha], z1⟩
theorem SR.frzAt {P : Addr → Prop} (R : SR G F B fp S σ H) {j : Nat} {q : List Nat} {u : OT} {y r : V} (hu : S.at j q = some u) (hr : σ[j]? = some (some r)) (hy : AtP H P r q y) :
    ∃ B' fp', SR G F B' fp' (S.frz j q u.frz) σ H ∧ Eff F B fp H B' fp' H ∧ FRep G B' H u.frz y := by
  obtain ⟨t0, g, hj, ht, ha, hg, hn, hin, _⟩ := R.place hu hr hy
  have fr : FRep G (fun b => B b ∨ b ∈ g) H u.frz y := ORep.frz u y g hg (fun _ h => .inl h) fun _ h => .inr h
  have glst : ∀ a ∈ g, ∃ xs, H a = some (.lst xs) := ORep.lst u y g hg
  have hsl : ∀ i s s', i ≠ j → S.sl[i]? = some s → ((S.sl.map (thaw j q u.frz)).set j (slOf ((OT.own t0).put q (.fz u.frz))))[i]? = some s' → (s' = s ∧ ∀ p, s = .al j p → above q p = false) ∨ (∃ k p, s = .al k p ∧ s' = .un) ∨ ∃ v, s = .al j q ∧ s' = .fz v ∧ FRep G (fun b => B b ∨ b ∈ g) H v y := by
    intro i s s' n e e'
    have es := get_map_set n e e'
    cases s with
    | al k p =>
      unfold thaw at es
      simp only at es
      split at es
      · rename_i c; obtain ⟨rfl, rfl⟩ := c
        exact .inr (.inr ⟨_, rfl, es, fr⟩)
      · split at es
        · exact .inr (.inl ⟨k, p, rfl, es⟩)
        · rename_i c1 c2
          by_cases hk : k = j
          · refine .inl ⟨es, fun p' z => ?_⟩
            cases z
            cases hab : above q p with
            | false => rfl
            | true => exact absurd ⟨hk, hab⟩ c2
          · exact .inl ⟨es, fun p' z => by cases z; exact absurd rfl hk⟩
    | _ => exact .inl ⟨by rw [es]; rfl, fun p z => by cases z⟩
  obtain ⟨fp', R', h1, h2⟩ := R.repl (B' := fun b => B b ∨ b ∈ g) (u' := .fz u.frz) (g' := []) hj ha hr (AtP.mono (fun a xs _ h => ⟨trivial, h⟩) hy) hg
    (fun _ _ e _ => e) (fun _ h => .inl h) (fun b h => h.elim .inl fun z => .inr (.inl z)) (fun b h => h.elim (R.bt b) fun z => by obtain ⟨xs, w⟩ := glst b z; rw [w]; simp)
    (by unfold ORep; exact ⟨fr, rfl⟩) List.nodup_nil (fun b hb => by cases hb) (by simp) hsl (set_self hj)
  refine ⟨_, fp', ?_, ⟨fun b o e _ => e, fun _ h => h, fun i a ha => ?_, fun b h => h.elim .inl fun z => .inr (.inl ⟨j, hin b z⟩), fun _ h => .inl h⟩, fr⟩
  · unfold MS.frz
    rw [ht]
    exact R'
  · rcases h1 i a ha with z | z
    · exact .inl ⟨i, z⟩
    · cases z
/-- the list at a place gets other items -/
theorem SR.putL {P : Addr → Prop} (R : SR G F B fp S σ H) {j : Nat} {q : List Nat} {us us' : List OT} {r : V} {a : Addr} {xs xs' : List V} {gs g' : List Addr} (hu : S.at j q = some (.own us)) (hr : σ[j]? = some (some r)) (hy : AtP H P r q (.ref a))
    (hx : H a = some (.lst xs)) (hs : OReps G B H us xs gs) (hs' : OReps G B (upd H a (.lst xs')) us' xs' g') (hn : g'.Nodup) (hg' : ∀ b ∈ g', ¬ B b ∧ b ≠ a ∧ (b ∈ gs ∨ (F.H0 b = none ∧ ∀ i, b ∉ fp i))) :
    ∃ fp', SR G F B fp' (S.put j q (.own us')) σ (upd H a (.lst xs')) ∧ (∀ i b, b ∈ fp' i → (∃ k, b ∈ fp k) ∨ b ∈ g') ∧ a ∈ fp j := by
  obtain ⟨t0, g, hj, ht, ha, hg, hnn, hin, _⟩ := R.place hu hr hy
  have hg2 : ORep G B H (.own us) (.ref a) (a :: gs) := by unfold ORep; exact ⟨a, xs, gs, rfl, hx, hs, rfl⟩
  have eg : g = a :: gs := ORep.det _ _ _ _ hg hg2
  subst eg
  have aB : ¬ B a := (R.nb j a (hin a List.mem_cons_self)).1
  have hsl : ∀ i s s', i ≠ j → S.sl[i]? = some s → ((S.sl.map (kill j q)).set j (slOf ((OT.own t0).put q (.own us'))))[i]? = some s' → (s' = s ∧ ∀ p, s = .al j p → above q p = false) ∨ (∃ k p, s = .al k p ∧ s' = .un) ∨ ∃ v, s = .al j q ∧ s' = .fz v ∧ FRep G B (upd H a (.lst xs')) v (.ref a) := by
    intro i s s' n e e'
    have es := get_map_set n e e'
    cases s with
    | al k p =>
      unfold kill at es
      simp only at es
      split at es
      · exact .inr (.inl ⟨k, p, rfl, es⟩)
      · rename_i c2
        by_cases hk : k = j
        · refine .inl ⟨es, fun p' z => ?_⟩
          cases z
          cases hab : above q p with
          | false => rfl
          | true => exact absurd ⟨hk, hab⟩ c2
        · exact .inl ⟨es, fun p' z => by cases z; exact absurd rfl hk⟩
    | _ => exact .inl ⟨by rw [es]; rfl, fun p z => by cases z⟩
  have nea : ∀ {b : Addr}, B b → b ≠ a := fun {b} h z => aB (by rw [← z]; exact h)
  obtain ⟨fp', R', h1, h2⟩ := R.repl (B' := B) (u' := .own us') (g' := a :: g') (H' := upd H a (.lst xs')) hj ha hr (AtP.mono (fun a xs _ h => ⟨trivial, h⟩) hy) hg
    (fun b o e n => by rw [upd_ne fun z => n (by rw [z]; exact List.mem_cons_self)]; exact e) (fun _ h => h) (fun b h => .inl h) (fun b h => by rw [upd_ne (nea h)]; exact R.bt b h)
    (by unfold ORep; exact ⟨a, xs', g', rfl, upd_same, hs', rfl⟩) (List.nodup_cons.mpr ⟨fun z => (hg' a z).2.1 rfl, hn⟩)
    (fun b hb => by
      rcases List.mem_cons.mp hb with rfl | hb
      · exact ⟨aB, .inl List.mem_cons_self⟩
      · obtain ⟨n1, n2, n3⟩ := hg' b hb
        exact ⟨n1, n3.elim (fun z => .inl (List.mem_cons_of_mem _ z)) .inr⟩) (by simp) hsl (set_self hj)
  refine ⟨fp', ?_, fun i b hb => ?_, hin a List.mem_cons_self⟩
  · unfold MS.put
    rw [ht]
    exact R'
  · rcases h1 i b hb with z | z
    · exact .inl ⟨i, z⟩
    · rcases List.mem_cons.mp z with rfl | z
      · exact .inl ⟨j, hin b List.mem_cons_self⟩
      · exact .inr z
def fpSet (fp : Nat → List Addr) (i : Nat) (f : List Addr) : Nat → List Addr := fun k => if k = i then f else fp k
theorem fpSet_same {i : Nat} {f : List Addr} : fpSet fp i f i = f := if_pos rfl
theorem fpSet_ne {i k : Nat} {f : List Addr} (n : k ≠ i) : fpSet fp i f k = fp k := if_neg n
/-- name = value -/
def MS.bind (S : MS) (i : Nat) : RV → Option MS
  | .fz v => some (S.set i (.fz v))
  | .tmp ts => some (S.set i (.own ts))
  | .pl j p => if i = j then none else match S.at j p with
    | some (.own _) => some (S.set i (.al j p))
    | _ => none
  | .dr => some (S.set i .dr)
  | .scr ns => some (S.set i (.scr ns))
theorem SR.setSl (R : SR G F B fp S σ H) {i : Nat} {x : V} {s : Sl} {f : List Addr} (hi : i < S.sl.length) (hf : f.Nodup) (hd : ∀ a ∈ f, ¬ B a ∧ F.H0 a = none ∧ ∀ k, a ∉ fp k)
    (hs : SlR G F B H (σ.set i (some x)) (fpSet fp i f) i s) : SR G F B (fpSet fp i f) (S.set i s) (σ.set i (some x)) H := by
  have hσ : i < σ.length := by rw [R.len]; exact hi
  have fpi : fpSet fp i f i = f := fpSet_same
  have fpk : ∀ {k}, k ≠ i → fpSet fp i f k = fp k := fun n => fpSet_ne n
  refine ⟨by simp [MS.set, R.len], fun k t e => ?_, fun k e => ?_, fun k => ?_, fun k l a h1 h2 => ?_, fun k a h => ?_, R.ext, R.dr, R.nw, R.bm, R.bg, R.bt⟩
  · by_cases n : k = i
    · subst n
      have e2 : (S.set k s).sl[k]? = some s := by
        unfold MS.set
        exact set_self (s := S.sl[k]) (by simp [hi])
      rw [e2] at e
      cases e
      exact hs
    · have hk : k < S.sl.length := by
        have := (List.getElem?_eq_some_iff.mp e).1
        simpa [MS.set] using this
      have es : S.sl[k]? = some S.sl[k] := by simp [hk]
      have q := R.sl k _ es
      have e3 := get_map_set (f := dropAl i) n es e
      have σk : (σ.set i (some x))[k]? = σ[k]? := List.getElem?_set_ne (Ne.symm n)
      generalize S.sl[k] = s0 at q e3 es
      cases s0 with
      | al j p =>
        unfold dropAl at e3
        simp only at e3
        split at e3
        · subst e3
          show fpSet fp i f k = []
          rw [fpk n]
          exact q.1
        · rename_i nj
          subst e3
          obtain ⟨q0, y, r, q1, q2, q3⟩ := q
          refine ⟨by rw [fpk n]; exact q0, y, r, by rw [σk]; exact q1, by rw [List.getElem?_set_ne (Ne.symm nj)]; exact q2, ?_⟩
          rw [fpk nj]
          exact q3
      | un => subst e3; show fpSet fp i f k = []; rw [fpk n]; exact q
      | fz v => subst e3; obtain ⟨q0, y, q1, q2⟩ := q; exact ⟨by rw [fpk n]; exact q0, y, by rw [σk]; exact q1, q2⟩
      | own ts => subst e3; obtain ⟨y, q1, q2⟩ := q; exact ⟨y, by rw [σk]; exact q1, by rw [fpk n]; exact q2⟩
      | dr => subst e3; obtain ⟨q0, a, q1, q2⟩ := q; exact ⟨by rw [fpk n]; exact q0, a, q1, by rw [σk]; exact q2⟩
      | new c fs => subst e3; obtain ⟨q0, a, dx, ss, q1, q2, q3⟩ := q; exact ⟨by rw [fpk n]; exact q0, a, dx, ss, q1, by rw [σk]; exact q2, q3⟩
      | scr ns => subst e3; obtain ⟨q0, a, q1, q2⟩ := q; exact ⟨by rw [fpk n]; exact q0, a, by rw [σk]; exact q1, q2⟩
      | ex ee => subst e3; obtain ⟨q0, a, c, d, q1, q2, q3⟩ := q; exact ⟨by rw [fpk n]; exact q0, a, c, d, q1, by rw [σk]; exact q2, q3⟩
  · have n : k ≠ i := fun z => by
      have := List.getElem?_eq_none_iff.mp e
      have h2 : (S.set i s).sl.length = S.sl.length := by simp [MS.set]
      omega
    rw [fpk n]
    refine R.out k ?_
    have := List.getElem?_eq_none_iff.mp e
    have h2 : (S.set i s).sl.length = S.sl.length := by simp [MS.set]
    exact List.getElem?_eq_none_iff.mpr (by omega)
  · by_cases n : k = i
    · rw [n, fpi]; exact hf
    · rw [fpk n]; exact R.nd k
  · by_cases n : k = i
    · by_cases m : l = i
      · rw [n, m]
      · rw [n, fpi] at h1; rw [fpk m] at h2; exact absurd h2 ((hd a h1).2.2 l)
    · by_cases m : l = i
      · rw [m, fpi] at h2; rw [fpk n] at h1; exact absurd h1 ((hd a h2).2.2 k)
      · rw [fpk n] at h1; rw [fpk m] at h2; exact R.dj k l a h1 h2
  · by_cases n : k = i
    · rw [n, fpi] at h; exact ⟨(hd a h).1, (hd a h).2.1⟩
    · rw [fpk n] at h; exact R.nb k a h
theorem SR.assign (R : SR G F B fp S σ H) {i : Nat} {v : RV} {x : V} {f : List Addr} (hi : i < S.sl.length) (hv : RVR G F B fp S σ H v x f) (hb : S.bind i v = some S') : ∃ fp', SR G F B fp' S' (σ.set i (some x)) H := by
  have hσ : i < σ.length := by rw [R.len]; exact hi
  have σi : (σ.set i (some x))[i]? = some (some x) := List.getElem?_set_self hσ
  cases v with
  | fz v =>
    cases hb
    obtain ⟨h1, _⟩ := hv
    exact ⟨_, R.setSl (f := []) hi List.nodup_nil (fun a h => by cases h) ⟨fpSet_same, x, σi, h1⟩⟩
  | tmp ts =>
    cases hb
    obtain ⟨h1, h2, h3⟩ := hv
    refine ⟨_, R.setSl (f := f) hi h2 h3 ⟨x, σi, ?_⟩⟩
    rw [fpSet_same]
    exact h1
  | pl j p =>
    unfold MS.bind at hb
    simp only at hb
    split at hb
    · cases hb
    · rename_i n
      split at hb
      · cases hb
        rename_i ts hat
        obtain ⟨⟨r, e1, e2⟩, _⟩ := hv
        obtain ⟨_, _, _, _, _, _, _, _, e2⟩ := R.place hat e1 e2
        refine ⟨_, R.setSl (f := []) hi List.nodup_nil (fun a h => by cases h) ⟨fpSet_same, x, r, σi, by rw [List.getElem?_set_ne n]; exact e1, ?_⟩⟩
        rw [fpSet_ne (Ne.symm n)]
        exact e2
      · cases hb
  | dr =>
    cases hb
    obtain ⟨⟨a, e1, e2⟩, _⟩ := hv
    exact ⟨_, R.setSl (f := []) hi List.nodup_nil (fun a h => by cases h) ⟨fpSet_same, a, e1, by rw [σi, e2]⟩⟩
  | scr ns =>
    cases hb
    obtain ⟨⟨a, e1, e2⟩, _⟩ := hv
    exact ⟨_, R.setSl (f := []) hi List.nodup_nil (fun a h => by cases h) ⟨fpSet_same, a, by rw [σi, e1], e2⟩⟩
end
end TL
set_option Elab.async false
set_option linter.all false
set_option maxRecDepth 100000
set_option maxHeartbeats 2000000
namespace TL
open PySem PySem.Spec PyProof.Rows L2
section
variable {W : WX} {G : GT} {F : Fc} {Bs B B' : Addr → Prop} {fps fp fp' : Nat → List Addr} {S S' : MS} {σ : St} {Hs H H' : Hp} {α β γ δ : Type}
/-- the rest of a reading, its effect reckoned from the reading's start -/
theorem Post.shift {r : ER α} {k : α → MS → ER β} {Q : β → MS → (Addr → Prop) → (Nat → List Addr) → Hp → Prop} (h : Post W G F Bs fps σ Hs (r.bind k) Q) (E : Eff F Bs fps Hs B fp H) :
    Post W G F B fp σ H r fun v S' B' fp' H' => Eff F Bs fps Hs B' fp' H' ∧ Post W G F Bs fps σ Hs (k v S') Q := by
  cases r with
  | ok v S1 => exact fun B1 fp1 H1 E1 R1 => ⟨E.trans E1, h⟩
  | err e S1 => exact fun B1 fp1 H1 c d E1 R1 x => h B1 fp1 H1 c d (E.trans E1) R1 x
  | stuck => exact h
theorem Post.val {R : Rel α β} {v : α} {Q : β → Hp → Prop} {z : β} (h : Post W G F Bs fps σ Hs (.ok v S) fun v S' B' fp' H' => ∀ x, R F Hs B' fp' S' σ H' v x → Q x H')
    (E : Eff F Bs fps Hs B fp H) (Rr : SR G F B fp S σ H) (hz : R F Hs B fp S σ H v z) : Q z H := h B fp H E Rr z hz
/-- two readings in a row -/
theorem tG.two {R1 : Rel α δ} {ma : M RV} {mb : M RV} {g : RV → RV → MS → ER α} {Q : δ → Hp → Prop} {r : V → V → Hp → Prop}
    (h : tG W G R1 (fun S => (ma S).bind fun a S1 => (mb S1).bind fun b S2 => g a b S2) σ H Q)
    (k : ∀ F B fp a b S' B' fp' H' x y, Eff F B fp H B' fp' H' → SR G F B' fp' S' σ H' → rX G F H B' fp' S' σ H' a x → rX G F H B' fp' S' σ H' b y →
      Post W G F B fp σ H (g a b S') (fun v S'' B'' fp'' H'' => ∀ z, R1 F H B'' fp'' S'' σ H'' v z → Q z H'') → r x y H') :
    tG W G (rX G) ma σ H fun x H1 => tG W G (rX G) mb σ H1 fun y H2 => r x y H2 := by
  obtain ⟨F, B, fp, S, R, h⟩ := h
  refine ⟨F, B, fp, S, R, (Post.shift h Eff.refl).imp fun a S1 B1 fp1 H1 _ R1 ⟨E1, h1⟩ x rx => ⟨F, B1, fp1, S1, R1, (Post.shift h1 E1).imp fun b S2 B2 fp2 H2 E12 R2 ⟨E2, h2⟩ y ry => ?_⟩⟩
  exact k F B fp a b S2 B2 fp2 H2 x y E2 R2 (rX.keep R1 E12 rx) (rX.start E1 ry) h2
theorem tG.one {R1 : Rel α δ} {R2 : Rel γ β} {ma : M γ} {g : γ → MS → ER α} {Q : δ → Hp → Prop} {r : β → Hp → Prop}
    (h : tG W G R1 (fun S => (ma S).bind g) σ H Q)
    (k : ∀ F B fp a S' B' fp' H' x, Eff F B fp H B' fp' H' → SR G F B' fp' S' σ H' → R2 F H B' fp' S' σ H' a x →
      Post W G F B fp σ H (g a S') (fun v S'' B'' fp'' H'' => ∀ z, R1 F H B'' fp'' S'' σ H'' v z → Q z H'') → r x H') : tG W G R2 ma σ H r := by
  obtain ⟨F, B, fp, S, R, h⟩ := h
  exact ⟨F, B, fp, S, R, (Post.shift h Eff.refl).imp fun a S1 B1 fp1 H1 _ R1 ⟨E1, h1⟩ x rx => k F B fp a S1 B1 fp1 H1 x E1 R1 rx h1⟩
end

/-! ### a value, looked at -/
def allFz : List OT → Option (List FV)
  | [] => some []
  | .fz v :: ts => match allFz ts with
    | some vs => some (v :: vs)
    | none => none
  | .own _ :: _ => none
/-- the items of a list that is not changed by the look; all of them frozen -/
def items : RV → MS → Option (List FV)
  | .fz (.lst xs), _ => some xs
  | .tmp ts, _ => allFz ts
  | .pl j p, S => match S.at j p with
    | some (.own ts) => allFz ts
    | _ => none
  | .scr ns, _ => some (ns.map FV.int)
  | .dr, S => match S.dr with
    | some ns => some (ns.map FV.int)
    | none => none
  | _, _ => none
/-- how many items -/
def count : RV → MS → Option Nat
  | .fz (.lst xs), _ => some xs.length
  | .fz (.tup xs), _ => some xs.length
  | .tmp ts, _ => some ts.length
  | .pl j p, S => match S.at j p with
    | some (.own ts) => some ts.length
    | _ => none
  | .scr ns, _ => some ns.length
  | .dr, S => match S.dr with
    | some ns => some ns.length
    | none => none
  | _, _ => none
/-- as a frozen value, without freezing it -/
def view : RV → MS → Option FV
  | .fz v, _ => some v
  | .tmp ts, _ => some (.lst (frzs ts))
  | .pl j p, S => match S.at j p with
    | some t => some t.frz
    | _ => none
  | _, _ => none
/-- frozen for good -/
def toF : RV → MS → ER FV
  | .fz v, S => .ok v S
  | .tmp ts, S => .ok (.lst (frzs ts)) S
  | .pl j p, S => match S.at j p with
    | some u => .ok u.frz (S.frz j p u.frz)
    | none => .stuck
  | _, _ => .stuck
section
variable {G : GT} {F : Fc} {B B' : Addr → Prop} {fp fp' : Nat → List Addr} {S S' : MS} {σ : St} {Hs H H' : Hp}
theorem allFz_ok : ∀ {ts : List OT} {vs : List FV} {xs : List V} {f : List Addr}, allFz ts = some vs → OReps G B H ts xs f → FReps G B H vs xs
  | [], vs, xs, f, h, r => by
    unfold allFz at h; cases h
    unfold OReps at r
    unfold FReps; exact r.1
  | .fz v :: ts, vs, xs, f, h, r => by
    unfold allFz at h
    cases e : allFz ts with
    | none => rw [e] at h; cases h
    | some ws =>
      rw [e] at h
      cases h
      unfold OReps at r
      obtain ⟨x, s, g, k, rfl, r1, r2, _⟩ := r
      unfold ORep at r1
      unfold FReps
      exact ⟨x, s, rfl, r1.1, allFz_ok e r2⟩
  | .own _ :: ts, vs, xs, f, h, r => by unfold allFz at h; cases h
theorem FReps.ints : ∀ {ns : List Int}, FReps G B H (ns.map FV.int) (ns.map V.int)
  | [] => by show FReps G B H [] []; unfold FReps; rfl
  | n :: ns => by
    show FReps G B H (.int n :: ns.map FV.int) (.int n :: ns.map V.int)
    unfold FReps
    exact ⟨_, _, rfl, by unfold FRep; rfl, FReps.ints⟩
/-- a list in the hand: its address, its items -/
theorem items_ok {v : RV} {x : V} {vs : List FV} (R : SR G F B fp S σ H) (h : items v S = some vs) (r : rX G F Hs B fp S σ H v x) : ∃ a xs, x = .ref a ∧ SqL G.K H a xs ∧ FReps G B H vs xs := by
  obtain ⟨f, r, hf⟩ := r
  cases v with
  | fz v =>
    cases v with
    | lst us =>
      cases h
      obtain ⟨r, _⟩ := r
      unfold FRep at r
      obtain ⟨a, xs, e, _, e2, e3⟩ := r
      exact ⟨a, xs, e, SqL.of e2, e3⟩
    | _ => cases h
  | tmp ts =>
    obtain ⟨r1, _⟩ := r
    unfold ORep at r1
    obtain ⟨a, xs, g, e, e2, e3, _⟩ := r1
    exact ⟨a, xs, e, SqL.of e2, allFz_ok h e3⟩
  | pl j p =>
    obtain ⟨⟨r0, h1, h2⟩, _⟩ := r
    simp only [items] at h
    split at h
    · rename_i ts hat
      obtain ⟨_, g, _, _, _, ho, _⟩ := R.place hat h1 h2
      unfold ORep at ho
      obtain ⟨a, xs, g', e, e2, e3, _⟩ := ho
      exact ⟨a, xs, e, SqL.of e2, allFz_ok h e3⟩
    · cases h
  | dr =>
    obtain ⟨⟨a, e, e2⟩, _⟩ := r
    have d := R.dr
    unfold DrR at d
    rw [e] at d
    simp only [items] at h
    cases q : S.dr with
    | none => rw [q] at h; cases h
    | some ds =>
      rw [q] at h d
      cases h
      exact ⟨a, _, e2, SqL.of d.1, FReps.ints⟩
  | scr ns =>
    cases h
    obtain ⟨⟨a, e, e2⟩, _⟩ := r
    exact ⟨a, _, e, e2.sq, FReps.ints⟩
theorem count_ok {v : RV} {x : V} {n : Nat} (R : SR G F B fp S σ H) (h : count v S = some n) (r : rX G F Hs B fp S σ H v x) : ∃ a xs, x = .ref a ∧ (SqL G.K H a xs ∨ SqT G.K H a xs) ∧ xs.length = n := by
  obtain ⟨f, r, hf⟩ := r
  cases v with
  | fz v =>
    cases v with
    | lst us =>
      cases h
      obtain ⟨r, _⟩ := r
      unfold FRep at r
      obtain ⟨a, xs, e, _, e2, e3⟩ := r
      exact ⟨a, xs, e, .inl (SqL.of e2), e3.len.symm⟩
    | tup us =>
      cases h
      obtain ⟨r, _⟩ := r
      unfold FRep at r
      obtain ⟨a, xs, e, e2, e3⟩ := r
      exact ⟨a, xs, e, .inr (SqT.of e2), e3.len.symm⟩
    | _ => cases h
  | tmp ts =>
    cases h
    obtain ⟨r1, _⟩ := r
    unfold ORep at r1
    obtain ⟨a, xs, g, e, e2, e3, _⟩ := r1
    exact ⟨a, xs, e, .inl (SqL.of e2), e3.len.symm⟩
  | pl j p =>
    obtain ⟨⟨r0, h1, h2⟩, _⟩ := r
    simp only [count] at h
    split at h
    · rename_i ts hat
      cases h
      obtain ⟨_, g, _, _, _, ho, _⟩ := R.place hat h1 h2
      unfold ORep at ho
      obtain ⟨a, xs, g', e, e2, e3, _⟩ := ho
      exact ⟨a, xs, e, .inl (SqL.of e2), e3.len.symm⟩
    · cases h
  | dr =>
    obtain ⟨⟨a, e, e2⟩, _⟩ := r
    have d := R.dr
    unfold DrR at d
    rw [e] at d
    simp only [count] at h
    cases q : S.dr with
    | none => rw [q] at h; cases h
    | some ds =>
      rw [q] at h d
      cases h
      exact ⟨a, _, e2, .inl (SqL.of d.1), by simp⟩
  | scr ns =>
    cases h
    obtain ⟨⟨a, e, e2⟩, _⟩ := r
    exact ⟨a, _, e, .inl e2.sq, by simp⟩
/-- a tree as it is looked at: every address of it frozen for the look's sake -/
theorem view_ok {v : RV} {x : V} {u : FV} (R : SR G F B fp S σ H) (h : view v S = some u) (r : rX G F Hs B fp S σ H v x) : ∃ B', FRep G B' H u x := by
  obtain ⟨f, r, hf⟩ := r
  cases v with
  | fz v => cases h; exact ⟨B, r.1⟩
  | tmp ts => cases h; exact ⟨fun b => B b ∨ b ∈ f, ORep.frz _ x f r.1 (fun _ h => .inl h) fun _ h => .inr h⟩
  | pl j p =>
    obtain ⟨⟨r0, h1, h2⟩, _⟩ := r
    simp only [view] at h
    split at h
    · rename_i t hat
      cases h
      obtain ⟨_, g, _, _, _, ho, _⟩ := R.place hat h1 h2
      exact ⟨fun b => B b ∨ b ∈ g, ORep.frz _ x g ho (fun _ h => .inl h) fun _ h => .inr h⟩
    · cases h
  | _ => cases h
theorem Eff.frzB {f : List Addr} (E : Eff F B fp Hs B' fp' H) (hf : ∀ a ∈ f, Hs a = none) : Eff F B fp Hs (fun b => B' b ∨ b ∈ f) fp' H :=
  ⟨E.keep, E.there, E.fpg, fun b h => h.elim (E.bg b) fun z => .inr (.inr (hf b z)), fun b h => .inl (E.bm b h)⟩
/-- pending lists are frozen -/
theorem SR.frzB {f : List Addr} (R : SR G F B fp S σ H) (h1 : ∀ a ∈ f, F.H0 a = none ∧ ∀ i, a ∉ fp i) (h2 : ∀ a ∈ f, H a ≠ none) : SR G F (fun b => B b ∨ b ∈ f) fp S σ H := by
  have kF : ∀ b o, H b = some o → (mutO o → B b) → H b = some o := fun b o e _ => e
  refine ⟨R.len, fun i s e => ?_, R.out, R.nd, R.dj, fun i a h => ⟨fun z => z.elim (R.nb i a h).1 fun z => (h1 a z).2 i h, (R.nb i a h).2⟩, R.ext, R.dr, R.nw, fun b h => .inl (R.bm b h), fun b h => h.elim (R.bg b) fun z => .inr (h1 b z).1, fun b h => h.elim (R.bt b) (h2 b)⟩
  have q := R.sl i s e
  cases s with
  | un => exact q
  | fz v => obtain ⟨q0, x, q1, q2⟩ := q; exact ⟨q0, x, q1, FRep.keep kF (fun _ h => .inl h) v x q2⟩
  | own ts => obtain ⟨x, q1, q2⟩ := q; exact ⟨x, q1, ORep.keep kF (fun _ h => .inl h) _ x _ (fun _ _ => rfl) q2⟩
  | al j p => exact q
  | dr => exact q
  | new c fs => obtain ⟨q0, a, dx, ss, q1, q2, q3, q4, q5⟩ := q; exact ⟨q0, a, dx, ss, q1, q2, q3, q4, FReps.keep kF (fun _ h => .inl h) _ _ q5⟩
  | scr ns => exact q
  | ex ee => obtain ⟨q0, a, c, d, q1, q2, q3⟩ := q; exact ⟨q0, a, c, d, q1, q2, XRep.keep kF (fun _ h => .inl h) q3⟩
theorem toF_ok {W : WX} {Bs : Addr → Prop} {fps : Nat → List Addr} {v : RV} {x : V} {Q : FV → MS → (Addr → Prop) → (Nat → List Addr) → Hp → Prop} (E : Eff F Bs fps Hs B fp H) (R : SR G F B fp S σ H) (r : rX G F Hs B fp S σ H v x)
    (h : Post W G F Bs fps σ Hs (toF v S) Q) : ∃ u S' B' fp', toF v S = .ok u S' ∧ Eff F Bs fps Hs B' fp' H ∧ SR G F B' fp' S' σ H ∧ FRep G B' H u x ∧ Q u S' B' fp' H ∧ ∀ b, B b → B' b := by
  obtain ⟨f, r, hf⟩ := r
  cases v with
  | fz v => exact ⟨v, S, B, fp, rfl, E, R, r.1, h B fp H E R, fun _ z => z⟩
  | tmp ts =>
    obtain ⟨r1, r2, r3⟩ := r
    have lst := ORep.lst _ _ _ r1
    have R' := R.frzB (f := f) (fun a ha => ⟨(r3 a ha).2.1, (r3 a ha).2.2⟩) fun a ha => by obtain ⟨xs, w⟩ := lst a ha; rw [w]; simp
    exact ⟨_, S, _, fp, rfl, E.frzB hf, R', ORep.frz _ x f r1 (fun _ h => .inl h) (fun _ h => .inr h), h _ fp H (E.frzB hf) R', fun _ z => .inl z⟩
  | pl j p =>
    obtain ⟨⟨r0, h1, h2⟩, _⟩ := r
    have h' := h
    simp only [toF] at h'
    cases e : S.at j p with
    | none => simp only [e] at h'; exact h'.elim
    | some u =>
      simp only [e] at h'
      obtain ⟨B', fp', R', E', fr⟩ := R.frzAt e h1 h2
      refine ⟨u.frz, S.frz j p u.frz, B', fp', ?_, E.trans E', R', fr, h' B' fp' H (E.trans E') R', E'.bm⟩
      show (match S.at j p with | some u => ER.ok u.frz (S.frz j p u.frz) | none => .stuck) = _
      rw [e]
  | dr => exact h.elim
  | scr ns => exact h.elim
end
end TL
set_option Elab.async false
set_option linter.all false
set_option maxRecDepth 100000
set_option maxHeartbeats 2000000
namespace TL
open PySem PySem.Spec PyProof.Rows L2
theorem ER.assoc {α β γ : Type} (r : ER α) (f : α → MS → ER β) (g : β → MS → ER γ) : (r.bind f).bind g = r.bind fun a S => (f a S).bind g := by cases r <;> rfl
/-! ### names, constants -/
def mVar (i : Nat) : M RV := fun S => match S.sl[i]? with
  | some (.fz v) => .ok (.fz v) S
  | some (.own _) => .ok (.pl i []) S
  | some (.al j p) => match S.at j p with
    | some (.own _) => .ok (.pl j p) S
    | some (.fz v) => .ok (.fz v) S
    | none => .stuck
  | some .dr => .ok .dr S
  | some (.scr ns) => .ok (.scr ns) S
  | _ => .stuck
def mC (v : FV) : M RV := fun S => .ok (.fz v) S
section
variable {W : WX} {G : GT} {X : Cx} {e a b c : Expr} {m ma mb mc : M RV} {pos : Pos}
theorem bindS {W : WX} {G : GT} {F : Fc} {B : Addr → Prop} {fp : Nat → List Addr} {σ : St} {H : Hp} {α β : Type} {r : ER α} {k : α → MS → ER β} {Q : β → MS → (Addr → Prop) → (Nat → List Addr) → Hp → Prop}
    (h : Post W G F B fp σ H (r.bind k) Q) : Post W G F B fp σ H r fun v S' _ _ _ => Post W G F B fp σ H (k v S') Q := (Post.shift h Eff.refl).imp fun _ _ _ _ _ _ _ q => q.2
theorem jx_var {i : Nat} {x : Str} (hN : X.N[i]? = some x) (hv : Vis X.env.scope x) (hd : (x == ("__debug__" : Str)) = false := by decide) (hcd : (x == ("__classdict__" : Str)) = false := by decide) : JX W G X (.Name x pos) (mVar i) := by
  refine PE.imp (pe_var hN hv hd hcd) fun σ H Q ⟨F, B, fp, S, R, h⟩ => ?_
  cases e : S.sl[i]? with
  | none => simp only [mVar, e] at h; exact h.elim
  | some s =>
    have q := R.sl i s e
    cases s with
    | fz v =>
      simp only [mVar, e] at h
      obtain ⟨_, x, q1, q2⟩ := q
      exact ⟨x, q1, h.val Eff.refl R ⟨[], ⟨q2, rfl⟩, fun _ z => by cases z⟩⟩
    | own ts =>
      simp only [mVar, e] at h
      obtain ⟨x, q1, q2⟩ := q
      exact ⟨x, q1, h.val Eff.refl R ⟨[], ⟨⟨x, q1, rfl⟩, rfl⟩, fun _ z => by cases z⟩⟩
    | al j p =>
      obtain ⟨_, x, r, q1, q2, q3⟩ := q
      have q4 : AtP H (fun a => F.ad ≠ some a) r p x := AtP.mono (fun a xs pa ha => ⟨fun z => (R.notBad z).2.1 j pa, ha⟩) q3
      cases e2 : S.at j p with
      | none => simp only [mVar, e, e2] at h; exact h.elim
      | some t =>
        cases t with
        | own ts =>
          simp only [mVar, e, e2] at h
          exact ⟨x, q1, h.val Eff.refl R ⟨[], ⟨⟨r, q2, q4⟩, rfl⟩, fun _ z => by cases z⟩⟩
        | fz v =>
          simp only [mVar, e, e2] at h
          obtain ⟨_, g, _, _, _, ho, _⟩ := R.place e2 q2 q3
          unfold ORep at ho
          exact ⟨x, q1, h.val Eff.refl R ⟨[], ⟨ho.1, rfl⟩, fun _ z => by cases z⟩⟩
    | dr =>
      simp only [mVar, e] at h
      obtain ⟨_, a, q1, q2⟩ := q
      exact ⟨_, q2, h.val Eff.refl R ⟨[], ⟨⟨a, q1, rfl⟩, rfl⟩, fun _ z => by cases z⟩⟩
    | scr ns =>
      simp only [mVar, e] at h
      obtain ⟨_, a, q1, q2⟩ := q
      exact ⟨_, q1, h.val Eff.refl R ⟨[], ⟨⟨a, rfl, q2⟩, rfl⟩, fun _ z => by cases z⟩⟩
    | _ => simp only [mVar, e] at h; exact h.elim
theorem jx_c {v : FV} {x : V} (h : PE X e (tC x)) (hr : ∀ B H, FRep G B H v x) : JX W G X e (mC v) :=
  PE.imp h fun σ H Q ⟨F, B, fp, S, R, h⟩ => h.val (R := rX G) (v := .fz v) Eff.refl R ⟨[], ⟨hr _ _, rfl⟩, fun _ z => by cases z⟩
theorem jx_int {i : Int} {j : Nat} : JX W G X (.Constant (.int i) j pos) (mC (.int i)) := jx_c pe_int fun _ _ => by unfold FRep; rfl
theorem jx_bl {i : Bool} {j : Nat} : JX W G X (.Constant (.bool i) j pos) (mC (.bl i)) := jx_c pe_bl fun _ _ => by unfold FRep; rfl
theorem jx_non {j : Nat} : JX W G X (.Constant .none j pos) (mC .non) := jx_c pe_non fun _ _ => by unfold FRep; rfl
theorem jx_str {z : Str} {j : Nat} : JX W G X (.Constant (.str z) j pos) (mC (.str z)) := jx_c pe_str fun _ _ => by unfold FRep; rfl
/-- a module's int -/
theorem jx_gint {x : Str} {i : Int} {t : Tok} (hg : Gl X x) (hm : X.mg x = some (.int i t)) (hd : (x == ("__debug__" : Str)) = false := by decide) : JX W G X (.Name x pos) (mC (.int i)) :=
  jx_c (pe_glob (v := .int i) hg hm ⟨_, rfl⟩ hd) fun _ _ => by unfold FRep; rfl

/-! ### two operands -/
/-- the meaning g answers for the machine's rule r -/
def V2 (W : WX) (G : GT) (r : R2) (g : RV → RV → MS → ER RV) : Prop := ∀ (F : Fc) (Bs : Addr → Prop) (fps : Nat → List Addr) (Hs : Hp) (B : Addr → Prop) (fp : Nat → List Addr) (S : MS) (σ : St) (H : Hp) (a b : RV) (x y : V) (Q : VK),
  Eff F Bs fps Hs B fp H → SR G F B fp S σ H → rX G F Hs B fp S σ H a x → rX G F Hs B fp S σ H b y →
    Post W G F Bs fps σ Hs (g a b S) (fun v S' B' fp' H' => ∀ z, rX G F Hs B' fp' S' σ H' v z → Q z H') → r x y H Q
def m2 (g : RV → RV → MS → ER RV) (ma mb : M RV) : M RV := fun S => (ma S).bind fun a S1 => (mb S1).bind fun b S2 => g a b S2
theorem jx_bin {op : Operator} {r : R2} {g : RV → RV → MS → ER RV} (ho : OpR X (binaryOp op) r) (hg : V2 W G r g) (ha : JX W G X a ma) (hb : JX W G X b mb) : JX W G X (.BinOp a op b pos) (m2 g ma mb) :=
  PE.imp (pe_op ho ha hb) fun σ H Q h => tG.two h fun F B fp a b S' B' fp' H' x y E R ra rb p => hg F B fp H B' fp' S' σ H' a b x y Q E R ra rb p
theorem jx_cmp {op : CmpOp} {r : R2} {g : RV → RV → MS → ER RV} (ho : OpR X (compareOp op) r) (hg : V2 W G r g) (ha : JX W G X a ma) (hb : JX W G X b mb) (hm : behindInMarks op b = false) : JX W G X (.Compare a [op] [b] pos) (m2 g ma mb) :=
  PE.imp (pe_cmpR ho ha hb hm) fun σ H Q h => tG.two h fun F B fp a b S' B' fp' H' x y E R ra rb p => hg F B fp H B' fp' S' σ H' a b x y Q E R ra rb p
/-- a value that is a bool, as a test -/
def asB : RV → MS → ER Bool
  | .fz (.bl b), S => .ok b S
  | _, _ => .stuck
def mB (m : M RV) : M Bool := fun S => (m S).bind asB
theorem asB_ok {F : Fc} {Bs B : Addr → Prop} {fps fp : Nat → List Addr} {S : MS} {σ : St} {Hs H : Hp} {v : RV} {x : V} {Q : Bool → Hp → Prop} (E : Eff F Bs fps Hs B fp H) (R : SR G F B fp S σ H) (r : rX G F Hs B fp S σ H v x)
    (h : Post W G F Bs fps σ Hs (asB v S) fun v S' B' fp' H' => ∀ z, rB F Hs B' fp' S' σ H' v z → Q z H') : ∃ k, x = .bl k ∧ Q k H := by
  cases v with
  | fz v =>
    cases v with
    | bl k =>
      obtain ⟨f, ⟨r, _⟩, _⟩ := r
      unfold FRep at r
      exact ⟨k, r, h.val E R rfl⟩
    | _ => exact h.elim
  | _ => exact h.elim
theorem jt_val (h : JX W G X e m) (he : ∀ whole, isTrue e X.env whole = (do let v ← whole; standAt e.pos; holding [v] (truthy v)) := by intro _; rfl) : JT W G X e (mB m) :=
  PT.imp (pt_val h he) fun σ H Q h => tG.one h fun F B fp a S' B' fp' H' x E R ra p => asB_ok E R ra p
theorem jt_cmp {op : CmpOp} {r : R2} {g : RV → RV → MS → ER RV} (ho : OpR X (compareOp op) r) (hg : V2 W G r g) (ha : JX W G X a ma) (hb : JX W G X b mb) (hm : behindInMarks op b = false) : JT W G X (.Compare a [op] [b] pos) (mB (m2 g ma mb)) := by
  refine PT.imp (pt_cmpR ho ha hb hm) fun σ H Q h => ?_
  have h' : tG W G rB (fun S => (ma S).bind fun a S1 => (mb S1).bind fun b S2 => (g a b S2).bind asB) σ H Q := by
    have e : mB (m2 g ma mb) = fun S => (ma S).bind fun a S1 => (mb S1).bind fun b S2 => (g a b S2).bind asB := by
      funext S
      unfold mB m2
      rw [ER.assoc]
      exact congrArg (ER.bind (ma S)) (funext fun a => funext fun S1 => ER.assoc _ _ _)
    rw [e] at h
    exact h
  refine tG.two h' fun F B fp a b S' B' fp' H' x y E R ra rb p => hg F B fp H B' fp' S' σ H' a b x y _ E R ra rb ?_
  exact (bindS p).imp fun v S2 B2 fp2 H2 E2 R2 q z rz => asB_ok E2 R2 rz q

/-- the last part of a reading, from where it stands -/
theorem Post.last {W : WX} {G : GT} {F : Fc} {Bs B : Addr → Prop} {fps fp : Nat → List Addr} {σ : St} {Hs H : Hp} {S : MS} {m : M RV} {Q : VK} (h : Post W G F Bs fps σ Hs (m S) fun v S' B' fp' H' => ∀ x, rX G F Hs B' fp' S' σ H' v x → Q x H') (E : Eff F Bs fps Hs B fp H)
    (R : SR G F B fp S σ H) : tG W G (rX G) m σ H Q := by
  have h2 : Post W G F Bs fps σ Hs ((m S).bind fun v S' => .ok v S') fun v S' B' fp' H' => ∀ x, rX G F Hs B' fp' S' σ H' v x → Q x H' := by
    cases e : m S <;> (rw [e] at h; exact h)
  exact ⟨F, B, fp, S, R, (Post.shift h2 E).imp fun v S2 B2 fp2 H2 _ R2 ⟨E2, h3⟩ y ry => h3 B2 fp2 H2 E2 R2 y (rX.start E ry)⟩
theorem Post.lastB {W : WX} {G : GT} {F : Fc} {Bs B : Addr → Prop} {fps fp : Nat → List Addr} {σ : St} {Hs H : Hp} {S : MS} {m : M Bool} {Q : Bool → Hp → Prop} (h : Post W G F Bs fps σ Hs (m S) fun v S' B' fp' H' => ∀ x, rB F Hs B' fp' S' σ H' v x → Q x H') (E : Eff F Bs fps Hs B fp H)
    (R : SR G F B fp S σ H) : tG W G rB m σ H Q := by
  have h2 : Post W G F Bs fps σ Hs ((m S).bind fun v S' => .ok v S') fun v S' B' fp' H' => ∀ x, rB F Hs B' fp' S' σ H' v x → Q x H' := by
    cases e : m S <;> (rw [e] at h; exact h)
  exact ⟨F, B, fp, S, R, (Post.shift h2 E).imp fun v S2 B2 fp2 H2 _ R2 ⟨E2, h3⟩ y ry => h3 B2 fp2 H2 E2 R2 y ry⟩
/-! ### tests -/
def mNot (m : M Bool) : M Bool := fun S => (m S).bind fun b S' => .ok (!b) S'
def mAnd (m n : M Bool) : M Bool := fun S => (m S).bind fun b S' => if b = true then n S' else .ok false S'
def mOr (m n : M Bool) : M Bool := fun S => (m S).bind fun b S' => if b = true then .ok true S' else n S'
variable {ta tb tc : M Bool} {rest : List Expr}
theorem jt_not (ha : JT W G X a ta) : JT W G X (.UnaryOp .Not a pos) (mNot ta) :=
  PT.imp (pt_not ha) fun σ H Q h => tG.one (R2 := rB) h fun F B fp k S' B' fp' H' x E R ra p => by
    cases ra
    exact p.val E R rfl
theorem jw_and1 (ha : JT W G X a ta) : JW W G X (.BoolOp .And [a] pos) ta := pw_and1 ha
theorem jw_or1 (ha : JT W G X a ta) : JW W G X (.BoolOp .Or [a] pos) ta := pw_or1 ha
theorem jw_and (ha : JT W G X a ta) (hb : JW W G X (.BoolOp .And (b :: rest) pos) tb) : JW W G X (.BoolOp .And (a :: b :: rest) pos) (mAnd ta tb) := by
  refine PW.imp (pw_and ha hb) fun σ H Q ⟨F, B, fp, S, R, h⟩ => ⟨F, B, fp, S, R, (Post.shift h Eff.refl).imp fun k S1 B1 fp1 H1 _ R1 ⟨E1, h1⟩ x rx => ?_⟩
  cases rx
  cases k with
  | true =>
    rw [if_pos rfl] at h1 ⊢
    exact Post.lastB h1 E1 R1
  | false =>
    rw [if_neg Bool.false_ne_true] at h1 ⊢
    exact h1 B1 fp1 H1 E1 R1 _ rfl
theorem jw_or (ha : JT W G X a ta) (hb : JW W G X (.BoolOp .Or (b :: rest) pos) tb) : JW W G X (.BoolOp .Or (a :: b :: rest) pos) (mOr ta tb) := by
  refine PW.imp (pw_or ha hb) fun σ H Q ⟨F, B, fp, S, R, h⟩ => ⟨F, B, fp, S, R, (Post.shift h Eff.refl).imp fun k S1 B1 fp1 H1 _ R1 ⟨E1, h1⟩ x rx => ?_⟩
  cases rx
  cases k with
  | false =>
    rw [if_neg Bool.false_ne_true] at h1 ⊢
    exact Post.lastB h1 E1 R1
  | true =>
    rw [if_pos rfl] at h1 ⊢
    exact h1 B1 fp1 H1 E1 R1 _ rfl
/-- as values: all but the last are bools -/
def mAndV (m n : M RV) : M RV := fun S => (m S).bind fun v S1 => (asB v S1).bind fun b S' => if b = true then n S' else .ok (.fz (.bl false)) S'
def mOrV (m n : M RV) : M RV := fun S => (m S).bind fun v S1 => (asB v S1).bind fun b S' => if b = true then .ok (.fz (.bl true)) S' else n S'
def mNotV (m : M RV) : M RV := fun S => (m S).bind fun v S1 => (asB v S1).bind fun b S' => .ok (.fz (.bl !b)) S'
/-- asB, then more -/
theorem asB_then {F : Fc} {Bs B : Addr → Prop} {fps fp : Nat → List Addr} {S : MS} {σ : St} {Hs H : Hp} {v : RV} {x : V} {α : Type} {k : Bool → MS → ER α} {Q : α → MS → (Addr → Prop) → (Nat → List Addr) → Hp → Prop} (r : rX G F Hs B fp S σ H v x)
    (h : Post W G F Bs fps σ Hs ((asB v S).bind k) Q) : ∃ b, x = .bl b ∧ Post W G F Bs fps σ Hs (k b S) Q := by
  cases v with
  | fz v =>
    cases v with
    | bl b =>
      obtain ⟨f, ⟨r, _⟩, _⟩ := r
      unfold FRep at r
      exact ⟨b, r, h⟩
    | _ => exact h.elim
  | _ => exact h.elim
theorem jx_and (ha : JX W G X a ma) (hb : JX W G X (.BoolOp .And (b :: rest) pos) mb) : JX W G X (.BoolOp .And (a :: b :: rest) pos) (mAndV ma mb) :=
  PE.imp (pe_and ha hb) fun σ H Q h => tG.one h fun F B fp v S' B' fp' H' x E R ra p => by
    obtain ⟨k, e, p⟩ := asB_then ra p
    refine ⟨k, e, ?_⟩
    cases k with
    | true => rw [if_pos rfl] at p ⊢; exact Post.last p E R
    | false => rw [if_neg Bool.false_ne_true] at p ⊢; exact p.val (R := rX G) E R ⟨[], ⟨by unfold FRep; rfl, rfl⟩, fun _ z => by cases z⟩
theorem jx_or (ha : JX W G X a ma) (hb : JX W G X (.BoolOp .Or (b :: rest) pos) mb) : JX W G X (.BoolOp .Or (a :: b :: rest) pos) (mOrV ma mb) :=
  PE.imp (pe_or ha hb) fun σ H Q h => tG.one h fun F B fp v S' B' fp' H' x E R ra p => by
    obtain ⟨k, e, p⟩ := asB_then ra p
    refine ⟨k, e, ?_⟩
    cases k with
    | false => rw [if_neg Bool.false_ne_true] at p ⊢; exact Post.last p E R
    | true => rw [if_pos rfl] at p ⊢; exact p.val (R := rX G) E R ⟨[], ⟨by unfold FRep; rfl, rfl⟩, fun _ z => by cases z⟩
theorem jx_one {op} (ha : JX W G X a ma) : JX W G X (.BoolOp op [a] pos) ma := pe_one ha
theorem jx_not (ha : JX W G X a ma) : JX W G X (.UnaryOp .Not a pos) (mNotV ma) :=
  PE.imp (pe_not ha) fun σ H Q h => tG.one h fun F B fp v S' B' fp' H' x E R ra p => by
    obtain ⟨k, e, p⟩ := asB_then ra p
    exact ⟨k, e, p.val (R := rX G) E R ⟨[], ⟨by unfold FRep; rfl, rfl⟩, fun _ z => by cases z⟩⟩
def mIf (t : M Bool) (m n : M RV) : M RV := fun S => (t S).bind fun b S' => if b = true then m S' else n S'
theorem jx_if (hc : JT W G X c tc) (ha : JX W G X a ma) (hb : JX W G X b mb) : JX W G X (.IfExp c a b pos) (mIf tc ma mb) :=
  PE.imp (pe_ifExp hc ha hb) fun σ H Q h => tG.one (R2 := rB) h fun F B fp v S' B' fp' H' x E R ra p => by
    cases ra
    cases v with
    | true => rw [if_pos rfl] at p ⊢; exact Post.last p E R
    | false => rw [if_neg Bool.false_ne_true] at p ⊢; exact Post.last p E R

/-! ### arguments, frozen -/
def aNil : M (List FV) := fun S => .ok [] S
def aCons (m : M RV) (n : M (List FV)) : M (List FV) := fun S => (m S).bind fun v S1 => (toF v S1).bind fun u S2 => (n S2).bind fun us S3 => .ok (u :: us) S3
theorem ja_nil : JA W G X [] aNil := PA.imp pa_nil fun σ H Q ⟨F, B, fp, S, R, h⟩ => h.val (R := rA G) Eff.refl R (by unfold FReps; rfl)
theorem ja_cons {es : List Expr} {ms : M (List FV)} (ha : JX W G X e m) (hr : JA W G X es ms) (hs : starEach (e :: es) X.env = (false, eval e X.env) :: starEach es X.env := by rfl) : JA W G X (e :: es) (aCons m ms) :=
  PA.imp (pa_cons ha hr hs) fun σ H Q h => tG.one h fun F B fp v S' B' fp' H' x E R ra p => by
    obtain ⟨u, S2, B2, fp2, e2, E2, R2, fr, q, _⟩ := toF_ok E R ra (bindS p)
    refine ⟨F, B2, fp2, S2, R2, (Post.shift q E2).imp fun us S3 B3 fp3 H3 E23 R3 ⟨E3, q3⟩ xs rxs => ?_⟩
    refine q3 B3 fp3 H3 E3 R3 (x :: xs) ?_
    show FReps G B3 H3 (u :: us) (x :: xs)
    unfold FReps
    exact ⟨x, xs, rfl, R2.frep E23 fr, rxs⟩
end
end TL
set_option Elab.async false
set_option linter.all false
set_option maxRecDepth 100000
set_option maxHeartbeats 2000000
namespace TL
open PySem PySem.Spec PyProof.Rows L2
/-! ### two ints -/
/-- two ints, under the condition C -/
def gI (C : Int → Int → Bool) (f : Int → Int → FV) : RV → RV → MS → ER RV
  | .fz (.int i), .fz (.int j), S => if C i j = true then .ok (.fz (f i j)) S else .stuck
  | _, _, _ => .stuck
section
variable {W : WX} {G : GT} {X : Cx}
theorem fz_int {F : Fc} {Hs : Hp} {B : Addr → Prop} {fp : Nat → List Addr} {S : MS} {σ : St} {H : Hp} {i : Int} {x : V} (h : rX G F Hs B fp S σ H (.fz (.int i)) x) : x = .int i := by
  obtain ⟨f, ⟨r, _⟩, _⟩ := h
  unfold FRep at r
  exact r
theorem rX_fz {F : Fc} {Hs : Hp} {B : Addr → Prop} {fp : Nat → List Addr} {S : MS} {σ : St} {H : Hp} {v : FV} {x : V} (h : FRep G B H v x) : rX G F Hs B fp S σ H (.fz v) x := ⟨[], ⟨h, rfl⟩, fun _ z => by cases z⟩
theorem of_fz {F : Fc} {Hs : Hp} {B : Addr → Prop} {fp : Nat → List Addr} {S : MS} {σ : St} {H : Hp} {v : FV} {x : V} (h : rX G F Hs B fp S σ H (.fz v) x) : FRep G B H v x := by
  obtain ⟨f, ⟨r, _⟩, _⟩ := h
  exact r
theorem v2_I {C : Int → Int → Bool} {f : Int → Int → FV} {P : Int → Int → Prop} {g : Int → Int → V} (hP : ∀ i j, C i j = true → P i j) (hf : ∀ B H i j, FRep G B H (f i j) (g i j)) : V2 W G (rI P g) (gI C f) := by
  intro F Bs fps Hs B fp S σ H a b x y Q E R ra rb h
  unfold gI at h
  split at h
  · split at h
    · rename_i i j hc
      exact ⟨i, j, fz_int ra, fz_int rb, hP i j hc, h.val (R := rX G) E R (rX_fz (hf _ _ i j))⟩
    · exact h.elim
  · exact h.elim
theorem v2_I0 {f : Int → Int → FV} {g : Int → Int → V} (hf : ∀ B H i j, FRep G B H (f i j) (g i j)) : V2 W G (rI0 g) (gI (fun _ _ => true) f) := by
  intro F Bs fps Hs B fp S σ H a b x y Q E R ra rb h
  unfold gI at h
  split at h
  · rename_i i j
    exact ⟨i, j, fz_int ra, fz_int rb, h.val (R := rX G) E R (rX_fz (hf _ _ i j))⟩
  · exact h.elim
abbrev gSub := gI (fun _ _ => true) fun i j => .int (i - j)
abbrev gMod := gI (fun _ j => decide (0 < j)) fun i j => .int (i % j)
abbrev gDiv := gI (fun _ j => decide (0 < j) && decide (j < 1073741824)) fun i j => .int (i / j)
abbrev gPow := gI (fun i j => decide (0 ≤ j) && (decide (j ≤ 1000000) && decide (i.natAbs < 2 ^ 64))) fun i j => .int (i ^ j.toNat)
abbrev gLt := gI (fun _ _ => true) fun i j => .bl (decide (i < j))
abbrev gLe := gI (fun _ _ => true) fun i j => .bl (decide (i ≤ j))
abbrev gGt := gI (fun _ _ => true) fun i j => .bl (decide (j < i))
abbrev gGe := gI (fun _ _ => true) fun i j => .bl (decide (j ≤ i))
theorem fr_int {B : Addr → Prop} {H : Hp} {i : Int} : FRep G B H (.int i) (.int i) := by unfold FRep; rfl
theorem fr_bl {B : Addr → Prop} {H : Hp} {i : Bool} : FRep G B H (.bl i) (.bl i) := by unfold FRep; rfl
theorem fr_non {B : Addr → Prop} {H : Hp} : FRep G B H .non .non := by unfold FRep; rfl
theorem fr_str {B : Addr → Prop} {H : Hp} {z : Str} : FRep G B H (.str z) (.str z) := by unfold FRep; rfl
theorem v2_sub : V2 W G (rI0 fun i j => .int (i - j)) gSub := v2_I0 fun _ _ _ _ => fr_int
theorem v2_mod : V2 W G (rI (fun _ j => 0 < j) fun i j => .int (i % j)) gMod := v2_I (fun _ _ h => of_decide_eq_true h) fun _ _ _ _ => fr_int
theorem v2_div : V2 W G (rI CDiv fun i j => .int (i / j)) gDiv := v2_I (fun _ _ h => by simp only [Bool.and_eq_true, decide_eq_true_eq] at h; exact h) fun _ _ _ _ => fr_int
theorem v2_pow : V2 W G (rI CPow fun i j => .int (i ^ j.toNat)) gPow := v2_I (fun _ _ h => by simp only [Bool.and_eq_true, decide_eq_true_eq] at h; exact h) fun _ _ _ _ => fr_int
theorem v2_lt : V2 W G (rI0 fun i j => .bl (decide (i < j))) gLt := v2_I0 fun _ _ _ _ => fr_bl
theorem v2_le : V2 W G (rI0 fun i j => .bl (decide (i ≤ j))) gLe := v2_I0 fun _ _ _ _ => fr_bl
theorem v2_gt : V2 W G (rI0 fun i j => .bl (decide (j < i))) gGt := v2_I0 fun _ _ _ _ => fr_bl
theorem v2_ge : V2 W G (rI0 fun i j => .bl (decide (j ≤ i))) gGe := v2_I0 fun _ _ _ _ => fr_bl
theorem jx_neg {e : Expr} {m : M RV} {pos : Pos} (h : JX W G X e m) : JX W G X (.UnaryOp .USub e pos) (fun S => (m S).bind fun v S' => gI (fun _ _ => true) (fun i _ => .int (-i)) v (.fz (.int 0)) S') :=
  PE.imp (pe_un un_neg h) fun σ H Q h => tG.one h fun F B fp v S' B' fp' H' x E R ra p => by
    unfold gI at p
    split at p
    · rename_i i j e
      exact ⟨i, fz_int ra, p.val (R := rX G) E R (rX_fz fr_int)⟩
    · exact p.elim

/-! ### new objects -/
section
variable {F : Fc} {Bs B : Addr → Prop} {fps fp : Nat → List Addr} {S : MS} {σ : St} {Hs H : Hp} {Q : VK}
/-- a new list in the hand -/
theorem Post.newL {ts : List OT} {xs : List V} {f : List Addr} {p : Addr} (h : Post W G F Bs fps σ Hs (.ok (.tmp ts) S) fun v S' B' fp' H' => ∀ z, rX G F Hs B' fp' S' σ H' v z → Q z H') (E : Eff F Bs fps Hs B fp H) (R : SR G F B fp S σ H)
    (hr : OReps G B H ts xs f) (hn : f.Nodup) (hf : ∀ a ∈ f, ¬ B a ∧ F.H0 a = none ∧ (∀ i, a ∉ fp i) ∧ Hs a = none) (n : H p = none) : Q (.ref p) (upd H p (.lst xs)) := by
  have lst := OReps.lst _ _ _ hr
  have hp : p ∉ f := fun z => by obtain ⟨ys, w⟩ := lst p z; rw [n] at w; cases w
  have hs : Hs p = none := Classical.byContradiction fun z => E.there p z n
  refine h B fp (upd H p (.lst xs)) (E.trans (Eff.new n)) (R.new n) (.ref p) ⟨p :: f, ⟨?_, List.nodup_cons.mpr ⟨hp, hn⟩, fun a ha => ?_⟩, fun a ha => ?_⟩
  · unfold ORep
    exact ⟨p, xs, f, rfl, upd_same, OReps.keep (fun b o e _ => same_upd n b o e) (fun _ h => h) ts xs f (fun a ha => upd_ne fun z => hp (z ▸ ha)) hr, rfl⟩
  · rcases List.mem_cons.mp ha with rfl | ha
    · exact ⟨fun z => R.bt a z n, R.h0 n, fun i z => by obtain ⟨ys, w⟩ := R.fpl z; rw [n] at w; cases w⟩
    · exact ⟨(hf a ha).1, (hf a ha).2.1, (hf a ha).2.2.1⟩
  · rcases List.mem_cons.mp ha with rfl | ha
    · exact hs
    · exact (hf a ha).2.2.2
theorem Post.newLF {vs : List FV} {xs : List V} {p : Addr} (h : Post W G F Bs fps σ Hs (.ok (.tmp (vs.map OT.fz)) S) fun v S' B' fp' H' => ∀ z, rX G F Hs B' fp' S' σ H' v z → Q z H') (E : Eff F Bs fps Hs B fp H) (R : SR G F B fp S σ H)
    (hr : FReps G B H vs xs) (n : H p = none) : Q (.ref p) (upd H p (.lst xs)) :=
  h.newL E R hr.ofz List.nodup_nil (fun a z => by cases z) n
theorem Post.newT {vs : List FV} {xs : List V} {p : Addr} (h : Post W G F Bs fps σ Hs (.ok (.fz (.tup vs)) S) fun v S' B' fp' H' => ∀ z, rX G F Hs B' fp' S' σ H' v z → Q z H') (E : Eff F Bs fps Hs B fp H) (R : SR G F B fp S σ H)
    (hr : FReps G B H vs xs) (n : H p = none) : Q (.ref p) (upd H p (.tup xs)) := by
  refine h B fp (upd H p (.tup xs)) (E.trans (Eff.new n)) (R.new n) (.ref p) (rX_fz ?_)
  unfold FRep
  exact ⟨p, xs, rfl, upd_same, FReps.keep (fun b o e _ => same_upd n b o e) (fun _ h => h) _ _ hr⟩
end
def lineOk (n : Nat) : Bool := Nat.ble n 16777216
theorem lineOk_of {n : Nat} (h : lineOk n = true) : n ≤ sizeLine := by rw [sizeLine_eq]; exact Nat.le_of_ble_eq_true h
def noScr : RV → Bool
  | .scr _ => false
  | .dr => false
  | _ => true
/-- lists that may be changed by the text alone stand raw in the heap -/
theorem raw_of {F : Fc} {B : Addr → Prop} {fp : Nat → List Addr} {S : MS} {σ : St} {Hs H : Hp} {v : RV} {x : V} {vs : List FV} (R : SR G F B fp S σ H) (ns : noScr v = true) (h : items v S = some vs) (r : rX G F Hs B fp S σ H v x) : ∃ a xs, x = .ref a ∧ H a = some (.lst xs) ∧ FReps G B H vs xs := by
  obtain ⟨f, r, hf⟩ := r
  cases v with
  | fz v =>
    cases v with
    | lst us =>
      cases h
      obtain ⟨r, _⟩ := r
      unfold FRep at r
      obtain ⟨a, xs, e, _, e2, e3⟩ := r
      exact ⟨a, xs, e, e2, e3⟩
    | _ => cases h
  | tmp ts =>
    obtain ⟨r1, _⟩ := r
    unfold ORep at r1
    obtain ⟨a, xs, g, e, e2, e3, _⟩ := r1
    exact ⟨a, xs, e, e2, allFz_ok h e3⟩
  | pl j p =>
    obtain ⟨⟨r0, h1, h2⟩, _⟩ := r
    simp only [items] at h
    split at h
    · rename_i ts hat
      obtain ⟨_, g, _, _, _, ho, _⟩ := R.place hat h1 h2
      unfold ORep at ho
      obtain ⟨a, xs, g', e, e2, e3, _⟩ := ho
      exact ⟨a, xs, e, e2, allFz_ok h e3⟩
    · cases h
  | dr => cases ns
  | scr ns' => cases ns
def gCat (a b : RV) (S : MS) : ER RV := match items a S, items b S with
    | some xs, some ys => if lineOk (xs.length + ys.length) && (noScr a && noScr b) then .ok (.tmp ((xs ++ ys).map OT.fz)) S else .stuck
    | _, _ => .stuck
theorem v2_cat : V2 W G rCat gCat := by
  intro F Bs fps Hs B fp S σ H a b x y Q E R ra rb h
  unfold gCat at h
  split at h
  · rename_i xs ys e1 e2
    split at h
    · rename_i c
      simp only [Bool.and_eq_true] at c
      obtain ⟨p, us, rfl, h1, r1⟩ := raw_of R c.2.1 e1 ra
      obtain ⟨q, ws, rfl, h2, r2⟩ := raw_of R c.2.2 e2 rb
      exact ⟨p, q, us, ws, rfl, rfl, h1, h2, by rw [← r1.len, ← r2.len]; exact lineOk_of c.1, fun l n => h.newLF E R (r1.app r2) n⟩
    · exact h.elim
  · exact h.elim
/-- a + b of any kind that is served: by what they are -/
def gPlus (a b : RV) (S : MS) : ER RV := match a, b with
  | .fz (.int i), .fz (.int j) => .ok (.fz (.int (i + j))) S
  | .fz (.tup xs), .fz (.tup ys) => if !xs.isEmpty && lineOk (xs.length + ys.length) then .ok (.fz (.tup (xs ++ ys))) S else .stuck
  | .fz (.str i), .fz (.str j) => if lineOk (i.length + j.length) then .ok (.fz (.str (i ++ j))) S else .stuck
  | a, b => gCat a b S
abbrev rPlus (K : PySem.W.Frag) : R2 := fun x y H Q => (rI0 (fun i j => .int (i + j)) x y H Q ∨ rCatT K x y H Q) ∨ ((∃ i j, x = .str i ∧ y = .str j ∧ i.length + j.length ≤ sizeLine ∧ Q (.str (i ++ j)) H) ∨ rCat x y H Q)
theorem op_plus : OpR X (binaryOp .Add) (rPlus X.K) := (op_add.or op_catT).or (op_add_str.or op_cat)
theorem v2_plus : V2 W G (rPlus G.K) gPlus := by
  intro F Bs fps Hs B fp S σ H a b x y Q E R ra rb h
  unfold gPlus at h
  split at h
  · rename_i i j
    exact .inl (.inl ⟨i, j, fz_int ra, fz_int rb, h.val (R := rX G) E R (rX_fz fr_int)⟩)
  · rename_i xs ys
    split at h
    · rename_i c
      simp only [Bool.and_eq_true, Bool.not_eq_true'] at c
      have r1 := of_fz ra
      have r2 := of_fz rb
      unfold FRep at r1 r2
      obtain ⟨p, us, rfl, h1, r1⟩ := r1
      obtain ⟨q, ws, rfl, h2, r2⟩ := r2
      refine .inl (.inr ⟨p, q, us, ws, rfl, rfl, SqT.of h1, SqT.of h2, fun z => ?_, by rw [← r1.len, ← r2.len]; exact lineOk_of c.2, fun z => ?_, fun z l n => h.newT E R (r1.app r2) n⟩)
      · subst z
        have := r1.len
        cases xs with
        | nil => cases c.1
        | cons _ _ => cases this
      · subst z
        have := r2.len
        cases ys with
        | nil =>
          rw [List.append_nil] at h
          refine h.val (R := rX G) E R (rX_fz ?_)
          unfold FRep
          exact ⟨p, us, rfl, h1, r1⟩
        | cons _ _ => cases this
    · exact h.elim
  · rename_i i j
    split at h
    · rename_i c
      have r1 := of_fz ra
      have r2 := of_fz rb
      unfold FRep at r1 r2
      exact .inr (.inl ⟨i, j, r1, r2, lineOk_of c, h.val (R := rX G) E R (rX_fz fr_str)⟩)
    · exact h.elim
  · exact .inr (.inr (v2_cat F Bs fps Hs B fp S σ H _ _ x y Q E R ra rb h))
theorem flat_rep {B : Addr → Prop} {H : Hp} : ∀ {k : Nat} {vs : List FV} {xs : List V}, FReps G B H vs xs → FReps G B H (List.replicate k vs).flatten (List.replicate k xs).flatten
  | 0, _, _, _ => by show FReps G B H [] []; unfold FReps; rfl
  | k + 1, _, _, h => by
    rw [List.replicate_succ, List.replicate_succ, List.flatten_cons, List.flatten_cons]
    exact h.app (flat_rep h)
theorem ble64 {i : Int} (h : Nat.ble i.natAbs 18446744073709551615 = true) : -(2 ^ 64) < i ∧ i < 2 ^ 64 := by
  have := Nat.le_of_ble_eq_true h
  omega
theorem ble63 {i : Int} (h : Nat.ble i.natAbs 9223372036854775807 = true) : -(2 ^ 63) ≤ i ∧ i < 2 ^ 63 := by
  have := Nat.le_of_ble_eq_true h
  omega
/-- a * b: ints (one of them small), a list many times -/
def gTimes (a b : RV) (S : MS) : ER RV := match a, b with
  | .fz (.int i), .fz (.int j) => if Nat.ble i.natAbs 18446744073709551615 || Nat.ble j.natAbs 18446744073709551615 then .ok (.fz (.int (i * j))) S else .stuck
  | a, .fz (.int k) => match items a S with
    | some xs => if Nat.ble k.natAbs 9223372036854775807 && (lineOk (xs.length * k.toNat) && noScr a) then .ok (.tmp ((List.replicate k.toNat xs).flatten.map OT.fz)) S else .stuck
    | none => .stuck
  | _, _ => .stuck
abbrev rTimes : R2 := fun x y H Q => rI CMul (fun i j => .int (i * j)) x y H Q ∨ rRep x y H Q
theorem op_times : OpR X (binaryOp .Mult) rTimes := op_mul.or op_rep
theorem v2_times : V2 W G rTimes gTimes := by
  intro F Bs fps Hs B fp S σ H a b x y Q E R ra rb h
  unfold gTimes at h
  split at h
  · rename_i i j
    split at h
    · rename_i c
      rw [Bool.or_eq_true] at c
      exact .inl ⟨i, j, fz_int ra, fz_int rb, c.imp ble64 ble64, h.val (R := rX G) E R (rX_fz fr_int)⟩
    · exact h.elim
  · rename_i k _
    split at h
    · rename_i xs e1
      split at h
      · rename_i c
        rw [Bool.and_eq_true, Bool.and_eq_true] at c
        obtain ⟨p, us, rfl, h1, r1⟩ := raw_of R c.2.2 e1 ra
        exact .inr ⟨p, k, us, rfl, fz_int rb, h1, (ble63 c.1).1, (ble63 c.1).2, by rw [← r1.len]; exact lineOk_of c.2.1, fun l n => h.newLF E R (flat_rep r1) n⟩
      · exact h.elim
    · exact h.elim
  · exact h.elim
end
end TL
set_option Elab.async false
set_option linter.all false
set_option maxRecDepth 100000
set_option maxHeartbeats 2000000
namespace TL
open PySem PySem.Spec PyProof.Rows L2
/-! ### equality of data -/
mutual
def FV.eqv : FV → FV → Bool
  | .non, .non => true
  | .bl a, .bl b => a == b
  | .bl a, .int j => (if a then 1 else 0) == j
  | .int i, .bl b => i == (if b then 1 else 0)
  | .int i, .int j => i == j
  | .str x, .str y => x == y
  | .lst xs, .lst ys => eqvs xs ys
  | .tup xs, .tup ys => eqvs xs ys
  | _, _ => false
def eqvs : List FV → List FV → Bool
  | [], [] => true
  | x :: xs, y :: ys => FV.eqv x y && eqvs xs ys
  | _, _ => false
end
/-- data of a depth below n, without instances -/
def FV.dat : Nat → FV → Bool
  | _, .non => true
  | _, .bl _ => true
  | _, .int _ => true
  | _, .str s => PyData.strOk s
  | n + 1, .tup xs => xs.all (FV.dat n)
  | n + 1, .lst xs => xs.all (FV.dat n)
  | _, _ => false
mutual
def FV.toD : FV → PyData
  | .non => .none
  | .bl b => .bool b
  | .int i => .int i
  | .str s => .str s
  | .tup xs => .tuple (toDs xs)
  | .lst xs => .list (toDs xs)
  | .obj _ _ => .none
  | .dic => .none
def toDs : List FV → List PyData
  | [] => []
  | x :: xs => x.toD :: toDs xs
end
mutual
theorem eqv_toD : ∀ (n m : Nat) (a b : FV), a.dat n = true → b.dat m = true → a.eqv b = PyData.eqv a.toD b.toD
  | n, m, .tup xs, .tup ys, h, k => by
    cases n with
    | zero => cases h
    | succ n =>
      cases m with
      | zero => cases k
      | succ m =>
        simp only [FV.eqv, FV.toD, PyData.eqv]
        exact eqvs_toD n m xs ys h k
  | n, m, .lst xs, .lst ys, h, k => by
    cases n with
    | zero => cases h
    | succ n =>
      cases m with
      | zero => cases k
      | succ m =>
        simp only [FV.eqv, FV.toD, PyData.eqv]
        exact eqvs_toD n m xs ys h k
  | n, m, .obj _ _, b, h, k => by cases n <;> cases h
  | n, m, a, .obj _ _, h, k => by cases m <;> cases k
  | n, m, .dic, b, h, k => by cases n <;> cases h
  | n, m, a, .dic, h, k => by cases m <;> cases k
  | n, m, .non, b, h, k => by cases b <;> first | rfl | (cases m <;> cases k; done)
  | n, m, .bl _, b, h, k => by cases b <;> first | rfl | (cases m <;> cases k; done)
  | n, m, .int _, b, h, k => by cases b <;> first | rfl | (cases m <;> cases k; done)
  | n, m, .str _, b, h, k => by cases b <;> first | rfl | (cases m <;> cases k; done)
  | n, m, .tup xs, .non, h, k => rfl
  | n, m, .tup xs, .bl _, h, k => rfl
  | n, m, .tup xs, .int _, h, k => rfl
  | n, m, .tup xs, .str _, h, k => rfl
  | n, m, .tup xs, .lst _, h, k => rfl
  | n, m, .lst xs, .non, h, k => rfl
  | n, m, .lst xs, .bl _, h, k => rfl
  | n, m, .lst xs, .int _, h, k => rfl
  | n, m, .lst xs, .str _, h, k => rfl
  | n, m, .lst xs, .tup _, h, k => rfl
theorem eqvs_toD : ∀ (n m : Nat) (a b : List FV), a.all (FV.dat n) = true → b.all (FV.dat m) = true → eqvs a b = PyData.eqvAll (toDs a) (toDs b)
  | n, m, [], [], _, _ => by simp only [eqvs, toDs, PyData.eqvAll]
  | n, m, [], y :: ys, _, _ => by simp only [eqvs, toDs, PyData.eqvAll]
  | n, m, x :: xs, [], _, _ => by simp only [eqvs, toDs, PyData.eqvAll]
  | n, m, x :: xs, y :: ys, h, k => by
    rw [List.all_cons, Bool.and_eq_true] at h k
    simp only [eqvs, toDs, PyData.eqvAll]
    rw [eqv_toD n m x y h.1 k.1, eqvs_toD n m xs ys h.2 k.2]
end
mutual
theorem can_toD : ∀ (n : Nat) (a : FV), a.dat n = true → a.toD.canLay0 = true ∧ a.toD.depth ≤ n
  | n, .non, _ => ⟨rfl, Nat.zero_le _⟩
  | n, .bl _, _ => ⟨rfl, Nat.zero_le _⟩
  | n, .int _, _ => ⟨rfl, Nat.zero_le _⟩
  | n, .str s, h => by
    refine ⟨?_, Nat.zero_le _⟩
    simp only [FV.toD, PyData.canLay0]
    cases n <;> exact h
  | 0, .tup xs, h => by cases h
  | n + 1, .tup xs, h => by
    obtain ⟨h1, h2⟩ := cans_toD n xs h
    simp only [FV.toD, PyData.canLay0, PyData.depth]
    exact ⟨h1, Nat.succ_le_succ h2⟩
  | 0, .lst xs, h => by cases h
  | n + 1, .lst xs, h => by
    obtain ⟨h1, h2⟩ := cans_toD n xs h
    simp only [FV.toD, PyData.canLay0, PyData.depth]
    exact ⟨h1, Nat.succ_le_succ h2⟩
  | n, .obj _ _, h => by cases n <;> cases h
  | n, .dic, h => by cases n <;> cases h
theorem cans_toD : ∀ (n : Nat) (a : List FV), a.all (FV.dat n) = true → PyData.canLayAll0 (toDs a) = true ∧ PyData.depthAll (toDs a) ≤ n
  | n, [], _ => by simp [toDs, PyData.canLayAll0, PyData.depthAll]
  | n, x :: xs, h => by
    rw [List.all_cons, Bool.and_eq_true] at h
    obtain ⟨h1, h2⟩ := can_toD n x h.1
    obtain ⟨h3, h4⟩ := cans_toD n xs h.2
    simp only [toDs, PyData.canLayAll0, PyData.depthAll]
    rw [h1, h3]
    exact ⟨by simp, Nat.max_le.mpr ⟨h2, h4⟩⟩
end
theorem shaped_toD {a : FV} (h : a.dat 64 = true) : SeqAt.shaped a.toD = true := by
  obtain ⟨h1, h2⟩ := can_toD 64 a h
  unfold SeqAt.shaped
  rw [h1, decide_eq_true h2]
  rfl
section
variable {G : GT} {B : Addr → Prop} {H : Hp}
mutual
theorem dp_of : ∀ (n : Nat) (v : FV) (x : V), v.dat n = true → FRep G B H v x → Dp G.K H x v.toD
  | n, .non, x, _, h => by unfold FRep at h; subst h; exact .non
  | n, .bl _, x, _, h => by unfold FRep at h; subst h; exact .bl _
  | n, .int _, x, _, h => by unfold FRep at h; subst h; exact .int _
  | n, .str _, x, _, h => by unfold FRep at h; subst h; exact .str _
  | 0, .tup ps, x, d, h => by cases d
  | n + 1, .tup ps, x, d, h => by
    unfold FRep at h
    obtain ⟨a, xs, rfl, e, r⟩ := h
    unfold FV.toD
    exact .tup (SqT.of e) (dps_of n ps xs d r)
  | 0, .lst ps, x, d, h => by cases d
  | n + 1, .lst ps, x, d, h => by
    unfold FRep at h
    obtain ⟨a, xs, rfl, _, e, r⟩ := h
    unfold FV.toD
    exact .lst (SqL.of e) (dps_of n ps xs d r)
  | n, .obj _ _, x, d, h => by cases n <;> cases d
  | n, .dic, x, d, h => by cases n <;> cases d
theorem dps_of : ∀ (n : Nat) (v : List FV) (x : List V), v.all (FV.dat n) = true → FReps G B H v x → DpAll G.K H x (toDs v)
  | n, [], x, _, h => by unfold FReps at h; subst h; unfold toDs; exact .nil
  | n, p :: ps, x, d, h => by
    unfold FReps at h
    obtain ⟨y, r, rfl, h1, h2⟩ := h
    rw [List.all_cons, Bool.and_eq_true] at d
    unfold toDs
    exact .cons (dp_of n p y d.1 h1) (dps_of n ps r d.2 h2)
end
end
/-- a == b (ng: a != b), data of any kind -/
def gEq (ng : Bool) (a b : RV) (S : MS) : ER RV := match view a S, view b S with
  | some u, some v => if u.dat 64 && v.dat 64 then .ok (.fz (.bl (if ng then !u.eqv v else u.eqv v))) S else .stuck
  | _, _ => .stuck
section
variable {W : WX} {G : GT} {X : Cx}
theorem v2_eqD : V2 W G (rEqD G.K) (gEq false) := by
  intro F Bs fps Hs B fp S σ H a b x y Q E R ra rb h
  unfold gEq at h
  split at h
  · rename_i u v e1 e2
    split at h
    · rename_i c
      rw [Bool.and_eq_true] at c
      obtain ⟨B1, r1⟩ := view_ok R e1 ra
      obtain ⟨B2, r2⟩ := view_ok R e2 rb
      refine ⟨_, _, dp_of 64 u x c.1 r1, dp_of 64 v y c.2 r2, shaped_toD c.1, shaped_toD c.2, ?_⟩
      rw [← eqv_toD 64 64 u v c.1 c.2]
      exact h.val (R := rX G) E R (rX_fz fr_bl)
    · exact h.elim
  · exact h.elim
theorem v2_neD : V2 W G (rNeD G.K) (gEq true) := by
  intro F Bs fps Hs B fp S σ H a b x y Q E R ra rb h
  unfold gEq at h
  split at h
  · rename_i u v e1 e2
    split at h
    · rename_i c
      rw [Bool.and_eq_true] at c
      obtain ⟨B1, r1⟩ := view_ok R e1 ra
      obtain ⟨B2, r2⟩ := view_ok R e2 rb
      refine ⟨_, _, dp_of 64 u x c.1 r1, dp_of 64 v y c.2 r2, shaped_toD c.1, shaped_toD c.2, ?_⟩
      rw [← eqv_toD 64 64 u v c.1 c.2]
      exact h.val (R := rX G) E R (rX_fz fr_bl)
    · exact h.elim
  · exact h.elim
/-! ### is -/
def isNon : RV → MS → Option Bool
  | .fz .non, _ => some true
  | .pl j p, S => match S.at j p with
    | some (.own _) => some false
    | _ => none
  | _, _ => some false
/-- a is None (ng: is not); a is True, a is False for bools -/
def gIs (ng : Bool) (a b : RV) (S : MS) : ER RV := match a, b with
  | .fz (.bl p), .fz (.bl q) => .ok (.fz (.bl (if ng then !decide (p = q) else decide (p = q)))) S
  | a, .fz .non => match isNon a S with
    | some k => .ok (.fz (.bl (if ng then !k else k))) S
    | none => .stuck
  | a, .fz (.bl _) => match isNon a S with
    | some _ => .stuck
    | none => .stuck
  | _, _ => .stuck
theorem isNon_ok {F : Fc} {Hs : Hp} {B : Addr → Prop} {fp : Nat → List Addr} {S : MS} {σ : St} {H : Hp} {a : RV} {x : V} {k : Bool} (R : SR G F B fp S σ H) (r : rX G F Hs B fp S σ H a x) (h : isNon a S = some k) : decide (x = V.non) = k := by
  have ref : ∀ b, decide (V.ref b = V.non) = false := fun b => decide_eq_false (fun z => by cases z)
  obtain ⟨f, r, _⟩ := r
  cases a with
  | fz v =>
    obtain ⟨r, _⟩ := r
    cases v with
    | non => cases h; unfold FRep at r; subst r; rfl
    | bl _ => cases h; unfold FRep at r; subst r; rfl
    | int _ => cases h; unfold FRep at r; subst r; rfl
    | str _ => cases h; unfold FRep at r; subst r; rfl
    | tup _ => cases h; unfold FRep at r; obtain ⟨a, _, rfl, _⟩ := r; rw [ref]
    | lst _ => cases h; unfold FRep at r; obtain ⟨a, _, rfl, _⟩ := r; rw [ref]
    | obj _ _ => cases h; unfold FRep at r; obtain ⟨a, _, _, rfl, _⟩ := r; rw [ref]
    | dic => cases h; unfold FRep at r; obtain ⟨a, rfl, _⟩ := r; rw [ref]
  | tmp ts => cases h; obtain ⟨r, _⟩ := r; unfold ORep at r; obtain ⟨a, _, _, rfl, _⟩ := r; rw [ref]
  | pl j p =>
    obtain ⟨⟨r0, h1, h2⟩, _⟩ := r
    simp only [isNon] at h
    split at h
    · rename_i ts e
      cases h
      obtain ⟨_, g, _, _, _, ho, _⟩ := R.place e h1 h2
      unfold ORep at ho
      obtain ⟨a, _, _, rfl, _⟩ := ho
      rw [ref]
    · cases h
  | dr => cases h; obtain ⟨⟨a, _, rfl⟩, _⟩ := r; rw [ref]
  | scr _ => cases h; obtain ⟨⟨a, rfl, _⟩, _⟩ := r; rw [ref]
abbrev rIs : R2 := fun x y H Q => rIsB x y H Q ∨ (y = .non ∧ Q (.bl (decide (x = .non))) H)
abbrev rIsNot : R2 := fun x y H Q => rNotB x y H Q ∨ (y = .non ∧ Q (.bl (!decide (x = .non))) H)
theorem op_isx : OpR X (compareOp .Is) rIs := op_isBl.or op_isN
theorem op_isnotx : OpR X (compareOp .IsNot) rIsNot := op_notBl.or op_notN
theorem v2_is : V2 W G rIs (gIs false) := by
  intro F Bs fps Hs B fp S σ H a b x y Q E R ra rb h
  unfold gIs at h
  split at h
  · rename_i p q
    have r1 := of_fz ra
    have r2 := of_fz rb
    unfold FRep at r1 r2
    exact .inl ⟨p, q, r1, r2, h.val (R := rX G) E R (rX_fz fr_bl)⟩
  · split at h
    · rename_i k e
      have r2 := of_fz rb
      unfold FRep at r2
      refine .inr ⟨r2, ?_⟩
      rw [isNon_ok R ra e]
      exact h.val (R := rX G) E R (rX_fz fr_bl)
    · exact h.elim
  · split at h <;> exact h.elim
  · exact h.elim
theorem v2_isnot : V2 W G rIsNot (gIs true) := by
  intro F Bs fps Hs B fp S σ H a b x y Q E R ra rb h
  unfold gIs at h
  split at h
  · rename_i p q
    have r1 := of_fz ra
    have r2 := of_fz rb
    unfold FRep at r1 r2
    exact .inl ⟨p, q, r1, r2, h.val (R := rX G) E R (rX_fz fr_bl)⟩
  · split at h
    · rename_i k e
      have r2 := of_fz rb
      unfold FRep at r2
      refine .inr ⟨r2, ?_⟩
      rw [isNon_ok R ra e]
      exact h.val (R := rX G) E R (rX_fz fr_bl)
    · exact h.elim
  · split at h <;> exact h.elim
  · exact h.elim
/-! ### in -/
def FV.flat : FV → Bool
  | .non => true
  | .bl _ => true
  | .int _ => true
  | .str _ => true
  | _ => false
/-- items of a list or tuple -/
def seqOf : RV → MS → Option (List FV)
  | .fz (.tup xs), _ => some xs
  | v, S => items v S
theorem seqOf_ok {F : Fc} {Hs : Hp} {B : Addr → Prop} {fp : Nat → List Addr} {S : MS} {σ : St} {H : Hp} {v : RV} {x : V} {vs : List FV} (R : SR G F B fp S σ H) (h : seqOf v S = some vs) (r : rX G F Hs B fp S σ H v x) : ∃ a xs, x = .ref a ∧ (SqL G.K H a xs ∨ SqT G.K H a xs) ∧ FReps G B H vs xs := by
  unfold seqOf at h
  split at h
  · cases h
    have r1 := of_fz r
    unfold FRep at r1
    obtain ⟨a, xs, e, e2, e3⟩ := r1
    exact ⟨a, xs, e, .inr (SqT.of e2), e3⟩
  · obtain ⟨a, xs, e, e2, e3⟩ := items_ok R h r
    exact ⟨a, xs, e, .inl e2, e3⟩
def gIn (ng : Bool) (a b : RV) (S : MS) : ER RV := match a, seqOf b S with
  | .fz u, some vs => if u.flat && vs.all FV.flat then .ok (.fz (.bl (if ng then !(vs.any fun v => v.eqv u) else vs.any fun v => v.eqv u))) S else .stuck
  | _, _ => .stuck
theorem flat_eq {B : Addr → Prop} {H : Hp} {u v : FV} {x y : V} (fu : u.flat = true) (fv : v.flat = true) (ru : FRep G B H u x) (rv : FRep G B H v y) : flatV x = true ∧ eqV y x = v.eqv u := by
  cases u with
  | non =>
    unfold FRep at ru; subst ru
    cases v with
    | tup _ => cases fv
    | lst _ => cases fv
    | obj _ _ => cases fv
    | dic => cases fv
    | _ => unfold FRep at rv; subst rv; exact ⟨rfl, by simp [eqV, FV.eqv]⟩
  | bl _ =>
    unfold FRep at ru; subst ru
    cases v with
    | tup _ => cases fv
    | lst _ => cases fv
    | obj _ _ => cases fv
    | dic => cases fv
    | _ => unfold FRep at rv; subst rv; exact ⟨rfl, by simp [eqV, FV.eqv]⟩
  | int _ =>
    unfold FRep at ru; subst ru
    cases v with
    | tup _ => cases fv
    | lst _ => cases fv
    | obj _ _ => cases fv
    | dic => cases fv
    | _ => unfold FRep at rv; subst rv; exact ⟨rfl, by simp [eqV, FV.eqv]⟩
  | str _ =>
    unfold FRep at ru; subst ru
    cases v with
    | tup _ => cases fv
    | lst _ => cases fv
    | obj _ _ => cases fv
    | dic => cases fv
    | _ => unfold FRep at rv; subst rv; exact ⟨rfl, by simp [eqV, FV.eqv]⟩
  | _ => cases fu
theorem flat_of {B : Addr → Prop} {H : Hp} {u : FV} {x : V} (fu : u.flat = true) (ru : FRep G B H u x) : flatV x = true := (flat_eq fu fu ru ru).1
theorem flat_any {B : Addr → Prop} {H : Hp} {u : FV} {x : V} (fu : u.flat = true) (ru : FRep G B H u x) : ∀ {vs : List FV} {xs : List V}, vs.all FV.flat = true → FReps G B H vs xs → xs.all flatV = true ∧ inV x xs = vs.any fun v => v.eqv u
  | [], xs, _, r => by unfold FReps at r; subst r; exact ⟨rfl, rfl⟩
  | v :: vs, xs, h, r => by
    unfold FReps at r
    obtain ⟨y, s, rfl, r1, r2⟩ := r
    rw [List.all_cons, Bool.and_eq_true] at h
    obtain ⟨h1, h2⟩ := flat_any fu ru h.2 r2
    refine ⟨by rw [List.all_cons, flat_of h.1 r1, h1]; rfl, ?_⟩
    unfold inV at h2 ⊢
    rw [List.any_cons, List.any_cons, h2, (flat_eq fu h.1 ru r1).2]
theorem v2_in (ng : Bool) : V2 W G (rIn G.K ng) (gIn ng) := by
  intro F Bs fps Hs B fp S σ H a b x y Q E R ra rb h
  unfold gIn at h
  split at h
  · rename_i u vs e
    split at h
    · rename_i c
      rw [Bool.and_eq_true] at c
      obtain ⟨p, xs, rfl, hq, r⟩ := seqOf_ok R e rb
      have r1 := of_fz ra
      obtain ⟨h1, h2⟩ := flat_any c.1 r1 c.2 r
      refine ⟨p, xs, rfl, hq, flat_of c.1 r1, h1, ?_⟩
      rw [h2]
      exact h.val (R := rX G) E R (rX_fz fr_bl)
    · exact h.elim
  · exact h.elim
/-! ### items -/
/-- the item at i, of a list, a tuple, a text -/
def pick (v : RV) (i : Int) (S : MS) : ER RV := match v with
  | .fz (.lst xs) => match atI xs i with
    | some u => .ok (.fz u) S
    | none => .stuck
  | .fz (.tup xs) => match atI xs i with
    | some u => .ok (.fz u) S
    | none => .stuck
  | .fz (.str s) => match atI s.cps.toList i with
    | some c => if lineOk s.length then .ok (.fz (.str ⟨#[c]⟩)) S else .stuck
    | none => .stuck
  | .tmp ts => match atI ts i with
    | some (.fz u) => .ok (.fz u) S
    | some (.own us) => .ok (.tmp us) S
    | none => .stuck
  | .pl j p => match S.at j p with
    | some (.own ts) => match ixN ts.length i with
      | some k => match ts[k]? with
        | some (.fz u) => .ok (.fz u) S
        | some (.own _) => .ok (.pl j (p ++ [k])) S
        | none => .stuck
      | none => .stuck
    | _ => .stuck
  | .scr ns => match atI ns i with
    | some n => .ok (.fz (.int n)) S
    | none => .stuck
  | _ => .stuck
def gIx (a b : RV) (S : MS) : ER RV := match b with
  | .fz (.int i) => pick a i S
  | _ => .stuck
theorem atI_rep {B : Addr → Prop} {H : Hp} {vs : List FV} {xs : List V} {i : Int} {u : FV} (r : FReps G B H vs xs) (h : atI vs i = some u) : ∃ y, atI xs i = some y ∧ FRep G B H u y := by
  unfold atI at h ⊢
  rw [← r.len]
  cases e : ixN vs.length i with
  | none => rw [e] at h; cases h
  | some k =>
    rw [e] at h
    exact r.get h
theorem OReps.getFz {B : Addr → Prop} {H : Hp} {ts : List OT} {xs : List V} {f : List Addr} {k : Nat} {u : FV} (r : OReps G B H ts xs f) (h : ts[k]? = some (.fz u)) : ∃ y, xs[k]? = some y ∧ FRep G B H u y := by
  obtain ⟨y, f1, g, f2, h1, h2, _⟩ := r.split h
  unfold ORep at h2
  exact ⟨y, h1, h2.1⟩
theorem AtP.snoc {P : Addr → Prop} {H : Hp} {k : Nat} {u : V} : ∀ {p : List Nat} {v : V} {a : Addr} {xs : List V}, AtP H P v p (.ref a) → P a → H a = some (.lst xs) → xs[k]? = some u → AtP H P v (p ++ [k]) u
  | [], v, a, xs, h, pa, e, hx => ⟨a, xs, u, h, pa, e, hx, rfl⟩
  | j :: p, v, a, xs, h, pa, e, hx => by
    obtain ⟨b, ys, w, h1, h2, h3, h4, h5⟩ := h
    exact ⟨b, ys, w, h1, h2, h3, h4, AtP.snoc h5 pa e hx⟩
theorem v2_ix : V2 W G (rIx G.K) gIx := by
  intro F Bs fps Hs B fp S σ H a b x y Q E R ra rb h
  unfold gIx at h
  split at h
  · rename_i i
    have ei := fz_int rb
    unfold pick at h
    split at h
    · rename_i xs
      split at h
      · rename_i u e
        have r := of_fz ra
        unfold FRep at r
        obtain ⟨p, us, rfl, _, e2, r⟩ := r
        obtain ⟨w, e3, r3⟩ := atI_rep r e
        exact .inl ⟨p, us, i, w, rfl, ei, SqL.of e2, e3, h.val (R := rX G) E R (rX_fz r3)⟩
      · exact h.elim
    · rename_i xs
      split at h
      · rename_i u e
        have r := of_fz ra
        unfold FRep at r
        obtain ⟨p, us, rfl, e2, r⟩ := r
        obtain ⟨w, e3, r3⟩ := atI_rep r e
        exact .inr (.inl ⟨p, us, i, w, rfl, ei, SqT.of e2, e3, h.val (R := rX G) E R (rX_fz r3)⟩)
      · exact h.elim
    · rename_i s
      split at h
      · rename_i c e
        split at h
        · rename_i hc
          have r := of_fz ra
          unfold FRep at r
          exact .inr (.inr ⟨s, i, c, r, ei, lineOk_of hc, e, h.val (R := rX G) E R (rX_fz fr_str)⟩)
        · exact h.elim
      · exact h.elim
    · rename_i ts
      split at h
      · rename_i u e
        obtain ⟨f, ⟨r, _⟩, _⟩ := ra
        unfold ORep at r
        obtain ⟨p, us, g, rfl, e2, r, _⟩ := r
        unfold atI at e
        cases e3 : ixN ts.length i with
        | none => rw [e3] at e; cases e
        | some k =>
          rw [e3] at e
          obtain ⟨w, e4, r4⟩ := r.getFz e
          refine .inl ⟨p, us, i, w, rfl, ei, SqL.of e2, ?_, h.val (R := rX G) E R (rX_fz r4)⟩
          unfold atI
          rw [← r.len, e3]
          exact e4
      · rename_i vs e
        obtain ⟨f, ⟨r, rn, rf⟩, rs⟩ := ra
        unfold ORep at r
        obtain ⟨p, us, g, rfl, e2, r, rfl⟩ := r
        unfold atI at e
        cases e3 : ixN ts.length i with
        | none => rw [e3] at e; cases e
        | some k =>
          rw [e3] at e
          obtain ⟨w, f1, g1, f2, e4, r4, rfl, _⟩ := r.split e
          have hin : ∀ a, a ∈ g1 → a ∈ p :: (f1 ++ g1 ++ f2) := fun a ha => List.mem_cons_of_mem _ (List.mem_append_left _ (List.mem_append_right _ ha))
          have hnd : g1.Nodup := by
            have n1 := (List.nodup_cons.mp rn).2
            rw [List.append_assoc] at n1
            exact (List.nodup_append.mp (List.nodup_append.mp n1).2.1).1
          refine .inl ⟨p, us, i, w, rfl, ei, SqL.of e2, ?_, h.val (R := rX G) E R ⟨g1, ⟨r4, hnd, fun a ha => rf a (hin a ha)⟩, fun a ha => rs a (hin a ha)⟩⟩
          unfold atI
          rw [← r.len, e3]
          exact e4
      · exact h.elim
    · rename_i j p
      split at h
      · rename_i ts hat
        split at h
        · rename_i k e3
          obtain ⟨f, ⟨⟨r0, h1, h2⟩, _⟩, _⟩ := ra
          obtain ⟨_, g, _, _, _, ho, _, hin, _⟩ := R.place hat h1 h2
          unfold ORep at ho
          obtain ⟨q, us, g', rfl, e2, r, eg⟩ := ho
          split at h
          · rename_i u e
            obtain ⟨w, e4, r4⟩ := r.getFz e
            refine .inl ⟨q, us, i, w, rfl, ei, SqL.of e2, ?_, h.val (R := rX G) E R (rX_fz r4)⟩
            unfold atI
            rw [← r.len, e3]
            exact e4
          · rename_i us2 e
            obtain ⟨w, f1, g1, f2, e4, r4, _⟩ := r.split e
            refine .inl ⟨q, us, i, w, rfl, ei, SqL.of e2, ?_, h.val (R := rX G) E R ⟨[], ⟨⟨r0, h1, ?_⟩, rfl⟩, fun _ z => by cases z⟩⟩
            · unfold atI
              rw [← r.len, e3]
              exact e4
            · refine AtP.snoc h2 (fun z => ?_) e2 e4
              exact (R.notBad z).2.1 j (hin q (by rw [eg]; exact List.mem_cons_self))
          · exact h.elim
        · exact h.elim
      · exact h.elim
    · rename_i ns
      split at h
      · rename_i n e
        obtain ⟨f, ⟨⟨p, rfl, r⟩, _⟩, _⟩ := ra
        refine .inl ⟨p, ns.map V.int, i, .int n, rfl, ei, r.sq, ?_, h.val (R := rX G) E R (rX_fz fr_int)⟩
        unfold atI at e ⊢
        rw [List.length_map]
        cases e3 : ixN ns.length i with
        | none => rw [e3] at e; cases e
        | some k =>
          rw [e3] at e
          show (ns.map V.int)[k]? = _
          rw [List.getElem?_map]
          have e' : ns[k]? = some n := e
          rw [e']
          rfl
      · exact h.elim
    · exact h.elim
  · exact h.elim
theorem jx_ix {a b : Expr} {ma mb : M RV} {pos : Pos} (hK : X.K = G.K) (ha : JX W G X a ma) (hb : JX W G X b mb) (hs : PlainIx b) : JX W G X (.Subscript a b pos) (m2 gIx ma mb) := by
  refine PE.imp (pe_ix ix_seq ha hb hs) fun σ H Q h => tG.two h fun F B fp a b S' B' fp' H' x y E R ra rb p => ?_
  rw [hK]
  exact v2_ix F B fp H B' fp' S' σ H' a b x y Q E R ra rb p
end
end TL
set_option Elab.async false
set_option linter.all false
set_option maxRecDepth 100000
set_option maxHeartbeats 2000000
namespace TL
open PySem PySem.Spec PyProof.Rows L2
/-! ### argument lists of any values -/
def rLs (G : GT) (F : Fc) (Hs : Hp) (B : Addr → Prop) (fp : Nat → List Addr) (S : MS) (σ : St) (H : Hp) : List RV → List V → Prop
  | [], xs => xs = []
  | v :: vs, xs => ∃ x r, xs = x :: r ∧ rX G F Hs B fp S σ H v x ∧ rLs G F Hs B fp S σ H vs r
abbrev rL (G : GT) : Rel (List RV) (List V) := rLs G
abbrev JL (W : WX) (G : GT) (X : Cx) (es : List Expr) (m : M (List RV)) : Prop := PA X es (tG W G (rL G) m)
def lNil : M (List RV) := fun S => .ok [] S
def lCons (m : M RV) (n : M (List RV)) : M (List RV) := fun S => (m S).bind fun v S1 => (n S1).bind fun vs S2 => .ok (v :: vs) S2
/-- owned items of a display -/
def toO : RV → MS → ER OT
  | .fz v, S => .ok (.fz v) S
  | .tmp ts, S => .ok (.own ts) S
  | .pl j p, S => match S.at j p with
    | some u => .ok (.fz u.frz) (S.frz j p u.frz)
    | none => .stuck
  | _, _ => .stuck
abbrev rO (G : GT) : Rel (List OT) (List V) := fun F Hs B fp S σ H ts xs => ∃ f, OReps G B H ts xs f ∧ f.Nodup ∧ ∀ a ∈ f, ¬ B a ∧ F.H0 a = none ∧ (∀ i, a ∉ fp i) ∧ Hs a = none
abbrev JO (W : WX) (G : GT) (X : Cx) (es : List Expr) (m : M (List OT)) : Prop := PA X es (tG W G (rO G) m)
def oNil : M (List OT) := fun S => .ok [] S
def oCons (m : M RV) (n : M (List OT)) : M (List OT) := fun S => (m S).bind fun v S1 => (toO v S1).bind fun t S2 => (n S2).bind fun ts S3 => .ok (t :: ts) S3
section
variable {W : WX} {G : GT} {X : Cx} {e : Expr} {es : List Expr} {m : M RV}
/-- pending lists stay pending -/
theorem pend {F : Fc} {B B' : Addr → Prop} {fp fp' : Nat → List Addr} {S : MS} {σ : St} {H H' : Hp} {f : List Addr} (R : SR G F B fp S σ H) (E : Eff F B fp H B' fp' H') (lst : ∀ a ∈ f, ∃ xs, H a = some (.lst xs)) (h : ∀ a ∈ f, ¬ B a ∧ F.H0 a = none ∧ ∀ i, a ∉ fp i) :
    (∀ a ∈ f, H' a = H a) ∧ ∀ a ∈ f, ¬ B' a ∧ F.H0 a = none ∧ ∀ i, a ∉ fp' i := by
  have nad : ∀ a ∈ f, F.ad ≠ some a := fun a ha z => (R.notBad z).2.2.2 (h a ha).2.1
  refine ⟨fun a ha => by obtain ⟨xs, w⟩ := lst a ha; rw [w, E.keep a _ w (nad a ha)], fun a ha => ⟨fun z => ?_, (h a ha).2.1, fun i z => ?_⟩⟩
  · rcases E.bg a z with z | ⟨j, z⟩ | z
    · exact (h a ha).1 z
    · exact (h a ha).2.2 j z
    · obtain ⟨xs, w⟩ := lst a ha; rw [z] at w; cases w
  · rcases E.fpg i a z with ⟨j, z⟩ | z
    · exact (h a ha).2.2 j z
    · obtain ⟨xs, w⟩ := lst a ha; rw [z] at w; cases w
theorem jl_nil : JL W G X [] lNil := PA.imp pa_nil fun σ H Q ⟨F, B, fp, S, R, h⟩ => h.val (R := rL G) Eff.refl R rfl
theorem rLs.start {F : Fc} {Bs B B' : Addr → Prop} {fps fp fp' : Nat → List Addr} {S : MS} {σ : St} {Hs H H' : Hp} (E : Eff F Bs fps Hs B fp H) : ∀ {vs : List RV} {xs : List V}, rLs G F H B' fp' S σ H' vs xs → rLs G F Hs B' fp' S σ H' vs xs
  | [], _, h => h
  | v :: vs, _, ⟨x, r, e, h1, h2⟩ => ⟨x, r, e, rX.start E h1, rLs.start E h2⟩
theorem jl_cons {ms : M (List RV)} (ha : JX W G X e m) (hr : JL W G X es ms) (hs : starEach (e :: es) X.env = (false, eval e X.env) :: starEach es X.env := by rfl) : JL W G X (e :: es) (lCons m ms) :=
  PA.imp (pa_cons ha hr hs) fun σ H Q h => tG.one h fun F B fp v S' B' fp' H' x E R ra p => by
    refine ⟨F, B', fp', S', R, (Post.shift p E).imp fun vs S3 B3 fp3 H3 E23 R3 ⟨E3, q3⟩ xs rxs => ?_⟩
    exact q3 B3 fp3 H3 E3 R3 (x :: xs) ⟨x, xs, rfl, rX.keep R E23 ra, rLs.start E rxs⟩
theorem jo_nil : JO W G X [] oNil := PA.imp pa_nil fun σ H Q ⟨F, B, fp, S, R, h⟩ => h.val (R := rO G) Eff.refl R ⟨[], by unfold OReps; exact ⟨rfl, rfl⟩, List.nodup_nil, fun _ z => by cases z⟩
theorem jo_cons {ms : M (List OT)} (ha : JX W G X e m) (hr : JO W G X es ms) (hs : starEach (e :: es) X.env = (false, eval e X.env) :: starEach es X.env := by rfl) : JO W G X (e :: es) (oCons m ms) :=
  PA.imp (pa_cons ha hr hs) fun σ H Q h => tG.one h fun F B fp v S' B' fp' H' x E R ra p => by
    -- the first item, in the hand or frozen
    have key : ∃ t S2 B2 fp2 f, toO v S' = .ok t S2 ∧ Eff F B fp H B2 fp2 H' ∧ SR G F B2 fp2 S2 σ H' ∧ ORep G B2 H' t x f ∧ f.Nodup ∧ (∀ a ∈ f, ¬ B2 a ∧ F.H0 a = none ∧ ∀ i, a ∉ fp2 i) ∧ ∀ a ∈ f, H a = none := by
      obtain ⟨f, r, hf⟩ := ra
      cases v with
      | fz v => exact ⟨.fz v, S', B', fp', [], rfl, E, R, by unfold ORep; exact ⟨r.1, rfl⟩, List.nodup_nil, fun _ z => (by cases z), fun _ z => (by cases z)⟩
      | tmp ts => exact ⟨.own ts, S', B', fp', f, rfl, E, R, r.1, r.2.1, r.2.2, hf⟩
      | pl j q =>
        obtain ⟨⟨r0, h1, h2⟩, _⟩ := r
        cases e : S'.at j q with
        | none => simp only [toO, e] at p; exact p.elim
        | some u =>
          obtain ⟨B2, fp2, R2, E2, fr⟩ := R.frzAt e h1 h2
          exact ⟨.fz u.frz, S'.frz j q u.frz, B2, fp2, [], by simp only [toO, e], E.trans E2, R2, by unfold ORep; exact ⟨fr, rfl⟩, List.nodup_nil, fun _ z => (by cases z), fun _ z => (by cases z)⟩
      | dr => exact p.elim
      | scr ns => exact p.elim
    obtain ⟨t, S2, B2, fp2, f, e2, E2, R2, ho, hn, hf, hh⟩ := key
    rw [e2] at p
    replace p : Post W G F B fp σ H ((ms S2).bind fun ts S3 => .ok (t :: ts) S3) _ := p
    have lst := ORep.lst _ _ _ ho
    refine ⟨F, B2, fp2, S2, R2, (Post.shift p E2).imp fun ts S3 B3 fp3 H3 E23 R3 ⟨E3, q3⟩ xs ⟨g, rg, ng, hg⟩ => ?_⟩
    obtain ⟨same, hf3⟩ := pend R2 E23 lst hf
    refine q3 B3 fp3 H3 E3 R3 (x :: xs) ⟨f ++ g, ?_, List.nodup_append.mpr ⟨hn, ng, fun a ha b hb z => ?_⟩, fun a ha => ?_⟩
    · unfold OReps
      exact ⟨x, xs, f, g, rfl, ORep.keep (R2.keepF E23) E23.bm t x f same ho, rg, rfl⟩
    · subst z
      obtain ⟨ys, w⟩ := lst a ha
      rw [(hg a hb).2.2.2] at w
      cases w
    · rcases List.mem_append.mp ha with z | z
      · exact ⟨(hf3 a z).1, (hf3 a z).2.1, (hf3 a z).2.2, hh a z⟩
      · exact ⟨(hg a z).1, (hg a z).2.1, (hg a z).2.2.1, Classical.byContradiction fun n => E2.there a n (hg a z).2.2.2⟩
/-! ### displays -/
def mTup (n : M (List FV)) : M RV := fun S => (n S).bind fun us S' => if lineOk us.length then .ok (.fz (.tup us)) S' else .stuck
def mLst (n : M (List OT)) : M RV := fun S => (n S).bind fun ts S' => if lineOk ts.length then .ok (.tmp ts) S' else .stuck
variable {ps : M (List FV)} {os : M (List OT)} {pos : Pos}
theorem jx_tup {k} (h : JA W G X es ps) : JX W G X (.Tuple es k pos) (mTup ps) :=
  PE.imp (pe_tup h) fun σ H Q h => tG.one (R2 := rA G) h fun F B fp us S' B' fp' H' xs E R ra p => by
    split at p
    · rename_i c
      exact ⟨by rw [← ra.len]; exact lineOk_of c, fun l n => p.newT E R ra n⟩
    · exact p.elim
theorem jx_lst (h : JO W G X es os) : JX W G X (.List es pos) (mLst os) :=
  PE.imp (pe_lst h) fun σ H Q h => tG.one (R2 := rO G) h fun F B fp us S' B' fp' H' xs E R ⟨f, ra, hn, hf⟩ p => by
    split at p
    · rename_i c
      exact ⟨by rw [← ra.len]; exact lineOk_of c, fun l n => p.newL E R ra hn hf n⟩
    · exact p.elim
/-! ### calls of built-ins -/
def VC (W : WX) (G : GT) (r : List V → Hp → VK → Prop) (g : List RV → MS → ER RV) : Prop := ∀ (F : Fc) (Bs : Addr → Prop) (fps : Nat → List Addr) (Hs : Hp) (B : Addr → Prop) (fp : Nat → List Addr) (S : MS) (σ : St) (H : Hp) (vs : List RV) (xs : List V) (Q : VK),
  Eff F Bs fps Hs B fp H → SR G F B fp S σ H → rLs G F Hs B fp S σ H vs xs → Post W G F Bs fps σ Hs (g vs S) (fun v S' B' fp' H' => ∀ z, rX G F Hs B' fp' S' σ H' v z → Q z H') → r xs H Q
def mCall (g : List RV → MS → ER RV) (n : M (List RV)) : M RV := fun S => (n S).bind g
variable {ls : M (List RV)} {p : Pos} {x : Str} {r : List V → Hp → VK → Prop} {g : List RV → MS → ER RV}
theorem jx_callB {id : String} (hc : CallR X (.builtin id) r) (hgv : VC W G r g) (hg : Gl X x) (hm : X.mg x = none) (hv : bootBuiltins x = some (.builtin id)) (ha : JL W G X (e :: es) ls) (hn : x ≠ "__name__" := by decide) (hdb : (x == ("__debug__" : Str)) = false := by decide)
    (he : starEach (e :: es) X.env = (false, eval e X.env) :: starEach es X.env := by rfl) (hpl : (backTo pos (starEach es X.env)).any (·.1) = false := by rfl) : JX W G X (.Call (.Name x p) (e :: es) [] pos) (mCall g ls) :=
  PE.imp (pe_callB hc hg hm hv ha hn hdb he hpl) fun σ H Q h => tG.one (R2 := rL G) h fun F B fp vs S' B' fp' H' xs E R ra p => hgv F B fp H B' fp' S' σ H' vs xs Q E R ra p
theorem jx_callTy {T : String} (hc : CallR X (.type T) r) (hgv : VC W G r g) (hg : Gl X x) (hm : X.mg x = none) (hv : bootBuiltins x = some (.type T)) (ha : JL W G X (e :: es) ls) (hn : x ≠ "__name__" := by decide) (hdb : (x == ("__debug__" : Str)) = false := by decide)
    (he : starEach (e :: es) X.env = (false, eval e X.env) :: starEach es X.env := by rfl) (hpl : (backTo pos (starEach es X.env)).any (·.1) = false := by rfl) : JX W G X (.Call (.Name x p) (e :: es) [] pos) (mCall g ls) :=
  PE.imp (pe_callTy hc hg hm hv ha hn hdb he hpl) fun σ H Q h => tG.one (R2 := rL G) h fun F B fp vs S' B' fp' H' xs E R ra p => hgv F B fp H B' fp' S' σ H' vs xs Q E R ra p
/-- len -/
def gLen : List RV → MS → ER RV
  | [.fz (.str s)], S => if lineOk s.length then .ok (.fz (.int s.length)) S else .stuck
  | [v], S => match count v S with
    | some n => .ok (.fz (.int n)) S
    | none => .stuck
  | _, _ => .stuck
abbrev rLen' (K : PySem.W.Frag) : List V → Hp → VK → Prop := fun xs H Q => ∃ x n, xs = [x] ∧ LenV K x H n ∧ Q (.int n) H
theorem vc_len : VC W G (rLen' G.K) gLen := by
  intro F Bs fps Hs B fp S σ H vs xs Q E R ra h
  unfold gLen at h
  split at h
  · rename_i s
    obtain ⟨x, r, rfl, rx, rfl⟩ := ra
    split at h
    · rename_i c
      have r1 := of_fz rx
      unfold FRep at r1
      subst r1
      exact ⟨_, s.length, rfl, ⟨lineOk_of c, rfl⟩, h.val (R := rX G) E R (rX_fz fr_int)⟩
    · exact h.elim
  · rename_i v _
    obtain ⟨x, r, rfl, rx, rfl⟩ := ra
    split at h
    · rename_i n c
      obtain ⟨a, ys, rfl, hq, hl⟩ := count_ok R c rx
      refine ⟨_, n, rfl, ?_, h.val (R := rX G) E R (rX_fz fr_int)⟩
      rcases hq with hq | hq
      · exact .inl ⟨ys, hq, hl.symm⟩
      · exact .inr ⟨ys, hq, hl.symm⟩
    · exact h.elim
  · exact h.elim
/-- list(x), tuple(x) -/
def gList : List RV → MS → ER RV
  | [v], S => match seqOf v S with
    | some vs => .ok (.tmp (vs.map OT.fz)) S
    | none => .stuck
  | _, _ => .stuck
abbrev rListOf (K : PySem.W.Frag) : List V → Hp → VK → Prop := fun xs H Q => ∃ p ys, xs = [.ref p] ∧ (SqL K H p ys ∨ SqT K H p ys) ∧ ∀ l, H l = none → Q (.ref l) (upd H l (.lst ys))
theorem vc_list : VC W G (rListOf G.K) gList := by
  intro F Bs fps Hs B fp S σ H vs xs Q E R ra h
  unfold gList at h
  split at h
  · rename_i v
    obtain ⟨x, r, rfl, rx, rfl⟩ := ra
    split at h
    · rename_i us c
      obtain ⟨a, ys, rfl, hq, hr⟩ := seqOf_ok R c rx
      exact ⟨a, ys, rfl, hq, fun l n => h.newLF E R hr n⟩
    · exact h.elim
  · exact h.elim
def gTuple : List RV → MS → ER RV
  | [.fz (.tup us)], S => .ok (.fz (.tup us)) S
  | [v], S => match items v S with
    | some vs => .ok (.fz (.tup vs)) S
    | none => .stuck
  | _, _ => .stuck
abbrev rTupleOf (K : PySem.W.Frag) : List V → Hp → VK → Prop := fun xs H Q => ∃ p ys, xs = [.ref p] ∧ ((SqL K H p ys ∧ ∀ l, H l = none → Q (.ref l) (upd H l (.tup ys))) ∨ (SqT K H p ys ∧ Q (.ref p) H))
theorem vc_tuple : VC W G (rTupleOf G.K) gTuple := by
  intro F Bs fps Hs B fp S σ H vs xs Q E R ra h
  unfold gTuple at h
  split at h
  · rename_i us
    obtain ⟨x, r, rfl, rx, rfl⟩ := ra
    have r1 := of_fz rx
    have r2 := r1
    unfold FRep at r2
    obtain ⟨a, ys, rfl, e2, e3⟩ := r2
    exact ⟨a, ys, rfl, .inr ⟨SqT.of e2, h.val (R := rX G) E R (rX_fz r1)⟩⟩
  · rename_i v _
    obtain ⟨x, r, rfl, rx, rfl⟩ := ra
    split at h
    · rename_i us c
      obtain ⟨a, ys, rfl, hq, hr⟩ := items_ok R c rx
      exact ⟨a, ys, rfl, .inl ⟨hq, fun l n => h.newT E R hr n⟩⟩
    · exact h.elim
  · exact h.elim
/-- ints of a list -/
def intsOf : List FV → Option (List Int)
  | [] => some []
  | .int i :: vs => match intsOf vs with
    | some ns => some (i :: ns)
    | none => none
  | _ :: _ => none
theorem intsOf_ok {B : Addr → Prop} {H : Hp} : ∀ {vs : List FV} {ns : List Int} {xs : List V}, intsOf vs = some ns → FReps G B H vs xs → xs = ns.map V.int
  | [], ns, xs, h, r => by cases h; unfold FReps at r; exact r
  | .int i :: vs, ns, xs, h, r => by
    unfold intsOf at h
    cases e : intsOf vs with
    | none => rw [e] at h; cases h
    | some ms =>
      rw [e] at h
      cases h
      unfold FReps at r
      obtain ⟨y, s, rfl, r1, r2⟩ := r
      unfold FRep at r1
      rw [r1, intsOf_ok e r2]
      rfl
  | .non :: vs, ns, xs, h, r => by cases h
  | .bl _ :: vs, ns, xs, h, r => by cases h
  | .str _ :: vs, ns, xs, h, r => by cases h
  | .tup _ :: vs, ns, xs, h, r => by cases h
  | .lst _ :: vs, ns, xs, h, r => by cases h
  | .obj _ _ :: vs, ns, xs, h, r => by cases h
  | .dic :: vs, ns, xs, h, r => by cases h
def itemsI (v : RV) (S : MS) : Option (List Int) := match items v S with
  | some vs => intsOf vs
  | none => none
theorem itemsI_ok {F : Fc} {Hs : Hp} {B : Addr → Prop} {fp : Nat → List Addr} {S : MS} {σ : St} {H : Hp} {v : RV} {x : V} {ns : List Int} (R : SR G F B fp S σ H) (h : itemsI v S = some ns) (r : rX G F Hs B fp S σ H v x) : ∃ a, x = .ref a ∧ SqL G.K H a (ns.map V.int) := by
  unfold itemsI at h
  split at h
  · rename_i vs e
    obtain ⟨a, xs, e1, e2, e3⟩ := items_ok R e r
    rw [intsOf_ok h e3] at e2
    exact ⟨a, e1, e2⟩
  · cases h
def gSum : List RV → MS → ER RV
  | [v], S => match itemsI v S with
    | some ns => .ok (.fz (.int ns.sum)) S
    | none => .stuck
  | _, _ => .stuck
theorem vc_sum : VC W G (rSum G.K) gSum := by
  intro F Bs fps Hs B fp S σ H vs xs Q E R ra h
  unfold gSum at h
  split at h
  · obtain ⟨x, r, rfl, rx, rfl⟩ := ra
    split at h
    · rename_i ns c
      obtain ⟨a, rfl, hq⟩ := itemsI_ok R c rx
      exact ⟨a, ns, rfl, hq, h.val (R := rX G) E R (rX_fz fr_int)⟩
    · exact h.elim
  · exact h.elim
def maxL : List Int → Int
  | [] => 0
  | [a] => a
  | a :: b :: r => max a (maxL (b :: r))
def minL : List Int → Int
  | [] => 0
  | [a] => a
  | a :: b :: r => min a (minL (b :: r))
theorem maxL_ge : ∀ {l : List Int} {y : Int}, y ∈ l → y ≤ maxL l
  | [a], y, h => by simp at h; subst h; exact Int.le_refl _
  | a :: b :: r, y, h => by
    rcases List.mem_cons.mp h with rfl | h
    · exact Int.le_max_left ..
    · exact Int.le_trans (maxL_ge h) (Int.le_max_right ..)
theorem maxL_mem : ∀ {l : List Int}, 0 < l.length → maxL l ∈ l
  | [a], _ => List.mem_cons_self
  | a :: b :: r, _ => by
    have ih := maxL_mem (l := b :: r) (by simp)
    show max a (maxL (b :: r)) ∈ _
    rw [Int.max_def]
    split
    · exact List.mem_cons_of_mem _ ih
    · exact List.mem_cons_self
theorem minL_le : ∀ {l : List Int} {y : Int}, y ∈ l → minL l ≤ y
  | [a], y, h => by simp at h; subst h; exact Int.le_refl _
  | a :: b :: r, y, h => by
    rcases List.mem_cons.mp h with rfl | h
    · exact Int.min_le_left ..
    · exact Int.le_trans (Int.min_le_right ..) (minL_le h)
theorem minL_mem : ∀ {l : List Int}, 0 < l.length → minL l ∈ l
  | [a], _ => List.mem_cons_self
  | a :: b :: r, _ => by
    have ih := minL_mem (l := b :: r) (by simp)
    show min a (minL (b :: r)) ∈ _
    rw [Int.min_def]
    split
    · exact List.mem_cons_self
    · exact List.mem_cons_of_mem _ ih
def gMax : List RV → MS → ER RV
  | [v], S => match itemsI v S with
    | some ns => if 0 < ns.length then .ok (.fz (.int (maxL ns))) S else .stuck
    | none => .stuck
  | [.fz (.int i), .fz (.int j)], S => .ok (.fz (.int (max i j))) S
  | _, _ => .stuck
def gMin : List RV → MS → ER RV
  | [v], S => match itemsI v S with
    | some ns => if 0 < ns.length then .ok (.fz (.int (minL ns))) S else .stuck
    | none => .stuck
  | [.fz (.int i), .fz (.int j)], S => .ok (.fz (.int (min i j))) S
  | _, _ => .stuck
abbrev rMaxx (K : PySem.W.Frag) : List V → Hp → VK → Prop := fun xs H Q => rMax K xs H Q ∨ ∃ i j, xs = [.int i, .int j] ∧ Q (.int (if j > i then j else i)) H
abbrev rMinx (K : PySem.W.Frag) : List V → Hp → VK → Prop := fun xs H Q => rMin K xs H Q ∨ ∃ i j, xs = [.int i, .int j] ∧ Q (.int (if j < i then j else i)) H
theorem call_maxx (hc : X.calm = true) : CallR X (.builtin "max") (rMaxx X.K) := (cr_max hc).or (call_max2 hc)
theorem call_minx (hc : X.calm = true) : CallR X (.builtin "min") (rMinx X.K) := (cr_min hc).or (call_min2 hc)
theorem vc_max : VC W G (rMaxx G.K) gMax := by
  intro F Bs fps Hs B fp S σ H vs xs Q E R ra h
  unfold gMax at h
  split at h
  · obtain ⟨x, r, rfl, rx, rfl⟩ := ra
    split at h
    · rename_i ns c
      split at h
      · rename_i hp
        obtain ⟨a, rfl, hq⟩ := itemsI_ok R c rx
        refine .inl ⟨a, ns, rfl, hq, hp, fun m hm hle => ?_⟩
        have e : m = maxL ns := Int.le_antisymm (maxL_ge hm) (hle _ (maxL_mem hp))
        rw [e]
        exact h.val (R := rX G) E R (rX_fz fr_int)
      · exact h.elim
    · exact h.elim
  · rename_i i j
    obtain ⟨x, r, rfl, rx, y, r', rfl, ry, rfl⟩ := ra
    refine .inr ⟨i, j, by rw [fz_int rx, fz_int ry], ?_⟩
    have e : (if j > i then j else i) = max i j := by rw [Int.max_def]; split <;> split <;> omega
    rw [e]
    exact h.val (R := rX G) E R (rX_fz fr_int)
  · exact h.elim
theorem vc_min : VC W G (rMinx G.K) gMin := by
  intro F Bs fps Hs B fp S σ H vs xs Q E R ra h
  unfold gMin at h
  split at h
  · obtain ⟨x, r, rfl, rx, rfl⟩ := ra
    split at h
    · rename_i ns c
      split at h
      · rename_i hp
        obtain ⟨a, rfl, hq⟩ := itemsI_ok R c rx
        refine .inl ⟨a, ns, rfl, hq, hp, fun m hm hle => ?_⟩
        have e : m = minL ns := Int.le_antisymm (hle _ (minL_mem hp)) (minL_le hm)
        rw [e]
        exact h.val (R := rX G) E R (rX_fz fr_int)
      · exact h.elim
    · exact h.elim
  · rename_i i j
    obtain ⟨x, r, rfl, rx, y, r', rfl, ry, rfl⟩ := ra
    refine .inr ⟨i, j, by rw [fz_int rx, fz_int ry], ?_⟩
    have e : (if j < i then j else i) = min i j := by rw [Int.min_def]; split <;> split <;> omega
    rw [e]
    exact h.val (R := rX G) E R (rX_fz fr_int)
  · exact h.elim
def gAbs : List RV → MS → ER RV
  | [.fz (.int i)], S => .ok (.fz (.int (if i < 0 then -i else i))) S
  | _, _ => .stuck
abbrev rAbs : List V → Hp → VK → Prop := fun xs H Q => ∃ i, xs = [.int i] ∧ Q (.int (if i < 0 then -i else i)) H
theorem vc_abs : VC W G rAbs gAbs := by
  intro F Bs fps Hs B fp S σ H vs xs Q E R ra h
  unfold gAbs at h
  split at h
  · obtain ⟨x, r, rfl, rx, rfl⟩ := ra
    exact ⟨_, by rw [fz_int rx], h.val (R := rX G) E R (rX_fz fr_int)⟩
  · exact h.elim
def gInt : List RV → MS → ER RV
  | [.fz (.int i)], S => .ok (.fz (.int i)) S
  | [.fz (.bl k)], S => .ok (.fz (.int (if k then 1 else 0))) S
  | _, _ => .stuck
abbrev rIntOf : List V → Hp → VK → Prop := fun xs H Q => (∃ i, xs = [.int i] ∧ Q (.int i) H) ∨ ∃ k, xs = [.bl k] ∧ Q (.int (if k then 1 else 0)) H
theorem vc_int : VC W G rIntOf gInt := by
  intro F Bs fps Hs B fp S σ H vs xs Q E R ra h
  unfold gInt at h
  split at h
  · obtain ⟨x, r, rfl, rx, rfl⟩ := ra
    exact .inl ⟨_, by rw [fz_int rx], h.val (R := rX G) E R (rX_fz fr_int)⟩
  · obtain ⟨x, r, rfl, rx, rfl⟩ := ra
    have r1 := of_fz rx
    unfold FRep at r1
    exact .inr ⟨_, by rw [r1], h.val (R := rX G) E R (rX_fz fr_int)⟩
  · exact h.elim
end
end TL
set_option Elab.async false
set_option linter.all false
set_option maxRecDepth 100000
set_option maxHeartbeats 2000000
namespace TL
open PySem PySem.Spec PyProof.Rows L2
/-! ### statements -/
inductive Out where
  | nx (S : MS) | rt (v : RV) (S : MS) | bk (S : MS) | ct (S : MS) | err (e : EV) (S : MS) | stuck
abbrev MSt := MS → Out
def ER.thn {α : Type} : ER α → (α → MS → Out) → Out
  | .ok a S, k => k a S
  | .err e S, _ => .err e S
  | .stuck, _ => .stuck
def Out.seq : Out → MSt → Out
  | .nx S, k => k S
  | .rt v S, _ => .rt v S
  | .bk S, _ => .bk S
  | .ct S, _ => .ct S
  | .err e S, _ => .err e S
  | .stuck, _ => .stuck
def PostS (W : WX) (G : GT) (F : Fc) (D : Ends) : Out → Prop
  | .nx S' => ∀ B' fp' σ' H', SR G F B' fp' S' σ' H' → D.nx σ' H'
  | .rt v S' => ∀ B' fp' σ' H' x f, SR G F B' fp' S' σ' H' → RVR G F B' fp' S' σ' H' v x f → D.rt x H'
  | .bk S' => ∀ B' fp' σ' H', SR G F B' fp' S' σ' H' → D.bk σ' H'
  | .ct S' => ∀ B' fp' σ' H', SR G F B' fp' S' σ' H' → D.ct σ' H'
  | .err e S' => ∀ B' fp' σ' H' c d, SR G F B' fp' S' σ' H' → XRep G B' H' e c d → W c d σ' H'
  | .stuck => False
def tS (W : WX) (G : GT) (m : MSt) : TS := fun D σ H => ∃ F B fp S, SR G F B fp S σ H ∧ PostS W G F D (m S)
abbrev JS (W : WX) (G : GT) (X : Cx) (st : Stmt) (m : MSt) : Prop := PS X st (tS W G m)
abbrev JB (W : WX) (G : GT) (X : Cx) (sts : List Stmt) (m : MSt) : Prop := PSs X sts (tS W G m)
theorem PS.impI {X : Cx} {st : Stmt} {t t' : TS} (h : PS X st t) (k : ∀ D σ H, σ.length = X.N.length → t' D σ H → t D σ H) : PS X st t' := ⟨fun pins s σ H D I q => h.run pins s σ H D I (k D σ H I.len q)⟩
section
variable {W : WX} {G : GT} {F : Fc} {B B' : Addr → Prop} {fp fp' : Nat → List Addr} {S S' : MS} {σ : St} {H H' : Hp} {D : Ends} {α β : Type}
theorem Post.thn {r : ER α} {k : α → MS → Out} (h : PostS W G F D (r.thn k)) : Post W G F B fp σ H r fun v S' _ _ _ => PostS W G F D (k v S') := by
  cases r with
  | ok v S1 => exact fun _ _ _ _ _ => h
  | err e S1 => exact fun B1 fp1 H1 c d _ R1 x => h B1 fp1 σ H1 c d R1 x
  | stuck => exact h
/-- an expression, then more of the statement -/
theorem tS.expr {R2 : Rel α β} {ma : M α} {k : α → MS → Out} {r : β → Hp → Prop} (h : tS W G (fun S => (ma S).thn k) D σ H)
    (hk : ∀ F B fp S a S' B' fp' H' x, SR G F B fp S σ H → Eff F B fp H B' fp' H' → SR G F B' fp' S' σ H' → R2 F H B' fp' S' σ H' a x → PostS W G F D (k a S') → r x H') : tG W G R2 ma σ H r := by
  obtain ⟨F, B, fp, S, R, h⟩ := h
  exact ⟨F, B, fp, S, R, (Post.thn h).imp fun a S1 B1 fp1 H1 E1 R1 q x rx => hk F B fp S a S1 B1 fp1 H1 x R E1 R1 rx q⟩
end
section
variable {W : WX} {G : GT} {X : Cx} {e o i : Expr} {m mo mi : M RV} {ms n : MSt} {st : Stmt} {rest : List Stmt} {pos : Pos}
def sNil : MSt := fun S => .nx S
def sSeq (m n : MSt) : MSt := fun S => (m S).seq n
theorem jb_nil : JB W G X [] sNil := PSs.imp pss_nil fun D σ H ⟨F, B, fp, S, R, h⟩ => h B fp σ H R
theorem jb_cons (h1 : JS W G X st ms) (h2 : JB W G X rest n) : JB W G X (st :: rest) (sSeq ms n) :=
  PSs.imp (pss_cons h1 h2) fun D σ H ⟨F, B, fp, S, R, h⟩ => by
    refine ⟨F, B, fp, S, R, ?_⟩
    unfold sSeq at h
    cases e : ms S with
    | nx S1 =>
      rw [e] at h
      exact fun B1 fp1 σ1 H1 R1 => ⟨F, B1, fp1, S1, R1, h⟩
    | _ => rw [e] at h; exact h
theorem jb_one (h1 : JS W G X st ms) : JB W G X [st] ms := pss_one h1
def sPass : MSt := fun S => .nx S
def sBreak : MSt := fun S => .bk S
def sCont : MSt := fun S => .ct S
theorem js_pass : JS W G X (.Pass pos) sPass := PS.imp ps_pass fun D σ H ⟨F, B, fp, S, R, h⟩ => h B fp σ H R
theorem js_break : JS W G X (.Break pos) sBreak := PS.imp ps_break fun D σ H ⟨F, B, fp, S, R, h⟩ => h B fp σ H R
theorem js_cont : JS W G X (.Continue pos) sCont := PS.imp ps_continue fun D σ H ⟨F, B, fp, S, R, h⟩ => h B fp σ H R
/-- name = e -/
def sSet (i : Nat) (m : M RV) : MSt := fun S => (m S).thn fun v S1 => match S1.bind i v with
  | some S2 => .nx S2
  | none => .stuck
theorem bind_step {F : Fc} {B' : Addr → Prop} {fp' : Nat → List Addr} {S' : MS} {σ : St} {H' : Hp} {D : Ends} {i : Nat} {v : RV} {x : V} {Hs : Hp} (hi : i < σ.length) (R : SR G F B' fp' S' σ H') (r : rX G F Hs B' fp' S' σ H' v x)
    (h : PostS W G F D (match S'.bind i v with | some S2 => Out.nx S2 | none => .stuck)) : D.nx (σ.set i (some x)) H' := by
  obtain ⟨f, r, _⟩ := r
  cases e : S'.bind i v with
  | none => rw [e] at h; exact h.elim
  | some S2 =>
    rw [e] at h
    obtain ⟨fp2, R2⟩ := R.assign (by rw [← R.len]; exact hi) r e
    exact h _ _ _ _ R2
theorem js_set {k : Nat} {x : Str} {pos' : Pos} (hN : X.N.Nodup) (hi : X.N[k]? = some x) (hx : Loc X.env.scope x) (he : JX W G X e m) (hs : swapsWith e (some (.Name x pos')) pos.line X.env = pure false := by rfl) (hf : X.fn x = true ∨ X.env.scope.names.lookup x = some .local := by first | exact .inl rfl | exact .inr rfl | assumption) :
    JS W G X (.Assign [.Name x pos'] e pos) (sSet k m) :=
  PS.impI (ps_set hN hi hx he hs hf) fun D σ H hl h => tS.expr h fun F B fp S a S' B' fp' H' x R E R1 rx q => bind_step (by rw [hl]; exact (List.getElem?_eq_some_iff.mp hi).1) R1 rx q
/-- an expression whose value is dropped -/
def sExpr (m : M RV) : MSt := fun S => (m S).thn fun _ S1 => .nx S1
theorem js_expr (he : JX W G X e m) (hs : swapsWith e none pos.line X.env = pure false := by rfl) : JS W G X (.Expr e pos) (sExpr m) :=
  PS.imp (ps_expr he hs) fun D σ H h => tS.expr h fun F B fp S a S' B' fp' H' x R E R1 rx q => q _ _ _ _ R1
def sRet (m : M RV) : MSt := fun S => (m S).thn fun v S1 => .rt v S1
def sRetN : MSt := fun S => .rt (.fz .non) S
theorem js_ret (he : JX W G X e m) : JS W G X (.Return (some e) pos) (sRet m) :=
  PS.imp (ps_ret he) fun D σ H h => tS.expr h fun F B fp S a S' B' fp' H' x R E R1 ⟨f, rx, _⟩ q => q _ _ _ _ _ f R1 rx
theorem js_retN : JS W G X (.Return none pos) sRetN := PS.imp ps_retN fun D σ H ⟨F, B, fp, S, R, h⟩ => h B fp σ H .non [] R ⟨fr_non, rfl⟩
def sIf (t : M Bool) (m n : MSt) : MSt := fun S => (t S).thn fun b S1 => if b = true then m S1 else n S1
theorem js_if {c : Expr} {a b : List Stmt} {tc : M Bool} {u v : MSt} (hc : JT W G X c tc) (ha : JB W G X a u) (hb : JB W G X b v) : JS W G X (.If c a b pos) (sIf tc u v) :=
  PS.imp (ps_if hc ha hb) fun D σ H h => tS.expr (R2 := rB) h fun F B fp S k S' B' fp' H' x R E R1 rx q => by
    cases rx
    cases k with
    | true => rw [if_pos rfl] at q ⊢; exact ⟨F, B', fp', S', R1, q⟩
    | false => rw [if_neg Bool.false_ne_true] at q ⊢; exact ⟨F, B', fp', S', R1, q⟩
/-- name op= e -/
def sAug (i : Nat) (g : RV → RV → MS → ER RV) (m : M RV) : MSt := sSet i (m2 g (mVar i) m)
theorem js_aug {k : Nat} {x : Str} {op : Operator} {r : R2} {g : RV → RV → MS → ER RV} {pos' : Pos} (hN : X.N.Nodup) (hi : X.N[k]? = some x) (hx : Loc X.env.scope x) (ho : OpR X (inplaceOp op) r) (hg : V2 W G r g) (he : JX W G X e m)
    (hf : X.fn x = true ∨ X.env.scope.names.lookup x = some .local := by first | exact .inl rfl | exact .inr rfl | assumption) : JS W G X (.AugAssign (.Name x pos') op e pos) (sAug k g m) := by
  refine PS.impI (ps_aug (ti := r) hN hi hx he (fun pins s σ H x y v u Q I r1 r2 h => ho pins s σ H x y v u Q I r1 r2 h) hf) fun D σ H hl h => ?_
  have hk : k < σ.length := by rw [hl]; exact (List.getElem?_eq_some_iff.mp hi).1
  -- the name's value first
  obtain ⟨F, B, fp, S, R, h⟩ := h
  have h2 : Post W G F B fp σ H (m2 g (mVar k) m S) fun v S' B' fp' H' => ∀ z, rX G F H B' fp' S' σ H' v z → D.nx (σ.set k (some z)) H' :=
    (Post.thn h).imp fun v S' B' fp' H' E1 R1 q z rz => bind_step hk R1 rz q
  unfold m2 at h2
  have nm : ∃ x va, σ[k]? = some (some x) ∧ mVar k S = .ok va S ∧ rX G F H B fp S σ H va x := by
    cases e : S.sl[k]? with
    | none => simp only [mVar, e] at h2; exact h2.elim
    | some s =>
      have q := R.sl k s e
      cases s with
      | fz v => obtain ⟨_, x, q1, q2⟩ := q; exact ⟨x, .fz v, q1, by simp only [mVar, e], rX_fz q2⟩
      | own ts => obtain ⟨x, q1, q2⟩ := q; exact ⟨x, .pl k [], q1, by simp only [mVar, e], [], ⟨⟨x, q1, rfl⟩, rfl⟩, fun _ z => by cases z⟩
      | al j p =>
        obtain ⟨_, x, r, q1, q2, q3⟩ := q
        have q4 : AtP H (fun a => F.ad ≠ some a) r p x := AtP.mono (fun a xs pa ha => ⟨fun z => (R.notBad z).2.1 j pa, ha⟩) q3
        cases e2 : S.at j p with
        | none => simp only [mVar, e, e2] at h2; exact h2.elim
        | some t =>
          cases t with
          | own ts => exact ⟨x, .pl j p, q1, by simp only [mVar, e, e2], [], ⟨⟨r, q2, q4⟩, rfl⟩, fun _ z => by cases z⟩
          | fz v =>
            obtain ⟨_, g, _, _, _, ho, _⟩ := R.place e2 q2 q3
            unfold ORep at ho
            exact ⟨x, .fz v, q1, by simp only [mVar, e, e2], rX_fz ho.1⟩
      | dr => obtain ⟨_, a, q1, q2⟩ := q; exact ⟨_, .dr, q2, by simp only [mVar, e], [], ⟨⟨a, q1, rfl⟩, rfl⟩, fun _ z => by cases z⟩
      | scr ns => obtain ⟨_, a, q1, q2⟩ := q; exact ⟨_, .scr ns, q1, by simp only [mVar, e], [], ⟨⟨a, rfl, q2⟩, rfl⟩, fun _ z => by cases z⟩
      | _ => simp only [mVar, e] at h2; exact h2.elim
  obtain ⟨x0, va, q1, q2, q3⟩ := nm
  rw [q2] at h2
  replace h2 : Post W G F B fp σ H ((m S).bind fun b S2 => g va b S2) _ := h2
  refine ⟨x0, q1, F, B, fp, S, R, (Post.shift h2 Eff.refl).imp fun b S1 B1 fp1 H1 _ R1 ⟨E1, h3⟩ y ry => ?_⟩
  exact hg F B fp H B1 fp1 S1 σ H1 va b x0 y _ E1 R1 (rX.keep R E1 q3) ry h3
/-- what an item becomes: moved, or frozen -/
theorem toO_ok {F : Fc} {Bs B : Addr → Prop} {fps fp : Nat → List Addr} {S : MS} {σ : St} {Hs H : Hp} {v : RV} {x : V} {D : Ends} {k : OT → MS → Out} (E : Eff F Bs fps Hs B fp H) (R : SR G F B fp S σ H) (r : rX G F Hs B fp S σ H v x) (p : PostS W G F D ((toO v S).thn k)) :
    ∃ t S2 B2 fp2 f, toO v S = .ok t S2 ∧ Eff F Bs fps Hs B2 fp2 H ∧ Eff F B fp H B2 fp2 H ∧ SR G F B2 fp2 S2 σ H ∧ ORep G B2 H t x f ∧ f.Nodup ∧ (∀ a ∈ f, ¬ B2 a ∧ F.H0 a = none ∧ ∀ i, a ∉ fp2 i) ∧ (∀ a ∈ f, Hs a = none) ∧ PostS W G F D (k t S2) := by
  obtain ⟨f, r, hf⟩ := r
  cases v with
  | fz v => exact ⟨.fz v, S, B, fp, [], rfl, E, Eff.refl, R, by unfold ORep; exact ⟨r.1, rfl⟩, List.nodup_nil, fun _ z => (by cases z), fun _ z => (by cases z), p⟩
  | tmp ts => exact ⟨.own ts, S, B, fp, f, rfl, E, Eff.refl, R, r.1, r.2.1, r.2.2, hf, p⟩
  | pl j q =>
    obtain ⟨⟨r0, h1, h2⟩, _⟩ := r
    cases e : S.at j q with
    | none => simp only [toO, e] at p; exact p.elim
    | some u =>
      obtain ⟨B2, fp2, R2, E2, fr⟩ := R.frzAt e h1 h2
      simp only [toO, e] at p
      exact ⟨.fz u.frz, S.frz j q u.frz, B2, fp2, [], by simp only [toO, e], E.trans E2, E2, R2, by unfold ORep; exact ⟨fr, rfl⟩, List.nodup_nil, fun _ z => (by cases z), fun _ z => (by cases z), p⟩
  | dr => exact p.elim
  | scr ns => exact p.elim
/-- o[i] = e: e first -/
def setAt (t : OT) (o i : RV) (S : MS) : Out := match o, i with
  | .pl j p, .fz (.int k) => match S.at j p with
    | some (.own us) => match ixN us.length k with
      | some n => .nx (S.put j p (.own (us.set n t)))
      | none => .stuck
    | _ => .stuck
  | _, _ => .stuck
def sSub (mo mi me : M RV) : MSt := fun S => (me S).thn fun v S1 => (toO v S1).thn fun t S2 => (mo S2).thn fun o S3 => (mi S3).thn fun i S4 => setAt t o i S4
theorem put_step {F : Fc} {B : Addr → Prop} {fp : Nat → List Addr} {S : MS} {σ : St} {H : Hp} {t : OT} {j : Nat} {p : List Nat} {us : List OT} {n : Nat} {x y r0 : V} {f : List Addr} (R : SR G F B fp S σ H) (hat : S.at j p = some (.own us)) (h1 : σ[j]? = some (some r0)) (h2 : AtP H (fun a => F.ad ≠ some a) r0 p y)
    (hn : n < us.length) (ht : ORep G B H t x f) (nd : f.Nodup) (hf : ∀ a ∈ f, ¬ B a ∧ F.H0 a = none ∧ ∀ i, a ∉ fp i) :
    ∃ a xs, y = .ref a ∧ H a = some (.lst xs) ∧ xs.length = us.length ∧ ∃ fp', SR G F B fp' (S.put j p (.own (us.set n t))) σ (upd H a (.lst (xs.set n x))) := by
  obtain ⟨_, g, _, _, _, ho, hnd, hin, h2'⟩ := R.place hat h1 h2
  unfold ORep at ho
  obtain ⟨a, xs, gs, rfl, e2, hs, rfl⟩ := ho
  refine ⟨a, xs, rfl, e2, hs.len.symm, ?_⟩
  obtain ⟨z, f1, g1, f2, s1, s2, rfl, s4⟩ := hs.split (k := n) (u := us[n]) (by simp [hn])
  have lst := ORep.lst _ _ _ ht
  have aB := (R.nb j a (hin a List.mem_cons_self)).1
  have anf : a ∉ f := fun w => (hf a w).2.2 j (hin a List.mem_cons_self)
  have ne : ∀ b ∈ f1 ++ g1 ++ f2, b ≠ a := fun b hb w => (List.nodup_cons.mp hnd).1 (by rw [← w]; exact hb)
  have kF : ∀ b o, H b = some o → (mutO o → B b) → upd H a (.lst (xs.set n x)) b = some o := fun b o e w => by
    by_cases hb : b = a
    · rw [hb, e2] at e
      cases e
      exact absurd (hb ▸ w trivial) aB
    · rw [upd_ne hb]; exact e
  have ht' : ORep G B (upd H a (.lst (xs.set n x))) t x f := ORep.keep kF (fun _ w => w) t x f (fun b hb => upd_ne fun w => anf (w ▸ hb)) ht
  have hs' := s4 B (upd H a (.lst (xs.set n x))) t f x kF (fun _ w => w) (fun b hb => upd_ne (ne b (by rcases List.mem_append.mp hb with w | w <;> simp [w]))) ht'
  have nd1 := (List.nodup_cons.mp hnd).2
  rw [List.append_assoc] at nd1
  obtain ⟨n1, n2, n3⟩ := List.nodup_append.mp nd1
  obtain ⟨m1, m2, m3⟩ := List.nodup_append.mp n2
  have inj : ∀ b, b ∈ f1 ∨ b ∈ f2 → b ∈ fp j := fun b hb => hin b (by rcases hb with w | w <;> simp [w])
  obtain ⟨fp', R', _⟩ := R.putL hat h1 h2 e2 hs hs' (by
    rw [List.append_assoc]
    refine List.nodup_append.mpr ⟨n1, List.nodup_append.mpr ⟨nd, m2, fun b hb c hc w => ?_⟩, fun b hb c hc w => ?_⟩
    · subst w; exact (hf b hb).2.2 j (inj b (.inr hc))
    · subst w
      rcases List.mem_append.mp hc with w | w
      · exact (hf b w).2.2 j (inj b (.inl hb))
      · exact n3 b hb b (List.mem_append_right _ w) rfl) fun b hb => by
    rcases List.mem_append.mp hb with w | w
    · rcases List.mem_append.mp w with w | w
      · exact ⟨(R.nb j b (inj b (.inl w))).1, ne b (by simp [w]), .inl (by simp [w])⟩
      · exact ⟨(hf b w).1, fun z => anf (z ▸ w), .inr ⟨(hf b w).2.1, (hf b w).2.2⟩⟩
    · exact ⟨(R.nb j b (inj b (.inr w))).1, ne b (by simp [w]), .inl (by simp [w])⟩
  exact ⟨fp', R'⟩
theorem js_sub {tpos : Pos} (he : JX W G X e m) (ho : JX W G X o mo) (hi : JX W G X i mi) (hs : swapsWithSole [.Subscript o i tpos] e pos.line X.env = pure false := by rfl) (hw : swappedStores [.Subscript o i tpos] e X.env = pure none := by rfl)
    (h1 : (assignEach [.Subscript o i tpos] X.env).map (·.2) = [assign (.Subscript o i tpos) X.env] := by rfl)
    (ha : ∀ v, assign (.Subscript o i tpos) X.env v = (do
      let ov ← holding [v] (eval o X.env)
      let iv ← holding [v, ov] (eval i X.env)
      standAt tpos
      holding [v, ov, iv] (setItem ov iv v)
      release [v, ov, iv] []) := by intro _; rfl) : JS W G X (.Assign [.Subscript o i tpos] e pos) (sSub mo mi m) :=
  PS.imp (ps_asg he (pg_sub ho hi set_list ha) hs hw h1) fun D σ H h => tS.expr h fun F B fp S v S1 B1 fp1 H1 x R E R1 rx q => by
    obtain ⟨t, S2, B2, fp2, f, _, E2, E12, R2, ht, nd, hf, hh, qv⟩ := toO_ok E R1 rx q
    clear q
    have lst := ORep.lst _ _ _ ht
    show tG W G (rX G) mo σ H1 _
    refine ⟨F, B2, fp2, S2, R2, (Post.thn qv).imp fun ov S3 B3 fp3 H3 E3 R3 qo y ry => ⟨F, B3, fp3, S3, R3, (Post.thn qo).imp fun iv S4 B4 fp4 H4 E4 R4 q z rz => ?_⟩⟩
    obtain ⟨same, hf4⟩ := pend R2 (E3.trans E4) lst hf
    have ht4 : ORep G B4 H4 t x f := ORep.keep (R2.keepF (E3.trans E4)) (E3.trans E4).bm t x f same ht
    have ry4 : rX G F H1 B4 fp4 S4 σ H4 ov y := rX.keep R3 E4 ry
    clear qo qv
    unfold setAt at q
    split at q
    · rename_i j p k
      split at q
      · rename_i us hat
        split at q
        · rename_i n en
          obtain ⟨_, ⟨⟨r0, h1, h2⟩, _⟩, _⟩ := ry4
          obtain ⟨a, xs, rfl, e2, el, fp', R'⟩ := put_step R4 hat h1 h2 (ixN_seq en).2.1 ht4 nd hf4
          exact ⟨a, xs, k, n, rfl, fz_int rz, e2, by rw [el]; exact en, q _ _ _ _ R'⟩
        · exact q.elim
      · exact q.elim
    · exact q.elim
end
end TL
set_option Elab.async false
set_option linter.all false
set_option maxRecDepth 100000
set_option maxHeartbeats 2000000
namespace TL
open PySem PySem.Spec PyProof.Rows L2
section
variable {G : GT} {F : Fc} {B : Addr → Prop} {fp : Nat → List Addr} {S : MS} {σ : St} {H Hs : Hp}
/-- a list at a place, read -/
theorem place_list {j : Nat} {p : List Nat} {us : List OT} {y : V} (R : SR G F B fp S σ H) (hat : S.at j p = some (.own us)) (r : rX G F Hs B fp S σ H (.pl j p) y) :
    ∃ a xs gs r0, y = .ref a ∧ H a = some (.lst xs) ∧ OReps G B H us xs gs ∧ (a :: gs).Nodup ∧ (∀ b ∈ a :: gs, b ∈ fp j) ∧ σ[j]? = some (some r0) ∧ AtP H (fun a => F.ad ≠ some a) r0 p y := by
  obtain ⟨_, ⟨⟨r0, h1, h2⟩, _⟩, _⟩ := r
  obtain ⟨_, g, _, _, _, ho, hnd, hin, h2'⟩ := R.place hat h1 h2
  unfold ORep at ho
  obtain ⟨a, xs, gs, rfl, e2, hs, rfl⟩ := ho
  exact ⟨a, xs, gs, r0, rfl, e2, hs, hnd, hin, h1, h2⟩
/-- its items, all frozen, become others -/
theorem frz_put {j : Nat} {p : List Nat} {us : List OT} {y r0 : V} {a : Addr} {xs xs' : List V} {gs : List Addr} {vs : List FV} (R : SR G F B fp S σ H) (hat : S.at j p = some (.own us)) (hin : a ∈ fp j) (h1 : σ[j]? = some (some r0)) (h2 : AtP H (fun a => F.ad ≠ some a) r0 p (.ref a))
    (e2 : H a = some (.lst xs)) (hs : OReps G B H us xs gs) (hv : FReps G B H vs xs') : ∃ fp', SR G F B fp' (S.put j p (.own (vs.map OT.fz))) σ (upd H a (.lst xs')) := by
  have aB := (R.nb j a hin).1
  have kF : ∀ b o, H b = some o → (mutO o → B b) → upd H a (.lst xs') b = some o := fun b o e w => by
    by_cases hb : b = a
    · rw [hb, e2] at e
      cases e
      exact absurd (hb ▸ w trivial) aB
    · rw [upd_ne hb]; exact e
  obtain ⟨fp', R', _⟩ := R.putL hat h1 h2 e2 hs (FReps.keep kF (fun _ w => w) _ _ hv).ofz List.nodup_nil (fun b hb => by cases hb)
  exact ⟨fp', R'⟩
/-- an item more -/
theorem app_put {j : Nat} {p : List Nat} {us : List OT} {r0 x : V} {a : Addr} {xs : List V} {gs f : List Addr} {t : OT} (R : SR G F B fp S σ H) (hat : S.at j p = some (.own us)) (hnd : (a :: gs).Nodup) (hin : ∀ b ∈ a :: gs, b ∈ fp j) (h1 : σ[j]? = some (some r0)) (h2 : AtP H (fun a => F.ad ≠ some a) r0 p (.ref a))
    (e2 : H a = some (.lst xs)) (hs : OReps G B H us xs gs) (ht : ORep G B H t x f) (nd : f.Nodup) (hf : ∀ a ∈ f, ¬ B a ∧ F.H0 a = none ∧ ∀ i, a ∉ fp i) : ∃ fp', SR G F B fp' (S.put j p (.own (us ++ [t]))) σ (upd H a (.lst (xs ++ [x]))) := by
  have aB := (R.nb j a (hin a List.mem_cons_self)).1
  have anf : a ∉ f := fun w => (hf a w).2.2 j (hin a List.mem_cons_self)
  obtain ⟨nag, ng⟩ := List.nodup_cons.mp hnd
  have kF : ∀ b o, H b = some o → (mutO o → B b) → upd H a (.lst (xs ++ [x])) b = some o := fun b o e w => by
    by_cases hb : b = a
    · rw [hb, e2] at e
      cases e
      exact absurd (hb ▸ w trivial) aB
    · rw [upd_ne hb]; exact e
  have hs' := OReps.keep kF (fun _ w => w) us xs gs (fun b hb => upd_ne fun w => nag (w ▸ hb)) hs
  have ht' := ORep.keep kF (fun _ w => w) t x f (fun b hb => upd_ne fun w => anf (w ▸ hb)) ht
  have one : OReps G B (upd H a (.lst (xs ++ [x]))) [t] [x] f := by
    unfold OReps
    exact ⟨x, [], f, [], rfl, ht', by unfold OReps; exact ⟨rfl, rfl⟩, (List.append_nil f).symm⟩
  obtain ⟨fp', R', _⟩ := R.putL hat h1 h2 e2 hs (hs'.app one) (List.nodup_append.mpr ⟨ng, nd, fun b hb c hc w => by subst w; exact (hf b hc).2.2 j (hin b (List.mem_cons_of_mem _ hb))⟩) fun b hb => by
    rcases List.mem_append.mp hb with w | w
    · exact ⟨(R.nb j b (hin b (List.mem_cons_of_mem _ w))).1, fun z => nag (z ▸ w), .inl w⟩
    · exact ⟨(hf b w).1, fun z => anf (z ▸ w), .inr ⟨(hf b w).2.1, (hf b w).2.2⟩⟩
  exact ⟨fp', R'⟩
end
/-- the list at a place; and its items, all frozen -/
def listAt (v : RV) (S : MS) : Option (List OT) := match v with
  | .pl j p => match S.at j p with
    | some (.own us) => some us
    | _ => none
  | _ => none
def putAt (v : RV) (us : List OT) (S : MS) : MS := match v with
  | .pl j p => S.put j p (.own us)
  | _ => S
theorem listAt_ok {v : RV} {S : MS} {us : List OT} (h : listAt v S = some us) : ∃ j p, v = .pl j p ∧ S.at j p = some (.own us) := by
  unfold listAt at h
  split at h
  · split at h
    · cases h; exact ⟨_, _, rfl, by assumption⟩
    · cases h
  · cases h
section
variable {W : WX} {G : GT} {X : Cx} {e o i : Expr} {m mo mi : M RV} {pos apos cpos : Pos}
/-- o.append(e) -/
def sApp (mo m : M RV) : MSt := fun S => (mo S).thn fun o S1 => match listAt o S1 with
  | some _ => (m S1).thn fun v S2 => (toO v S2).thn fun t S3 => match listAt o S3 with
    | some us => if lineOk (us.length + 1) then .nx (putAt o (us ++ [t]) S3) else .stuck
    | none => .stuck
  | none => .stuck
theorem js_app (hK : X.K = G.K) (ho : JX W G X o mo) (he : JX W G X e m)
    (hbase : attributeBase o "append" X.env (eval o X.env) = eval o X.env := by rfl)
    (hfew : ((backTo cpos (starEach [e] X.env)).all (fun x => !x.1) && (backToKw cpos (keywordEach [] X.env)).all (fun x => x.1.isSome) && decide ([e].length + ([] : List Keyword).length + (if ([] : List Keyword).isEmpty then 0 else 1) < 30)) = true := by rfl)
    (hline : (apos.endLine == cpos.line) = true := by rfl) (hs : starEach [e] X.env = (false, eval e X.env) :: starEach [] X.env := by rfl) (hplain : (backTo cpos (starEach [] X.env)).any (·.1) = false := by rfl)
    (hsw : swapsWith (.Call (.Attribute o "append" apos) [e] [] cpos) none pos.line X.env = pure false := by rfl) : JS W G X (.Expr (.Call (.Attribute o "append" apos) [e] [] cpos) pos) (sApp mo m) :=
  PS.imp (ps_expr (pe_bm PySem.F.plainAttrs_list PySem.F.slot_list_append PySem.F.type_list_append mt_append ho (pa_cons he pa_nil hs) hbase hfew hline hs hplain) hsw) fun D σ H h => by
    show tG W G (rX G) mo σ H _
    refine tS.expr h fun F B fp S ov S1 B1 fp1 H1 x R E R1 rx q => ?_
    cases e1 : listAt ov S1 with
    | none => rw [e1] at q; exact q.elim
    | some us1 =>
      rw [e1] at q
      obtain ⟨j, p, rfl, hat1⟩ := listAt_ok e1
      obtain ⟨a1, xs1, _, _, rfl, e21, _⟩ := place_list R1 hat1 rx
      refine ⟨by rw [hK]; exact .inl ⟨rfl, xs1, SqL.of e21⟩, ?_⟩
      refine ⟨F, B1, fp1, S1, R1, (Post.thn q).imp fun v S2 B2 fp2 H2 E2 R2 qv y ry => ?_⟩
      obtain ⟨t, S3, B3, fp3, f, _, E3, E23, R3, ht, nd, hf, hh, q3⟩ := toO_ok E2 R2 ry qv
      have ro := rX.keep (S' := S3) R1 E3 rx
      cases e3 : listAt (.pl j p) S3 with
      | none => simp only [e3] at q3; exact q3.elim
      | some us =>
        simp only [e3] at q3
        obtain ⟨j', p', ej, hat⟩ := listAt_ok e3
        cases ej
        obtain ⟨a, xs, gs, r0, ea, e2, hs2, hnd, hin, h1, h2⟩ := place_list R3 hat ro
        cases ea
        split at q3
        · rename_i c
          obtain ⟨fp', R'⟩ := app_put R3 hat hnd hin h1 h2 e2 hs2 ht nd hf
          refine ⟨_, xs, y, rfl, rfl, e2, ?_, q3 _ _ _ _ R'⟩
          have := lineOk_of c
          rw [hs2.len] at this
          exact this
        · exact q3.elim
/-- o.extend(e) -/
def sExt (mo m : M RV) : MSt := fun S => (mo S).thn fun o S1 => match listAt o S1 with
  | some _ => (m S1).thn fun v S2 => match listAt o S2, items v S2 with
    | some us, some ws => match allFz us with
      | some vs => if lineOk (vs.length + ws.length) && noScr v then .nx (putAt o ((vs ++ ws).map OT.fz) S2) else .stuck
      | none => .stuck
    | _, _ => .stuck
  | none => .stuck
theorem js_ext (hK : X.K = G.K) (ho : JX W G X o mo) (he : JX W G X e m)
    (hbase : attributeBase o "extend" X.env (eval o X.env) = eval o X.env := by rfl)
    (hfew : ((backTo cpos (starEach [e] X.env)).all (fun x => !x.1) && (backToKw cpos (keywordEach [] X.env)).all (fun x => x.1.isSome) && decide ([e].length + ([] : List Keyword).length + (if ([] : List Keyword).isEmpty then 0 else 1) < 30)) = true := by rfl)
    (hline : (apos.endLine == cpos.line) = true := by rfl) (hs : starEach [e] X.env = (false, eval e X.env) :: starEach [] X.env := by rfl) (hplain : (backTo cpos (starEach [] X.env)).any (·.1) = false := by rfl)
    (hsw : swapsWith (.Call (.Attribute o "extend" apos) [e] [] cpos) none pos.line X.env = pure false := by rfl) : JS W G X (.Expr (.Call (.Attribute o "extend" apos) [e] [] cpos) pos) (sExt mo m) :=
  PS.imp (ps_expr (pe_bm PySem.F.plainAttrs_list PySem.F.slot_list_extend PySem.F.type_list_extend mt_extend ho (pa_cons he pa_nil hs) hbase hfew hline hs hplain) hsw) fun D σ H h => by
    show tG W G (rX G) mo σ H _
    refine tS.expr h fun F B fp S ov S1 B1 fp1 H1 x R E R1 rx q => ?_
    cases e1 : listAt ov S1 with
    | none => rw [e1] at q; exact q.elim
    | some us1 =>
      rw [e1] at q
      obtain ⟨j, p, rfl, hat1⟩ := listAt_ok e1
      obtain ⟨a1, xs1, _, _, rfl, e21, _⟩ := place_list R1 hat1 rx
      refine ⟨by rw [hK]; exact .inl ⟨rfl, xs1, SqL.of e21⟩, ?_⟩
      refine ⟨F, B1, fp1, S1, R1, (Post.thn q).imp fun v S2 B2 fp2 H2 E2 R2 qv y ry => ?_⟩
      have ro := rX.keep (S' := S2) R1 E2 rx
      split at qv
      · rename_i us ws e3 e4
        split at qv
        · rename_i vs e5
          split at qv
          · rename_i c
            rw [Bool.and_eq_true] at c
            obtain ⟨j', p', ej, hat⟩ := listAt_ok e3
            cases ej
            obtain ⟨a, xs, gs, r0, ea, e2, hs2, hnd, hin, h1, h2⟩ := place_list R2 hat ro
            cases ea
            obtain ⟨b, zs, rfl, eb, rb⟩ := raw_of R2 c.2 e4 ry
            have rv := allFz_ok e5 hs2
            obtain ⟨fp', R'⟩ := frz_put (y := V.non) R2 hat (hin _ List.mem_cons_self) h1 h2 e2 hs2 (rv.app rb)
            exact ⟨_, b, xs, zs, rfl, rfl, e2, eb, by rw [← rv.len, ← rb.len]; exact lineOk_of c.1, qv _ _ _ _ R'⟩
          · exact qv.elim
        · exact qv.elim
      · exact qv.elim
/-- o.reverse() -/
def sRev (mo : M RV) : MSt := fun S => (mo S).thn fun o S1 => match listAt o S1 with
  | some us => match allFz us with
    | some vs => .nx (putAt o (vs.reverse.map OT.fz) S1)
    | none => .stuck
  | none => .stuck
theorem FReps.rev {B : Addr → Prop} {H : Hp} : ∀ {ps : List FV} {xs : List V}, FReps G B H ps xs → FReps G B H ps.reverse xs.reverse
  | [], _, h => by unfold FReps at h; subst h; show FReps G B H [] []; unfold FReps; rfl
  | p :: ps, _, h => by
    unfold FReps at h
    obtain ⟨x, r, rfl, h1, h2⟩ := h
    rw [List.reverse_cons, List.reverse_cons]
    refine (FReps.rev h2).app ?_
    unfold FReps
    exact ⟨x, [], rfl, h1, by unfold FReps; rfl⟩
theorem js_rev (hK : X.K = G.K) (ho : JX W G X o mo) (hbase : attributeBase o "reverse" X.env (eval o X.env) = eval o X.env := by rfl) (hline : (apos.endLine == cpos.line) = true := by rfl)
    (hsw : swapsWith (.Call (.Attribute o "reverse" apos) [] [] cpos) none pos.line X.env = pure false := by rfl) : JS W G X (.Expr (.Call (.Attribute o "reverse" apos) [] [] cpos) pos) (sRev mo) :=
  PS.imp (ps_expr (pe_bm0 PySem.F.plainAttrs_list PySem.F.slot_list_reverse PySem.F.type_list_reverse mt_reverse ho hbase hline) hsw) fun D σ H h => by
    show tG W G (rX G) mo σ H _
    refine tS.expr h fun F B fp S ov S1 B1 fp1 H1 x R E R1 rx q => ?_
    split at q
    · rename_i us e1
      split at q
      · rename_i vs e5
        obtain ⟨j, p, rfl, hat⟩ := listAt_ok e1
        obtain ⟨a, xs, gs, r0, rfl, e2, hs2, hnd, hin, h1, h2⟩ := place_list R1 hat rx
        obtain ⟨fp', R'⟩ := frz_put (y := V.non) R1 hat (hin _ List.mem_cons_self) h1 h2 e2 hs2 (allFz_ok e5 hs2).rev
        exact ⟨by rw [hK]; exact .inl ⟨rfl, xs, SqL.of e2⟩, a, xs, rfl, rfl, e2, q _ _ _ _ R'⟩
      · exact q.elim
    · exact q.elim
theorem FReps.last {B : Addr → Prop} {H : Hp} {ps : List FV} {xs : List V} (h : FReps G B H ps xs) : FReps G B H ps.dropLast xs.dropLast := by
  induction ps generalizing xs with
  | nil => unfold FReps at h; subst h; show FReps G B H [] []; unfold FReps; rfl
  | cons p ps ih =>
    unfold FReps at h
    obtain ⟨x, r, rfl, h1, h2⟩ := h
    cases ps with
    | nil => unfold FReps at h2; subst h2; show FReps G B H [] []; unfold FReps; rfl
    | cons p2 ps2 =>
      have h3 := h2
      unfold FReps at h3
      obtain ⟨y, r2, rfl, _, _⟩ := h3
      rw [List.dropLast_cons₂, List.dropLast_cons₂]
      unfold FReps
      exact ⟨x, _, rfl, h1, ih h2⟩
/-- o.pop(), dropped (k = none) or stored -/
def sPop (k : Option Nat) (mo : M RV) : MSt := fun S => (mo S).thn fun o S1 => match listAt o S1 with
  | some us => match allFz us with
    | some vs => match vs[vs.length - 1]? with
      | some v => match k with
        | none => .nx (putAt o (vs.dropLast.map OT.fz) S1)
        | some i => match (putAt o (vs.dropLast.map OT.fz) S1).bind i (.fz v) with
          | some S2 => .nx S2
          | none => .stuck
      | none => .stuck
    | none => .stuck
  | none => .stuck
theorem pop_core {F : Fc} {B1 : Addr → Prop} {fp1 : Nat → List Addr} {S1 : MS} {σ : St} {Hs H1 : Hp} {ov : RV} {x : V} {D : Ends} {us : List OT} {vs : List FV} {v : FV} {N : V → Hp → Prop} (R1 : SR G F B1 fp1 S1 σ H1) (rx : rX G F Hs B1 fp1 S1 σ H1 ov x)
    (e1 : listAt ov S1 = some us) (e5 : allFz us = some vs) (e6 : vs[vs.length - 1]? = some v) (k : ∀ y H' fp', SR G F B1 fp' (putAt ov (vs.dropLast.map OT.fz) S1) σ H' → FRep G B1 H' v y → N y H') :
    tyV G.K "list" x H1 ∧ rPop x [] H1 N := by
  obtain ⟨j, p, rfl, hat⟩ := listAt_ok e1
  obtain ⟨a, xs, gs, r0, rfl, e2, hs2, hnd, hin, h1, h2⟩ := place_list R1 hat rx
  have rv := allFz_ok e5 hs2
  obtain ⟨y, e7, ry⟩ := rv.get e6
  obtain ⟨fp', R'⟩ := frz_put (y := V.non) R1 hat (hin _ List.mem_cons_self) h1 h2 e2 hs2 rv.last
  have aB := (R1.nb j a (hin a List.mem_cons_self)).1
  have kF : ∀ b o, H1 b = some o → (mutO o → B1 b) → upd H1 a (.lst xs.dropLast) b = some o := fun b o e w => by
    by_cases hb : b = a
    · rw [hb, e2] at e
      cases e
      exact absurd (hb ▸ w trivial) aB
    · rw [upd_ne hb]; exact e
  exact ⟨.inl ⟨rfl, xs, SqL.of e2⟩, a, xs, y, rfl, rfl, e2, by rw [← rv.len]; exact e7, k y _ fp' R' (FRep.keep kF (fun _ w => w) v y ry)⟩
theorem js_pop (hK : X.K = G.K) (ho : JX W G X o mo) (hbase : attributeBase o "pop" X.env (eval o X.env) = eval o X.env := by rfl) (hline : (apos.endLine == cpos.line) = true := by rfl)
    (hsw : swapsWith (.Call (.Attribute o "pop" apos) [] [] cpos) none pos.line X.env = pure false := by rfl) : JS W G X (.Expr (.Call (.Attribute o "pop" apos) [] [] cpos) pos) (sPop none mo) :=
  PS.imp (ps_expr (pe_bm0 PySem.F.plainAttrs_list PySem.F.slot_list_pop PySem.F.type_list_pop mt_pop ho hbase hline) hsw) fun D σ H h => by
    show tG W G (rX G) mo σ H _
    refine tS.expr h fun F B fp S ov S1 B1 fp1 H1 x R E R1 rx q => ?_
    split at q
    · rename_i us e1
      split at q
      · rename_i vs e5
        split at q
        · rename_i v e6
          rw [hK]
          exact pop_core (D := D) R1 rx e1 e5 e6 fun y H' fp' R' _ => q _ _ _ _ R'
        · exact q.elim
      · exact q.elim
    · exact q.elim
theorem js_popS {k : Nat} {z : Str} {pos' : Pos} (hK : X.K = G.K) (hN : X.N.Nodup) (hi : X.N[k]? = some z) (hx : Loc X.env.scope z) (ho : JX W G X o mo) (hbase : attributeBase o "pop" X.env (eval o X.env) = eval o X.env := by rfl) (hline : (apos.endLine == cpos.line) = true := by rfl)
    (hsw : swapsWith (.Call (.Attribute o "pop" apos) [] [] cpos) (some (.Name z pos')) pos.line X.env = pure false := by rfl) (hf : X.fn z = true ∨ X.env.scope.names.lookup z = some .local := by first | exact .inl rfl | exact .inr rfl | assumption) :
    JS W G X (.Assign [.Name z pos'] (.Call (.Attribute o "pop" apos) [] [] cpos) pos) (sPop (some k) mo) :=
  PS.impI (ps_set hN hi hx (pe_bm0 PySem.F.plainAttrs_list PySem.F.slot_list_pop PySem.F.type_list_pop mt_pop ho hbase hline) hsw hf) fun D σ H hl h => by
    show tG W G (rX G) mo σ H _
    refine tS.expr h fun F B fp S ov S1 B1 fp1 H1 x R E R1 rx q => ?_
    split at q
    · rename_i us e1
      split at q
      · rename_i vs e5
        split at q
        · rename_i v e6
          rw [hK]
          exact pop_core (D := D) R1 rx e1 e5 e6 fun y H' fp' R' fr => bind_step (Hs := H') (by rw [hl]; exact (List.getElem?_eq_some_iff.mp hi).1) R' (rX_fz fr) q
        · exact q.elim
      · exact q.elim
    · exact q.elim
/-- draws.pop() -/
def mPopD (mo : M RV) : M RV := fun S => (mo S).bind fun o S1 => match o, S1.dr with
  | .dr, some ds => match ds[ds.length - 1]? with
    | some d => .ok (.fz (.int d)) { S1 with dr := some ds.dropLast }
    | none => .stuck
  | _, _ => .stuck
theorem SR.drop {F : Fc} {B : Addr → Prop} {fp : Nat → List Addr} {S : MS} {σ : St} {H : Hp} {a : Addr} (R : SR G F B fp S σ H) (ha : F.ad = some a) (ds' : List Int) :
    SR G F B fp { S with dr := some ds' } σ (upd H a (.lst (ds'.map V.int))) ∧ (S.dr ≠ none → Eff F B fp H B fp (upd H a (.lst (ds'.map V.int)))) := by
  obtain ⟨aB, afp, ⟨ys, ea⟩, a0⟩ := R.notBad ha
  have hk : ∀ b o, b ≠ a → H b = some o → upd H a (.lst (ds'.map V.int)) b = some o := fun b o n e => by rw [upd_ne n]; exact e
  have kF : ∀ b o, H b = some o → (mutO o → B b) → upd H a (.lst (ds'.map V.int)) b = some o := fun b o e w => by
    refine hk b o (fun z => ?_) e
    rw [z, ea] at e
    cases e
    exact aB (z ▸ w trivial)
  refine ⟨⟨R.len, fun i s e => ?_, R.out, R.nd, R.dj, R.nb, fun b o e n1 n2 => hk b o (fun z => n1 (by rw [ha, z])) (R.ext b o e n1 n2), ?_, fun b h => ?_, R.bm, R.bg, fun b h => by rw [upd_ne fun z => aB (by rw [← z]; exact h)]; exact R.bt b h⟩, fun _ => ⟨fun b o e n => hk b o (fun z => n (by rw [ha, z])) e, fun b h => ?_, fun i b h => .inl ⟨i, h⟩, fun b h => .inl h, fun b h => h⟩⟩
  · have q := R.sl i s e
    cases s with
    | un => exact q
    | fz v => obtain ⟨q0, x, q1, q2⟩ := q; exact ⟨q0, x, q1, FRep.keep kF (fun _ h => h) v x q2⟩
    | own ts => obtain ⟨x, q1, q2⟩ := q; exact ⟨x, q1, ORep.keep kF (fun _ h => h) _ x _ (fun b hb => upd_ne fun z => afp i (z ▸ hb)) q2⟩
    | al j p => obtain ⟨q0, x, r, q1, q2, q3⟩ := q; exact ⟨q0, x, r, q1, q2, AtP.mono (fun b xs pb e => ⟨pb, hk b _ (fun z => afp j (z ▸ pb)) e⟩) q3⟩
    | dr => exact q
    | new c fs => obtain ⟨q0, b, dx, ss, q1, q2, q3, q4, q5⟩ := q; exact ⟨q0, b, dx, ss, q1, q2, hk b _ (fun z => by rw [z, ea] at q3; cases q3) q3, q4, FReps.keep kF (fun _ h => h) _ _ q5⟩
    | scr ns => obtain ⟨q0, b, q1, q2⟩ := q; exact ⟨q0, b, q1, ScR.keep kF q2⟩
    | ex ee => obtain ⟨q0, b, c, d, q1, q2, q3⟩ := q; exact ⟨q0, b, c, d, q1, q2, XRep.keep kF (fun _ h => h) q3⟩
  · have d := R.dr
    unfold DrR at d ⊢
    rw [ha] at d ⊢
    cases q : S.dr with
    | none => rw [q] at d; exact d.elim
    | some ds => rw [q] at d; exact ⟨upd_same, d.2.1, d.2.2⟩
  · obtain ⟨⟨C, dx, fs, n1⟩, n2⟩ := R.nw b h
    exact ⟨⟨C, dx, fs, hk b _ (fun z => by rw [z, ea] at n1; cases n1) n1⟩, n2⟩
  · by_cases z : b = a
    · rw [z, upd_same]; simp
    · rw [upd_ne z]; exact h
theorem jx_popD (hK : X.K = G.K) (ho : JX W G X o mo) (hbase : attributeBase o "pop" X.env (eval o X.env) = eval o X.env := by rfl) (hline : (apos.endLine == cpos.line) = true := by rfl) : JX W G X (.Call (.Attribute o "pop" apos) [] [] cpos) (mPopD mo) :=
  PE.imp (pe_bm0 PySem.F.plainAttrs_list PySem.F.slot_list_pop PySem.F.type_list_pop mt_pop ho hbase hline) fun σ H Q h => by
    show tG W G (rX G) mo σ H _
    refine tG.one h fun F B fp ov S' B' fp' H' x E R rx q => ?_
    split at q
    · rename_i ds eS
      split at q
      · rename_i d e6
        obtain ⟨_, ⟨⟨a, ea, rfl⟩, _⟩, _⟩ := rx
        have dd := R.dr
        unfold DrR at dd
        rw [ea, eS] at dd
        obtain ⟨d1, d2, d3⟩ := dd
        obtain ⟨R2, E2⟩ := R.drop ea ds.dropLast
        refine ⟨by rw [hK]; exact .inl ⟨rfl, _, SqL.of d1⟩, a, ds.map V.int, .int d, rfl, rfl, d1, ?_, ?_⟩
        · rw [List.length_map, List.getElem?_map, e6]; rfl
        · rw [← List.map_dropLast]
          exact q.val (R := rX G) (E.trans (E2 (by rw [eS]; simp))) R2 (rX_fz fr_int)
      · exact q.elim
    · exact q.elim
/-- a frozen value -/
def asF : RV → MS → ER FV
  | .fz v, S => .ok v S
  | _, _ => .stuck
theorem asF_ok {F : Fc} {Hs : Hp} {B : Addr → Prop} {fp : Nat → List Addr} {S : MS} {σ : St} {H : Hp} {v : RV} {x : V} {D : Ends} {k : FV → MS → Out} (r : rX G F Hs B fp S σ H v x) (h : PostS W G F D ((asF v S).thn k)) : ∃ u, v = .fz u ∧ FRep G B H u x ∧ PostS W G F D (k u S) := by
  cases v with
  | fz u => exact ⟨u, rfl, of_fz r, h⟩
  | _ => exact h.elim
theorem rX_pl {F : Fc} {Hs Hs' : Hp} {B : Addr → Prop} {fp : Nat → List Addr} {S : MS} {σ : St} {H : Hp} {j : Nat} {p : List Nat} {x : V} (r : rX G F Hs B fp S σ H (.pl j p) x) : rX G F Hs' B fp S σ H (.pl j p) x := by
  obtain ⟨f, r, _⟩ := r
  have e : f = [] := r.2
  subst e
  exact ⟨[], r, fun _ z => by cases z⟩
/-- o[i] by values, of a list that stands raw, i not below nought -/
def rGetL : V → V → Hp → VK → Prop := fun o i H Q => ∃ p xs k v, o = .ref p ∧ i = .int k ∧ H p = some (.lst xs) ∧ 0 ≤ k ∧ xs[k.toNat]? = some v ∧ Q v H
theorem get_raw : PGet X rGetL := by
  intro pins s σ H o i ov iv Q I r1 r2 h
  obtain ⟨p, xs, k, v, rfl, rfl, hp, h0, hx, q⟩ := h
  cases r1
  obtain ⟨t, rfl⟩ := r2
  obtain ⟨its, rv, pl, hz⟩ := I.list (SqL.of (K := X.K) hp)
  obtain ⟨u, eu, ru⟩ := rv.get hx
  have hk : k.toNat < xs.length := (List.getElem?_eq_some_iff.mp hx).1
  have := line63
  exact wpAny_getItem_list pl.isList h0 (by omega) (by simpa using eu) ⟨v, H, I, ru, q⟩
/-- the frozen item of a list at a place -/
def getAt (o : RV) (i : RV) (S : MS) : ER FV := match listAt o S, i with
  | some us, .fz (.int k) => if 0 ≤ k then match us[k.toNat]? with
      | some (.fz u) => .ok u S
      | _ => .stuck
    else .stuck
  | _, _ => .stuck
/-- o[i] op= e, an item that is frozen -/
def sAugS (g : RV → RV → MS → ER RV) (mo mi me : M RV) : MSt := fun S => (mo S).thn fun o S1 => (mi S1).thn fun i S2 => (getAt o i S2).thn fun x S3 => (me S3).thn fun y S4 => (asF y S4).thn fun y S4 => (g (.fz x) (.fz y) S4).thn fun z S5 => (asF z S5).thn fun u S6 => setAt (.fz u) o i S6
theorem js_augS {op : Operator} {r : R2} {g : RV → RV → MS → ER RV} {me : M RV} {tpos : Pos} (ho : JX W G X o mo) (hi : JX W G X i mi) (he : JX W G X e me) (hop : OpR X (inplaceOp op) r) (hg : V2 W G r g)
    (ha : ∀ ov iv new, augStore i ov iv new = (do holding [new, ov, iv] (setItem ov iv new); release [new, ov, iv] []; pure .next) := by intros; rfl) : JS W G X (.AugAssign (.Subscript o i tpos) op e pos) (sAugS g mo mi me) := by
  refine PS.imp (ps_augS (tget := rGetL) (tip := r) ho hi get_raw he (fun pins s σ H x y v u Q I r1 r2 h => hop pins s σ H x y v u Q I r1 r2 h) set_list ha) fun D σ H h => ?_
  show tG W G (rX G) mo σ H _
  refine tS.expr h fun F B fp S ov S1 B1 fp1 H1 x R E R1 rx q => ⟨F, B1, fp1, S1, R1, (Post.thn q).imp fun iv S2 B2 fp2 H2 E2 R2 q2 y ry => ?_⟩
  clear q
  unfold getAt at q2
  split at q2
  · rename_i us0 k el
    obtain ⟨j, p, rfl, hat⟩ := listAt_ok el
    have rx2 : rX G F H2 B2 fp2 S2 σ H2 (.pl j p) x := rX_pl (rX.keep R1 E2 rx)
    have ey := fz_int ry
    subst ey
    split at q2
    · rename_i h0
      split at q2
      · rename_i xv ex
        obtain ⟨a, xs, gs, r0, rfl, e2, hs2, _, _, _, _⟩ := place_list R2 hat rx2
        obtain ⟨xx, exx, fx⟩ := hs2.getFz ex
        refine ⟨a, xs, k, xx, rfl, rfl, e2, h0, exx, ?_⟩
        refine ⟨F, B2, fp2, S2, R2, (Post.thn (r := me S2) q2).imp fun yv S4 B4 fp4 H4 E4 R4 q4 yy ryy => ?_⟩
        obtain ⟨yv, rfl, fy, q4'⟩ := asF_ok ryy q4
        refine hg F B4 fp4 H4 B4 fp4 S4 σ H4 _ _ xx yy _ Eff.refl R4 (rX_fz (R2.frep E4 fx)) (rX_fz fy) ((Post.thn q4').imp fun zv S5 B5 fp5 H5 E5 R5 q5 zz rzz => ?_)
        obtain ⟨zv, rfl, fz, q6⟩ := asF_ok rzz q5
        clear q5 q4' q4 q2
        have ro := rX.keep (S' := S5) R2 (E4.trans E5) rx2
        simp only [setAt] at q6
        split at q6
        · rename_i us hat5
          split at q6
          · rename_i n en
            obtain ⟨_, ⟨⟨r0, h1, h2⟩, _⟩, _⟩ := ro
            obtain ⟨a', xs', ea, e2', el', fp', R'⟩ := put_step R5 hat5 h1 h2 (ixN_seq en).2.1 (t := .fz zv) (x := zz) (by unfold ORep; exact ⟨fz, rfl⟩) List.nodup_nil (fun _ z => by cases z)
            cases ea
            exact ⟨a, xs', k, n, rfl, rfl, e2', by rw [el']; exact en, q6 _ _ _ _ R'⟩
          · exact q6.elim
        · exact q6.elim
      · exact q2.elim
    · exact q2.elim
  · exact q2.elim
end
end TL
set_option Elab.async false
set_option linter.all false
set_option maxRecDepth 100000
set_option maxHeartbeats 2000000
/-! enumerate of a tuple -/
namespace TL
open PySem PySem.Spec PyProof.Rows L2

theorem meets_enum1 {v : Value} {o : Obj} {HB : Heap → Prop} (BG : Begins v o HB) : Meets (Builtin.«enumerate.__new__» ⟨[.type "enumerate", v], []⟩) (fun _ R s => HB s.heap ∧
    R (.ok (.ret (.ref (s.heap.push o).objs.size))) { s with heap := (s.heap.push o).push ({ cls := .type "enumerate", data := .fields #[.none, .bool false, .ref s.heap.objs.size, rawInt 0, .none, .none] } : Obj) }) :=
  .of_wp fun prog w A R s hh => by
    obtain ⟨hp, gg, dd, tk, os⟩ := s
    obtain ⟨hb, hr⟩ := hh
    have hsub := sub_enumerate
    have qi : ∀ {A' : Around} {E' : Value → Shared → Prop} {Q' : Value → Shared → Prop}, Q' (.ref hp.objs.size) ⟨hp.push o, gg, dd, tk, os⟩ → wpAny (model prog w) A' (pyIter v) Q' E' ⟨hp, gg, dd, tk, os⟩ :=
      fun q => BG.iter prog w _ _ (Shared.mk hp gg dd tk os) _ hb q
    wp_walk using qi
    refine wpAny_stack_any fun _ => wpAny_pure ?_
    split
    · rename_i ty _ _ _ _ _
      cases (ty == Value.type "enumerate") <;> (wp_walk using qi; exact ⟨_, rfl, hr⟩)
    · wp_walk using qi
      exact Exists.intro _ (And.intro rfl hr)
theorem call_enum1 {prog : Program} {w : World} {A : Around} {E : Value → Shared → Prop} {s : Shared} {v : Value} {o : Obj} {HB : Heap → Prop} {Q : Value → Shared → Prop} (BG : Begins v o HB) (hb : HB s.heap)
    (h : ∀ h', IsEnum h' (s.heap.objs.size + 1) s.heap.objs.size 0 .none → h'.get? s.heap.objs.size = some o → (∀ b u, s.heap.get? b = some u → h'.get? b = some u) → Q (.ref (s.heap.objs.size + 1)) { s with heap := h' }) :
    wpAny (model prog w) A (call (.type "enumerate") [v]) Q E s := by
  refine callType_new F.called_enumerate (by decide) (F.typeCall_enumerate_1 v) (F.newCall_enumerate_1 v) (fun obj => F.args_object_init_2 obj v) F.entry_enumerate_new (meets_enum1 BG) ⟨hb, ?_⟩
  have hz := Heap.size_push s.heap o
  have he := Heap.get?_push_size (s.heap.push o) (o := ({ cls := .type "enumerate", data := .fields #[.none, .bool false, .ref s.heap.objs.size, rawInt 0, .none, .none] } : Obj)) rfl
  show _ ∧ _
  rw [hz] at he ⊢
  exact ⟨⟨_, he, rfl⟩, h _ he (Heap.get?_push_of_some _ (Heap.get?_push_size _ BG.free)) fun b u x => Heap.get?_push_of_some _ (Heap.get?_push_of_some _ x)⟩
/-- the tuple at a, each item in a new pair -/
def ItT (K : PySem.W.Frag) (a : Addr) : It :=
  ⟨fun i H => ∃ (xs : List V) (x : V), SqT K H a xs ∧ xs[i]? = some x, fun i H v H' => ∃ T x, v = .ref T ∧ H T = none ∧ H' = upd H T (.tup [.int (i : Nat), x]) ∧ ∀ ys, SqT K H a ys → ys[i]? = some x, fun i H => ∃ xs : List V, SqT K H a xs ∧ xs.length = i⟩
theorem turn_enumT {P : Program} {w : World} {K : PySem.W.Frag} {elts : List Expr} {kk : Nat} {tpos : Pos} (a e it : Addr) (hne : e ≠ it) (hai : a ≠ it) (hae : a ≠ e) :
    Turn P w K (.Tuple elts kk tpos) (ItT K a) [e, it] e (fun i h => (∃ old, IsEnum h e it ((i : Nat) : Int) old) ∧ h.IsTupleIter it a i) where
  mem := List.mem_cons_self
  obj := fun i h st b hb => by
    obtain ⟨⟨old, he⟩, ⟨o, ho, hc, hd⟩⟩ := st
    rcases List.mem_cons.mp hb with z | z
    · subst z
      exact ⟨_, he, fun v q => nomatch q⟩
    · exact ⟨o, List.mem_singleton.mp z ▸ ho, fun v q => by rw [hd] at q; cases q⟩
  keep := fun i h h' st k => by
    obtain ⟨⟨old, he⟩, hi⟩ := st
    exact ⟨⟨old, k e (List.mem_cons_self) _ he⟩, hi.at fun o q => k it (List.mem_cons_of_mem _ List.mem_cons_self) o q⟩
  item := by
    intro X hP hw hK hc i pins s σ H E I hf st hg
    subst hP hw hK
    obtain ⟨⟨old, he⟩, hit⟩ := st
    obtain ⟨xs, x, hq, hx⟩ := hg
    obtain ⟨its, rv, p, hz⟩ := I.tuple hq
    have pt : s.heap.IsTuple a its.toArray := p
    obtain ⟨u, hu, ru⟩ := rv.get hx
    have hel := Heap.lt_size he
    have hil : it < s.heap.objs.size := by obtain ⟨_, q, _⟩ := hit; exact Heap.lt_size q
    have hlt : i < its.toArray.size := by
      have h1 := (List.getElem?_eq_some_iff.mp hu).1
      rw [List.size_toArray]
      exact h1
    refine wpAny_pyNext_enum_itemC (Draws.tuple (prog := X.prog) (w := X.w) (A := X.A.in1) (I.ok.hd hc) it a hai its.toArray) he ⟨hit, pt⟩ hlt hne (fun z => ?_) fun y h' tk hy ho hst hT hsz hk => ?_
    · rcases List.mem_cons.mp z with z | z
      · exact hne z
      · exact hae (List.mem_singleton.mp z).symm
    have ey : y = u := by
      rw [show its.toArray[i]? = its[i]? by simp, hu] at hy
      exact (Option.some.inj hy).symm
    subst ey
    refine ⟨_, rfl, wpAny_letOwnedTupleGo_enum (s := { s with heap := h', toks := tk + 1 }) ho fun h'' he' sb => ?_⟩
    have hT2 := (sb.2 _ (Nat.ne_of_gt hel)).trans hT
    have new : ObjOk X.prog X.w (upd H s.heap.objs.size (.tup [.int (i : Nat), x])) h'' s.heap.objs.size (.tup [.int (i : Nat), x]) :=
      ⟨(by decide : 2 ≤ sizeLine), [.int i tk, y], .cons ⟨tk, rfl⟩ (.cons ru .nil), _, hT2, rfl, _, rfl⟩
    have I1 : Inv X pins σ (upd H s.heap.objs.size (.tup [.int (i : Nat), x])) { s with heap := h'', toks := tk + 1 } :=
      I.turnedNew (ch := [e, it]) (fun b ob hb q => (sb.2 b (fun z => hb (z ▸ List.mem_cons_self))).trans (hk b ob (fun z => hb (z ▸ List.mem_cons_self)) (fun z => hb (z ▸ List.mem_cons_of_mem _ List.mem_cons_self)) q)) hf (Nat.le_refl _) new
    have e1 : ((i + 1 : Nat) : Int) = (i : Int) + 1 := by omega
    refine ⟨.ref s.heap.objs.size, _, I1, rfl, ⟨_, x, rfl, I.hok.fresh (Nat.le_refl _), rfl, fun ys hy => by rw [I.tuple_inj hy hq]; exact hx⟩, ⟨⟨y, by rw [e1]; exact he'⟩, hst.1.at fun o q => (sb.2 it (Ne.symm hne)).trans q⟩, fun b hb => ?_⟩
    have hb' : b < s.heap.objs.size := by
      rcases List.mem_cons.mp hb with z | z
      · exact z ▸ hel
      · exact List.mem_singleton.mp z ▸ hil
    rw [upd_ne (Nat.ne_of_lt hb')]
    exact (hf b hb).1
  done := by
    intro X hP hw hK hc i pins s σ H E I hf st hg
    subst hP hw hK
    obtain ⟨⟨old, he⟩, hit⟩ := st
    obtain ⟨xs, hq, hx⟩ := hg
    obtain ⟨its, rv, p, hz⟩ := I.tuple hq
    have pt : s.heap.IsTuple a its.toArray := p
    have hl := rv.length
    obtain ⟨f0, f1, f2, f3, f4, f5⟩ := hf it (List.mem_cons_of_mem _ List.mem_cons_self)
    have ei : i = its.toArray.size := by rw [List.size_toArray]; omega
    subst ei
    exact wpAny_pyNext_enum_endD (Draws.tuple (prog := X.prog) (w := X.w) (A := X.A.in1) (I.ok.hd hc) it a hai its.toArray) he ⟨hit, pt⟩ fun h' eb => ⟨rfl, I.turned (t' := s.toks) (fun b o hb q => eb b o hb q) f0 f1 f3 f4 f5⟩
  self := fun A i s Q E st h => wpAny_pyIter_enum st.1.choose_spec h
def iEnumT (K : PySem.W.Frag) (ta : TA) : TI := fun σ H R => ta σ H fun vs H1 => ∃ a xs, vs = [.ref a] ∧ SqT K H1 a xs ∧ R (ItT K a) H1
theorem pi_enumT {X : Cx} {e : Expr} {ta : TA} {p pos tpos : Pos} {elts : List Expr} {kk : Nat} (hg : Gl X "enumerate") (hm : X.mg "enumerate" = none) (ha : PA X [e] ta) (hs : starEach [e] X.env = [(false, eval e X.env)] := by rfl) :
    PI X (.Tuple elts kk tpos) (.Call (.Name "enumerate" p) [e] [] pos) (iEnumT X.K ta) := by
  refine ⟨fun pins s σ H R I h => Call_ (ld_blt I hg hm boot_enumerate (PyProof.Rows.callWith_type1 (thn (ha.run pos pins s σ H _ I h) fun us s1 ⟨vs, H1, I1, r1, q1⟩ => ?_) hs rfl))⟩
  obtain ⟨a, xs, rfl, hq, q⟩ := q1
  cases r1 with
  | cons r rr =>
    cases rr
    cases r
    obtain ⟨its, rv, p', hz⟩ := I1.tuple hq
    have pt : s1.heap.IsTuple a its.toArray := p'
    have al : a < s1.heap.objs.size := by obtain ⟨_, ho, _⟩ := id pt; exact Heap.lt_size ho
    refine call_enum1 (begins_tuple a its.toArray) pt fun h' he hit hk => wpAny_pyIter_enum he ?_
    have I2 : Inv X pins σ H1 { s1 with heap := h' } := I1.kept (t' := s1.toks) hk
    refine ⟨s1.heap.objs.size + 1, [s1.heap.objs.size + 1, s1.heap.objs.size], _, _, H1, rfl, I2, turn_enumT a (s1.heap.objs.size + 1) s1.heap.objs.size (Nat.succ_ne_self _) (Nat.ne_of_lt al) (Nat.ne_of_lt (Nat.lt_succ_of_lt al)), ⟨⟨.none, he⟩, _, hit, rfl, rfl⟩, fun b hb => ?_, q⟩
    have hle : s1.heap.objs.size ≤ b := by
      rcases List.mem_cons.mp hb with z | z
      · exact z ▸ Nat.le_succ _
      · exact Nat.le_of_eq (List.mem_singleton.mp z).symm
    exact I1.fpOk hle (I1.hok.fresh hle)
end TL
set_option Elab.async false
set_option linter.all false
set_option maxRecDepth 100000
set_option maxHeartbeats 2000000
namespace TL
open PySem PySem.Spec PyProof.Rows L2
/-! ### what a loop walks -/
/-- frozen things stand in H2 as in H -/
def Kp (B : Addr → Prop) (H H2 : Hp) : Prop := ∀ b o, H b = some o → (mutO o → B b) → H2 b = some o
structure Wk (G : GT) (B : Addr → Prop) (H : Hp) (vs : List FV) (J : It) : Prop where
  go : ∀ (B2 : Addr → Prop) (H2 : Hp) (i : Nat) (v : FV), Kp B H H2 → (∀ b, B b → B2 b) → vs[i]? = some v → J.go i H2 ∧ ∀ x H3, J.yld i H2 x H3 → FRep G B2 H3 v x ∧ (H3 = H2 ∨ ∃ T xs, H2 T = none ∧ H3 = upd H2 T (.tup xs))
  stop : ∀ H2, Kp B H H2 → J.stop vs.length H2
abbrev JI (W : WX) (G : GT) (X : Cx) (tg iter : Expr) (m : M (List FV)) : Prop :=
  PI X tg iter fun σ H R => ∃ F B fp S, SR G F B fp S σ H ∧ Post W G F B fp σ H (m S) fun vs S' B' fp' H' => ∀ J, Wk G B' H' vs J → R J H'
theorem PI.imp {X : Cx} {tg e : Expr} {t t' : TI} (h : PI X tg e t) (k : ∀ σ H R, t' σ H R → t σ H R) : PI X tg e t' := ⟨fun pins s σ H R I q => h.run pins s σ H R I (k σ H R q)⟩
theorem PI.or {X : Cx} {tg e : Expr} {t t' : TI} (h : PI X tg e t) (h' : PI X tg e t') : PI X tg e fun σ H R => t σ H R ∨ t' σ H R := ⟨fun pins s σ H R I q => q.elim (h.run pins s σ H R I) (h'.run pins s σ H R I)⟩
theorem PG.imp {X : Cx} {tg : Expr} {t t' : L2.TG} (h : PG X tg t) (k : ∀ x σ H Q, t' x σ H Q → t x σ H Q) : PG X tg t' := ⟨fun pins s σ H v u Q I r q => h.run pins s σ H v u Q I r (k v σ H Q q)⟩
theorem PG.or {X : Cx} {tg : Expr} {t t' : L2.TG} (h : PG X tg t) (h' : PG X tg t') : PG X tg fun x σ H Q => t x σ H Q ∨ t' x σ H Q := ⟨fun pins s σ H v u Q I r q => q.elim (h.run pins s σ H v u Q I r) (h'.run pins s σ H v u Q I r)⟩
/-- the items of a list or a tuple, frozen -/
def toSeq (v : RV) (S : MS) : ER (List FV) := match v with
  | .scr ns => .ok (ns.map FV.int) S
  | .fz (.tup us) => .ok us S
  | v => (toF v S).bind fun u S2 => match u with
    | .lst us => .ok us S2
    | _ => .stuck
def isTup : RV → Bool
  | .fz (.tup _) => true
  | _ => false
def mSeq (m : M RV) : M (List FV) := fun S => (m S).bind toSeq
section
variable {W : WX} {G : GT} {X : Cx} {tg e : Expr} {es : List Expr} {m : M RV}
theorem wk_list {B : Addr → Prop} {H : Hp} {a : Addr} {vs : List FV} {K : PySem.W.Frag} (h : ∀ H2, Kp B H H2 → ∃ xs, SqL K H2 a xs ∧ ∀ B2 : Addr → Prop, (∀ b, B b → B2 b) → FReps G B2 H2 vs xs) : Wk G B H vs (Itl K a) := by
  refine ⟨fun B2 H2 i v k hB e => ?_, fun H2 k => ?_⟩
  · obtain ⟨xs, hq, hr⟩ := h H2 k
    obtain ⟨x, ex, rx⟩ := (hr B2 hB).get e
    refine ⟨⟨xs, x, hq, ex⟩, fun y H3 ⟨e3, hy⟩ => ?_⟩
    subst e3
    have := hy xs hq
    rw [ex] at this
    cases this
    exact ⟨rx, .inl rfl⟩
  · obtain ⟨xs, hq, hr⟩ := h H2 k
    exact ⟨xs, hq, Nat.le_of_eq (hr B fun _ z => z).len.symm⟩
theorem wk_tup {B : Addr → Prop} {H : Hp} {a : Addr} {vs : List FV} {K : PySem.W.Frag} (h : ∀ H2, Kp B H H2 → ∃ xs, SqT K H2 a xs ∧ ∀ B2 : Addr → Prop, (∀ b, B b → B2 b) → FReps G B2 H2 vs xs) : Wk G B H vs (Itt K a) := by
  refine ⟨fun B2 H2 i v k hB e => ?_, fun H2 k => ?_⟩
  · obtain ⟨xs, hq, hr⟩ := h H2 k
    obtain ⟨x, ex, rx⟩ := (hr B2 hB).get e
    refine ⟨⟨xs, x, hq, ex⟩, fun y H3 ⟨e3, hy⟩ => ?_⟩
    subst e3
    have := hy xs hq
    rw [ex] at this
    cases this
    exact ⟨rx, .inl rfl⟩
  · obtain ⟨xs, hq, hr⟩ := h H2 k
    exact ⟨xs, hq, Nat.le_of_eq (hr B fun _ z => z).len.symm⟩
/-- a source at the hand: a list, or a tuple -/
theorem toSeq_ok {F : Fc} {Bs B : Addr → Prop} {fps fp : Nat → List Addr} {S : MS} {σ : St} {Hs H : Hp} {v : RV} {x : V} {Q : List FV → MS → (Addr → Prop) → (Nat → List Addr) → Hp → Prop} (E : Eff F Bs fps Hs B fp H) (R : SR G F B fp S σ H) (r : rX G F Hs B fp S σ H v x)
    (h : Post W G F Bs fps σ Hs (toSeq v S) Q) : ∃ vs S' B' fp' a, x = .ref a ∧ Eff F Bs fps Hs B' fp' H ∧ SR G F B' fp' S' σ H ∧ Q vs S' B' fp' H ∧
      (isTup v = false → ∀ H2, Kp B' H H2 → ∃ xs, SqL G.K H2 a xs ∧ ∀ B2 : Addr → Prop, (∀ b, B' b → B2 b) → FReps G B2 H2 vs xs) ∧
      (isTup v = true → ∀ H2, Kp B' H H2 → ∃ xs, SqT G.K H2 a xs ∧ ∀ B2 : Addr → Prop, (∀ b, B' b → B2 b) → FReps G B2 H2 vs xs) := by
  have gen : isTup v = false → Post W G F Bs fps σ Hs ((toF v S).bind fun u S2 => match u with | .lst us => .ok us S2 | _ => ER.stuck) Q → ∃ vs S' B' fp' a, x = .ref a ∧ Eff F Bs fps Hs B' fp' H ∧ SR G F B' fp' S' σ H ∧ Q vs S' B' fp' H ∧
      (isTup v = false → ∀ H2, Kp B' H H2 → ∃ xs, SqL G.K H2 a xs ∧ ∀ B2 : Addr → Prop, (∀ b, B' b → B2 b) → FReps G B2 H2 vs xs) ∧
      (isTup v = true → ∀ H2, Kp B' H H2 → ∃ xs, SqT G.K H2 a xs ∧ ∀ B2 : Addr → Prop, (∀ b, B' b → B2 b) → FReps G B2 H2 vs xs) := fun ht h => by
    have h' := Post.bind h
    obtain ⟨u, S2, B2, fp2, e1, E2, R2, fr, q, _⟩ := toF_ok E R r h'
    rw [e1] at h
    cases u with
    | lst us =>
      have q' : Q us S2 B2 fp2 H := h B2 fp2 H E2 R2
      have fr' := fr
      unfold FRep at fr'
      obtain ⟨a, xs, rfl, ba, ea, fs⟩ := fr'
      refine ⟨us, S2, B2, fp2, a, rfl, E2, R2, q', fun _ H2 k => ⟨xs, SqL.of (k a _ ea fun _ => ba), fun B3 hB => FReps.keep k hB us xs fs⟩, fun z => ?_⟩
      rw [ht] at z
      cases z
    | _ => exact h.elim
  cases v with
  | scr ns =>
    obtain ⟨f, ⟨⟨a, rfl, sc⟩, _⟩, _⟩ := r
    exact ⟨_, S, B, fp, a, rfl, E, R, h B fp H E R, fun _ H2 k => ⟨_, (sc.keep k).sq, fun B2 _ => FReps.ints⟩, fun z => by cases z⟩
  | fz u =>
    cases u with
    | tup us =>
      have fr := of_fz r
      unfold FRep at fr
      obtain ⟨a, xs, rfl, ea, fs⟩ := fr
      exact ⟨us, S, B, fp, a, rfl, E, R, h B fp H E R, fun z => (by cases z), fun _ H2 k => ⟨xs, SqT.of (k a _ ea fun z => z.elim), fun B3 hB => FReps.keep k hB us xs fs⟩⟩
    | _ => exact gen rfl h
  | _ => exact gen rfl h
theorem Post.two {F : Fc} {B : Addr → Prop} {fp : Nat → List Addr} {S : MS} {σ : St} {H : Hp} {α β γ : Type} {R2 : Rel γ β} {m : M γ} {k : γ → MS → ER α} {Q : α → MS → (Addr → Prop) → (Nat → List Addr) → Hp → Prop} {P P' : β → Hp → Prop} (R : SR G F B fp S σ H) (c : γ → Bool)
    (h : Post W G F B fp σ H ((m S).bind k) Q)
    (k1 : ∀ v S' B' fp' H' x, c v = true → Eff F B fp H B' fp' H' → SR G F B' fp' S' σ H' → R2 F H B' fp' S' σ H' v x → Post W G F B fp σ H (k v S') Q → P x H')
    (k2 : ∀ v S' B' fp' H' x, c v = false → Eff F B fp H B' fp' H' → SR G F B' fp' S' σ H' → R2 F H B' fp' S' σ H' v x → Post W G F B fp σ H (k v S') Q → P' x H') :
    tG W G R2 m σ H P ∨ tG W G R2 m σ H P' := by
  cases e : m S with
  | ok v S1 =>
    have h2 := h
    rw [e] at h2
    cases hc : c v with
    | true => exact .inl ⟨F, B, fp, S, R, by rw [e]; exact fun B' fp' H' E R' x rx => k1 v S1 B' fp' H' x hc E R' rx h2⟩
    | false => exact .inr ⟨F, B, fp, S, R, by rw [e]; exact fun B' fp' H' E R' x rx => k2 v S1 B' fp' H' x hc E R' rx h2⟩
  | err ee S1 => exact .inl ⟨F, B, fp, S, R, by rw [e] at h ⊢; exact h⟩
  | stuck => rw [e] at h; exact h.elim
theorem ji_seq (hK : X.K = G.K) (he : JX W G X e m) : JI W G X tg e (mSeq m) :=
  PI.imp (PI.or (pi_tup he) (pi_list he)) fun σ H R ⟨F, B, fp, S, RR, h⟩ => by
    refine Post.two (R2 := rX G) RR isTup h (fun v S' B' fp' H' x hc E R' rx p => ?_) fun v S' B' fp' H' x hc E R' rx p => ?_
    · obtain ⟨vs, S2, B2, fp2, a, rfl, E2, R2, q, _, k2⟩ := toSeq_ok E R' rx p
      rw [hK]
      obtain ⟨xs, hq, _⟩ := k2 hc H' fun _ _ z _ => z
      exact ⟨a, rfl, ⟨xs, hq⟩, q _ (wk_tup (k2 hc))⟩
    · obtain ⟨vs, S2, B2, fp2, a, rfl, E2, R2, q, k1, _⟩ := toSeq_ok E R' rx p
      rw [hK]
      obtain ⟨xs, hq, _⟩ := k1 hc H' fun _ _ z _ => z
      exact ⟨a, rfl, ⟨xs, hq⟩, q _ (wk_list (k1 hc))⟩
/-! range -/
def rng (lo : Int) (n : Nat) : List FV := (List.range n).map fun i => .int (lo + (i : Nat))
theorem wk_rng {B : Addr → Prop} {H : Hp} {lo : Int} {n : Nat} : Wk G B H (rng lo n) (Itr lo n) := by
  refine ⟨fun B2 H2 i v k hB e => ?_, fun H2 k => ?_⟩
  · unfold rng at e
    rw [List.getElem?_map] at e
    obtain ⟨j, e1, rfl⟩ := Option.map_eq_some_iff.mp e
    obtain ⟨h1, h2⟩ := List.getElem?_eq_some_iff.mp e1
    rw [List.getElem_range] at h2
    subst h2
    rw [List.length_range] at h1
    refine ⟨h1, fun x H3 ⟨e3, ex⟩ => ⟨?_, .inl e3⟩⟩
    rw [ex]
    unfold FRep
    rfl
  · show n ≤ (rng lo n).length
    simp [rng]
def small (j : Int) : Bool := Nat.ble j.natAbs 4611686018427387903
theorem small_of {j : Int} (h : small j = true) : -(2 ^ 62) ≤ j ∧ j < 2 ^ 62 := by
  have := Nat.le_of_ble_eq_true h
  omega
/-- a reading, then what its value leads to -/
theorem tG.step {α β γ : Type} {R2 : Rel γ β} {ma : M γ} {g : γ → MS → ER α} {F : Fc} {B : Addr → Prop} {fp : Nat → List Addr} {S : MS} {σ : St} {H : Hp} {Q : α → MS → (Addr → Prop) → (Nat → List Addr) → Hp → Prop} {r : β → Hp → Prop} (RR : SR G F B fp S σ H)
    (h : Post W G F B fp σ H ((ma S).bind g) Q)
    (k : ∀ a S' B' fp' H' x, Eff F B fp H B' fp' H' → SR G F B' fp' S' σ H' → R2 F H B' fp' S' σ H' a x → Post W G F B fp σ H (g a S') Q → r x H') : tG W G R2 ma σ H r :=
  ⟨F, B, fp, S, RR, (Post.shift h Eff.refl).imp fun a S1 B1 fp1 H1 _ R1 ⟨E1, h1⟩ x rx => k a S1 B1 fp1 H1 x E1 R1 rx h1⟩
/-- the numbers of range(..) -/
def gRng1 (vs : List RV) (S : MS) : ER (List FV) := match vs with
  | [.fz (.int j)] => if small j then .ok (rng 0 j.toNat) S else .stuck
  | _ => .stuck
def gRng2 (vs : List RV) (S : MS) : ER (List FV) := match vs with
  | [.fz (.int i), .fz (.int j)] => if small i && small j then .ok (rng i (j - i).toNat) S else .stuck
  | _ => .stuck
def mI {γ : Type} (g : γ → MS → ER (List FV)) (ls : M γ) : M (List FV) := fun S => (ls S).bind g
section
variable {a b : Expr} {ls : M (List RV)} {fs : M (List FV)} {p pos tpos : Pos} {elts : List Expr} {kk : Nat}
theorem ji_rng1 (hg : Gl X "range") (hm : X.mg "range" = none) (ha : JL W G X [a] ls) (hs : starEach [a] X.env = [(false, eval a X.env)] := by rfl) : JI W G X tg (.Call (.Name "range" p) [a] [] pos) (mI gRng1 ls) :=
  PI.imp (pi_range1 hg hm ha hs) fun σ H R ⟨F, B, fp, S, RR, h⟩ => tG.step (R2 := rL G) RR h fun vs S' B' fp' H' xs E R' rx q => by
    unfold gRng1 at q
    split at q
    · split at q
      · rename_i j c
        obtain ⟨x, r, rfl, rx, rfl⟩ := rx
        have ej := fz_int rx
        subst ej
        exact ⟨j, rfl, (small_of c).1, (small_of c).2, q B' fp' H' E R' _ wk_rng⟩
      · exact q.elim
    · exact q.elim
theorem ji_rng2 (hg : Gl X "range") (hm : X.mg "range" = none) (ha : JL W G X [a, b] ls) (hs : starEach [a, b] X.env = [(false, eval a X.env), (false, eval b X.env)] := by rfl) (hs2 : starEach [b] X.env = [(false, eval b X.env)] := by rfl) : JI W G X tg (.Call (.Name "range" p) [a, b] [] pos) (mI gRng2 ls) :=
  PI.imp (pi_range2 hg hm ha hs hs2) fun σ H R ⟨F, B, fp, S, RR, h⟩ => tG.step (R2 := rL G) RR h fun vs S' B' fp' H' xs E R' rx q => by
    unfold gRng2 at q
    split at q
    · split at q
      · rename_i i j c
        rw [Bool.and_eq_true] at c
        obtain ⟨x, r, rfl, rx, y, r', rfl, ry, rfl⟩ := rx
        have ei := fz_int rx
        have ej := fz_int ry
        subst ei ej
        exact ⟨i, j, rfl, ⟨(small_of c.1).1, (small_of c.1).2, (small_of c.2).1, (small_of c.2).2⟩, q B' fp' H' E R' _ wk_rng⟩
      · exact q.elim
    · exact q.elim
/-! enumerate -/
def numd : Nat → List FV → List FV
  | _, [] => []
  | n, v :: vs => .tup [.int (n : Nat), v] :: numd (n + 1) vs
theorem numd_len : ∀ {vs : List FV} {n : Nat}, (numd n vs).length = vs.length
  | [], _ => rfl
  | v :: vs, n => congrArg Nat.succ numd_len
theorem numd_get : ∀ {vs : List FV} {n i : Nat} {u : FV}, (numd n vs)[i]? = some u → ∃ v, vs[i]? = some v ∧ u = .tup [.int ((n + i : Nat)), v]
  | [], _, _, _, h => by cases h
  | v :: vs, n, 0, u, h => ⟨v, rfl, (Option.some.inj h).symm⟩
  | v :: vs, n, i + 1, u, h => by
    obtain ⟨w, e, e2⟩ := numd_get (vs := vs) (n := n + 1) (i := i) (u := u) h
    exact ⟨w, e, by rw [e2, show n + 1 + i = n + (i + 1) by omega]⟩
def gEnum (vs : List FV) (S : MS) : ER (List FV) := match vs with
  | [.lst us] => .ok (numd 0 us) S
  | [.tup us] => .ok (numd 0 us) S
  | _ => .stuck
def isTup1 : List FV → Bool
  | [.tup _] => true
  | _ => false
theorem frep_pair {B : Addr → Prop} {H : Hp} {T : Addr} {u v : FV} {x y : V} (hx : FRep G B H u x) (hy : FRep G B H v y) (n : H T = none) : FRep G B (upd H T (.tup [x, y])) (.tup [u, v]) (.ref T) := by
  have k : ∀ b o, H b = some o → (mutO o → B b) → upd H T (.tup [x, y]) b = some o := SR.keepN n B
  unfold FRep
  refine ⟨T, [x, y], rfl, upd_same, ?_⟩
  unfold FReps
  refine ⟨x, [y], rfl, FRep.keep k (fun _ z => z) _ _ hx, ?_⟩
  unfold FReps
  refine ⟨y, [], rfl, FRep.keep k (fun _ z => z) _ _ hy, ?_⟩
  unfold FReps
  rfl
theorem ji_enum {e : Expr} (hK : X.K = G.K) (hg : Gl X "enumerate") (hm : X.mg "enumerate" = none) (ha : JA W G X [e] fs) (hs : starEach [e] X.env = [(false, eval e X.env)] := by rfl) :
    JI W G X (.Tuple elts kk tpos) (.Call (.Name "enumerate" p) [e] [] pos) (mI gEnum fs) :=
  PI.imp (PI.or (pi_enumT hg hm ha hs) (pi_enum hg hm ha hs)) fun σ H R ⟨F, B, fp, S, RR, h⟩ => by
    refine Post.two (R2 := rA G) RR isTup1 h (fun v S' B' fp' H' x hc E R' rx q => ?_) fun v S' B' fp' H' x hc E R' rx q => ?_
    · unfold gEnum at q
      split at q
      · cases hc
      · rename_i us
        replace rx : FReps G B' H' [.tup us] x := rx
        unfold FReps at rx
        obtain ⟨x, r, rfl, rx, rr⟩ := rx
        unfold FReps at rr
        subst rr
        unfold FRep at rx
        obtain ⟨a, xs, rfl, ea, fs⟩ := rx
        rw [hK]
        refine ⟨a, xs, rfl, SqT.of ea, q B' fp' H' E R' _ ⟨fun B2 H2 i v k hB e => ?_, fun H2 k => ⟨xs, SqT.of (k a _ ea fun z => z.elim), by rw [numd_len, fs.len]⟩⟩⟩
        obtain ⟨w, e1, rfl⟩ := numd_get e
        obtain ⟨y, ey, ry⟩ := (FReps.keep k hB us xs fs).get e1
        have hq := SqT.of (K := G.K) (k a _ ea fun z => z.elim)
        refine ⟨⟨xs, y, hq, ey⟩, fun x H3 ⟨T, y', ex, n, e3, hy⟩ => ?_⟩
        have := hy xs hq
        rw [ey] at this
        cases this
        subst ex e3
        refine ⟨?_, .inr ⟨T, _, n, rfl⟩⟩
        rw [show 0 + i = i by omega]
        exact frep_pair (by unfold FRep; rfl) ry n
      · exact q.elim
    · unfold gEnum at q
      split at q
      · rename_i us
        replace rx : FReps G B' H' [.lst us] x := rx
        unfold FReps at rx
        obtain ⟨x, r, rfl, rx, rr⟩ := rx
        unfold FReps at rr
        subst rr
        unfold FRep at rx
        obtain ⟨a, xs, rfl, ba, ea, fs⟩ := rx
        rw [hK]
        refine ⟨a, xs, rfl, SqL.of ea, q B' fp' H' E R' _ ⟨fun B2 H2 i v k hB e => ?_, fun H2 k => ⟨xs, SqL.of (k a _ ea fun _ => ba), by rw [numd_len, fs.len]; exact Nat.le_refl _⟩⟩⟩
        obtain ⟨w, e1, rfl⟩ := numd_get e
        obtain ⟨y, ey, ry⟩ := (FReps.keep k hB us xs fs).get e1
        have hq := SqL.of (K := G.K) (k a _ ea fun _ => ba)
        refine ⟨⟨xs, y, hq, ey⟩, fun x H3 ⟨T, y', ex, n, e3, hy⟩ => ?_⟩
        have := hy xs hq
        rw [ey] at this
        cases this
        subst ex e3
        refine ⟨?_, .inr ⟨T, _, n, rfl⟩⟩
        rw [show 0 + i = i by omega]
        exact frep_pair (by unfold FRep; rfl) ry n
      · cases hc
      · exact q.elim
end
end
end TL
set_option Elab.async false
set_option linter.all false
set_option maxRecDepth 100000
set_option maxHeartbeats 2000000
namespace TL
open PySem PySem.Spec PyProof.Rows L2
/-! ### targets -/
abbrev BT := FV → MS → Option MS
abbrev BTs := List FV → MS → Option MS
abbrev tB (G : GT) (X : Cx) (ks : List Nat) (b : BT) : L2.TG := fun x σ H Q => σ.length = X.N.length → ∃ F B fp S v S', SR G F B fp S σ H ∧ FRep G B H v x ∧ b v S = some S' ∧ ∀ fp' σ', σ'.length = X.N.length → (∀ i, i ∉ ks → σ'[i]? = σ[i]?) → (∀ i a, a ∈ fp' i → a ∈ fp i) → SR G F B fp' S' σ' H → Q σ' H
abbrev JG (G : GT) (X : Cx) (tg : Expr) (ks : List Nat) (b : BT) : Prop := PG X tg (tB G X ks b)
abbrev JGs (G : GT) (X : Cx) (tgs : List Expr) (ks : List Nat) (b : BTs) : Prop :=
  PGs X tgs fun xs σ H Q => σ.length = X.N.length → ∃ F B fp S vs S', SR G F B fp S σ H ∧ FReps G B H vs xs ∧ b vs S = some S' ∧ ∀ fp' σ', σ'.length = X.N.length → (∀ i, i ∉ ks → σ'[i]? = σ[i]?) → (∀ i a, a ∈ fp' i → a ∈ fp i) → SR G F B fp' S' σ' H → Q σ' H
theorem PG.impI {X : Cx} {tg : Expr} {t t' : L2.TG} (h : PG X tg t) (k : ∀ x σ H Q, σ.length = X.N.length → t' x σ H Q → t x σ H Q) : PG X tg t' := ⟨fun pins s σ H v u Q I r q => h.run pins s σ H v u Q I r (k v σ H Q I.len q)⟩
theorem PGs.impI {X : Cx} {tg : List Expr} {t t' : TGs} (h : PGs X tg t) (k : ∀ x σ H Q, σ.length = X.N.length → t' x σ H Q → t x σ H Q) : PGs X tg t' := ⟨fun pins s σ H v u Q I r q => h.run pins s σ H v u Q I r (k v σ H Q I.len q)⟩
def bName (i : Nat) : BT := fun v S => some (S.set i (.fz v))
def bNil : BTs := fun vs S => match vs with
  | [] => some S
  | _ => none
def bCons (b : BT) (bs : BTs) : BTs := fun vs S => match vs with
  | v :: r => match b v S with
    | some S1 => bs r S1
    | none => none
  | [] => none
def bTup (n : Nat) (bs : BTs) : BT := fun v S => match v with
  | .tup us => if us.length = n then bs us S else none
  | .lst us => if us.length = n then bs us S else none
  | _ => none
section
variable {W : WX} {G : GT} {X : Cx} {tg e : Expr} {es : List Expr} {m : M RV} {b : BT} {bs : BTs} {pos : Pos}
theorem jg_name {k : Nat} {x : Str} (hN : X.N.Nodup) (hi : X.N[k]? = some x) (hx : Loc X.env.scope x) (hf : X.fn x = true ∨ X.env.scope.names.lookup x = some .local := by first | exact .inl rfl | exact .inr rfl | assumption) : JG G X (.Name x pos) [k] (bName k) :=
  PG.impI (pg_name hN hi hx hf) fun x σ H Q hl h => by
    obtain ⟨F, B, fp, S, v, S', R, fr, e, q⟩ := h hl
    cases e
    have hk : k < S.sl.length := by
      rw [← R.len, hl]
      exact (List.getElem?_eq_some_iff.mp hi).1
    have hσ : k < σ.length := by rw [R.len]; exact hk
    have R' := R.setSl (x := x) (s := .fz v) (f := []) hk List.nodup_nil (fun a h => by cases h) ⟨fpSet_same, x, List.getElem?_set_self hσ, fr⟩
    refine q _ _ (by rw [List.length_set, hl]) (fun i hi => List.getElem?_set_ne fun z => hi (by rw [z]; exact List.mem_singleton.mpr rfl)) (fun i a ha => ?_) R'
    by_cases n : i = k
    · rw [n, fpSet_same] at ha; cases ha
    · rw [fpSet_ne n] at ha; exact ha
theorem jgs_nil : JGs G X [] [] bNil := PGs.impI pgs_nil fun xs σ H Q hl h => by
  obtain ⟨F, B, fp, S, vs, S', R, fr, e, q⟩ := h hl
  unfold bNil at e
  split at e
  · unfold FReps at fr
    cases e
    exact ⟨fr, q fp σ hl (fun _ _ => rfl) (fun _ _ h => h) R⟩
  · cases e
theorem jgs_cons {ks ls : List Nat} (h1 : JG G X e ks b) (h2 : JGs G X es ls bs) (hs : (assignEach (e :: es) X.env).map (·.2) = assign e X.env :: (assignEach es X.env).map (·.2) := by rfl) : JGs G X (e :: es) (ks ++ ls) (bCons b bs) :=
  PGs.impI (pgs_cons h1 h2 hs) fun xs σ H Q hl h => by
    obtain ⟨F, B, fp, S, vs, S', R, fr, e, q⟩ := h hl
    unfold bCons at e
    split at e
    · rename_i v r
      split at e
      · rename_i S1 e1
        unfold FReps at fr
        obtain ⟨x, rx, rfl, f1, f2⟩ := fr
        refine ⟨x, rx, rfl, fun _ => ⟨F, B, fp, S, v, S1, R, f1, e1, fun fp1 σ1 hl1 hk1 hs1 R1 _ => ⟨F, B, fp1, S1, r, S', R1, f2, e, fun fp2 σ2 hl2 hk2 hs2 R2 => q fp2 σ2 hl2 (fun i hi => (hk2 i fun z => hi (List.mem_append_right _ z)).trans (hk1 i fun z => hi (List.mem_append_left _ z))) (fun i a h => hs1 i a (hs2 i a h)) R2⟩⟩⟩
      · cases e
    · cases e
theorem jg_tup {n k : Nat} {ks : List Nat} (hK : X.K = G.K) (hc : X.calm = true) (h : JGs G X es ks bs) (hn : (assignEach es X.env).length = n := by rfl) (hst : (assignEach es X.env).findIdx? (·.1) = none := by rfl) : JG G X (.Tuple es k pos) ks (bTup n bs) :=
  PG.impI (PG.or (pg_tup hc h hn hst) (pg_lst hc h hn hst)) fun x σ H Q hl h => by
    obtain ⟨F, B, fp, S, v, S', R, fr, e, q⟩ := h hl
    rw [hK]
    unfold bTup at e
    split at e
    · rename_i us
      split at e
      · rename_i c
        unfold FRep at fr
        obtain ⟨a, xs, rfl, ea, fs⟩ := fr
        exact .inl ⟨a, xs, rfl, SqT.of ea, by rw [← fs.len]; exact c, fun _ => ⟨F, B, fp, S, us, S', R, fs, e, q⟩⟩
      · cases e
    · rename_i us
      split at e
      · rename_i c
        unfold FRep at fr
        obtain ⟨a, xs, rfl, ba, ea, fs⟩ := fr
        exact .inr ⟨a, xs, rfl, SqL.of ea, by rw [← fs.len]; exact c, fun _ => ⟨F, B, fp, S, us, S', R, fs, e, q⟩⟩
      · cases e
    · cases e
/-- a, b, .. = e -/
def sAsg (b : BT) (m : M RV) : MSt := fun S => (m S).thn fun v S1 => (toF v S1).thn fun u S2 => match b u S2 with
  | some S3 => .nx S3
  | none => .stuck
theorem js_asg {ks : List Nat} (he : JX W G X e m) (hg : JG G X tg ks b) (hs : swapsWithSole [tg] e pos.line X.env = pure false := by rfl) (hw : swappedStores [tg] e X.env = pure none := by rfl)
    (h1 : (assignEach [tg] X.env).map (·.2) = [assign tg X.env] := by rfl) : JS W G X (.Assign [tg] e pos) (sAsg b m) :=
  PS.impI (ps_asg he hg hs hw h1) fun D σ H hl h => by
    refine tS.expr (R2 := rX G) h fun F B fp S v S' B' fp' H' x R E R1 rx q => fun _ => ?_
    have q' : Post W G F B fp σ H (toF v S') fun u S2 _ _ _ => PostS W G F D (match b u S2 with | some S3 => .nx S3 | none => .stuck) := Post.thn q
    obtain ⟨u, S2, B2, fp2, _, E2, R2, fr, q2, _⟩ := toF_ok E R1 rx q'
    split at q2
    · rename_i S3 eb
      exact ⟨F, B2, fp2, S2, u, S3, R2, fr, eb, fun fp3 σ3 _ _ _ R3 => q2 _ _ _ _ R3⟩
    · exact q2.elim
end
/-! ### for -/
/-- a loop's frame: what is frozen, or cannot change, at its start -/
noncomputable def fcIn (F : Fc) (B : Addr → Prop) (H : Hp) : Fc := { F with H0 := fun b => @ite _ (F.H0 b ≠ none ∨ B b ∨ ∃ o, H b = some o ∧ ¬ mutO o) (Classical.propDecidable _) (H b) none, B0 := B }
section
variable {W : WX} {G : GT} {F : Fc} {B B' : Addr → Prop} {fp fp' : Nat → List Addr} {S S' : MS} {σ σ' : St} {H H' : Hp}
theorem SR.at0 (R : SR G F B fp S σ H) {b : Addr} (h : F.H0 b ≠ none) : H b ≠ none := by
  cases q : F.H0 b with
  | none => exact absurd q h
  | some o =>
    by_cases h1 : F.ad = some b
    · obtain ⟨_, _, ⟨xs, z⟩, _⟩ := R.notBad h1; rw [z]; simp
    · by_cases h2 : F.nw = some b
      · obtain ⟨_, _, ⟨_, _, _, z⟩⟩ := R.notNw h2; rw [z]; simp
      · rw [R.ext b o q h1 h2]; simp
theorem fcIn_pos {b : Addr} (h : F.H0 b ≠ none ∨ B b ∨ ∃ o, H b = some o ∧ ¬ mutO o) : (fcIn F B H).H0 b = H b := if_pos h
theorem fcIn_neg {b : Addr} (h : ¬ (F.H0 b ≠ none ∨ B b ∨ ∃ o, H b = some o ∧ ¬ mutO o)) : (fcIn F B H).H0 b = none := if_neg h
theorem fcIn_some {b : Addr} {o : HO} (h : (fcIn F B H).H0 b = some o) : H b = some o := by
  by_cases c : F.H0 b ≠ none ∨ B b ∨ ∃ o, H b = some o ∧ ¬ mutO o
  · rw [fcIn_pos c] at h; exact h
  · rw [fcIn_neg c] at h; cases h
theorem SR.enter (R : SR G F B fp S σ H) : SR G (fcIn F B H) B fp S σ H := by
  have ad0 : ∀ a, F.ad = some a → (fcIn F B H).H0 a ≠ none := fun a h => by
    obtain ⟨_, _, ⟨xs, z⟩, n⟩ := R.notBad h
    rw [fcIn_pos (.inl n), z]
    simp
  refine ⟨R.len, fun i s e => R.sl i s e, R.out, R.nd, R.dj, fun i a h => ⟨(R.nb i a h).1, ?_⟩, fun b o e _ _ => fcIn_some e, ?_, fun a h => ?_, fun b h => h, fun b h => .inl h, R.bt⟩
  · refine fcIn_neg fun z => ?_
    rcases z with z | z | ⟨o, z, n⟩
    · exact z (R.nb i a h).2
    · exact (R.nb i a h).1 z
    · obtain ⟨xs, w⟩ := R.fpl h
      rw [z] at w
      cases w
      exact n trivial
  · have d := R.dr
    unfold DrR at d ⊢
    show match F.ad, S.dr with
      | some a, some ds => H a = some (.lst (ds.map V.int)) ∧ (fcIn F B H).H0 a ≠ none ∧ ¬ B a
      | none, none => True
      | _, _ => False
    cases e1 : F.ad with
    | none =>
      rw [e1] at d
      cases e2 : S.dr with
      | none => trivial
      | some ds => rw [e2] at d; exact d
    | some a =>
      rw [e1] at d
      cases e2 : S.dr with
      | none => rw [e2] at d; exact d
      | some ds => rw [e2] at d; exact ⟨d.1, ad0 a e1, (R.notBad e1).1⟩
  · obtain ⟨⟨C, dx, fs, n1⟩, n2, n3, n4⟩ := R.nw a h
    refine ⟨⟨C, dx, fs, n1⟩, ?_, (R.notNw h).1, n4⟩
    rw [fcIn_pos (.inl n2), n1]
    simp
theorem SR.leave (R : SR G F B fp S σ H) (R' : SR G (fcIn F B H) B' fp' S' σ' H') : SR G F B' fp' S' σ' H' := by
  have back : ∀ b, (fcIn F B H).H0 b = none → F.H0 b = none := fun b h => by
    refine Classical.byContradiction fun n => R.at0 n ?_
    rw [fcIn_pos (.inl n)] at h
    exact h
  refine ⟨R'.len, fun i s e => R'.sl i s e, R'.out, R'.nd, R'.dj, fun i a h => ⟨(R'.nb i a h).1, back a (R'.nb i a h).2⟩, fun b o e n1 n2 => ?_, ?_, fun a h => ?_, fun b h => R'.bm b (R.bm b h), fun b h => ?_, R'.bt⟩
  · refine R'.ext b o ?_ n1 n2
    rw [fcIn_pos (.inl (by rw [e]; simp))]
    exact R.ext b o e n1 n2
  · have d := R'.dr
    unfold DrR at d ⊢
    have d' : match F.ad, S'.dr with
      | some a, some ds => H' a = some (.lst (ds.map V.int)) ∧ (fcIn F B H).H0 a ≠ none ∧ ¬ B a
      | none, none => True
      | _, _ => False := d
    cases e1 : F.ad with
    | none =>
      rw [e1] at d'
      cases e2 : S'.dr with
      | none => trivial
      | some ds => rw [e2] at d'; exact d'
    | some a =>
      rw [e1] at d'
      cases e2 : S'.dr with
      | none => rw [e2] at d'; exact d'
      | some ds =>
        rw [e2] at d'
        exact ⟨d'.1, (R.notBad e1).2.2.2, fun z => (R.notBad e1).1 (R.bm a z)⟩
  · obtain ⟨n1, n2, n3, n4⟩ := R'.nw a h
    exact ⟨n1, (R.nw a h).2.1, (R.nw a h).2.2.1, n4⟩
  · rcases R'.bg b h with z | z
    · exact R.bg b z
    · exact .inr (back b z)
theorem SR.kp (R : SR G F B fp S σ H) (R' : SR G (fcIn F B H) B' fp' S' σ' H') : Kp B H H' ∧ ∀ b, B b → B' b := by
  refine ⟨fun b o e m => ?_, R'.bm⟩
  refine R'.ext b o ?_ (fun z => ?_) fun z => ?_
  · rw [fcIn_pos ?_]
    · exact e
    · by_cases c : mutO o
      · exact .inr (.inl (m c))
      · exact .inr (.inr ⟨o, e, c⟩)
  · obtain ⟨nB, _, ⟨xs, w⟩, _⟩ := R.notBad z
    rw [e] at w
    cases w
    exact nB (m trivial)
  · obtain ⟨nB, _, ⟨_, _, _, w⟩⟩ := R.notNw z
    rw [e] at w
    cases w
    exact nB (m trivial)
theorem RVR.leave {v : RV} {x : V} {f : List Addr} (R : SR G F B fp S σ H) (h : RVR G (fcIn F B H) B' fp' S' σ' H' v x f) : RVR G F B' fp' S' σ' H' v x f := by
  cases v with
  | tmp ts =>
    obtain ⟨h1, h2, h3⟩ := h
    refine ⟨h1, h2, fun a ha => ⟨(h3 a ha).1, ?_, (h3 a ha).2.2⟩⟩
    refine Classical.byContradiction fun n => R.at0 n ?_
    have := (h3 a ha).2.1
    rw [fcIn_pos (.inl n)] at this
    exact this
  | _ => exact h
end
def Out.loop : Out → MSt → Out
  | .nx S, k => k S
  | .ct S, k => k S
  | .bk S, _ => .nx S
  | .rt v S, _ => .rt v S
  | .err e S, _ => .err e S
  | .stuck, _ => .stuck
def loopF (b : BT) (body : MSt) : List FV → MSt
  | [], S => .nx S
  | v :: vs, S => match b v S with
    | some S1 => (body S1).loop (loopF b body vs)
    | none => .stuck
def sFor (src : M (List FV)) (b : BT) (body : MSt) : MSt := fun S => (src S).thn fun vs S1 => loopF b body vs S1
section
variable {W : WX} {G : GT} {X : Cx} {tg iter : Expr} {body : List Stmt} {src : M (List FV)} {b : BT} {mb : MSt} {pos : Pos}
theorem loop_core {F : Fc} {B1 : Addr → Prop} {fp1 : Nat → List Addr} {S1 : MS} {σ : St} {H1 : Hp} {D : Ends} {vs : List FV} {J : It} {g : L2.TG} {tb : TS} (R1 : SR G F B1 fp1 S1 σ H1) (wk : Wk G B1 H1 vs J) (q : PostS W G F D (loopF b mb vs S1))
    (hg : ∀ x σ H Q, (∃ F B fp S v S', SR G F B fp S σ H ∧ FRep G B H v x ∧ b v S = some S' ∧ ∀ fp' σ', SR G F B fp' S' σ' H → Q σ' H) → g x σ H Q)
    (hb : ∀ D σ H, tS W G mb D σ H → tb D σ H) :
    ∃ W' : Nat → Nat → St → Hp → Prop, (∃ m, W' 0 m σ H1) ∧ ∀ i m σ H, W' i m σ H →
      (J.stop i H ∧ D.nx σ H) ∨ (J.go i H ∧ ∃ N : St → Hp → Prop, (∀ σ' H', N σ' H' → ∃ m', m' < m ∧ W' (i + 1) m' σ' H') ∧ ∀ x H', J.yld i H x H' → g x σ H' fun σ2 H2 => tb { D with nx := N, ct := N, bk := D.nx } σ2 H2) := by
  refine ⟨fun i m σ2 H2 => i ≤ vs.length ∧ m = vs.length - i ∧ ∃ B2 fp2 S2, SR G (fcIn F B1 H1) B2 fp2 S2 σ2 H2 ∧ PostS W G F D (loopF b mb (vs.drop i) S2), ⟨vs.length, Nat.zero_le _, rfl, B1, fp1, S1, R1.enter, q⟩, ?_⟩
  rintro i m σ2 H2 ⟨hi, rfl, B2, fp2, S2, R2, q2⟩
  obtain ⟨kp, hB⟩ := R1.kp R2
  by_cases hlt : i < vs.length
  · have ev : vs[i]? = some vs[i] := by simp [hlt]
    obtain ⟨go, yl⟩ := wk.go B2 H2 i vs[i] kp hB ev
    rw [List.drop_eq_getElem_cons hlt] at q2
    refine .inr ⟨go, fun σ' H' => ∃ B' fp' S', SR G (fcIn F B1 H1) B' fp' S' σ' H' ∧ PostS W G F D (loopF b mb (vs.drop (i + 1)) S'), fun σ' H' n => ⟨vs.length - (i + 1), by omega, hlt, rfl, n⟩, fun x H3 y => ?_⟩
    obtain ⟨fr, e3⟩ := yl x H3 y
    have R3 : SR G (fcIn F B1 H1) B2 fp2 S2 σ2 H3 := by
      rcases e3 with e3 | ⟨T, xs, n, e3⟩
      · rw [e3]; exact R2
      · rw [e3]; exact R2.new n
    replace q2 : PostS W G F D (match b vs[i] S2 with | some S1 => (mb S1).loop (loopF b mb (vs.drop (i + 1))) | none => .stuck) := q2
    split at q2
    · rename_i S4 eb
      refine hg _ _ _ _ ⟨_, B2, fp2, S2, _, S4, R3, fr, eb, fun fp4 σ4 R4 => hb _ _ _ ⟨_, B2, fp4, S4, R4, ?_⟩⟩
      cases e : mb S4 with
      | nx S5 => rw [e] at q2; exact fun B5 fp5 σ5 H5 R5 => ⟨B5, fp5, S5, R5, q2⟩
      | ct S5 => rw [e] at q2; exact fun B5 fp5 σ5 H5 R5 => ⟨B5, fp5, S5, R5, q2⟩
      | bk S5 => rw [e] at q2; exact fun B5 fp5 σ5 H5 R5 => q2 B5 fp5 σ5 H5 (R1.leave R5)
      | rt v S5 => rw [e] at q2; exact fun B5 fp5 σ5 H5 x f R5 rx => q2 B5 fp5 σ5 H5 x f (R1.leave R5) (RVR.leave R1 rx)
      | err ee S5 => rw [e] at q2; exact fun B5 fp5 σ5 H5 c d R5 rx => q2 B5 fp5 σ5 H5 c d (R1.leave R5) rx
      | stuck => rw [e] at q2; exact q2.elim
    · exact q2.elim
  · have e : i = vs.length := by omega
    subst e
    rw [List.drop_length] at q2
    exact .inl ⟨wk.stop H2 kp, q2 B2 fp2 σ2 H2 (R1.leave R2)⟩
theorem js_for {ks : List Nat} (hp : PassesOwn (model X.prog X.w) X.A X.env X.xe) (hc : X.calm = true) (hi : JI W G X tg iter src) (hg : JG G X tg ks b) (hb : JB W G X body mb) (hs : ∀ x, foldedSetIterable iter X.env x = pure x := by intro _; rfl) : JS W G X (.For tg iter body [] pos) (sFor src b mb) :=
  PS.imp (ps_for hp hc hi hg hb hs) fun D σ H h => by
    obtain ⟨F, B, fp, S, R, h⟩ := h
    refine ⟨F, B, fp, S, R, (Post.thn h).imp fun vs S1 B1 fp1 H1 E1 R1 q J wk => ?_⟩
    exact loop_core (g := tB G X ks b) (tb := tS W G mb) R1 wk q (fun x σ H Q ⟨F, B, fp, S, v, S', R, fr, e, k⟩ _ => ⟨F, B, fp, S, v, S', R, fr, e, fun fp' σ' _ _ _ R' => k fp' σ' R'⟩) fun D σ H h => h
end
end TL
set_option Elab.async false
set_option linter.all false
set_option maxRecDepth 100000
set_option maxHeartbeats 2000000
namespace TL
open PySem PySem.Spec PyProof.Rows L2
/-! ### list comprehensions -/
abbrev WF : WX := fun _ _ _ _ => False
def dropIn (vs : List Nat) : Sl → Sl
  | .al j p => if j ∈ vs then .un else .al j p
  | s => s
def MS.wipe (S : MS) (vs : List Nat) : MS := { S with sl := S.sl.mapIdx fun i s => if i ∈ vs then .un else dropIn vs s }
section
variable {G : GT} {F : Fc} {B : Addr → Prop} {fp : Nat → List Addr} {S : MS} {σ σ' : St} {H : Hp}
theorem SR.wipe (R : SR G F B fp S σ H) (vs : List Nat) (hl : σ'.length = σ.length) (he : ∀ i, i ∉ vs → σ'[i]? = σ[i]?) : ∃ fp', SR G F B fp' (S.wipe vs) σ' H ∧ ∀ i a, a ∈ fp' i → a ∈ fp i := by
  let fp' : Nat → List Addr := fun i => if i ∈ vs then [] else fp i
  have fi : ∀ {i}, i ∈ vs → fp' i = [] := fun h => if_pos h
  have fo : ∀ {i}, i ∉ vs → fp' i = fp i := fun h => if_neg h
  have sub : ∀ i a, a ∈ fp' i → a ∈ fp i := fun i a h => by
    by_cases c : i ∈ vs
    · rw [fi c] at h; cases h
    · rw [fo c] at h; exact h
  have sl : ∀ i, (S.wipe vs).sl[i]? = S.sl[i]?.map fun s => if i ∈ vs then .un else dropIn vs s := fun i => List.getElem?_mapIdx
  refine ⟨fp', ⟨?_, fun i s e => ?_, fun i e => ?_, fun i => ?_, fun i j a h1 h2 => R.dj i j a (sub i a h1) (sub j a h2), fun i a h => R.nb i a (sub i a h), R.ext, R.dr, R.nw, R.bm, R.bg, R.bt⟩, sub⟩
  · rw [hl, R.len]
    unfold MS.wipe
    rw [List.length_mapIdx]
  · rw [sl] at e
    obtain ⟨s0, e0, es⟩ := Option.map_eq_some_iff.mp e
    by_cases c : i ∈ vs
    · rw [if_pos c] at es
      subst es
      exact fi c
    · rw [if_neg c] at es
      have q := R.sl i s0 e0
      have ei := he i c
      cases s0 with
      | al j p =>
        unfold dropIn at es
        simp only at es
        split at es
        · subst es
          show fp' i = []
          rw [fo c]
          exact q.1
        · rename_i cj
          subst es
          obtain ⟨q0, x, r, q1, q2, q3⟩ := q
          refine ⟨by rw [fo c]; exact q0, x, r, by rw [ei]; exact q1, by rw [he j cj]; exact q2, ?_⟩
          rw [fo cj]
          exact q3
      | un => subst es; show fp' i = []; rw [fo c]; exact q
      | fz v => subst es; obtain ⟨q0, x, q1, q2⟩ := q; exact ⟨by rw [fo c]; exact q0, x, by rw [ei]; exact q1, q2⟩
      | own ts => subst es; obtain ⟨x, q1, q2⟩ := q; exact ⟨x, by rw [ei]; exact q1, by rw [fo c]; exact q2⟩
      | dr => subst es; obtain ⟨q0, a, q1, q2⟩ := q; exact ⟨by rw [fo c]; exact q0, a, q1, by rw [ei]; exact q2⟩
      | new cc fs => subst es; obtain ⟨q0, a, dx, ss, q1, q2, q3⟩ := q; exact ⟨by rw [fo c]; exact q0, a, dx, ss, q1, by rw [ei]; exact q2, q3⟩
      | scr ns => subst es; obtain ⟨q0, a, q1, q2⟩ := q; exact ⟨by rw [fo c]; exact q0, a, by rw [ei]; exact q1, q2⟩
      | ex ee => subst es; obtain ⟨q0, a, k, d, q1, q2, q3⟩ := q; exact ⟨by rw [fo c]; exact q0, a, k, d, q1, by rw [ei]; exact q2, q3⟩
  · by_cases c : i ∈ vs
    · exact fi c
    · rw [fo c]
      rw [sl] at e
      exact R.out i (Option.map_eq_none_iff.mp e)
  · by_cases c : i ∈ vs
    · rw [fi c]; exact List.nodup_nil
    · rw [fo c]; exact R.nd i
theorem wipe_at {σ : St} {i : Nat} : ∀ {vs : List Nat}, i ∈ vs → i < σ.length → (L2.wipe σ vs)[i]? = some none
  | v :: vs, h, hl => by
    unfold L2.wipe
    by_cases c : v = i
    · subst c
      rw [List.getElem?_set_self (by rw [wipe_length]; exact hl)]
    · rw [List.getElem?_set_ne c]
      exact wipe_at ((List.mem_cons.mp h).resolve_left fun z => c z.symm) hl
theorem wipe_ext {σ σ' : St} {vs : List Nat} (hl : σ'.length = σ.length) (h : ∀ i, i ∉ vs → σ'[i]? = σ[i]?) : L2.wipe σ' vs = L2.wipe σ vs := by
  refine List.ext_getElem? fun i => ?_
  by_cases c : i ∈ vs
  · by_cases d : i < σ.length
    · rw [wipe_at c d, wipe_at c (by rw [hl]; exact d)]
    · rw [List.getElem?_eq_none (by rw [wipe_length]; omega), List.getElem?_eq_none (by rw [wipe_length]; omega)]
  · rw [wipe_out c, wipe_out c, h i c]
/-- a list that no slot holds is written -/
theorem SR.updP {D : Addr} {o : HO} (R : SR G F B fp S σ H) (hD : ∃ xs, H D = some (.lst xs)) (h : ¬ B D ∧ F.H0 D = none ∧ ∀ i, D ∉ fp i) : SR G F B fp S σ (upd H D o) := by
  obtain ⟨ys, hD⟩ := hD
  obtain ⟨nB, n0, nf⟩ := h
  have hk : ∀ b u, b ≠ D → H b = some u → upd H D o b = some u := fun b u n e => by rw [upd_ne n]; exact e
  have kF : ∀ b u, H b = some u → (mutO u → B b) → upd H D o b = some u := fun b u e w => by
    refine hk b u (fun z => ?_) e
    rw [z, hD] at e
    cases e
    exact nB (z ▸ w trivial)
  refine ⟨R.len, fun i s e => ?_, R.out, R.nd, R.dj, R.nb, fun b u e n1 n2 => hk b u (fun z => ?_) (R.ext b u e n1 n2), ?_, fun a ha => ?_, R.bm, R.bg, fun b hb => ?_⟩
  · have q := R.sl i s e
    cases s with
    | un => exact q
    | fz v => obtain ⟨q0, x, q1, q2⟩ := q; exact ⟨q0, x, q1, FRep.keep kF (fun _ h => h) v x q2⟩
    | own ts => obtain ⟨x, q1, q2⟩ := q; exact ⟨x, q1, ORep.keep kF (fun _ h => h) _ x _ (fun b hb => upd_ne fun z => nf i (z ▸ hb)) q2⟩
    | al j p => obtain ⟨q0, x, r, q1, q2, q3⟩ := q; exact ⟨q0, x, r, q1, q2, AtP.mono (fun b xs pb e => ⟨pb, hk b _ (fun z => nf j (z ▸ pb)) e⟩) q3⟩
    | dr => exact q
    | new c fs =>
      obtain ⟨q0, b, dx, ss, q1, q2, q3, q4, q5⟩ := q
      exact ⟨q0, b, dx, ss, q1, q2, hk b _ (fun z => (R.nw b q1).2.1 (by rw [z]; exact n0)) q3, q4, FReps.keep kF (fun _ h => h) _ _ q5⟩
    | scr ns => obtain ⟨q0, b, q1, q2⟩ := q; exact ⟨q0, b, q1, ScR.keep kF q2⟩
    | ex ee => obtain ⟨q0, b, c, d, q1, q2, q3⟩ := q; exact ⟨q0, b, c, d, q1, q2, XRep.keep kF (fun _ h => h) q3⟩
  · rw [z, n0] at e; cases e
  · have d := R.dr
    unfold DrR at d ⊢
    cases e1 : F.ad with
    | none =>
      rw [e1] at d
      cases e2 : S.dr with
      | none => trivial
      | some ds => rw [e2] at d; exact d
    | some a =>
      rw [e1] at d
      cases e2 : S.dr with
      | none => rw [e2] at d; exact d
      | some ds => rw [e2] at d; exact ⟨hk a _ (fun z => d.2.1 (by rw [z]; exact n0)) d.1, d.2.1, d.2.2⟩
  · obtain ⟨⟨C, dx, fs, n1⟩, n2⟩ := R.nw a ha
    exact ⟨⟨C, dx, fs, hk a _ (fun z => n2.1 (by rw [z]; exact n0)) n1⟩, n2⟩
  · rw [upd_ne (fun (z : b = D) => nB (z ▸ hb))]
    exact R.bt b hb
theorem toO_of {Bs : Addr → Prop} {fps : Nat → List Addr} {Hs : Hp} {v : RV} {x : V} {t : OT} {S2 : MS} (E : Eff F Bs fps Hs B fp H) (R : SR G F B fp S σ H) (r : rX G F Hs B fp S σ H v x) (h : toO v S = .ok t S2) :
    ∃ B2 fp2 f, Eff F Bs fps Hs B2 fp2 H ∧ Eff F B fp H B2 fp2 H ∧ SR G F B2 fp2 S2 σ H ∧ ORep G B2 H t x f ∧ f.Nodup ∧ (∀ a ∈ f, ¬ B2 a ∧ F.H0 a = none ∧ ∀ i, a ∉ fp2 i) ∧ ∀ a ∈ f, Hs a = none := by
  obtain ⟨f, r, hf⟩ := r
  cases v with
  | fz v => cases h; exact ⟨B, fp, [], E, Eff.refl, R, by unfold ORep; exact ⟨r.1, rfl⟩, List.nodup_nil, fun _ z => (by cases z), fun _ z => (by cases z)⟩
  | tmp ts => cases h; exact ⟨B, fp, f, E, Eff.refl, R, r.1, r.2.1, r.2.2, hf⟩
  | pl j q =>
    obtain ⟨⟨r0, h1, h2⟩, _⟩ := r
    cases e : S.at j q with
    | none => simp only [toO, e] at h; cases h
    | some u =>
      obtain ⟨B2, fp2, R2, E2, fr⟩ := R.frzAt e h1 h2
      simp only [toO, e] at h
      cases h
      exact ⟨B2, fp2, [], E.trans E2, E2, R2, by unfold ORep; exact ⟨fr, rfl⟩, List.nodup_nil, fun _ z => (by cases z), fun _ z => (by cases z)⟩
  | dr => cases h
  | scr ns => cases h
end
/-- inside a block nothing is raised -/
def ER.in {α β : Type} : ER α → (α → MS → ER β) → ER β
  | .ok a S, k => k a S
  | _, _ => .stuck
def lcF (b : BT) (t : M Bool) (m : M RV) (vs : List Nat) : List FV → List OT → M (List OT)
  | [], acc, S => .ok acc S
  | v :: r, acc, S => match b v S with
    | none => .stuck
    | some S1 => (t S1).in fun ok S2 => if ok = true then (m S2).in fun y S3 => (toO y S3).in fun o S4 => if lineOk (acc.length + 1) = true then lcF b t m vs r (acc ++ [o]) (S4.wipe vs) else .stuck else lcF b t m vs r acc (S2.wipe vs)
def mLc (vs : List Nat) (src : M (List FV)) (b : BT) (t : M Bool) (m : M RV) : M RV := fun S => (src S).bind fun us S1 => (lcF b t m vs us [] (S1.wipe vs)).in fun ts S2 => .ok (.tmp ts) (S2.wipe vs)
theorem Post.in {W : WX} {G : GT} {F : Fc} {B : Addr → Prop} {fp : Nat → List Addr} {σ : St} {H : Hp} {α β : Type} {r : ER α} {k : α → MS → ER β} {C : ER β → Prop} (hC : ¬ C .stuck) (h : C (r.in k)) :
    Post W G F B fp σ H r fun v S' _ _ _ => C (k v S') := by
  cases r with
  | ok v S1 => exact fun _ _ _ _ _ => h
  | _ => exact (hC h).elim
theorem in_ok {α β : Type} {r : ER α} {k : α → MS → ER β} {C : ER β → Prop} (hC : ¬ C .stuck) (h : C (r.in k)) : ∃ v S, r = .ok v S ∧ C (k v S) := by
  cases r with
  | ok v S1 => exact ⟨v, S1, rfl, h⟩
  | _ => exact (hC h).elim
section
variable {W : WX} {G : GT} {X : Cx}
theorem lc_sound {F : Fc} {B1 : Addr → Prop} {fp1 : Nat → List Addr} {S1 : MS} {σ : St} {H1 : Hp} {us : List FV} {J : It} {vs ks : List Nat} {b : BT} {t : M Bool} {m : M RV} {C : ER (List OT) → Prop} {Qd : V → Hp → Prop} {Y : Cx} {D : Addr}
    (R1 : SR G F B1 fp1 S1 σ H1) (wk : Wk G B1 H1 us J) (hC : ¬ C .stuck) (hq : C (lcF b t m vs us [] (S1.wipe vs))) (hN : Y.N.length = σ.length) (hk : ∀ i ∈ ks, i ∈ vs) (hD : H1 D = none)
    (fin : ∀ B fp S ts acc f H, Eff F B1 fp1 H1 B fp H → SR G F B fp S (L2.wipe σ vs) H → H D = some (.lst acc) → OReps G B H ts acc f → (D :: f).Nodup → (∀ a ∈ D :: f, ¬ B a ∧ F.H0 a = none ∧ ∀ i, a ∉ fp i) → (∀ a ∈ D :: f, H1 a = none) → C (.ok ts S) → Qd (.ref D) H) :
    ∃ W' : Nat → Nat → Hp → Prop, (∃ n, W' 0 n (upd H1 D (.lst []))) ∧ ∀ i n H, W' i n H →
      (J.stop i H ∧ Qd (.ref D) H) ∨ (J.go i H ∧ ∃ Nx : Hp → Prop, (∀ H', Nx H' → ∃ n', n' < n ∧ W' (i + 1) n' H') ∧ ∀ x H', J.yld i H x H' → tB G Y ks b x (L2.wipe σ vs) H' fun σ2 H2 => L2.wipe σ2 vs = L2.wipe σ vs ∧ tG WF G rB t σ2 H2 fun k H3 =>
        if k = true then tG WF G (rX G) m σ2 H3 fun y H4 => ∃ acc, H4 D = some (.lst acc) ∧ acc.length < sizeLine ∧ Nx (upd H4 D (.lst (acc ++ [y]))) else Nx H3) := by
  have pr : ∀ {B : Addr → Prop} {fp : Nat → List Addr} {H : Hp}, Eff F B1 fp1 H1 B fp H → Kp B1 H1 H ∧ ∀ b, B1 b → B b := fun E => ⟨R1.keepF E, E.bm⟩
  let Iv : Nat → Hp → Prop := fun i H => ∃ B fp S ts acc f, Eff F B1 fp1 H1 B fp H ∧ SR G F B fp S (L2.wipe σ vs) H ∧ H D = some (.lst acc) ∧ OReps G B H ts acc f ∧ (D :: f).Nodup ∧ (∀ a ∈ D :: f, ¬ B a ∧ F.H0 a = none ∧ ∀ i, a ∉ fp i) ∧ (∀ a ∈ D :: f, H1 a = none) ∧ C (lcF b t m vs (us.drop i) ts S)
  refine ⟨fun i n H => i ≤ us.length ∧ n = us.length - i ∧ Iv i H, ⟨us.length, Nat.zero_le _, rfl, ?_⟩, ?_⟩
  · obtain ⟨fpw, Rw, sub⟩ := R1.wipe (σ' := L2.wipe σ vs) vs (wipe_length σ vs) fun i h => wipe_out h
    have nB : ¬ B1 D := fun z => R1.bt D z hD
    have nf : ∀ i, D ∉ fp1 i := fun i z => by obtain ⟨xs, w⟩ := R1.fpl z; rw [hD] at w; cases w
    have Ew : Eff F B1 fp1 H1 B1 fpw (upd H1 D (.lst [])) := ⟨fun c o e _ => same_upd hD c o e, there_upd hD, fun i a h => .inl ⟨i, sub i a h⟩, fun _ h => .inl h, fun _ h => h⟩
    refine ⟨B1, fpw, S1.wipe vs, [], [], [], Ew, Rw.new hD, upd_same, by unfold OReps; exact ⟨rfl, rfl⟩, List.nodup_cons.mpr ⟨List.not_mem_nil, List.nodup_nil⟩, fun a ha => ?_, fun a ha => ?_, hq⟩
    · rw [List.mem_singleton.mp ha]
      exact ⟨nB, R1.h0 hD, fun i z => nf i (sub i _ z)⟩
    · rw [List.mem_singleton.mp ha]; exact hD
  · rintro i n H ⟨hi, rfl, B, fp, S, ts, acc, f, E, R, eD, ho, nd, pn, ph, q⟩
    obtain ⟨kp, hB⟩ := pr E
    have lst : ∀ a ∈ D :: f, ∃ xs, H a = some (.lst xs) := fun a ha => by
      rcases List.mem_cons.mp ha with z | z
      · rw [z]; exact ⟨acc, eD⟩
      · exact OReps.lst ts acc f ho a z
    by_cases hlt : i < us.length
    · have ev : us[i]? = some us[i] := by simp [hlt]
      obtain ⟨go, yl⟩ := wk.go B H i us[i] kp hB ev
      rw [List.drop_eq_getElem_cons hlt] at q
      refine .inr ⟨go, Iv (i + 1), fun H' h => ⟨us.length - (i + 1), by omega, hlt, rfl, h⟩, fun x H3 y => fun hln => ?_⟩
      obtain ⟨fr, e3⟩ := yl x H3 y
      have st3 : SR G F B fp S (L2.wipe σ vs) H3 ∧ Eff F B fp H B fp H3 := by
        rcases e3 with e3 | ⟨T, xs, nn, e3⟩
        · rw [e3]; exact ⟨R, Eff.refl⟩
        · rw [e3]; exact ⟨R.new nn, Eff.new nn⟩
      obtain ⟨R3, E3⟩ := st3
      replace q : C (match b us[i] S with | none => .stuck | some S1 => (t S1).in fun ok S2 => if ok = true then (m S2).in fun y S3 => (toO y S3).in fun o S4 => if lineOk (ts.length + 1) = true then lcF b t m vs (us.drop (i + 1)) (ts ++ [o]) (S4.wipe vs) else .stuck else lcF b t m vs (us.drop (i + 1)) ts (S2.wipe vs)) := q
      split at q
      · exact (hC q).elim
      rename_i S4 eb
      refine ⟨F, B, fp, S, us[i], S4, R3, fr, eb, fun fp4 σ4 hl4 hk4 hs4 R4 => ?_⟩
      have hw : L2.wipe σ4 vs = L2.wipe σ vs := by
        have h1 := wipe_ext (σ := L2.wipe σ vs) (σ' := σ4) (vs := vs) (by rw [hl4, wipe_length, hN]) fun i h => hk4 i fun z => h (hk i z)
        have h2 := wipe_ext (σ := σ) (σ' := L2.wipe σ vs) (vs := vs) (wipe_length σ vs) fun i h => wipe_out h
        exact h1.trans h2
      have back : ∀ i, i ∉ vs → (L2.wipe σ vs)[i]? = σ4[i]? := fun i h => by rw [← hw, wipe_out h]
      have E4 : Eff F B fp H B fp4 H3 := ⟨E3.keep, E3.there, fun i a h => .inl ⟨i, hs4 i a h⟩, E3.bg, E3.bm⟩
      obtain ⟨same3, pn3⟩ := pend R E3 lst pn
      have pn4 : ∀ a ∈ D :: f, ¬ B a ∧ F.H0 a = none ∧ ∀ i, a ∉ fp4 i := fun a ha => ⟨(pn3 a ha).1, (pn3 a ha).2.1, fun i z => (pn3 a ha).2.2 i (hs4 i a z)⟩
      have lst3 : ∀ a ∈ D :: f, ∃ xs, H3 a = some (.lst xs) := fun a ha => by rw [same3 a ha]; exact lst a ha
      have ho3 := OReps.keep (R.keepF E3) E3.bm ts acc f (fun a ha => same3 a (List.mem_cons_of_mem _ ha)) ho
      have eD3 : H3 D = some (.lst acc) := by rw [same3 D List.mem_cons_self]; exact eD
      refine ⟨hw, F, B, fp4, S4, R4, (Post.in hC q).imp fun kk S5 B5 fp5 H5 E5 R5 q5 k ek => ?_⟩
      cases ek
      obtain ⟨same5, pn5⟩ := pend R4 E5 lst3 pn4
      have ho5 := OReps.keep (R4.keepF E5) E5.bm ts acc f (fun a ha => same5 a (List.mem_cons_of_mem _ ha)) ho3
      have eD5 : H5 D = some (.lst acc) := by rw [same5 D List.mem_cons_self]; exact eD3
      have lst5 : ∀ a ∈ D :: f, ∃ xs, H5 a = some (.lst xs) := fun a ha => by rw [same5 a ha]; exact lst3 a ha
      have Eall := (E.trans E4).trans E5
      cases kk with
      | false =>
        rw [if_neg Bool.false_ne_true] at q5 ⊢
        obtain ⟨fpw, Rw, sub⟩ := R5.wipe (σ' := L2.wipe σ vs) vs (by rw [wipe_length, hl4, hN]) back
        exact ⟨B5, fpw, S5.wipe vs, ts, acc, f, ⟨Eall.keep, Eall.there, fun i a h => Eall.fpg i a (sub i a h), Eall.bg, Eall.bm⟩, Rw, eD5, ho5, nd, fun a ha => ⟨(pn5 a ha).1, (pn5 a ha).2.1, fun i z => (pn5 a ha).2.2 i (sub i a z)⟩, ph, q5⟩
      | true =>
        rw [if_pos rfl] at q5 ⊢
        refine ⟨F, B5, fp5, S5, R5, (Post.in hC q5).imp fun yv S6 B6 fp6 H6 E6 R6 q6 y ry => ?_⟩
        obtain ⟨o, S7, eo, q7⟩ := in_ok hC q6
        obtain ⟨B7, fp7, g, E57, E67, R7, hg, ng, pg, hhg⟩ := toO_of E6 R6 ry eo
        split at q7
        · rename_i cl
          obtain ⟨same7, pn7⟩ := pend R5 E57 lst5 pn5
          have ho7 := OReps.keep (R5.keepF E57) E57.bm ts acc f (fun a ha => same7 a (List.mem_cons_of_mem _ ha)) ho5
          have eD7 : H6 D = some (.lst acc) := by rw [same7 D List.mem_cons_self]; exact eD5
          have ng5 : ∀ a ∈ g, H5 a = none := hhg
          have dis : ∀ a ∈ D :: f, a ∉ g := fun a ha z => by obtain ⟨xs, w⟩ := lst5 a ha; rw [ng5 a z] at w; cases w
          refine ⟨acc, eD7, by have := lineOk_of cl; rw [ho.len] at this; exact this, ?_⟩
          have R8 := R7.updP (o := .lst (acc ++ [y])) ⟨acc, eD7⟩ (pn7 D List.mem_cons_self)
          have nDf : D ∉ f := (List.nodup_cons.mp nd).1
          have nBD : ¬ B7 D := (pn7 D List.mem_cons_self).1
          have kF : ∀ c u, H6 c = some u → (mutO u → B7 c) → upd H6 D (.lst (acc ++ [y])) c = some u := fun c u e w => by
            by_cases z : c = D
            · rw [z, eD7] at e
              cases e
              exact absurd (z ▸ w trivial) nBD
            · rw [upd_ne z]; exact e
          obtain ⟨fpw, Rw, sub⟩ := R8.wipe (σ' := L2.wipe σ vs) vs (by rw [wipe_length, hl4, hN]) back
          have one : OReps G B7 (upd H6 D (.lst (acc ++ [y]))) [o] [y] g := by
            unfold OReps
            exact ⟨y, [], g, [], rfl, ORep.keep kF (fun _ z => z) o y g (fun a ha => upd_ne fun z => dis D List.mem_cons_self (z ▸ ha)) hg, by unfold OReps; exact ⟨rfl, rfl⟩, (List.append_nil g).symm⟩
          have E7 := Eall.trans E57
          refine ⟨B7, fpw, S7.wipe vs, ts ++ [o], acc ++ [y], f ++ g, ⟨fun c u e n => ?_, fun c h => ?_, fun i a h => E7.fpg i a (sub i a h), E7.bg, E7.bm⟩, Rw, upd_same, (OReps.keep kF (fun _ z => z) ts acc f (fun a ha => upd_ne fun z => nDf (z ▸ ha)) ho7).app one, ?_, fun a ha => ?_, fun a ha => ?_, q7⟩
          · rw [upd_ne fun z => by rw [z, ph D List.mem_cons_self] at e; cases e]
            exact E7.keep c u e n
          · by_cases z : c = D
            · rw [z, upd_same]; simp
            · rw [upd_ne z]; exact E7.there c h
          · rw [← List.cons_append]
            exact List.nodup_append.mpr ⟨nd, ng, fun a ha c hc z => dis a ha (z ▸ hc)⟩
          · rw [← List.cons_append] at ha
            rcases List.mem_append.mp ha with z | z
            · exact ⟨(pn7 a z).1, (pn7 a z).2.1, fun i w => (pn7 a z).2.2 i (sub i a w)⟩
            · exact ⟨(pg a z).1, (pg a z).2.1, fun i w => (pg a z).2.2 i (sub i a w)⟩
          · rw [← List.cons_append] at ha
            rcases List.mem_append.mp ha with z | z
            · exact ph a z
            · exact Classical.byContradiction fun n => Eall.there a n (ng5 a z)
        · exact (hC q7).elim
    · have e : i = us.length := by omega
      subst e
      rw [List.drop_length] at q
      exact .inl ⟨wk.stop H kp, fin B fp S ts acc f H E R eD ho nd pn ph q⟩
variable {elt tg iter : Expr} {ifs : List Expr} {scope : Scope} {own : List (Str × Nat)} {vs ks : List Nat} {pos spos py : Pos} {src : M (List FV)} {b : BT} {t : M Bool} {m : M RV}
abbrev JTs (W : WX) (G : GT) (X : Cx) (ifs : List Expr) (t : M Bool) : Prop := PTs X ifs (tG W G rB t)
def tYes' : M Bool := fun S => .ok true S
theorem jts_nil : JTs W G X [] tYes' := ⟨fun pins s σ H Q I ⟨F, B, fp, S, R, h⟩ => pts_nil.run pins s σ H Q I (h B fp H Eff.refl R true rfl)⟩
theorem jts_one {c : Expr} (h : JT W G X c t) : JTs W G X [c] t := pts_one h
theorem lc_step {F : Fc} {B : Addr → Prop} {fp : Nat → List Addr} {S : MS} {σ : St} {H : Hp} {Y : Cx} {Q : V → Hp → Prop} (hN : Y.N.length = σ.length) (hk : ∀ i ∈ ks, i ∈ vs) (R : SR G F B fp S σ H)
    (h : Post W G F B fp σ H (mLc vs src b t m S) fun v S' B' fp' H' => ∀ x, rX G F H B' fp' S' σ H' v x → Q x H') :
    ∃ F B fp S, SR G F B fp S σ H ∧ Post W G F B fp σ H (src S) fun us S' B' fp' H' => ∀ J, Wk G B' H' us J → ∀ D, H' D = none → ∃ W' : Nat → Nat → Hp → Prop, (∃ n, W' 0 n (upd H' D (.lst []))) ∧ ∀ i n H, W' i n H →
      (J.stop i H ∧ Q (.ref D) H) ∨ (J.go i H ∧ ∃ Nx : Hp → Prop, (∀ H', Nx H' → ∃ n', n' < n ∧ W' (i + 1) n' H') ∧ ∀ x H', J.yld i H x H' → tB G Y ks b x (L2.wipe σ vs) H' fun σ2 H2 => L2.wipe σ2 vs = L2.wipe σ vs ∧ tG WF G rB t σ2 H2 fun k H3 =>
        if k = true then tG WF G (rX G) m σ2 H3 fun y H4 => ∃ acc, H4 D = some (.lst acc) ∧ acc.length < sizeLine ∧ Nx (upd H4 D (.lst (acc ++ [y]))) else Nx H3) := by
  refine ⟨F, B, fp, S, R, (Post.shift h Eff.refl).imp fun us S1 B1 fp1 H1 _ R1 ⟨E1, q⟩ J wk D hD => ?_⟩
  refine lc_sound (C := fun r => Post W G F B fp σ H (r.in fun ts S2 => ER.ok (RV.tmp ts) (S2.wipe vs)) fun v S' B' fp' H' => ∀ x, rX G F H B' fp' S' σ H' v x → Q x H') R1 wk (fun z => z) q hN hk hD fun B2 fp2 S2 ts acc f H2 E2 R2 eD ho nd pn ph q2 => ?_
  obtain ⟨fpw, Rw, sub⟩ := R2.wipe (σ' := σ) vs (wipe_length σ vs).symm fun i h => (wipe_out h).symm
  have E12 := E1.trans E2
  refine q2 B2 fpw H2 ⟨E12.keep, E12.there, fun i a h => E12.fpg i a (sub i a h), E12.bg, E12.bm⟩ Rw (.ref D) ⟨D :: f, ⟨?_, nd, fun a ha => ⟨(pn a ha).1, (pn a ha).2.1, fun i z => (pn a ha).2.2 i (sub i a z)⟩⟩, fun a ha => ?_⟩
  · unfold ORep
    exact ⟨D, acc, f, rfl, eD, ho, rfl⟩
  · exact Classical.byContradiction fun n => E1.there a n (ph a ha)
theorem PE.impI {X : Cx} {e : Expr} {t t' : TE} (h : PE X e t) (k : ∀ σ H Q, σ.length = X.N.length → t' σ H Q → t σ H Q) : PE X e t' := ⟨fun pins s σ H Q I q => h.run pins s σ H Q I (k σ H Q I.len q)⟩
theorem jx_lc (hc : X.calm = true) (hN : X.N.Nodup) (hi : JI W G X tg iter src) (ok : BlkOk X.N X.env.scope scope own)
    (hg : ∀ (s : Shared) (H : Hp) (C : Addr) (cl : List (Str × Addr)) (fp : List Addr), JG G (X.blk s H scope (compEnvC scope cl C X.env) fp) tg ks b)
    (ht : ∀ (s : Shared) (H : Hp) (C : Addr) (cl : List (Str × Addr)) (fp : List Addr), JTs WF G (X.blk s H scope (compEnvC scope cl C X.env) fp) ifs t)
    (he : ∀ (s : Shared) (H : Hp) (C : Addr) (cl : List (Str × Addr)) (fp : List Addr), JX WF G (X.blk s H scope (compEnvC scope cl C X.env) fp) elt m)
    (hk : ∀ i ∈ ks, i ∈ own.map (·.2) := by decide) (hs : ∀ x, foldedSetIterable iter X.env x = pure x := by intro _; rfl) : JX W G X (.ListComp elt [⟨tg, iter, ifs, 0⟩] scope pos) (mLc (own.map (·.2)) src b t m) :=
  PE.impI (pe_lc hc hN hi ok hg ht he hs) fun σ H Q hl ⟨F, B, fp, S, R, h⟩ => lc_step (Y := X) hl.symm hk R h
theorem js_setLc {k : Nat} {y : Str} (hc : X.calm = true) (hN : X.N.Nodup) (hy : X.N[k]? = some y) (hyl : X.env.scope.names.lookup y = some .local)
    (hsw : swapsWith (.ListComp elt [⟨tg, iter, ifs, 0⟩] scope pos) (some (.Name y py)) spos.line X.env = pure true) (hi : JI W G X tg iter src) (ok : BlkOk X.N X.env.scope scope own)
    (hg : ∀ (s : Shared) (H : Hp) (C : Addr) (cl : List (Str × Addr)) (fp : List Addr), JG G (X.blk s H scope (compEnvC scope cl C X.env) fp) tg ks b)
    (ht : ∀ (s : Shared) (H : Hp) (C : Addr) (cl : List (Str × Addr)) (fp : List Addr), JTs WF G (X.blk s H scope (compEnvC scope cl C X.env) fp) ifs t)
    (he : ∀ (s : Shared) (H : Hp) (C : Addr) (cl : List (Str × Addr)) (fp : List Addr), JX WF G (X.blk s H scope (compEnvC scope cl C X.env) fp) elt m)
    (hk : ∀ i ∈ ks, i ∈ own.map (·.2) := by decide) (hs : ∀ x, foldedSetIterable iter X.env x = pure x := by intro _; rfl) : JS W G X (.Assign [.Name y py] (.ListComp elt [⟨tg, iter, ifs, 0⟩] scope pos) spos) (sSet k (mLc (own.map (·.2)) src b t m)) :=
  PS.impI (ps_setLc hc hN hy hyl hsw hi ok hg ht he hs) fun D σ H hl ⟨F, B, fp, S, R, h⟩ => by
    have h2 : Post W G F B fp σ H (mLc (own.map (·.2)) src b t m S) fun v S' B' fp' H' => ∀ x, rX G F H B' fp' S' σ H' v x → gName k x σ H' D.nx :=
      (Post.thn h).imp fun v S' B' fp' H' E1 R1 q z rz => bind_step (by rw [hl]; exact (List.getElem?_eq_some_iff.mp hy).1) R1 rz q
    exact lc_step (Y := X) (Q := fun x H' => gName k x σ H' D.nx) hl.symm hk R h2
end
end TL
set_option Elab.async false
set_option linter.all false
set_option maxRecDepth 100000
set_option maxHeartbeats 2000000
namespace TL
open PySem PySem.Spec PyProof.Rows L2
/-! ### functions -/
mutual
def nolst : FV → Bool
  | .lst _ => false
  | .tup xs => nolsts xs
  | .obj _ xs => nolsts xs
  | _ => true
def nolsts : List FV → Bool
  | [] => true
  | x :: xs => nolst x && nolsts xs
end
section
variable {G : GT} {B B' : Addr → Prop} {H : Hp}
mutual
theorem FRep.shrink (k : ∀ b, B b → (∃ xs, H b = some (.lst xs)) ∨ B' b) : ∀ (v : FV) (x : V), nolst v = true → FRep G B H v x → FRep G B' H v x
  | .non, x, _, h => by unfold FRep at h ⊢; exact h
  | .bl _, x, _, h => by unfold FRep at h ⊢; exact h
  | .int _, x, _, h => by unfold FRep at h ⊢; exact h
  | .str _, x, _, h => by unfold FRep at h ⊢; exact h
  | .dic, x, _, h => by unfold FRep at h ⊢; exact h
  | .tup ps, x, n, h => by
    unfold FRep at h ⊢
    obtain ⟨a, xs, e, s, r⟩ := h
    exact ⟨a, xs, e, s, FReps.shrink k ps xs (by unfold nolst at n; exact n) r⟩
  | .lst ps, x, n, h => by unfold nolst at n; cases n
  | .obj c ps, x, n, h => by
    unfold FRep at h ⊢
    obtain ⟨a, dx, fs, e, b, s, m, r⟩ := h
    refine ⟨a, dx, fs, e, (k a b).resolve_left fun ⟨xs, z⟩ => ?_, s, m, FReps.shrink k ps _ (by unfold nolst at n; exact n) r⟩
    rw [s] at z
    cases z
theorem FReps.shrink (k : ∀ b, B b → (∃ xs, H b = some (.lst xs)) ∨ B' b) : ∀ (v : List FV) (x : List V), nolsts v = true → FReps G B H v x → FReps G B' H v x
  | [], x, _, h => by unfold FReps at h ⊢; exact h
  | p :: ps, x, n, h => by
    unfold FReps at h ⊢
    unfold nolsts at n
    rw [Bool.and_eq_true] at n
    obtain ⟨y, r, e, h1, h2⟩ := h
    exact ⟨y, r, e, FRep.shrink k p y n.1 h1, FReps.shrink k ps r n.2 h2⟩
end
end
/-- what a function gives -/
inductive FR where
  | ret (v : RV) (d : Option (List Int)) | err (e : EV) (d : Option (List Int)) | stuck
abbrev FM := List Sl → Option (List Int) → FR
/-- a result that leaves the frame -/
def outV (v : RV) (S : MS) : Option RV := match v with
  | .pl j p => match S.at j p with
    | some (.own us) => some (.tmp us)
    | some (.fz u) => some (.fz u)
    | none => none
  | v => some v
def fnM (n : Nat) (mb : MSt) : FM := fun as d => match mb ⟨as ++ List.replicate (n - as.length) .un, d⟩ with
  | .nx S => .ret (.fz .non) S.dr
  | .rt v S => match outV v S with
    | some r => .ret r S.dr
    | none => .stuck
  | .err e S => .err e S.dr
  | _ => .stuck
/-- arguments -/
def ArR (G : GT) (B : Addr → Prop) (ad : Option Addr) (H : Hp) : Sl → V → Prop
  | .fz v, x => FRep G B H v x
  | .dr, x => ∃ a, ad = some a ∧ x = .ref a
  | .scr ns, x => ∃ a, x = .ref a ∧ ScR G H a ns
  | _, _ => False
def ArsR (G : GT) (B : Addr → Prop) (ad : Option Addr) (H : Hp) : List Sl → List V → Prop
  | [], xs => xs = []
  | s :: ss, xs => ∃ x r, xs = x :: r ∧ ArR G B ad H s x ∧ ArsR G B ad H ss r
/-- a result -/
def ReR (G : GT) (B : Addr → Prop) (ad : Option Addr) (H : Hp) : RV → V → List Addr → Prop
  | .fz v, x, f => FRep G B H v x ∧ f = []
  | .tmp ts, x, f => ORep G B H (.own ts) x f
  | .dr, x, f => (∃ a, ad = some a ∧ x = .ref a) ∧ f = []
  | .scr ns, x, f => (∃ a, x = .ref a ∧ ScR G H a ns) ∧ f = []
  | .pl _ _, _, _ => False
def DrA (B : Addr → Prop) (ad : Option Addr) (d : Option (List Int)) (H : Hp) : Prop := match ad, d with
  | some a, some ds => H a = some (.lst (ds.map V.int)) ∧ ¬ B a
  | none, none => True
  | _, _ => False
/-- the state behind a call, seen from the entry (B, H) -/
structure After (B : Addr → Prop) (ad : Option Addr) (H : Hp) (B' : Addr → Prop) (d : Option (List Int)) (H' : Hp) : Prop where
  keep : ∀ b o, H b = some o → ad ≠ some b → H' b = some o
  bm : ∀ b, B b → B' b
  bg : ∀ b, B' b → B b ∨ H b = none
  bt : ∀ b, B' b → H' b ≠ none
  dr : DrA B' ad d H'
/-- a def's promise -/
def spM (G : GT) (n : Nat) (fm : FM) : Sp := fun vs H Q E => vs.length = n ∧ ∃ (B : Addr → Prop) (ad : Option Addr) (as : List Sl) (d : Option (List Int)), as.length = n ∧ ArsR G B ad H as vs ∧ (∀ b, B b → H b ≠ none) ∧ DrA B ad d H ∧
  match fm as d with
  | .ret v d' => ∀ B' H' x f, After B ad H B' d' H' → ReR G B' ad H' v x f → f.Nodup → (∀ a ∈ f, H a = none ∧ ¬ B' a) → Q x H'
  | .err e d' => ∀ B' H' c dd, After B ad H B' d' H' → XRep G B' H' e c dd → E c dd H'
  | .stuck => False
section
variable {G : GT} {B : Addr → Prop} {ad : Option Addr} {H : Hp}
theorem ArsR.get : ∀ {ss : List Sl} {xs : List V} {i : Nat} {s : Sl}, ArsR G B ad H ss xs → ss[i]? = some s → ∃ x, xs[i]? = some x ∧ ArR G B ad H s x
  | [], _, _, _, h, e => by simp at e
  | t :: ss, _, 0, s, ⟨x, r, e1, h1, _⟩, e => by
    subst e1
    simp at e
    subst e
    exact ⟨x, rfl, h1⟩
  | t :: ss, _, i + 1, s, ⟨x, r, e1, _, h2⟩, e => by
    subst e1
    obtain ⟨y, e2, h3⟩ := ArsR.get (i := i) (s := s) h2 (by simpa using e)
    exact ⟨y, by simpa using e2, h3⟩
theorem ArsR.len : ∀ {ss : List Sl} {xs : List V}, ArsR G B ad H ss xs → ss.length = xs.length
  | [], _, h => by subst h; rfl
  | t :: ss, _, ⟨x, r, e1, _, h2⟩ => by subst e1; exact congrArg Nat.succ (ArsR.len h2)
theorem ArsR.app : ∀ {ss tt : List Sl} {xs ys : List V}, ArsR G B ad H ss xs → ArsR G B ad H tt ys → ArsR G B ad H (ss ++ tt) (xs ++ ys)
  | [], _, _, _, h, k => by subst h; exact k
  | t :: ss, _, _, _, ⟨x, r, e1, h1, h2⟩, k => by subst e1; exact ⟨x, _, rfl, h1, ArsR.app h2 k⟩
/-- the frame at a function's entry -/
theorem entry {as : List Sl} {vs : List V} {d : Option (List Int)} {N : List Str} (ha : ArsR G B ad H as vs) (hb : ∀ b, B b → H b ≠ none) (hd : DrA B ad d H) (hl : vs.length ≤ N.length) :
    SR G ⟨H, B, ad, none, none⟩ B (fun _ => []) ⟨as ++ List.replicate (N.length - as.length) .un, d⟩ (L2.start N vs) H := by
  have el := ha.len
  refine ⟨?_, fun i s e => ?_, fun _ _ => rfl, fun _ => List.nodup_nil, fun i j a h => (by cases h), fun i a h => (by cases h), fun b o e _ _ => e, ?_, fun a h => (by cases h), fun b h => h, fun b h => .inl h, hb⟩
  · unfold L2.start
    simp only [List.length_append, List.length_map, List.length_replicate]
    omega
  · by_cases c : i < as.length
    · rw [List.getElem?_append_left c] at e
      obtain ⟨x, ex, rx⟩ := ha.get e
      have ex' : (L2.start N vs)[i]? = some (some x) := by
        unfold L2.start
        rw [List.getElem?_append_left (by rw [List.length_map]; omega), List.getElem?_map, ex]
        rfl
      cases s with
      | fz v => exact ⟨rfl, x, ex', rx⟩
      | dr => obtain ⟨a, e1, rfl⟩ := rx; exact ⟨rfl, a, e1, ex'⟩
      | scr ns => obtain ⟨a, rfl, r⟩ := rx; exact ⟨rfl, a, ex', r⟩
      | _ => exact rx.elim
    · have e' : (as ++ List.replicate (N.length - as.length) Sl.un)[i]? = some s := e
      rw [List.getElem?_append_right (by omega), List.getElem?_replicate] at e'
      split at e'
      · cases e'; exact rfl
      · cases e'
  · unfold DrA at hd
    unfold DrR
    cases ad with
    | none => cases d with
      | none => trivial
      | some ds => exact hd.elim
    | some a => cases d with
      | none => exact hd.elim
      | some ds =>
        obtain ⟨h1, h2⟩ := hd
        refine ⟨h1, ?_, h2⟩
        show H a ≠ none
        rw [h1]
        simp
theorem after {B' : Addr → Prop} {fp' : Nat → List Addr} {S' : MS} {σ' : St} {H' : Hp} (R : SR G ⟨H, B, ad, none, none⟩ B' fp' S' σ' H') : After B ad H B' S'.dr H' := by
  refine ⟨fun b o e n => R.ext b o e n (by simp), R.bm, R.bg, R.bt, ?_⟩
  have d := R.dr
  unfold DrR at d
  unfold DrA
  split at d
  · rename_i a ds e1 e2
    have e1' : ad = some a := e1
    rw [e1', e2]
    exact ⟨d.1, (R.notBad e1).1⟩
  · rename_i e1 e2
    have e1' : ad = none := e1
    rw [e1', e2]
    trivial
  · exact d.elim
end
abbrev WOf (E : XK) : WX := fun c d _ H => E c d H
/-- THE RULE of a def -/
theorem fn_ok {G : GT} {P : Program} {w : World} {K : PySem.W.Frag} {mg : Str → Option Value} {base : Heap} {x qual : Str} {params : Arguments} {body : List Stmt} {scope : Scope} {dvs : List V} {kws : List (Str × V)} {f : Addr} {fd : FuncData} {N ps : List Str} {k : Nat} {mb : MSt}
    (F : FunD K x qual params body scope dvs kws f fd) (Sc : FnScope N ps scope)
    (hb : ∀ (cdv : Value) (A : Around) (outer : List Env) (s : Shared) (H : Hp) (E : XK), Room k (A.deeper (envOfC qual scope s.heap.objs.size f cdv)) → JB (WOf E) G (cxOf (L2.CX P w) P w K mg base N qual scope f cdv A outer s H E) body mb) :
    FnOk P w K mg base (L2.CX P w) (k + 1) f fd ps (spM G ps.length (fnM N.length mb)) := by
  refine F.ok Sc (fun vs H Q E h => h.1) fun cdv A outer s H vs Q E hr hsp => ⟨_, hb cdv A outer s H E hr, ?_⟩
  obtain ⟨hl, B, ad, as, d, hla, ha, hbt, hd, h⟩ := hsp
  have hpl : ps.length ≤ N.length := by have := congrArg List.length Sc.pre; rw [List.length_take] at this; omega
  refine ⟨_, _, _, _, entry ha hbt hd (by rw [hl]; exact hpl), ?_⟩
  unfold fnM at h
  split at h
  · rename_i v d' e
    split at e
    · rename_i S em
      rw [em]
      cases e
      intro B' fp' σ' H' R'
      exact h B' H' .non [] (after R') ⟨fr_non, rfl⟩ List.nodup_nil fun _ z => by cases z
    · rename_i v0 S em
      rw [em]
      cases eo : outV v0 S with
      | none => rw [eo] at e; cases e
      | some r =>
        rw [eo] at e
        cases e
        intro B' fp' σ' H' y f R' rv
        have gen : ∃ g, ReR G B' ad H' v y g ∧ g.Nodup ∧ ∀ a ∈ g, H a = none ∧ ¬ B' a := by
          cases v0 with
          | fz u => cases eo; exact ⟨[], ⟨rv.1, rfl⟩, List.nodup_nil, fun _ z => by cases z⟩
          | tmp ts => cases eo; exact ⟨f, rv.1, rv.2.1, fun a ha => ⟨(rv.2.2 a ha).2.1, (rv.2.2 a ha).1⟩⟩
          | dr => cases eo; exact ⟨[], ⟨rv.1, rfl⟩, List.nodup_nil, fun _ z => by cases z⟩
          | scr ns => cases eo; exact ⟨[], ⟨rv.1, rfl⟩, List.nodup_nil, fun _ z => by cases z⟩
          | pl j p =>
            obtain ⟨⟨r0, h1, h2⟩, _⟩ := rv
            unfold outV at eo
            simp only at eo
            split at eo
            · rename_i us hat
              cases eo
              obtain ⟨t0, g, _, _, _, ho, hn, hin, _⟩ := R'.place hat h1 h2
              exact ⟨g, ho, hn, fun a ha => ⟨(R'.nb j a (hin a ha)).2, (R'.nb j a (hin a ha)).1⟩⟩
            · rename_i u hat
              cases eo
              obtain ⟨t0, g, _, _, _, ho, hn, hin, _⟩ := R'.place hat h1 h2
              unfold ORep at ho
              exact ⟨[], ⟨ho.1, rfl⟩, List.nodup_nil, fun _ z => by cases z⟩
            · cases eo
        obtain ⟨g, g1, g2, g3⟩ := gen
        exact h B' H' y g (after R') g1 g2 g3
    · cases e
    · cases e
  · rename_i e0 d' e
    split at e
    · cases e
    · split at e <;> cases e
    · rename_i e1 S em
      rw [em]
      cases e
      intro B' fp' σ' H' c dd R' xr
      exact h B' H' c dd (after R') xr
    · cases e
  · exact h.elim
end TL
set_option Elab.async false
set_option linter.all false
set_option maxRecDepth 100000
set_option maxHeartbeats 2000000
namespace TL
open PySem PySem.Spec PyProof.Rows L2
/-! ### calls -/
/-- an argument, as the caller sees it; a list of the caller's own may be lent -/
def PaR (G : GT) (F : Fc) (B : Addr → Prop) (σ : St) (H : Hp) : Sl → V → Prop
  | .al j p, x => ∃ r, σ[j]? = some (some r) ∧ AtP H (fun a => F.ad ≠ some a) r p x
  | s, x => ArR G B F.ad H s x
def PasR (G : GT) (F : Fc) (B : Addr → Prop) (σ : St) (H : Hp) : List Sl → List V → Prop
  | [], xs => xs = []
  | s :: ss, xs => ∃ x r, xs = x :: r ∧ PaR G F B σ H s x ∧ PasR G F B σ H ss r
abbrev rP (G : GT) : Rel (List Sl) (List V) := fun F _ B _ _ σ H ss xs => PasR G F B σ H ss xs
abbrev JP (W : WX) (G : GT) (X : Cx) (es : List Expr) (m : M (List Sl)) : Prop := PA X es (tG W G (rP G) m)
def toP (v : RV) (S : MS) : ER Sl := match v with
  | .dr => .ok .dr S
  | .scr ns => .ok (.scr ns) S
  | v => (toF v S).bind fun u S2 => .ok (.fz u) S2
/-- lent, not frozen -/
def toLent (v : RV) (S : MS) : ER Sl := match v with
  | .pl j p => .ok (.al j p) S
  | v => toP v S
def pNil : M (List Sl) := fun S => .ok [] S
def pCons (c : RV → MS → ER Sl) (m : M RV) (n : M (List Sl)) : M (List Sl) := fun S => (m S).bind fun v S1 => (c v S1).bind fun u S2 => (n S2).bind fun us S3 => .ok (u :: us) S3
section
variable {W : WX} {G : GT} {F : Fc} {Bs B B' : Addr → Prop} {fps fp fp' : Nat → List Addr} {S S' : MS} {σ : St} {Hs H H' : Hp}
theorem PaR.keep (R : SR G F B fp S σ H) (E : Eff F B fp H B' fp' H') {s : Sl} {x : V} (h : PaR G F B σ H s x) : PaR G F B' σ H' s x := by
  cases s with
  | fz v => exact R.frep E h
  | dr => exact h
  | scr ns => obtain ⟨a, rfl, r⟩ := h; exact ⟨a, rfl, r.keep (R.keepF E)⟩
  | al j p =>
    obtain ⟨r, h1, h2⟩ := h
    exact ⟨r, h1, AtP.mono (fun a xs n e => ⟨n, E.keep a _ e n⟩) h2⟩
  | _ => exact h.elim
/-- how an argument is passed -/
def PC (W : WX) (G : GT) (c : RV → MS → ER Sl) : Prop := ∀ (F : Fc) (Bs B : Addr → Prop) (fps fp : Nat → List Addr) (S : MS) (σ : St) (Hs H : Hp) (v : RV) (x : V) (Q : Sl → MS → (Addr → Prop) → (Nat → List Addr) → Hp → Prop),
  Eff F Bs fps Hs B fp H → SR G F B fp S σ H → rX G F Hs B fp S σ H v x → Post W G F Bs fps σ Hs (c v S) Q →
    ∃ u S' B' fp', c v S = .ok u S' ∧ Eff F Bs fps Hs B' fp' H ∧ SR G F B' fp' S' σ H ∧ PaR G F B' σ H u x
theorem pc_P : PC W G toP := by
  intro F Bs B fps fp S σ Hs H v x Q E R r h
  have gen : (Post W G F Bs fps σ Hs ((toF v S).bind fun u S2 => ER.ok (Sl.fz u) S2) Q) → ∃ u S' B' fp', ((toF v S).bind fun u S2 => ER.ok (Sl.fz u) S2) = .ok u S' ∧ Eff F Bs fps Hs B' fp' H ∧ SR G F B' fp' S' σ H ∧ PaR G F B' σ H u x := fun h => by
    obtain ⟨u, S2, B2, fp2, e1, E2, R2, fr, _, _⟩ := toF_ok E R r (Post.bind h)
    exact ⟨.fz u, S2, B2, fp2, by rw [e1]; rfl, E2, R2, fr⟩
  cases v with
  | dr => obtain ⟨f, ⟨h1, _⟩, _⟩ := r; exact ⟨.dr, S, B, fp, rfl, E, R, h1⟩
  | scr ns => obtain ⟨f, ⟨h1, _⟩, _⟩ := r; exact ⟨.scr ns, S, B, fp, rfl, E, R, h1⟩
  | _ => exact gen h
theorem pc_lent : PC W G toLent := by
  intro F Bs B fps fp S σ Hs H v x Q E R r h
  cases v with
  | pl j p => obtain ⟨f, ⟨h1, _⟩, _⟩ := r; exact ⟨.al j p, S, B, fp, rfl, E, R, h1⟩
  | _ => exact pc_P F Bs B fps fp S σ Hs H _ x Q E R r h
end
section
variable {W : WX} {G : GT} {X : Cx} {e : Expr} {es : List Expr} {m : M RV} {ms : M (List Sl)} {c : RV → MS → ER Sl}
theorem jp_nil : JP W G X [] pNil := PA.imp pa_nil fun σ H Q ⟨F, B, fp, S, R, h⟩ => h.val (R := rP G) Eff.refl R rfl
theorem jp_cons (hc : PC W G c) (ha : JX W G X e m) (hr : JP W G X es ms) (hs : starEach (e :: es) X.env = (false, eval e X.env) :: starEach es X.env := by rfl) : JP W G X (e :: es) (pCons c m ms) :=
  PA.imp (pa_cons ha hr hs) fun σ H Q h => tG.one h fun F B fp v S' B' fp' H' x E R ra p => by
    obtain ⟨u, S2, B2, fp2, e1, E2, R2, pr⟩ := hc F B B' fp fp' S' σ H H' v x _ E R ra (Post.bind p)
    rw [e1] at p
    replace p : Post W G F B fp σ H ((ms S2).bind fun us S3 => .ok (u :: us) S3) _ := p
    refine ⟨F, B2, fp2, S2, R2, (Post.shift p E2).imp fun us S3 B3 fp3 H3 E23 R3 ⟨E3, q3⟩ xs rxs => ?_⟩
    exact q3 B3 fp3 H3 E3 R3 (x :: xs) ⟨x, xs, rfl, pr.keep R2 E23, rxs⟩
end
/-! lending -/
def lend (S : MS) : List Sl → Option (List Sl)
  | [] => some []
  | .al j p :: ss => match S.at j p, lend S ss with
    | some t, some r => some (.fz t.frz :: r)
    | _, _ => none
  | s :: ss => match lend S ss with
    | some r => some (s :: r)
    | none => none
def hasAl : List Sl → Bool
  | [] => false
  | .al _ _ :: _ => true
  | _ :: ss => hasAl ss
def hasDr : List Sl → Bool
  | [] => false
  | .dr :: _ => true
  | _ :: ss => hasDr ss
section
variable {G : GT} {F : Fc} {B B' : Addr → Prop} {fp : Nat → List Addr} {S : MS} {σ : St} {H : Hp}
theorem ArR.mono {ad ad' : Option Addr} (hB : ∀ b, B b → B' b) {s : Sl} {x : V} (hd : s = .dr → ad' = ad) (h : ArR G B ad H s x) : ArR G B' ad' H s x := by
  cases s with
  | fz v => exact FRep.keep (fun _ _ e _ => e) hB v x h
  | dr => rw [hd rfl]; exact h
  | scr ns => exact h
  | _ => exact h.elim
theorem ArsR.mono {ad : Option Addr} (hB : ∀ b, B b → B' b) : ∀ {ss : List Sl} {xs : List V}, ArsR G B ad H ss xs → ArsR G B' ad H ss xs
  | [], _, h => h
  | s :: ss, _, ⟨x, r, e, h1, h2⟩ => ⟨x, r, e, h1.mono hB fun _ => rfl, ArsR.mono hB h2⟩
theorem lend_ok (R : SR G F B fp S σ H) {ad : Option Addr} : ∀ {ss as : List Sl} {xs : List V}, lend S ss = some as → PasR G F B σ H ss xs → (hasDr ss = true → ad = F.ad) →
    ∃ g : List Addr, (∀ a ∈ g, ∃ j, a ∈ fp j) ∧ ArsR G (fun b => B b ∨ b ∈ g) ad H as xs ∧ (hasAl ss = false → g = []) ∧ as.length = ss.length
  | [], as, xs, h, r, _ => by cases h; exact ⟨[], fun _ z => (by cases z), r, fun _ => rfl, rfl⟩
  | s :: ss, as, xs, h, ⟨x, r, ex, h1, h2⟩, hd => by
    have hd' : hasDr ss = true → ad = F.ad := fun z => hd (by cases s <;> first | exact z | rfl)
    have plain : (∀ j p, s ≠ .al j p) → ∃ g : List Addr, (∀ a ∈ g, ∃ j, a ∈ fp j) ∧ ArsR G (fun b => B b ∨ b ∈ g) ad H as xs ∧ (hasAl (s :: ss) = false → g = []) ∧ as.length = (s :: ss).length := fun hn => by
      have e0 : (match lend S ss with | some r => some (s :: r) | none => none) = some as := by
        cases s <;> first | exact h | exact absurd rfl (hn _ _)
      cases e : lend S ss with
      | none => rw [e] at e0; cases e0
      | some as' =>
        rw [e] at e0
        cases e0
        obtain ⟨g, g1, g2, g3, g4⟩ := lend_ok R e h2 hd'
        refine ⟨g, g1, ⟨x, r, ex, ?_, g2⟩, fun z => g3 (by cases s <;> first | exact z | exact absurd rfl (hn _ _)), congrArg Nat.succ g4⟩
        have h1' : ArR G B F.ad H s x := by cases s <;> first | exact h1 | exact absurd rfl (hn _ _)
        exact h1'.mono (fun _ z => .inl z) fun z => hd (by rw [z]; rfl)
    cases s with
    | al j p =>
      unfold lend at h
      split at h
      · rename_i t r' hat e
        cases h
        obtain ⟨g, g1, g2, g3, g4⟩ := lend_ok R e h2 hd'
        obtain ⟨r0, k1, k2⟩ := h1
        obtain ⟨t0, f, _, _, _, ho, hn, hin, _⟩ := R.place hat k1 k2
        refine ⟨f ++ g, fun a ha => (List.mem_append.mp ha).elim (fun z => ⟨j, hin a z⟩) (g1 a), ⟨x, r, ex, ?_, g2.mono fun b z => z.elim .inl fun z => .inr (List.mem_append_right _ z)⟩, fun z => (by cases z), congrArg Nat.succ g4⟩
        exact ORep.frz t x f ho (fun _ z => .inl z) fun a z => .inr (List.mem_append_left _ z)
      · cases h
    | _ => exact plain fun _ _ z => by cases z
end
/-- a call: what comes back -/
def callM (fm : FM) (n : Nat) : List Sl → M RV := fun ss S => match lend S ss with
  | none => .stuck
  | some as => if as.length = n then
      match fm as (if hasDr ss = true then S.dr else none) with
      | .ret v d => match v with
        | .fz u => if hasAl ss = true ∧ nolst u = false then .stuck else .ok (.fz u) (if hasDr ss = true then { S with dr := d } else S)
        | .tmp ts => if hasAl ss = true then .stuck else .ok (.tmp ts) (if hasDr ss = true then { S with dr := d } else S)
        | _ => .stuck
      | .err e d => if hasAl ss = true ∧ nolsts e.fs = false then .stuck else .err e (if hasDr ss = true then { S with dr := d } else S)
      | .stuck => .stuck
    else .stuck
section
variable {W : WX} {G : GT} {F : Fc} {Bs B B' : Addr → Prop} {fps fp fp' : Nat → List Addr} {S S' : MS} {σ : St} {Hs H H' : Hp}
theorem upd_back {a : Addr} {o o' : HO} {H : Hp} (h : H a = some o) : upd (upd H a o') a o = H := funext fun b => by
  by_cases c : b = a
  · rw [c, upd_same, h]
  · rw [upd_ne c, upd_ne c]
/-- the caller's state behind a call; g: what was lent -/
theorem back {g : List Addr} {ad : Option Addr} {d : Option (List Int)} (R : SR G F B fp S σ H) (hg : ∀ a ∈ g, ∃ j, a ∈ fp j) (A : After (fun b => B b ∨ b ∈ g) ad H B' d H') (ha : ad = none ∨ ad = F.ad) (hd : ad = none → d = none) :
    SR G F (fun b => B' b ∧ b ∉ g) fp (if ad.isSome then { S with dr := d } else S) σ H' ∧ Eff F B fp H (fun b => B' b ∧ b ∉ g) fp H' := by
  have nBg : ∀ b, B b → b ∉ g := fun b hb z => by obtain ⟨j, hj⟩ := hg b z; exact (R.nb j b hj).1 hb
  have hm : ∀ b, B b → B' b ∧ b ∉ g := fun b hb => ⟨A.bm b (.inl hb), nBg b hb⟩
  have hgg : ∀ b, B' b ∧ b ∉ g → B b ∨ H b = none := fun b hb => by
    rcases A.bg b hb.1 with z | z
    · rcases z with z | z
      · exact .inl z
      · exact absurd z hb.2
    · exact .inr z
  cases e1 : ad with
  | none =>
    subst e1
    have hs : ∀ b o, H b = some o → H' b = some o := fun b o e => A.keep b o e (by simp)
    refine ⟨R.same hs hm hgg fun b h => A.bt b h.1, fun b o e _ => hs b o e, fun b h z => ?_, fun i a h => .inl ⟨i, h⟩, fun b h => (hgg b h).elim .inl fun z => .inr (.inr z), hm⟩
    cases q : H b with
    | none => exact h q
    | some o => rw [hs b o q] at z; cases z
  | some a =>
    have ha' : F.ad = some a := by
      rcases ha with z | z
      · rw [e1] at z; cases z
      · rw [← z, e1]
    have dr := A.dr
    rw [e1] at dr
    unfold DrA at dr
    cases e2 : d with
    | none => rw [e2] at dr; exact dr.elim
    | some ds =>
      rw [e2] at dr
      obtain ⟨d1, d2⟩ := dr
      obtain ⟨nB, nf, ⟨xs, hx⟩, n0⟩ := R.notBad ha'
      have keep : ∀ b o, H b = some o → b ≠ a → H' b = some o := fun b o e n => A.keep b o e (by rw [e1]; simp; exact fun z => n z.symm)
      have hs : ∀ b o, H b = some o → upd H' a (.lst xs) b = some o := fun b o e => by
        by_cases c : b = a
        · rw [c, hx] at e
          rw [c, upd_same]
          exact e
        · rw [upd_ne c]; exact keep b o e c
      have R1 : SR G F (fun b => B' b ∧ b ∉ g) fp S σ (upd H' a (.lst xs)) := R.same hs hm hgg fun b h => by
        by_cases c : b = a
        · rw [c, upd_same]; simp
        · rw [upd_ne c]; exact A.bt b h.1
      have R2 := (R1.drop ha' ds).1
      rw [upd_back d1] at R2
      refine ⟨R2, fun b o e n => keep b o e fun z => n (by rw [z, ha']), fun b h z => ?_, fun i b h => .inl ⟨i, h⟩, fun b h => (hgg b h).elim .inl fun z => .inr (.inr z), hm⟩
      cases q : H b with
      | none => exact h q
      | some o =>
        by_cases c : b = a
        · rw [c, d1] at z; cases z
        · rw [keep b o q c] at z; cases z
theorem hasDr_ad : ∀ {ss : List Sl} {xs : List V}, PasR G F B σ H ss xs → hasDr ss = true → ∃ a, F.ad = some a
  | [], _, _, h => by cases h
  | s :: ss, _, ⟨x, r, e, h1, h2⟩, h => by
    cases s with
    | dr => obtain ⟨a, ea, _⟩ := h1; exact ⟨a, ea⟩
    | _ => exact hasDr_ad h2 h
theorem call_ok {fm : FM} {n : Nat} {ss : List Sl} {vs : List V} {Q : VK} (E : Eff F Bs fps Hs B fp H) (R : SR G F B fp S σ H) (hv : PasR G F B σ H ss vs)
    (p : Post W G F Bs fps σ Hs (callM fm n ss S) fun v S' B' fp' H' => ∀ x, rX G F Hs B' fp' S' σ H' v x → Q x H') : spM G n fm vs H Q (WE W σ) := by
  unfold callM at p
  cases e1 : lend S ss with
  | none => rw [e1] at p; exact p.elim
  | some as =>
    rw [e1] at p
    simp only at p
    split at p
    · rename_i hn
      -- the draws' address
      generalize hd : hasDr ss = b0 at p
      obtain ⟨ad, h1, h2, h3, h4⟩ : ∃ ad : Option Addr, (b0 = true → ad = F.ad) ∧ (b0 = false → ad = none) ∧ ad.isSome = b0 ∧ (ad = none ∨ ad = F.ad) := by
        cases b0 with
        | true => obtain ⟨a, ea⟩ := hasDr_ad hv hd; exact ⟨F.ad, fun _ => rfl, fun z => (by cases z), by rw [ea]; rfl, .inr rfl⟩
        | false => exact ⟨none, fun z => (by cases z), fun _ => rfl, rfl, .inl rfl⟩
      obtain ⟨g, g1, g2, g3, g4⟩ := lend_ok R (ad := ad) e1 hv (fun z => h1 (by rw [← hd]; exact z))
      have nbg : ∀ a ∈ g, ¬ B a := fun a ha z => by obtain ⟨j, hj⟩ := g1 a ha; exact (R.nb j a hj).1 z
      have glst : ∀ a ∈ g, ∃ xs, H a = some (.lst xs) := fun a ha => by obtain ⟨j, hj⟩ := g1 a ha; exact R.fpl hj
      have nad : ∀ a ∈ g, F.ad ≠ some a := fun a ha z => by obtain ⟨j, hj⟩ := g1 a ha; exact (R.notBad z).2.1 j hj
      have hdr : DrA (fun b => B b ∨ b ∈ g) ad (if b0 = true then S.dr else none) H := by
        cases b0 with
        | true =>
          rw [if_pos rfl, h1 rfl]
          have d := R.dr
          unfold DrR at d
          unfold DrA
          cases e2 : F.ad with
          | none => rw [h1 rfl, e2] at h3; cases h3
          | some a =>
            rw [e2] at d
            cases e3 : S.dr with
            | none => rw [e3] at d; exact d.elim
            | some ds => rw [e3] at d; exact ⟨d.1, fun z => z.elim (R.notBad e2).1 fun z => nad a z e2⟩
        | false => rw [if_neg (by simp), h2 rfl]; trivial
      refine ⟨g2.len.symm.trans hn, fun b => B b ∨ b ∈ g, ad, as, if b0 = true then S.dr else none, hn, g2, fun b hb => ?_, hdr, ?_⟩
      · rcases hb with z | z
        · exact R.bt b z
        · obtain ⟨xs, w⟩ := glst b z; rw [w]; simp
      have keepg : ∀ {B' : Addr → Prop} {d : Option (List Int)} {H' : Hp}, After (fun b => B b ∨ b ∈ g) ad H B' d H' → ∀ b, B' b → (∃ xs, H' b = some (.lst xs)) ∨ (B' b ∧ b ∉ g) := fun A b hb => by
        by_cases c : b ∈ g
        · obtain ⟨xs, w⟩ := glst b c
          refine .inl ⟨xs, A.keep b _ w fun z => ?_⟩
          rcases h4 with y | y
          · rw [y] at z; cases z
          · exact nad b c (by rw [← y]; exact z)
        · exact .inr ⟨hb, c⟩
      have st : ∀ {B' : Addr → Prop} {d : Option (List Int)} {H' : Hp}, After (fun b => B b ∨ b ∈ g) ad H B' d H' → SR G F (fun b => B' b ∧ b ∉ g) fp (if b0 = true then { S with dr := d } else S) σ H' ∧ Eff F Bs fps Hs (fun b => B' b ∧ b ∉ g) fp H' := fun {B' d H'} A => by
        have hdn : ad = none → d = none := fun z => by
          have q := A.dr
          unfold DrA at q
          rw [z] at q
          cases d with
          | none => rfl
          | some ds => exact q.elim
        obtain ⟨r1, r2⟩ := back R g1 A h4 hdn
        rw [h3] at r1
        exact ⟨r1, E.trans r2⟩
      have noal : hasAl ss = false → ∀ (B' : Addr → Prop) b, B' b → B' b ∧ b ∉ g := fun z B' b hb => ⟨hb, by rw [g3 z]; exact List.not_mem_nil⟩
      cases e2 : fm as (if b0 = true then S.dr else none) with
      | ret v d =>
        rw [e2] at p
        intro B' H' x f A rr nd fresh
        obtain ⟨r1, r2⟩ := st A
        cases v with
        | fz u =>
          simp only at p
          split at p
          · exact p.elim
          · rename_i c
            have fr : FRep G (fun b => B' b ∧ b ∉ g) H' u x := by
              cases ca : hasAl ss with
              | false => exact FRep.keep (fun _ _ e _ => e) (noal ca B') u x rr.1
              | true =>
                refine FRep.shrink (keepg A) u x ?_ rr.1
                cases cb : nolst u with
                | true => rfl
                | false => exact absurd ⟨ca, cb⟩ c
            exact p _ fp H' r2 r1 x (rX_fz fr)
        | tmp ts =>
          simp only at p
          split at p
          · exact p.elim
          · rename_i c
            have ca : hasAl ss = false := by
              cases q : hasAl ss with
              | false => rfl
              | true => exact absurd q c
            have ho : ORep G (fun b => B' b ∧ b ∉ g) H' (.own ts) x f := ORep.keep (fun _ _ e _ => e) (noal ca B') _ x f (fun _ _ => rfl) rr
            refine p _ fp H' r2 r1 x ⟨f, ⟨ho, nd, fun a ha => ⟨fun z => (fresh a ha).2 z.1, R.h0 (fresh a ha).1, fun i z => ?_⟩⟩, fun a ha => Classical.byContradiction fun n => E.there a n (fresh a ha).1⟩
            obtain ⟨xs, w⟩ := R.fpl z
            rw [(fresh a ha).1] at w
            cases w
        | _ => exact p.elim
      | err ee d =>
        rw [e2] at p
        intro B' H' c dd A xr
        obtain ⟨r1, r2⟩ := st A
        simp only at p
        split at p
        · exact p.elim
        · rename_i cc
          refine p _ fp H' c dd r2 r1 ?_
          cases ca : hasAl ss with
          | false => exact xr.keep (fun _ _ e _ => e) (noal ca B')
          | true =>
            obtain ⟨x1, x2⟩ := xr
            refine ⟨x1, x2.elim .inl fun ⟨d0, fs, a1, a2, a3, a4⟩ => .inr ⟨d0, fs, a1, a2, a3, FReps.shrink (keepg A) _ _ ?_ a4⟩⟩
            cases cb : nolsts ee.fs with
            | true => rfl
            | false => exact absurd ⟨ca, cb⟩ cc
      | stuck => rw [e2] at p; exact p.elim
    · exact p.elim
end
section
variable {W : WX} {G : GT} {X : Cx} {k n : Nat} {f : Addr} {fd : FuncData} {ps : List Str} {dvs : List V} {ds : List Value} {fs : List FV} {x : Str} {p pos : Pos} {e : Expr} {es : List Expr} {ms : M (List Sl)} {fm : FM}
/-- defaults: constants -/
def CoR : List FV → List V → Prop
  | [], xs => xs = []
  | v :: vs, xs => ∃ x r, xs = x :: r ∧ (∀ (G : GT) (B : Addr → Prop) (H : Hp), FRep G B H v x) ∧ CoR vs r
theorem co_nil : CoR [] [] := rfl
theorem co_non {vs : List FV} {xs : List V} (h : CoR vs xs) : CoR (.non :: vs) (.non :: xs) := ⟨_, _, rfl, fun _ _ _ => fr_non, h⟩
theorem co_int {i : Int} {vs : List FV} {xs : List V} (h : CoR vs xs) : CoR (.int i :: vs) (.int i :: xs) := ⟨_, _, rfl, fun _ _ _ => fr_int, h⟩
theorem co_bl {i : Bool} {vs : List FV} {xs : List V} (h : CoR vs xs) : CoR (.bl i :: vs) (.bl i :: xs) := ⟨_, _, rfl, fun _ _ _ => by unfold FRep; rfl, h⟩
theorem co_str {i : Str} {vs : List FV} {xs : List V} (h : CoR vs xs) : CoR (.str i :: vs) (.str i :: xs) := ⟨_, _, rfl, fun _ _ _ => by unfold FRep; rfl, h⟩
theorem CoR.pas {F : Fc} {B : Addr → Prop} {σ : St} {H : Hp} : ∀ {ss : List Sl} {xs : List V} {vs : List FV} {ys : List V}, PasR G F B σ H ss xs → CoR vs ys → PasR G F B σ H (ss ++ vs.map Sl.fz) (xs ++ ys)
  | [], _, [], _, h, k => by cases h; cases k; exact rfl
  | [], _, v :: vs, _, h, ⟨x, r, e, k1, k2⟩ => by
    cases h
    subst e
    exact ⟨x, r, rfl, k1 G B H, CoR.pas (ss := []) (xs := []) rfl k2⟩
  | s :: ss, _, _, _, ⟨x, r, e, h1, h2⟩, k => by
    subst e
    exact ⟨x, _, rfl, h1, CoR.pas h2 k⟩
def mFn (fm : FM) (n : Nat) (fs : List FV) (ms : M (List Sl)) : M RV := fun S => (ms S).bind fun ss S1 => callM fm n (ss ++ fs.map Sl.fz) S1
theorem jx_call (F : FnOk X.prog X.w X.K X.mg X.base (L2.CX X.prog X.w) k f fd ps (spM G n fm)) (hr : Room k X.A) (hg : Gl X x) (hm : X.mg x = some (.ref f)) (hk : PySem.W.keepIn X.K (.ref f) = true) (hb : Binds X.K fd ps ds) (hd : Vals dvs ds) (hx : Takes X W)
    (ha : JP W G X (e :: es) ms) (hc : CoR fs dvs) (hdb : (x == ("__debug__" : Str)) = false := by decide) (he : starEach (e :: es) X.env = (false, eval e X.env) :: starEach es X.env := by rfl) (hpl : (backTo pos (starEach es X.env)).any (·.1) = false := by rfl) :
    JX W G X (.Call (.Name x p) (e :: es) [] pos) (mFn fm n fs ms) :=
  PE.imp (pe_callSD (E := WE W) F hr hg hm hk hb hd (passAt hx) ha hdb he hpl) fun σ H Q h => tG.one (R2 := rP G) h fun F B fp ss S' B' fp' H' xs E R ra p => call_ok E R (CoR.pas ra hc) p
end
end TL
set_option Elab.async false
set_option linter.all false
set_option maxRecDepth 100000
set_option maxHeartbeats 2000000
/-! own exceptions whose __init__ begins with super().__init__('text') and then keeps its parameters -/
namespace PySem
namespace TLX
open PySem.W PySem.Calls PyProof.Rows PySem.HandSPX
abbrev ve : List Value := [.type "ValueError", .type "Exception", .type "BaseException", .type "object"]
/-- super().__init__('text') -/
def supS (m : Str) (j : Nat) (a1 a2 a3 a4 a5 a6 : Pos) : Stmt := .Expr (.Call (.Attribute (.Call (.Name "super" a1) [] [] a2) "__init__" a3) [.Constant (.str m) j a4] [] a5) a6
/-- self.f = p -/
def setS (f p : Str) (b1 b2 b3 b4 : Pos) : Stmt := .Assign [.Attribute (.Name "self" b1) f b2] (.Name p b3) b4
/-- the scope of such an __init__ -/
abbrev sco (nms : List (Str × NameKind)) : Scope := { kind := .function, names := nms, isGenerator := false, isCoroutine := false, more := [] }
structure XTxt (prog : Program) (K : Frag) (mg : Str → Option Value) (x : Str) (C fI : Addr) (qual : Str) (params : Arguments) (body : List Stmt) (nms : List (Str × NameKind)) : Prop where
  gC : mg x = some (.ref C)
  gs : mg "super" = none
  cls : ∃ cd, clsIn K C = some cd ∧ refsVE cd.mro = true ∧ cd.hasDict = true
  q : excInitIn K C ve "ValueError.__new__" = true
  iC : findIn K (.ref C) "__init__" = some (some (.ref fI))
  fnI : isFn K (.ref fI) = true
  sa : findIn K (.ref C) "__setattr__" = some (some (.builtin "object.__setattr__"))
  sup : ks_superIn K C C "__init__" = some (some (.builtin "ValueError.__init__"))
  subV : subIn K (.ref C) (.type "ValueError") = some true
  subS : mroIn K C (.ref C) = some true
  exC : subIn K (.ref C) (.type "BaseException") = some true
  tyC : typeIn K (.ref C) = some (.type "type")
  kC : keepIn K (.ref C) = true
  opq : nsIn K cStatics "thirdparty.any" = some none
  fn : ∃ (oc : Value) (od : Option Addr) (doc pm : Value) (an : Option Addr) (cda : Addr) (ct : Value) (osl : Array (Option Value)) (cc : Addr),
    K.lookup fI = some ⟨oc, od, .func (ksFn "__init__" qual params body (sco nms) .none .none doc pm an (.ref cda) ct cc), osl⟩ ∧ codeIn K (.ref cda) qual = true ∧
    (∃ (k1 : Value) (k2 : Option Addr) (vs : Array Value) (k3 : Array (Option Value)) (file : Str) (tf : Tok), K.lookup cda = some ⟨k1, k2, .fields vs, k3⟩ ∧ vs[2]? = some (.str file tf) ∧ ((prog.main.file : Str) == file) = true) ∧
    ∃ (k1 : Value) (k2 : Option Addr) (k3 : Array (Option Value)), K.lookup cc = some ⟨k1, k2, .cell (some (.ref C)), k3⟩
  top : (prog.main.scope.names.lookup ("super" : Str)).isSome = false
  par : ∃ (ar : Arg) , (params.posonlyargs ++ params.args).head? = some ar ∧ ar.arg = "self"
  sc1 : nms.lookup ("super" : Str) = some .globalImplicit
  sc2 : nms.lookup ("__class__" : Str) = some .free
  sc3 : nms.lookup ("self" : Str) = some .local
  sccell : ∀ y ∈ nms, y.2 ≠ .cell
section
variable {prog : Program} {w : World} {A : Around} {R : Result → Shared → Prop} {K : Frag} {mg : Str → Option Value} {x : Str} {C fI : Addr} {qual : Str} {params : Arguments} {body rest : List Stmt} {mt : Str} {j : Nat} {a1 a2 a3 a4 a5 a6 : Pos} {nms : List (Str × NameKind)}
/-- what stands behind super().__init__('text') -/
structure Supd (hp h' : Heap) (e C L : Addr) (m : Str → Option Value) : Prop where
  keep : ∀ b o, hp.get? b = some o → h'.get? b = some o
  obj : ∃ t, h'.get? e = some (excObj C t none .none)
  ns : h'.Ns L m
theorem sup_ok (T : XTxt prog K mg x C fI qual params body nms) {base hp : Heap} {E : Value → Shared → Prop} {Q : Flow → Shared → Prop} {cda cc L e t0 : Addr} {m mb : Str → Option Value} {s : Shared}
    (hG : hp.Ns mainGlobals mg) (hB : hp.Ns builtinsNs mb) (hb : mb "super" = some (.type "super")) (X₀ : K.In hp)
    (F : Fr hp L s.heap m) (N : News hp L s.heap [(e, excObj C t0 none .none)])
    (hf : ∃ (oc : Value) (od : Option Addr) (doc pm : Value) (an : Option Addr) (ct : Value) (osl : Array (Option Value)), K.lookup fI = some ⟨oc, od, .func (ksFn "__init__" qual params body (sco nms) .none .none doc pm an (.ref cda) ct cc), osl⟩)
    (hcode : ∃ (k1 : Value) (k2 : Option Addr) (vs : Array Value) (k3 : Array (Option Value)) (file : Str) (tf : Tok), K.lookup cda = some ⟨k1, k2, .fields vs, k3⟩ ∧ vs[2]? = some (.str file tf) ∧ ((prog.main.file : Str) == file) = true)
    (hcell : ∃ (k1 : Value) (k2 : Option Addr) (k3 : Array (Option Value)), K.lookup cc = some ⟨k1, k2, .cell (some (.ref C)), k3⟩)
    (hself : m "self" = some (.ref e)) (hline : (a3.endLine == a5.line) = true)
    (h : ∀ h' tk, Supd hp h' e C L m → wpAny (model prog w) A (execs rest (ksEnv qual (sco nms) L fI (.ref cda) cc)) Q E { s with heap := h', toks := tk }) :
    _root_.PySem.wpAt (model prog w) A (.func body (ksEnv qual (sco nms) L fI (.ref cda) cc)) (execs (supS mt j a1 a2 a3 a4 a5 a6 :: rest) (ksEnv qual (sco nms) L fI (.ref cda) cc)) Q E s := by
  obtain ⟨oc, od, doc, pm, an, ct, osl, hf⟩ := hf
  obtain ⟨k1, k2, vs, k3, file, tf, hcode, hvs, hfile⟩ := hcode
  obtain ⟨l1, l2, l3, hcell⟩ := hcell
  obtain ⟨cd, hcd, hmro, hdict⟩ := T.cls
  obtain ⟨ar, har, hare⟩ := T.par
  have X : K.In s.heap := X₀.keeps F.keep
  obtain ⟨oD, hD1, hD2⟩ : ∃ oD, s.heap.get? C = some oD ∧ oD.data = .cls cd := by
    have hcd' := hcd
    unfold clsIn at hcd'
    split at hcd'
    · rename_i c d cd' sl ho
      cases hcd'
      exact ⟨_, X _ _ ho, rfl⟩
    · cases hcd'
  have I : InstAt s.heap e (excObj C t0 none .none) C none := InstAt.of_exc0 N List.mem_cons_self
  have he : eval (.Call (.Attribute (.Call (.Name "super" a1) [] [] a2) "__init__" a3) [.Constant (.str mt) j a4] [] a5) (ksEnv qual (sco nms) L fI (.ref cda) cc) = (do
      let ov ← attributeBase (.Call (.Name "super" a1) [] [] a2) "__init__" (ksEnv qual (sco nms) L fI (.ref cda) cc) (eval (.Call (.Name "super" a1) [] [] a2) (ksEnv qual (sco nms) L fI (.ref cda) cc))
      standAt a3.atName
      let (f, first) ← holding [ov] (getMethod ov "__init__" (do return (← importBound (.Call (.Name "super" a1) [] [] a2) (ksEnv qual (sco nms) L fI (.ref cda) cc)).getD true))
      callWith a5 f first (backTo a5 (starEach [.Constant (.str mt) j a4] (ksEnv qual (sco nms) L fI (.ref cda) cc))) []) := by
    rw [arm_eval_Call]
    unfold methodCall methodCallPos
    simp only [hline, Bool.or_true, if_true, pure_bind]
    rfl
  refine ks_wpAt_execs_cons (ks_wpAt_Expr_any (ks_wpAt_MethodCall ?_ he) (by rfl))
  refine ks_wpAt_super_base (env := ksEnv qual (sco nms) L fI (.ref cda) cc) T.sc1 T.sc2 (by decide) rfl (X _ _ hf) rfl har rfl (X _ _ hcode) rfl hvs hfile T.top ?_
  refine ks_loadName_global rfl T.sc1 (loadGlobal_builtin (env := ksEnv qual (sco nms) L fI (.ref cda) cc) (hG.keeps F.keep) T.gs (hB.keeps F.keep) hb ⟨rfl, ?_⟩)
  refine wpAny_loadName_free rfl T.sc2 rfl ⟨_, X _ _ hcell, rfl⟩ ?_
  rw [hare]
  refine wpAny_loadName_local rfl T.sc3 F.ns hself ?_
  refine ks_wpAny_isType_cls hD1 hD2 ⟨rfl, ?_⟩
  obtain ⟨hh, g, d, t, os⟩ := s
  refine ks_wpAny_call_super hD1 hD2 I.at_ I.cls (fun c z => by cases z) (looks_mroIn X T.subS) (fun h1 e1 k1 => ?_)
  obtain ⟨F1, N1, lt1⟩ := ks_newsPush (s := ⟨hh, g, d, t, os⟩) F N rfl e1 k1
  have I1 : InstAt h1 e (excObj C t0 none .none) C none := InstAt.of_exc0 N1 (List.mem_cons_of_mem _ List.mem_cons_self)
  refine kxs_method (s := ⟨h1, g, d, t, os⟩) kxs_ValueError F1 X₀ N1 List.mem_cons_self I1 T.opq T.sup T.subV (by decide) fun q h2 F2 N2 lt2 => ?_
  have ne1 : ∀ {a b : Addr}, a < b → b ≠ a := fun h z => Nat.ne_of_gt h z
  have eso := lt1 (e, excObj C t0 none .none) List.mem_cons_self
  have eq2 := lt2 (e, excObj C t0 none .none) (List.mem_cons_of_mem _ List.mem_cons_self)
  refine kxs_callWith1 N2 List.mem_cons_self (spliced_more (Constant_str (spliced_none ⟨kxs_at N2 List.mem_cons_self, ?_⟩)))
  refine kxs_call (newId := "ValueError.__new__") F2 X₀ N2 PySem.F.excBase_ValueError T.q List.mem_cons_self (UpdF.tail (ne1 eq2) (UpdF.tail (ne1 eso) (UpdF.head fun _ z => nomatch z))) (by rw [sizeLine_eq]; exact (by decide : 1 ≤ 16777216)) fun t' h3 F3 N3 lt3 => ?_
  exact wpAt_of_wpAny (h h3 _ ⟨F3.keep, ⟨t', (N3 _ (List.mem_cons_of_mem _ (List.mem_cons_of_mem _ (List.mem_cons_of_mem _ List.mem_cons_self)))).1⟩, F3.ns⟩)
/-- a made one: its dict holds the fields -/
structure Made1 (h h' : Heap) (e C d : Addr) (mA : Str → Option Value) : Prop where
  keep : ∀ b o, h.get? b = some o → h'.get? b = some o
  new : h.objs.size ≤ e
  obj : ∃ oe vs, h'.get? e = some oe ∧ oe.cls = .ref C ∧ oe.dict = some d ∧ oe.data = .fields vs ∧ vs[1]? = some .none
  dbig : h.objs.size ≤ d
  dne : d ≠ e
  ns : h'.Ns1 d mA
theorem ldK {M : Model} {A : Around} {E : Value → Shared → Prop} {s : Shared} {qual y : Str} {L f cc : Addr} {cd : Value} {m : Str → Option Value} {pos : Pos} {v : Value} {Q : Value → Shared → Prop} (hn : s.heap.Ns L m) (hv : m y = some v) (hl : nms.lookup y = some .local) (h : Q v s)
    (hd : (y == ("__debug__" : Str)) = false) : wpAny M A (eval (.Name y pos) (ksEnv qual (sco nms) L f cd cc)) Q E s := wpAny_Name (wpAny_loadName_local rfl hl hn hv h) hd
/-- self.f = p, the first -/
theorem set_first (T : XTxt prog K mg x C fI qual params body nms) {E : Value → Shared → Prop} {Q : Flow → Shared → Prop} {f p : Str} {b1 b2 b3 b4 : Pos} {cda cc L e t : Addr} {m : Str → Option Value} {v : Value} {s : Shared}
    (X : K.In s.heap) (hx : s.heap.get? e = some (excObj C t none .none)) (hn : s.heap.Ns L m) (hL : L ≠ e) (hs : m "self" = some (.ref e)) (hp : m p = some v) (hpl : nms.lookup p = some .local) (hpd : (p == ("__debug__" : Str)) = false) (hf : findIn K (.ref C) f = some none)
    (h : ∀ h' tk dx, (∀ b o, b ≠ e → s.heap.get? b = some o → h'.get? b = some o) → s.heap.objs.size ≤ dx → dx ≠ e → h'.get? e = some (excObj C t (some dx) .none) → h'.Ns1 dx (fun y => if y = f then some v else none) →
      h'.Ns L m → wpAny (model prog w) A (execs rest (ksEnv qual (sco nms) L fI (.ref cda) cc)) Q E { s with heap := h', toks := tk }) :
    wpAny (model prog w) A (execs (setS f p b1 b2 b3 b4 :: rest) (ksEnv qual (sco nms) L fI (.ref cda) cc)) Q E s := by
  obtain ⟨cd, hcd, hmro, hdict⟩ := T.cls
  refine wpAny_execs_cons (plainObj_wpAny_Assign_Attribute ?_)
  refine ldK hn hp hpl (ldK hn hs T.sc3 ?_ (by decide)) hpd
  refine set_plain X (ox := excObj C t none .none) (od := none) ⟨hx, rfl, rfl, trivial⟩ T.sa ?_
  refine HandSPX.exc_osa X hx hcd hmro hdict hf fun h' tk dx k dn dne hx' hn' => ?_
  obtain ⟨oL, es, ep, hoL, r⟩ := hn
  exact h h' tk dx k dn dne hx' hn' ⟨oL, es, ep, k _ _ hL hoL, r⟩
/-- .. a further one -/
theorem set_more (T : XTxt prog K mg x C fI qual params body nms) {E : Value → Shared → Prop} {Q : Flow → Shared → Prop} {f p : Str} {b1 b2 b3 b4 : Pos} {cda cc L e t dx : Addr} {m m0 : Str → Option Value} {v : Value} {nl : List Str} {s : Shared}
    (X : K.In s.heap) (hx : s.heap.get? e = some (excObj C t (some dx) .none)) (hD : s.heap.Ns1 dx m0) (hw : Within m0 nl) (hz : nl.length ≤ 1000) (hn : s.heap.Ns L m) (hL : L ≠ dx) (hs : m "self" = some (.ref e)) (hp : m p = some v) (hpl : nms.lookup p = some .local) (hpd : (p == ("__debug__" : Str)) = false)
    (hf : findIn K (.ref C) f = some none)
    (h : ∀ h' tk, (∀ b o, b ≠ dx → s.heap.get? b = some o → h'.get? b = some o) → h'.Ns1 dx (fun y => if y = f then some v else m0 y) → h'.Ns L m → wpAny (model prog w) A (execs rest (ksEnv qual (sco nms) L fI (.ref cda) cc)) Q E { s with heap := h', toks := tk }) :
    wpAny (model prog w) A (execs (setS f p b1 b2 b3 b4 :: rest) (ksEnv qual (sco nms) L fI (.ref cda) cc)) Q E s := by
  obtain ⟨cd, hcd, hmro, hdict⟩ := T.cls
  refine wpAny_execs_cons (plainObj_wpAny_Assign_Attribute ?_)
  refine ldK hn hp hpl (ldK hn hs T.sc3 ?_ (by decide)) hpd
  obtain ⟨oD, esD, epD, hoD, hdD, _⟩ := hD.count hw
  refine set_plain X (ox := excObj C t (some dx) .none) (od := some oD) ⟨hx, rfl, rfl, hoD⟩ T.sa ?_
  refine OEX.osa_old X hx hD hw hz hcd hmro hdict hf fun h' tk k hn' => ?_
  obtain ⟨oL, es, ep, hoL, r⟩ := hn
  exact h h' tk k hn' ⟨oL, es, ep, k _ _ hL hoL, r⟩
/-- the call of the class, up to the fields' lines -/
theorem call_made (T : XTxt prog K mg x C fI qual params (supS mt j a1 a2 a3 a4 a5 a6 :: rest) nms) {mb : Str → Option Value} {vs : List Value} {bs : List (Str × Value)} {s : Shared} {ps : List Str}
    (X : K.In s.heap) (hG : s.heap.Ns mainGlobals mg) (hB : s.heap.Ns builtinsNs mb) (hb : mb "super" = some (.type "super")) (hlim : s.heap.NoLimit) (hroom : A.depth + 1 < recursionLimit) (hz : vs.length ≤ sizeLine) (hline : (a3.endLine == a5.line) = true)
    (hbind : ∀ (doc pm : Value) (an : Option Addr) (cda : Addr) (ct : Value) (cc : Addr) (e : Addr), bindArgs (ksFn "__init__" qual params (supS mt j a1 a2 a3 a4 a5 a6 :: rest) (sco nms) .none .none doc pm an (.ref cda) ct cc) ⟨.ref e :: vs, []⟩ = pure ((("self" : Str), Value.ref e) :: bs))
    (hloc : ∀ y ∈ bs, nms.lookup y.1 = some .local) (hns : ∀ y ∈ bs, y.1 ≠ "self")
    (h : ∀ (e L : Addr) (cda cc : Addr) (h1 : Heap) (tk : Nat) (A' : Around) (E' : Value → Shared → Prop), (∀ b o, s.heap.get? b = some o → h1.get? b = some o) → s.heap.objs.size ≤ e → L ≠ e → (∃ t, h1.get? e = some (excObj C t none .none)) → h1.Ns L (fun y => ((("self" : Str), Value.ref e) :: bs).reverse.lookup y) → s.heap.objs.size ≤ L → L < h1.objs.size →
      wpAny (model prog w) A' (execs rest (ksEnv qual (sco nms) L fI (.ref cda) cc)) (fun fl s' => fl = .next ∧ R (.ok (.ret (.ref e))) s') E' { s with heap := h1, toks := tk }) :
    codeAny (model prog w) A (.call (.ref C) ⟨vs, []⟩) R s := by
  obtain ⟨oc, od, doc, pm, an, cda, ct, osl, cc, hfn, hcode, hfile, hcell⟩ := T.fn
  obtain ⟨nm, N', qn, bs', bm, hdct, sn, sub, ab, col, dd, k0, k1, k2, k3, k5, hC, hT⟩ := excInit_of X T.q
  obtain ⟨oI, hoI, hcI⟩ : ∃ oI, s.heap.get? fI = some oI ∧ oI.cls = .type "function" := by
    obtain ⟨o, ho, hc⟩ := Option.map_eq_some_iff.mp (show (K.lookup fI).map (·.cls) = some (.type "function") from beq_iff_eq.mp T.fnI)
    exact ⟨o, X _ _ ho, hc⟩
  obtain ⟨hp, g, d, tk, os⟩ := s
  refine PX.call_own PySem.F.excBase_ValueError hT hC (looks_findIn X T.iC) (fun self => exc_bind hoI hcI self) hz ?_
  have k : ∀ b o, hp.get? b = some o → ((hp.push (kdv_tup vs)).push (excO C hp.objs.size)).get? b = some o := fun b o e => Heap.get?_push_of_some _ (Heap.get?_push_of_some _ e)
  have hget : ((hp.push (kdv_tup vs)).push (excO C hp.objs.size)).get? (hp.objs.size + 1) = some (excObj C hp.objs.size none .none) := by heap_get
  have X1 := X.keeps k
  have hz1 : ((hp.push (kdv_tup vs)).push (excO C hp.objs.size)).objs.size = hp.objs.size + 2 := by rw [Heap.size_push, Heap.size_push]
  refine ks_codeAny_call_defAt (fd := ksFn "__init__" qual params (supS mt j a1 a2 a3 a4 a5 a6 :: rest) (sco nms) .none .none doc pm an (.ref cda) ct cc) (binds := (("self" : Str), Value.ref (hp.objs.size + 1)) :: bs) hroom (X1 _ _ hfn) rfl (hlim.keeps k) (codeRec_of X1 hcode) rfl
    (BindsTo.of_eq (hbind doc pm an cda ct cc (hp.objs.size + 1))) T.sccell (fun y hy => ?_) (fun h0 hn0 hk0 => ?_)
  · rcases List.mem_cons.mp hy with z | z
    · rw [z]; exact T.sc3
    · exact hloc y z
  · have kp : ∀ b o, hp.get? b = some o → h0.get? b = some o := fun b o e => hk0 b o (k b o e)
    rw [show (⟨(hp.push (kdv_tup vs)).push (excO C hp.objs.size), g, d, tk, os⟩ : Shared).heap.objs.size = hp.objs.size + 2 from hz1] at hn0 ⊢
    have F0 : Fr hp (hp.objs.size + 2) h0 (fun y => ((("self" : Str), Value.ref (hp.objs.size + 1)) :: bs).reverse.lookup y) := ⟨hn0, kp, Nat.le_add_right _ _⟩
    have N0 : News hp (hp.objs.size + 2) h0 [(hp.objs.size + 1, excObj C hp.objs.size none .none)] := fun p hp' => by
      rw [List.mem_singleton.mp hp']
      refine ⟨hk0 _ _ hget, Nat.ne_of_lt (Nat.lt_succ_self _), ?_⟩
      cases z : hp.get? (hp.objs.size + 1) with
      | none => rfl
      | some o => exact absurd (Nat.lt_of_succ_lt (Heap.lt_size z)) (Nat.lt_irrefl _)
    have hself : ((("self" : Str), Value.ref (hp.objs.size + 1)) :: bs).reverse.lookup ("self" : Str) = some (.ref (hp.objs.size + 1)) := by
      rw [List.reverse_cons]
      have none : bs.reverse.lookup ("self" : Str) = none := by
        rw [List.lookup_eq_none_iff]
        intro y hy
        have := hns y (List.mem_reverse.mp hy)
        simpa using fun z => this z.symm
      rw [List.lookup_append, none]
      rfl
    refine ks_wpAt_mono (sup_ok (base := hp) (s := ⟨h0, g, d, _, os⟩) T hG hB hb X F0 N0 ⟨oc, od, doc, pm, an, ct, osl, hfn⟩ hfile hcell hself hline fun h' tk' S => ?_) (Q := fun fl s' => fl = .next ∧ R (.ok (.ret (.ref (hp.objs.size + 1)))) s') (fun fl s' hq => ?_) fun _ _ z => z
    · obtain ⟨t, ho⟩ := S.obj
      exact h (hp.objs.size + 1) (hp.objs.size + 2) cda cc h' tk' _ _ S.keep (Nat.le_succ _) (Nat.ne_of_gt (Nat.lt_succ_self _)) ⟨t, ho⟩ S.ns (Nat.le_add_right _ _) S.ns.lt
    · obtain ⟨rfl, hr⟩ := hq
      exact ⟨rfl, hr⟩
end
end TLX
end PySem
set_option Elab.async false
set_option linter.all false
set_option maxRecDepth 100000
set_option maxHeartbeats 2000000
namespace PySem
namespace TLX
open PySem PySem.Spec PyProof.Rows L2 PySem.W
section
variable {X : Cx} {C fI : Addr} {x : Str} {qual : Str} {params : Arguments} {rest : List Stmt} {nms : List (Str × NameKind)} {mt : Str} {j : Nat} {a1 a2 a3 a4 a5 a6 : Pos}
theorem made_mk {pins : List (Addr × Obj)} {σ : L2.St} {H1 : Hp} {s1 : Shared} {h' : Heap} {tk' : Nat} {e d : Addr} {mA : Str → Option Value} {fs : List (Str × V)} {Q : XK} (exC : subIn X.K (.ref C) (.type "BaseException") = some true) (tyC : typeIn X.K (.ref C) = some (.type "type"))
    (I1 : Inv X pins σ H1 s1) (M : Made1 s1.heap h' e C d mA) (hr : ∀ f, RelO (fs.lookup f) (mA f)) (q1 : ∀ d, H1 d = none → Q (.ref C) (some d) (upd H1 d (.xd fs))) : MkP X pins σ Q (.ref e) { s1 with heap := h', toks := tk' } := by
  obtain ⟨hp, g, dr, tk, os⟩ := s1
  obtain ⟨oe, fv, hoe, hc, hd, hdat, h1⟩ := M.obj
  have hns := M.ns
  obtain ⟨G', g1, g2⟩ := restrict h' fun b => decide (b ≠ e)
  have gk : ∀ b, b ≠ e → G'.get? b = h'.get? b := fun b hb => g1 b (decide_eq_true hb)
  have ge : G'.get? e = none := g2 e (by simp)
  have old : ∀ b o, hp.get? b = some o → G'.get? b = some o := fun b o q => (gk b (Nat.ne_of_lt (Nat.lt_of_lt_of_le (Heap.lt_size q) M.new))).trans (M.keep b o q)
  have ob : ObjOk X.prog X.w (upd H1 d (.xd fs)) G' d (.xd fs) := ⟨mA, hns.at (fun o q => (gk d M.dne).trans q), hr⟩
  have J : Inv X pins σ (upd H1 d (.xd fs)) ⟨G', g, dr, tk', os⟩ := I1.laid (t' := tk') old M.dbig ob
  refine ⟨e, oe, fv, ⟨G', g, dr, tk', os⟩, _, .ref C, some d, rfl, J, fun b o q => ?_, ge, hoe, ⟨hc, hd⟩, hdat, h1, ?_, rfl, I1.bare, raises_own exC tyC, q1 d (I1.hok.fresh M.dbig)⟩
  · by_cases hb : b = e
    · have q' : G'.get? b = some o := q
      rw [hb, ge] at q'; cases q'
    · exact (gk b hb).symm.trans q
  · rw [upd_ne (Ne.symm M.dne)]
    exact I1.hok.fresh M.new
theorem relO_1 {f : Str} {v : V} {v' : Value} (r : RelV v v') (y : Str) : RelO (List.lookup y [(f, v)]) (if y = f then some v' else none) := by
  by_cases c : y = f
  · subst c
    rw [if_pos rfl]
    simp only [List.lookup, beq_self_eq_true]
    exact r
  · rw [if_neg c]
    have : (y == f) = false := by simpa using c
    simp only [List.lookup, this]
    trivial
theorem relO_2 {f g : Str} {v u : V} {v' u' : Value} (n : f ≠ g) (r : RelV v v') (r2 : RelV u u') (y : Str) : RelO (List.lookup y [(f, v), (g, u)]) (if y = g then some u' else if y = f then some v' else none) := by
  by_cases c : y = g
  · subst c
    rw [if_pos rfl]
    have : (y == f) = false := by simpa using fun z => n (Eq.symm z)
    simp only [List.lookup, this, beq_self_eq_true]
    exact r2
  · rw [if_neg c]
    by_cases d : y = f
    · subst d
      rw [if_pos rfl]
      simp only [List.lookup, beq_self_eq_true]
      exact r
    · rw [if_neg d]
      have h1 : (y == f) = false := by simpa using d
      have h2 : (y == g) = false := by simpa using c
      simp only [List.lookup, h1, h2]
      trivial
/-- x(e), x(e, e'): what is made -/
def tMkX (C : Addr) (fns : List Str) (ta : TA) : L2.St → Hp → XK → Prop := fun σ H Q => ta σ H fun vs H1 => vs.length = fns.length ∧ ∀ d, H1 d = none → Q (.ref C) (some d) (upd H1 d (.xd (fns.zip vs)))
theorem mod_at {pins : List (Addr × Obj)} {σ : L2.St} {H : Hp} {s : Shared} (I : Inv X pins σ H s) : s.heap.Ns mainGlobals X.mg ∧ ∃ mb, s.heap.Ns builtinsNs mb ∧ mb "super" = some (.type "super") := by
  obtain ⟨mb, h1, h2⟩ := I.mod.blt
  exact ⟨I.mod.glob.keeps I.bk, mb, h1.keeps I.bk, (h2 _ (by decide)).trans (by first | boot_by_name | rfl | kernel_rfl)⟩
theorem pmk1 {a : Expr} {ta : TA} {p pos : Pos} {k : Nat} {f q : Str} {b1 b2 b3 b4 : Pos} (T : XTxt X.prog X.K X.mg x C fI qual params [supS mt j a1 a2 a3 a4 a5 a6, setS f q b1 b2 b3 b4] nms) (hr : Room k X.A) (ha : PA X [a] ta) (hg : Gl X x)
    (hline : (a3.endLine == a5.line) = true) (hq : q ≠ "self") (hpl : nms.lookup q = some .local) (hpd : (q == ("__debug__" : Str)) = false) (hf : findIn X.K (.ref C) f = some none)
    (hbind : ∀ (doc pm : Value) (an : Option Addr) (cda : Addr) (ct : Value) (cc : Addr) (e v : Value), bindArgs (ksFn "__init__" qual params [supS mt j a1 a2 a3 a4 a5 a6, setS f q b1 b2 b3 b4] (sco nms) .none .none doc pm an (.ref cda) ct cc) ⟨[e, v], []⟩ = pure [(("self" : Str), e), (q, v)])
    (hdb : (x == ("__debug__" : Str)) = false := by decide) (he : starEach (a :: []) X.env = (false, eval a X.env) :: starEach [] X.env := by rfl) (hpl2 : (backTo pos (starEach [] X.env)).any (·.1) = false := by rfl) :
    PMk X (.Call (.Name x p) [a] [] pos) (tMkX C [f] ta) := by
  intro pins s σ H Q I h
  refine wpAny_Call_Name_kw (ld_glob I hg T.gC ?_ hdb)
  refine PySem.W.callWith_K (h₀ := X.base) I.ok.mod.kin T.kC (thn (ha.run pos pins s σ H _ I h) fun us s1 hh => ?_) he hpl2
  obtain ⟨vs, H1, I1, r1, hl, q1⟩ := hh
  obtain ⟨v, rfl⟩ : ∃ v, vs = [v] := by
    match vs, hl with
    | [v], _ => exact ⟨v, rfl⟩
  refine ⟨I1.kIn, ?_⟩
  cases r1 with
  | cons rv rn =>
    rename_i v' us'
    cases rn
    show wpAny _ _ (call (.ref C) [v']) _ _ _
    obtain ⟨hG, mb, hB, hb⟩ := mod_at I1
    refine wpAny_call (call_made T I1.kIn hG hB hb I1.nolimit (by have := hr.dp; omega) (by show 1 ≤ sizeLine; rw [sizeLine_eq]; exact (by decide : 1 ≤ 16777216)) hline (bs := [(q, v')]) (ps := []) (fun doc pm an cda ct cc e => hbind doc pm an cda ct cc (.ref e) v') (fun y hy => ?_) (fun y hy => ?_) fun e L cda cc h1 tk A' E' kp ne nL ho hns sL hL => ?_)
    · rw [List.mem_singleton.mp hy]; exact hpl
    · rw [List.mem_singleton.mp hy]; exact hq
    obtain ⟨t, ho⟩ := ho
    have nq : (q == ("self" : Str)) = false := by simpa using hq
    have nq2 : (("self" : Str) == q) = false := by simpa using fun z => hq (Eq.symm z)
    refine set_first (s := { s1 with heap := h1, toks := tk }) (v := v') T (I1.kIn.keeps kp) ho hns nL (by simp [List.lookup, nq2]) (by simp [List.lookup]) hpl hpd hf fun h' tk' dx k2 dn dne hx hn hL' => ?_
    refine wpAny_execs_nil ⟨rfl, ?_⟩
    show MkP X pins σ Q (.ref e) _
    have sz : s1.heap.objs.size ≤ h1.objs.size := Nat.le_trans sL (Nat.le_of_lt hL)
    exact made_mk (s1 := s1) T.exC T.tyC I1 ⟨fun b o z => k2 b o (Nat.ne_of_lt (Nat.lt_of_lt_of_le (Heap.lt_size z) ne)) (kp b o z), ne, ⟨_, _, hx, rfl, rfl, rfl, rfl⟩, Nat.le_trans sz dn, dne, hn⟩ (relO_1 rv) q1
theorem pmk2 {a b : Expr} {ta : TA} {p pos : Pos} {k : Nat} {f q f2 q2 : Str} {b1 b2 b3 b4 c1 c2 c3 c4 : Pos} (T : XTxt X.prog X.K X.mg x C fI qual params [supS mt j a1 a2 a3 a4 a5 a6, setS f q b1 b2 b3 b4, setS f2 q2 c1 c2 c3 c4] nms) (hr : Room k X.A) (ha : PA X [a, b] ta) (hg : Gl X x)
    (hline : (a3.endLine == a5.line) = true) (hff : f ≠ f2) (hqq : q ≠ q2) (hq : q ≠ "self") (hpl : nms.lookup q = some .local) (hpd : (q == ("__debug__" : Str)) = false) (hf : findIn X.K (.ref C) f = some none)
    (hq2 : q2 ≠ "self") (hpl2 : nms.lookup q2 = some .local) (hpd2 : (q2 == ("__debug__" : Str)) = false) (hf2 : findIn X.K (.ref C) f2 = some none)
    (hbind : ∀ (doc pm : Value) (an : Option Addr) (cda : Addr) (ct : Value) (cc : Addr) (e v u : Value), bindArgs (ksFn "__init__" qual params [supS mt j a1 a2 a3 a4 a5 a6, setS f q b1 b2 b3 b4, setS f2 q2 c1 c2 c3 c4] (sco nms) .none .none doc pm an (.ref cda) ct cc) ⟨[e, v, u], []⟩ = pure [(("self" : Str), e), (q, v), (q2, u)])
    (hdb : (x == ("__debug__" : Str)) = false := by decide) (he : starEach (a :: [b]) X.env = (false, eval a X.env) :: starEach [b] X.env := by rfl) (hpl3 : (backTo pos (starEach [b] X.env)).any (·.1) = false := by rfl) :
    PMk X (.Call (.Name x p) [a, b] [] pos) (tMkX C [f, f2] ta) := by
  intro pins s σ H Q I h
  refine wpAny_Call_Name_kw (ld_glob I hg T.gC ?_ hdb)
  refine PySem.W.callWith_K (h₀ := X.base) I.ok.mod.kin T.kC (thn (ha.run pos pins s σ H _ I h) fun us s1 hh => ?_) he hpl3
  obtain ⟨vs, H1, I1, r1, hl, q1⟩ := hh
  obtain ⟨v, u, rfl⟩ : ∃ v u, vs = [v, u] := by
    match vs, hl with
    | [v, u], _ => exact ⟨v, u, rfl⟩
  refine ⟨I1.kIn, ?_⟩
  cases r1 with
  | cons rv rn =>
    rename_i v' us'
    cases rn with
    | cons ru rn =>
      rename_i u' us'
      cases rn
      show wpAny _ _ (call (.ref C) [v', u']) _ _ _
      obtain ⟨hG, mb, hB, hb⟩ := mod_at I1
      refine wpAny_call (call_made T I1.kIn hG hB hb I1.nolimit (by have := hr.dp; omega) (by show 2 ≤ sizeLine; rw [sizeLine_eq]; exact (by decide : 2 ≤ 16777216)) hline (bs := [(q, v'), (q2, u')]) (ps := []) (fun doc pm an cda ct cc e => hbind doc pm an cda ct cc (.ref e) v' u') (fun y hy => ?_) (fun y hy => ?_) fun e L cda cc h1 tk A' E' kp ne nL ho hns sL hL => ?_)
      · rcases List.mem_cons.mp hy with z | z
        · rw [z]; exact hpl
        · rw [List.mem_singleton.mp z]; exact hpl2
      · rcases List.mem_cons.mp hy with z | z
        · rw [z]; exact hq
        · rw [List.mem_singleton.mp z]; exact hq2
      obtain ⟨t, ho⟩ := ho
      have n1 : (("self" : Str) == q) = false := by simpa using fun z => hq (Eq.symm z)
      have n2 : (("self" : Str) == q2) = false := by simpa using fun z => hq2 (Eq.symm z)
      have n3 : (q == q2) = false := by simpa using hqq
      have e1 : (([(("self" : Str), Value.ref e), (q, v'), (q2, u')] : List (Str × Value)).reverse.lookup ("self" : Str)) = some (.ref e) := by simp [List.lookup, n1, n2]
      have e2 : (([(("self" : Str), Value.ref e), (q, v'), (q2, u')] : List (Str × Value)).reverse.lookup q) = some v' := by simp [List.lookup, n3]
      have e3 : (([(("self" : Str), Value.ref e), (q, v'), (q2, u')] : List (Str × Value)).reverse.lookup q2) = some u' := by simp [List.lookup]
      refine set_first (s := { s1 with heap := h1, toks := tk }) (v := v') T (I1.kIn.keeps kp) ho hns nL e1 e2 hpl hpd hf fun h' tk' dx k2 dn dne hx hn hL' => ?_
      have sz : s1.heap.objs.size ≤ h1.objs.size := Nat.le_trans sL (Nat.le_of_lt hL)
      have kp' : ∀ b o, s1.heap.get? b = some o → h'.get? b = some o := fun b o z => k2 b o (Nat.ne_of_lt (Nat.lt_of_lt_of_le (Heap.lt_size z) ne)) (kp b o z)
      have nLd : L ≠ dx := Nat.ne_of_lt (Nat.lt_of_lt_of_le hL dn)
      refine set_more (s := { s1 with heap := h', toks := tk' }) (v := u') (nl := [f]) T (I1.kIn.keeps kp') hx hn (fun y hy => ?_) (by show 1 ≤ 1000; decide) hL' nLd e1 e3 hpl2 hpd2 hf2 fun h2 tk2 k3 hn2 _ => ?_
      · by_cases c : y = f
        · rw [c]; exact List.mem_singleton.mpr rfl
        · exact absurd (if_neg c) hy
      refine wpAny_execs_nil ⟨rfl, ?_⟩
      show MkP X pins σ Q (.ref e) _
      exact made_mk (s1 := s1) T.exC T.tyC I1 ⟨fun b o z => k3 b o (Nat.ne_of_lt (Nat.lt_of_lt_of_le (Heap.lt_size z) (Nat.le_trans sz dn))) (kp' b o z), ne, ⟨_, _, k3 e _ (Ne.symm dne) hx, rfl, rfl, rfl, rfl⟩, Nat.le_trans sz dn, dne, hn2⟩ (relO_2 hff rv ru) q1
end
end TLX
end PySem
set_option Elab.async false
set_option linter.all false
set_option maxRecDepth 100000
set_option maxHeartbeats 2000000
namespace TL
open PySem PySem.Spec PyProof.Rows L2
/-! ### raise -/
def sRaise (c n : Nat) (ms : M (List FV)) : MSt := fun S => (ms S).thn fun us S1 => if us.length = n then .err ⟨c, us⟩ S1 else .stuck
section
variable {W : WX} {G : GT} {X : Cx} {es : List Expr} {e : Expr} {ms : M (List FV)} {pos : Pos}
theorem zip_snd {α β : Type} : ∀ {xs : List α} {ys : List β}, xs.length = ys.length → (xs.zip ys).map (·.1) = xs ∧ (xs.zip ys).map (·.2) = ys
  | [], [], _ => ⟨rfl, rfl⟩
  | x :: xs, y :: ys, h => by
    obtain ⟨h1, h2⟩ := zip_snd (xs := xs) (ys := ys) (by simpa using h)
    exact ⟨congrArg (x :: ·) h1, congrArg (y :: ·) h2⟩
theorem js_raise {C : Addr} {fns : List Str} {c n : Nat} (hc : X.calm = true) (tk : Takes X W) (hC : G.X c = C) (hf : G.xn c = fns) (hn : fns.length = n) (hn0 : fns ≠ []) (hp : PMk X e (PySem.TLX.tMkX C fns (tG W G (rA G) ms))) : JS W G X (.Raise (some e) none pos) (sRaise c n ms) :=
  PS.imp (ps_raise hc tk hp) fun D σ H h => by
    refine tS.expr (R2 := rA G) h fun F B fp S us S' B' fp' H' xs R E R1 rx q => ?_
    replace rx : FReps G B' H' us xs := rx
    split at q
    · rename_i cl
      have hl : fns.length = xs.length := by rw [← rx.len, cl]; exact hn
      refine ⟨hl.symm, fun d hd => ?_⟩
      obtain ⟨z1, z2⟩ := zip_snd hl
      refine q B' fp' σ (upd H' d (.xd (fns.zip xs))) (.ref C) (some d) (R1.new hd) ⟨by rw [hC], .inr ⟨d, fns.zip xs, rfl, upd_same, by rw [z1, hf], ?_⟩⟩
      rw [z2]
      exact FReps.keep (SR.keepN hd B') (fun _ z => z) _ _ rx
    · exact q.elim
end
/-! ### another table beside -/
structure Gg (G G' : GT) : Prop where
  K : G'.K = G.K
  C : G'.C = G.C
  nm : G'.nm = G.nm
  X : G'.X = G.X
  xn : G'.xn = G.xn
section
variable {G G' : GT} {B B' : Addr → Prop} {H : Hp}
mutual
theorem FRep.gg (g : Gg G G') : ∀ (v : FV) (x : V), FRep G B H v x → FRep G' B H v x
  | .non, x, h => by unfold FRep at h ⊢; exact h
  | .bl _, x, h => by unfold FRep at h ⊢; exact h
  | .int _, x, h => by unfold FRep at h ⊢; exact h
  | .str _, x, h => by unfold FRep at h ⊢; exact h
  | .dic, x, h => by unfold FRep at h ⊢; exact h
  | .tup ps, x, h => by
    unfold FRep at h ⊢
    obtain ⟨a, xs, e, s, r⟩ := h
    exact ⟨a, xs, e, s, FReps.gg g ps xs r⟩
  | .lst ps, x, h => by
    unfold FRep at h ⊢
    obtain ⟨a, xs, e, b, s, r⟩ := h
    exact ⟨a, xs, e, b, s, FReps.gg g ps xs r⟩
  | .obj c ps, x, h => by
    unfold FRep at h ⊢
    obtain ⟨a, dx, fs, e, b, s, n, r⟩ := h
    exact ⟨a, dx, fs, e, b, by rw [g.C]; exact s, by rw [g.nm]; exact n, FReps.gg g ps _ r⟩
theorem FReps.gg (g : Gg G G') : ∀ (v : List FV) (x : List V), FReps G B H v x → FReps G' B H v x
  | [], x, h => by unfold FReps at h ⊢; exact h
  | p :: ps, x, h => by
    unfold FReps at h ⊢
    obtain ⟨y, r, e, h1, h2⟩ := h
    exact ⟨y, r, e, FRep.gg g p y h1, FReps.gg g ps r h2⟩
end
mutual
theorem ORep.gg (g : Gg G G') : ∀ (t : OT) (x : V) (f : List Addr), ORep G B H t x f → ORep G' B H t x f
  | .fz v, x, f, h => by unfold ORep at h ⊢; exact ⟨FRep.gg g v x h.1, h.2⟩
  | .own ts, x, f, h => by
    unfold ORep at h ⊢
    obtain ⟨b, xs, k, e1, hb, r, e⟩ := h
    exact ⟨b, xs, k, e1, hb, OReps.gg g ts xs k r, e⟩
theorem OReps.gg (g : Gg G G') : ∀ (t : List OT) (x : List V) (f : List Addr), OReps G B H t x f → OReps G' B H t x f
  | [], x, f, h => by unfold OReps at h ⊢; exact h
  | t :: ts, x, f, h => by
    unfold OReps at h ⊢
    obtain ⟨y, r, k, l, e1, h1, h2, e⟩ := h
    exact ⟨y, r, k, l, e1, ORep.gg g t y k h1, OReps.gg g ts r l h2, e⟩
end
theorem XRep.gg (g : Gg G G') {e : EV} {c : Value} {d : Option Addr} (h : XRep G B H e c d) : XRep G' B H e c d := by
  obtain ⟨h1, h2⟩ := h
  refine ⟨by rw [g.X]; exact h1, ?_⟩
  rw [g.xn]
  rcases h2 with h2 | ⟨dd, fs, a, b, c, r⟩
  · exact .inl h2
  · exact .inr ⟨dd, fs, a, b, c, FReps.gg g _ _ r⟩
theorem ScR.gg (g : Gg G G') {a : Addr} {ns : List Int} (h : ScR G H a ns) : ScR G' H a ns := by
  unfold ScR at h ⊢
  rw [g.K]
  exact h
theorem RVR.gg (g : Gg G G') {F : Fc} {fp : Nat → List Addr} {S : MS} {σ : St} {v : RV} {x : V} {f : List Addr} (h : RVR G F B fp S σ H v x f) : RVR G' F B fp S σ H v x f := by
  cases v with
  | fz v => exact ⟨FRep.gg g _ _ h.1, h.2⟩
  | tmp ts => exact ⟨ORep.gg g _ _ _ h.1, h.2⟩
  | pl j p => exact h
  | dr => exact h
  | scr ns => obtain ⟨⟨a, e, r⟩, e2⟩ := h; exact ⟨⟨a, e, r.gg g⟩, e2⟩
def isEx : Sl → Bool
  | .ex _ => true
  | _ => false
theorem SR.gg (g : Gg G G') {F : Fc} {fp : Nat → List Addr} {S : MS} {σ : St} (R : SR G F B fp S σ H) (hx : ∀ (i : Nat) (e : EV), S.sl[i]? = some (Sl.ex e) → False) : SR G' F B fp S σ H := by
  refine ⟨R.len, fun i s e => ?_, R.out, R.nd, R.dj, R.nb, R.ext, R.dr, R.nw, R.bm, R.bg, R.bt⟩
  have q := R.sl i s e
  cases s with
  | un => exact q
  | fz v => obtain ⟨q0, x, q1, q2⟩ := q; exact ⟨q0, x, q1, FRep.gg g v x q2⟩
  | own ts => obtain ⟨x, q1, q2⟩ := q; exact ⟨x, q1, ORep.gg g _ _ _ q2⟩
  | al j p => exact q
  | dr => exact q
  | new c fs => obtain ⟨q0, a, dx, ss, q1, q2, q3, q4, q5⟩ := q; exact ⟨q0, a, dx, ss, q1, q2, by rw [g.C]; exact q3, by rw [g.nm]; exact q4, FReps.gg g _ _ q5⟩
  | scr ns => obtain ⟨q0, a, q1, q2⟩ := q; exact ⟨q0, a, q1, q2.gg g⟩
  | ex ee => exact (hx i ee e).elim
end
abbrev GT.wx (G : GT) (a : Addr) (cls : Value) (d : Option Addr) : GT := { G with ex := some (a, cls, d) }
theorem gg_wx {G : GT} {a : Addr} {cls : Value} {d : Option Addr} : Gg G (G.wx a cls d) := ⟨rfl, rfl, rfl, rfl, rfl⟩
theorem gg_xw {G : GT} {a : Addr} {cls : Value} {d : Option Addr} : Gg (G.wx a cls d) G := ⟨rfl, rfl, rfl, rfl, rfl⟩
/-! ### try: .. except C as n: .. -/
/-- the exception's name goes -/
def noEx (S : MS) : Bool := S.sl.all fun s => !isEx s
def unEx (i : Nat) : Out → Out
  | .nx S => if noEx (S.wipe [i]) = true then .nx (S.wipe [i]) else .stuck
  | .bk S => if noEx (S.wipe [i]) = true then .bk (S.wipe [i]) else .stuck
  | .ct S => if noEx (S.wipe [i]) = true then .ct (S.wipe [i]) else .stuck
  | .rt (.fz v) S => if noEx (S.wipe [i]) = true then .rt (.fz v) (S.wipe [i]) else .stuck
  | _ => .stuck
def sTryAs (cat : Nat → Option Bool) (i : Nat) (mb ms : MSt) : MSt := fun S => match mb S with
  | .err e S1 => match cat e.c with
    | some true => if i < S1.sl.length then unEx i (ms (S1.set i (.ex e))) else .stuck
    | some false => .err e S1
    | none => .stuck
  | o => o
theorem noEx_of {S : MS} (h : noEx S = true) : ∀ (i : Nat) (e : EV), S.sl[i]? = some (Sl.ex e) → False := fun i e he => by
  unfold noEx at h
  have := List.all_eq_true.mp h _ (List.mem_of_getElem? he)
  cases this
section
variable {W : WX} {G : GT} {X : Cx} {x n : Str} {cv : Value} {i : Nat} {body suite : List Stmt} {b₀ : Stmt} {np pos pos' : Pos} {mb ms : MSt} {cat : Nat → Option Bool}
theorem SR.noX {G : GT} {F : Fc} {B : Addr → Prop} {fp : Nat → List Addr} {S : MS} {σ : St} {H : Hp} (hG : G.ex = none) (R : SR G F B fp S σ H) : ∀ (i : Nat) (e : EV), S.sl[i]? = some (Sl.ex e) → False := fun i e he => by
  obtain ⟨_, a, c, d, q, _⟩ := R.sl i _ he
  rw [hG] at q
  cases q
theorem js_try_as (hG : G.ex = none) (hK : X.K = G.K) (hs : X.stack = X.env :: X.outer) (hf : X.env.frame = some X.env.locals) (hN : X.N.Nodup) (hi : X.N[i]? = some n) (hln : X.env.kindOf n = some .local) (hc : Names X x cv) (tk : Takes X W)
    (hcat : ∀ k b, cat k = some b → PySem.W.exmOne G.K (.ref (G.X k)) cv = some b)
    (hb : ∀ (W : WX) (pn : List (Addr × Obj)) (xe : Value → Shared → Prop), Takes (X.tr pn xe) W → PassesOwn (model X.prog X.w) X.A X.env xe → JB W G (X.tr pn xe) body mb)
    (hsu : ∀ (a : Addr) (oe : Obj) (cls : Value) (d : Option Addr) (pn : List (Addr × Obj)), Zc cls d oe → (∃ vs, oe.data = .fields vs) → JB WF (G.wx a cls d) (X.suite a ((a, oe) :: pn)) (b₀ :: suite) ms) :
    JS W G X (.Try body [.ExceptHandler (some (.Name x np)) (some n) (b₀ :: suite) pos'] [] [] pos) (sTryAs cat i mb ms) :=
  PS.impI (ps_try_as (tb := fun W => tS W G mb) (ts := fun a cls d => tS WF (G.wx a cls d) ms) hs hf hN hi hln hc tk hb hsu) fun D σ H hl ⟨F, B, fp, S, R, h⟩ => by
    show tS _ G mb D σ H
    refine ⟨F, B, fp, S, R, ?_⟩
    have hiN : i < X.N.length := (List.getElem?_eq_some_iff.mp hi).1
    unfold sTryAs at h
    cases em : mb S with
    | err e S1 =>
      rw [em] at h
      intro B' fp' σ' H' cls d R' xr
      obtain ⟨x1, x2⟩ := id xr
      simp only at h
      split at h
      · rename_i hcc
        refine ⟨true, by rw [hK, x1]; exact hcat _ _ hcc, fun _ a ha => ?_, fun z => (by cases z)⟩
        split at h
        rotate_left
        · exact h.elim
        rename_i iS
        have hσ : i < σ'.length := by rw [R'.len]; exact iS
        have R2 : SR (G.wx a cls d) F B' fp' S1 σ' H' := R'.gg gg_wx (R'.noX hG)
        have R3 := R2.setSl (x := .ref a) (s := .ex e) (f := []) iS List.nodup_nil (fun b hb => by cases hb) ⟨fpSet_same, a, cls, d, rfl, List.getElem?_set_self hσ, xr.gg gg_wx⟩
        refine ⟨F, B', _, _, R3, ?_⟩
        -- what the suite leaves
        have back : ∀ {B'' : Addr → Prop} {fp'' : Nat → List Addr} {S2 : MS} {σ'' : St} {H'' : Hp}, SR (G.wx a cls d) F B'' fp'' S2 σ'' H'' → noEx (S2.wipe [i]) = true → ∃ fp3, SR G F B'' fp3 (S2.wipe [i]) (σ''.set i none) H'' := fun {B'' fp'' S2 σ'' H''} R4 hx => by
          obtain ⟨fp3, R5, _⟩ := R4.wipe (σ' := σ''.set i none) [i] (by rw [List.length_set]) fun k hk => List.getElem?_set_ne fun z => hk (by rw [z]; exact List.mem_singleton.mpr rfl)
          exact ⟨fp3, R5.gg gg_xw (noEx_of hx)⟩
        cases es : ms (S1.set i (.ex e)) with
        | nx S2 =>
          rw [es] at h
          simp only [unEx] at h
          split at h
          · rename_i hx
            intro B'' fp'' σ'' H'' R4
            obtain ⟨fp3, R5⟩ := back R4 hx
            exact h B'' fp3 _ H'' R5
          · exact h.elim
        | bk S2 =>
          rw [es] at h
          simp only [unEx] at h
          split at h
          · rename_i hx
            intro B'' fp'' σ'' H'' R4
            obtain ⟨fp3, R5⟩ := back R4 hx
            exact h B'' fp3 _ H'' R5
          · exact h.elim
        | ct S2 =>
          rw [es] at h
          simp only [unEx] at h
          split at h
          · rename_i hx
            intro B'' fp'' σ'' H'' R4
            obtain ⟨fp3, R5⟩ := back R4 hx
            exact h B'' fp3 _ H'' R5
          · exact h.elim
        | rt v S2 =>
          rw [es] at h
          cases v with
          | fz u =>
            simp only [unEx] at h
            split at h
            · rename_i hx
              intro B'' fp'' σ'' H'' y f R4 rv
              obtain ⟨fp3, R5⟩ := back R4 hx
              exact h B'' fp3 _ H'' y f R5 ⟨FRep.gg gg_xw _ _ rv.1, rv.2⟩
            · exact h.elim
          | _ => exact h.elim
        | err e2 S2 => rw [es] at h; exact h.elim
        | stuck => rw [es] at h; exact h.elim
      · rename_i hcc
        exact ⟨false, by rw [hK, x1]; exact hcat _ _ hcc, fun z => (by cases z), fun _ => h B' fp' σ' H' cls d R' xr⟩
      · exact h.elim
    | _ => rw [em] at h; exact h
end
end TL
set_option Elab.async false
set_option linter.all false
set_option maxRecDepth 100000
set_option maxHeartbeats 2000000
namespace TL
open PySem PySem.Spec PyProof.Rows L2
/-! ### types -/
inductive Ty where
  | non | bl | int | str | tup | lst | dic | cls (c : Nat)
def tyF : FV → Ty
  | .non => .non
  | .bl _ => .bl
  | .int _ => .int
  | .str _ => .str
  | .tup _ => .tup
  | .lst _ => .lst
  | .obj c _ => .cls c
  | .dic => .dic
def tyR (v : RV) (S : MS) : Option Ty := match v with
  | .fz v => some (tyF v)
  | .tmp _ => some .lst
  | .pl j p => match S.at j p with
    | some (.own _) => some .lst
    | _ => none
  | .dr => some .lst
  | .scr _ => some .lst
def tyV (G : GT) : Ty → Value
  | .non => .type "NoneType"
  | .bl => .type "bool"
  | .int => .type "int"
  | .str => .type "str"
  | .tup => .type "tuple"
  | .lst => .type "list"
  | .dic => .type "dict"
  | .cls c => .ref (G.C c)
/-- what isinstance asks of an own class -/
structure InsC (K : PySem.W.Frag) (C : Addr) : Prop where
  cl : Cls K C
  ha : PySem.W.findIn K (.ref C) "__class__" = some (some (.builtin "object.__class__"))
  hn : PySem.W.specialIn K (.builtin "object.__class__") "__get__" = some (some (.builtin "getset_descriptor.__get__"))
  ht : PySem.W.takesIn K (.builtin "object.__class__") = some true
  hm : PySem.W.mroIn K C (.type "object") = some true
theorem ty_ok {G : GT} {F : Fc} {B : Addr → Prop} {fp : Nat → List Addr} {S : MS} {σ : St} {H Hs : Hp} {v : RV} {x : V} {t : Ty} (R : SR G F B fp S σ H) (r : rX G F Hs B fp S σ H v x) (h : tyR v S = some t) (hO : ∀ c, t = .cls c → InsC G.K (G.C c)) : TyX G.K H x (tyV G t) := by
  obtain ⟨f, r, _⟩ := r
  cases v with
  | fz u =>
    cases h
    have fr := r.1
    cases u with
    | obj c ps =>
      unfold FRep at fr
      obtain ⟨a, dx, fs, rfl, _, e, _⟩ := fr
      have o := hO c rfl
      exact .base (.ins e o.cl o.ha o.hn o.ht o.hm)
    | tup ps => unfold FRep at fr; obtain ⟨a, xs, rfl, e, _⟩ := fr; exact .base (.tup e)
    | lst ps => unfold FRep at fr; obtain ⟨a, xs, rfl, _, e, _⟩ := fr; exact .base (.lst e)
    | dic => unfold FRep at fr; obtain ⟨a, rfl, e⟩ := fr; exact .base (.dK e)
    | non => unfold FRep at fr; subst fr; exact .base .non
    | bl b => unfold FRep at fr; subst fr; exact .base (.bl b)
    | int i => unfold FRep at fr; subst fr; exact .base (.int i)
    | str s => unfold FRep at fr; subst fr; exact .base (.str s)
  | tmp ts =>
    cases h
    have o := r.1
    unfold ORep at o
    obtain ⟨a, xs, g, rfl, e, _⟩ := o
    exact .base (.lst e)
  | pl j p =>
    simp only [tyR] at h
    split at h
    · rename_i us hat
      cases h
      obtain ⟨⟨r0, h1, h2⟩, _⟩ := r
      obtain ⟨_, g, _, _, _, ho, _⟩ := R.place hat h1 h2
      unfold ORep at ho
      obtain ⟨a, xs, g', rfl, e, _⟩ := ho
      exact .base (.lst e)
    · cases h
  | dr =>
    cases h
    obtain ⟨⟨a, ea, rfl⟩, _⟩ := r
    obtain ⟨_, _, ⟨xs, e⟩, _⟩ := R.notBad ea
    exact .base (.lst e)
  | scr ns =>
    cases h
    obtain ⟨⟨a, rfl, sc⟩, _⟩ := r
    rcases sc with ⟨o, e⟩ | ⟨o, its, n, e, hc, _⟩
    · exact .base (.frz e)
    · exact .kList e hc
def isiR (f : Ty → Option Bool) (v : RV) (S : MS) : ER RV := match tyR v S with
  | some t => match f t with
    | some b => .ok (.fz (.bl b)) S
    | none => .stuck
  | none => .stuck
def mIsi (f : Ty → Option Bool) (m : M RV) : M RV := fun S => (m S).bind (isiR f)
section
variable {W : WX} {G : GT} {X : Cx} {e ce : Expr} {m : M RV} {p pos : Pos}
theorem mIsi_ok {F : Fc} {Bs B : Addr → Prop} {fps fp : Nat → List Addr} {S : MS} {σ : St} {Hs H : Hp} {f : Ty → Option Bool} {v : RV} {x : V} {Q : VK} (R : SR G F B fp S σ H) (r : rX G F Hs B fp S σ H v x)
    (hO : ∀ c b, f (.cls c) = some b → InsC G.K (G.C c))
    (p : Post W G F Bs fps σ Hs (isiR f v S) fun v S' B' fp' H' => ∀ z, rX G F Hs B' fp' S' σ H' v z → Q z H') :
    ∃ t b, f t = some b ∧ TyX G.K H x (tyV G t) ∧ Post W G F Bs fps σ Hs (ER.ok (RV.fz (.bl b)) S) fun v S' B' fp' H' => ∀ z, rX G F Hs B' fp' S' σ H' v z → Q z H' := by
  unfold isiR at p
  split at p
  · rename_i t et
    split at p
    · rename_i b eb
      exact ⟨t, b, eb, ty_ok R r et fun c ec => hO c b (by rw [← ec]; exact eb), p⟩
    · exact p.elim
  · exact p.elim
/-- isinstance(e, C) -/
theorem jx_isi {f : Ty → Option Bool} {cv : V} {u : Value} (hK : X.K = G.K) (hg : Gl X "isinstance") (hm : X.mg "isinstance" = none) (he : JX W G X e m) (hc : PE X ce (tC cv)) (hv : ClsV cv u) (hf : ∀ t b, f t = some b → PySem.W.kitOne G.K (tyV G t) u = some b) (hO : ∀ c b, f (.cls c) = some b → InsC G.K (G.C c))
    (hs : starEach (e :: [ce]) X.env = (false, eval e X.env) :: starEach [ce] X.env := by rfl) (hs2 : starEach (ce :: []) X.env = (false, eval ce X.env) :: starEach [] X.env := by rfl) (hpl : (backTo pos (starEach [ce] X.env)).any (·.1) = false := by rfl) :
    JX W G X (.Call (.Name "isinstance" p) [e, ce] [] pos) (mIsi f m) :=
  PE.imp (pe_callB call_isi hg hm (by first | boot_by_name | rfl) (pa_cons he (pa_cons hc pa_nil hs2) hs) (by decide) (by decide) hs hpl) fun σ H Q h => by
    refine tG.one (R2 := rX G) h fun F B fp v S' B' fp' H' x E R rx q => ?_
    obtain ⟨t, b, eb, ty, q2⟩ := mIsi_ok R rx hO q
    exact ⟨x, cv, tyV G t, u, b, rfl, hv, by rw [hK]; exact ty, by rw [hK]; exact hf t b eb, q2.val (R := rX G) E R (rX_fz fr_bl)⟩
/-- several classes -/
inductive ClsEs (X : Cx) : List Expr → List V → List Value → TA → Prop where
  | nil : ClsEs X [] [] [] tNil
  | cons {e : Expr} {es : List Expr} {c : V} {cs : List V} {u : Value} {us : List Value} {t : TA} (h : PE X e (tC c)) (hv : ClsV c u) (r : ClsEs X es cs us t) (hs : starEach (e :: es) X.env = (false, eval e X.env) :: starEach es X.env) : ClsEs X (e :: es) (c :: cs) (u :: us) (tCons (tC c) t)
theorem ClsEs.pa {es : List Expr} {cs : List V} {us : List Value} {t : TA} (h : ClsEs X es cs us t) : PA X es t := by
  induction h with
  | nil => exact pa_nil
  | cons h hv r hs ih => exact pa_cons h ih hs
theorem ClsEs.run {es : List Expr} {cs : List V} {us : List Value} {t : TA} (h : ClsEs X es cs us t) : Paired ClsV cs us ∧ ∀ σ H Q, Q cs H → t σ H Q := by
  induction h with
  | nil => exact ⟨.nil, fun σ H Q q => q⟩
  | cons h hv r hs ih => exact ⟨.cons hv ih.1, fun σ H Q q => ih.2 σ H _ q⟩
/-- isinstance(e, (C, ..)) -/
theorem jx_isiT {f : Ty → Option Bool} {ces : List Expr} {cvs : List V} {us : List Value} {t : TA} {kk : Nat} {tpos : Pos} (hK : X.K = G.K) (hg : Gl X "isinstance") (hm : X.mg "isinstance" = none) (he : JX W G X e m) (hc : ClsEs X ces cvs us t) (hl : cvs.length ≤ 100)
    (hf : ∀ t b, f t = some b → PySem.W.kitAny G.K (tyV G t) us = some b) (hO : ∀ c b, f (.cls c) = some b → InsC G.K (G.C c))
    (hs : starEach (e :: [.Tuple ces kk tpos]) X.env = (false, eval e X.env) :: starEach [.Tuple ces kk tpos] X.env := by rfl) (hs2 : starEach (.Tuple ces kk tpos :: []) X.env = (false, eval (.Tuple ces kk tpos) X.env) :: starEach [] X.env := by rfl) (hpl : (backTo pos (starEach [.Tuple ces kk tpos] X.env)).any (·.1) = false := by rfl) :
    JX W G X (.Call (.Name "isinstance" p) [e, .Tuple ces kk tpos] [] pos) (mIsi f m) :=
  PE.imp (pe_callB call_isiT hg hm (by first | boot_by_name | rfl) (pa_cons he (pa_cons (pe_tup hc.pa) pa_nil hs2) hs) (by decide) (by decide) hs hpl) fun σ H Q h => by
    refine tG.one (R2 := rX G) h fun F B fp v S' B' fp' H' x E R rx q => ?_
    obtain ⟨pr, run⟩ := hc.run
    refine run σ H' _ ⟨by rw [sizeLine_eq]; omega, fun tp hn => ?_⟩
    have E2 : Eff F B' fp' H' B' fp' (upd H' tp (.tup cvs)) := Eff.new hn
    obtain ⟨t, b, eb, ty, q2⟩ := mIsi_ok (R.new hn) (rX.keep R E2 rx) hO q
    exact ⟨x, tp, cvs, tyV G t, us, b, rfl, upd_same, pr, by rw [hK]; exact ty, by rw [hK]; exact hf t b eb, q2.val (R := rX G) (E.trans E2) (R.new hn) (rX_fz fr_bl)⟩
/-! ### attributes -/
def mFld (idx : Nat → Option Nat) (m : M RV) : M RV := fun S => (m S).bind fun v S1 => match v with
  | .fz (.obj c fs) => match idx c with
    | some k => match fs[k]? with
      | some u => .ok (.fz u) S1
      | none => .stuck
    | none => .stuck
  | _ => .stuck
theorem lookup_nm {ns : List Str} : ∀ {fs : List (Str × V)} {k : Nat} {f : Str} {y : V}, fs.map (·.1) = ns → ns.Nodup → ns[k]? = some f → (fs.map (·.2))[k]? = some y → fs.lookup f = some y := by
  intro fs
  induction fs generalizing ns with
  | nil => intro k f y h _ h2 h3; simp at h3
  | cons q fs ih =>
    obtain ⟨g, z⟩ := q
    intro k f y h nd h2 h3
    subst h
    obtain ⟨n1, n2⟩ := List.nodup_cons.mp nd
    cases k with
    | zero =>
      simp at h2 h3
      subst h2 h3
      simp [List.lookup]
    | succ k =>
      have h2' : (fs.map (·.1))[k]? = some f := by simpa using h2
      have ne : f ≠ g := fun z => n1 (by rw [← z]; exact List.mem_of_getElem? h2')
      have nb : (f == g) = false := by simpa using ne
      simp only [List.lookup, nb]
      exact ih rfl n2 h2' (by simpa using h3)
theorem jx_fld {f : Str} {idx : Nat → Option Nat} (hK : X.K = G.K) (he : JX W G X e m) (hI : ∀ c k, idx c = some k → Cls G.K (G.C c) ∧ NoAttr G.K (G.C c) f ∧ (G.nm c)[k]? = some f ∧ (G.nm c).Nodup) (hb : attributeBase e f X.env (eval e X.env) = eval e X.env := by rfl) :
    JX W G X (.Attribute e f pos) (mFld idx m) :=
  PE.imp (pe_fld he hb) fun σ H Q h => by
    refine tG.one (R2 := rX G) h fun F B fp v S' B' fp' H' x E R rx q => ?_
    split at q
    · rename_i c fs
      split at q
      · rename_i k ek
        split at q
        · rename_i u eu
          obtain ⟨i1, i2, i3, i4⟩ := hI c k ek
          have fr := of_fz rx
          unfold FRep at fr
          obtain ⟨a, dx, ss, rfl, _, ea, en, er⟩ := fr
          obtain ⟨y, ey, ry⟩ := er.get eu
          exact ⟨a, G.C c, dx, ss, y, rfl, ea, by rw [hK]; exact i1, by rw [hK]; exact i2, lookup_nm en i4 i3 ey, q.val (R := rX G) E R (rX_fz ry)⟩
        · exact q.elim
      · exact q.elim
    · exact q.elim
end
/-! ### in a suite -/
def mXf (i c k : Nat) : M RV := fun S => match S.sl[i]? with
  | some (.ex e) => if e.c = c then match e.fs[k]? with
      | some u => .ok (.fz u) S
      | none => .stuck
    else .stuck
  | _ => .stuck
/-- isinstance(error, ..): b for the class c -/
def mXi (i c : Nat) (b : Bool) : M RV := fun S => match S.sl[i]? with
  | some (.ex e) => if e.c = c then .ok (.fz (.bl b)) S else .stuck
  | _ => .stuck
structure XsC (K : PySem.W.Frag) (C : Addr) : Prop where
  xf : XfC K C
  cl : (PySem.W.clsIn K C).isSome = true
  ha : PySem.W.findIn K (.ref C) "__class__" = some (some (.builtin "object.__class__"))
  hn : PySem.W.specialIn K (.builtin "object.__class__") "__get__" = some (some (.builtin "getset_descriptor.__get__"))
  ht : PySem.W.takesIn K (.builtin "object.__class__") = some true
  hm : PySem.W.mroIn K C (.type "object") = some true
section
variable {G : GT} {X : Cx} {a : Addr} {oe : Obj} {cls : Value} {d : Option Addr} {pn : List (Addr × Obj)} {n f : Str} {i c k : Nat} {p pos p2 : Pos}
theorem jx_xf (hK : X.K = G.K) (hz : Zc cls d oe) (hf : ∃ vs, oe.data = .fields vs) (hN : X.N[i]? = some n) (hv : Vis X.env.scope n) (T : XfC G.K (G.X c)) (hno : PySem.W.findIn G.K (.ref (G.X c)) f = some none) (hk : (G.xn c)[k]? = some f) (hnd : (G.xn c).Nodup)
    (hd : (n == ("__debug__" : Str)) = false := by decide) (hcd : (n == ("__classdict__" : Str)) = false := by decide) (hb : attributeBase (.Name n p) f X.env (eval (.Name n p) X.env) = eval (.Name n p) X.env := by rfl) :
    JX WF (G.wx a cls d) (X.suite a ((a, oe) :: pn)) (.Attribute (.Name n p) f pos) (mXf i c k) :=
  PE.imp (pe_xf (by rw [hK]; exact T) (by rw [hK]; exact hno) hz hf (pe_var hN hv hd hcd) hb) fun σ H Q ⟨F, B, fp, S, R, h⟩ => by
    unfold mXf at h
    split at h
    · rename_i e es
      split at h
      · rename_i ec
        split at h
        · rename_i u eu
          obtain ⟨_, a', cls', d', eg, eσ, x1, x2⟩ := R.sl i _ es
          cases eg
          subst ec
          rcases x2 with ⟨_, x2, _⟩ | ⟨dd, fs, rfl, x3, x4, x5⟩
          · rw [x2] at eu; simp at eu
          · have x5' : FReps (G.wx a cls (some dd)) B H e.fs (fs.map (·.2)) := x5
            obtain ⟨y, ey, ry⟩ := x5'.get eu
            exact ⟨_, eσ, rfl, x1, dd, fs, y, rfl, x3, lookup_nm x4 hnd hk ey, h.val (R := rX (G.wx a cls (some dd))) Eff.refl R (rX_fz ry)⟩
        · exact h.elim
      · exact h.elim
    · exact h.elim
/-- isinstance(e, ..) of the exception that the suite holds -/
def rXi (K : PySem.W.Frag) (D a : Addr) (cls : Value) (d : Option Addr) : List V → Hp → VK → Prop := fun xs H Q => cls = .ref D ∧ (d = none ∨ ∃ dd fs, d = some dd ∧ H dd = some (.xd fs)) ∧
  ((∃ cv u b, xs = [.ref a, cv] ∧ ClsV cv u ∧ PySem.W.kitOne K (.ref D) u = some b ∧ Q (.bl b) H) ∨
    ∃ tp cs us b, xs = [.ref a, .ref tp] ∧ H tp = some (.tup cs) ∧ Paired ClsV cs us ∧ PySem.W.kitAny K (.ref D) us = some b ∧ Q (.bl b) H)
theorem call_xi {D : Addr} (T : XsC X.K D) (hz : Zc cls d oe) (hf : ∃ vs, oe.data = .fields vs) : CallR (X.suite a ((a, oe) :: pn)) (.builtin "isinstance") (rXi X.K D a cls d) := by
  intro pins s σ H xs us Q I r h
  obtain ⟨rfl, hd, h⟩ := h
  obtain ⟨ha, _⟩ := I.pin (a, oe) (List.mem_append_left _ List.mem_cons_self)
  obtain ⟨vs, hv⟩ := hf
  obtain ⟨od, J⟩ : ∃ od, PySem.W.InstAt s.heap a oe D od := by
    have hn : PySem.W.notCls oe = true := by unfold PySem.W.notCls; rw [hv] <;> rfl
    rcases hd with rfl | ⟨dd, fs, rfl, hd⟩
    · exact ⟨none, ha, hz.1, hn, by rw [hz.2]; trivial⟩
    · have hx : ObjOk X.prog X.w H s.heap dd (.xd fs) := I.hok dd _ hd
      obtain ⟨mA, hns, _⟩ := hx
      obtain ⟨od, ho, _⟩ := lookIn_ns hns
      exact ⟨some od, ha, hz.1, hn, by rw [hz.2]; exact ho⟩
  have Z := PySem.W.kitx_exc (K := X.K) (x := a) (ox := oe) (od := od) T.cl T.xf.ga T.xf.gg T.xf.exC T.ha T.hn T.ht T.hm
  rcases h with ⟨cv, u, b, rfl, k, e, q⟩ | ⟨tp, cs, ws, b, rfl, hT, k, e, q⟩
  · obtain ⟨u1, u2, rfl, r1, r2⟩ := vals2 r
    have e2 := k.eq r2
    subst e2
    cases (show u1 = Value.ref a from r1)
    exact PySem.W.kia_one Z I.kIn J e (fun z => nomatch z) fun tk => ⟨.bl b, H, I.tok tk, rfl, q⟩
  · obtain ⟨u1, u2, rfl, r1, r2⟩ := vals2 r
    cases (show u1 = Value.ref a from r1)
    cases (show u2 = Value.ref tp from r2)
    obtain ⟨_, its, rv, o, h1, h2, n, h3⟩ := (show ObjOk X.prog X.w H s.heap tp (.tup cs) from I.hok tp _ hT)
    have e3 := ClsV.all k rv
    subst e3
    obtain ⟨oc, od', dt, sl⟩ := o
    simp only at h2 h3
    subst h2 h3
    exact PySem.W.kia_tup Z I.kIn J h1 e (fun z => nomatch z) fun tk => ⟨.bl b, H, I.tok tk, rfl, q⟩
theorem jx_xi {ce : Expr} {cv : V} {u : Value} {b : Bool} (hK : X.K = G.K) (hz : Zc cls d oe) (hf : ∃ vs, oe.data = .fields vs) (hN : X.N[i]? = some n) (hv : Vis X.env.scope n) (T : XsC G.K (G.X c)) (hg : Gl X "isinstance") (hm : X.mg "isinstance" = none)
    (hc : PE (X.suite a ((a, oe) :: pn)) ce (tC cv)) (hcv : ClsV cv u) (hb : PySem.W.kitOne G.K (.ref (G.X c)) u = some b) (hd : (n == ("__debug__" : Str)) = false := by decide) (hcd : (n == ("__classdict__" : Str)) = false := by decide)
    (hs : starEach [.Name n p2, ce] X.env = (false, eval (.Name n p2) X.env) :: starEach [ce] X.env := by rfl) (hs2 : starEach (ce :: []) X.env = (false, eval ce X.env) :: starEach [] X.env := by rfl) (hpl : (backTo pos (starEach [ce] X.env)).any (·.1) = false := by rfl) :
    JX WF (G.wx a cls d) (X.suite a ((a, oe) :: pn)) (.Call (.Name "isinstance" p) [.Name n p2, ce] [] pos) (mXi i c b) :=
  PE.imp (pe_callB (X := X.suite a ((a, oe) :: pn)) (call_xi (by rw [hK]; exact T) hz hf) hg hm (by first | boot_by_name | rfl) (pa_cons (pe_var (X := X.suite a ((a, oe) :: pn)) hN hv hd hcd) (pa_cons hc pa_nil hs2) hs) (by decide) (by decide) hs hpl) fun σ H Q ⟨F, B, fp, S, R, h⟩ => by
    unfold mXi at h
    split at h
    · rename_i e es
      split at h
      · rename_i ec
        obtain ⟨_, a', cls', d', eg, eσ, x1, x2⟩ := R.sl i _ es
        cases eg
        subst ec
        refine ⟨_, eσ, x1, ?_, .inl ⟨cv, u, b, rfl, hcv, by rw [hK]; exact hb, h.val (R := rX (G.wx a cls d)) Eff.refl R (rX_fz fr_bl)⟩⟩
        rcases x2 with ⟨_, _, x2⟩ | ⟨dd, fs, x2, x3, _⟩
        · exact .inl x2
        · exact .inr ⟨dd, fs, x2, x3⟩
      · exact h.elim
    · exact h.elim
theorem jx_xiT {ces : List Expr} {cvs : List V} {us : List Value} {t : TA} {kk : Nat} {tpos : Pos} {b : Bool} (hK : X.K = G.K) (hz : Zc cls d oe) (hf : ∃ vs, oe.data = .fields vs) (hN : X.N[i]? = some n) (hv : Vis X.env.scope n) (T : XsC G.K (G.X c)) (hg : Gl X "isinstance") (hm : X.mg "isinstance" = none)
    (hc : ClsEs (X.suite a ((a, oe) :: pn)) ces cvs us t) (hl : cvs.length ≤ 100) (hb : PySem.W.kitAny G.K (.ref (G.X c)) us = some b) (hd : (n == ("__debug__" : Str)) = false := by decide) (hcd : (n == ("__classdict__" : Str)) = false := by decide)
    (hs : starEach [.Name n p2, .Tuple ces kk tpos] X.env = (false, eval (.Name n p2) X.env) :: starEach [.Tuple ces kk tpos] X.env := by rfl) (hs2 : starEach (.Tuple ces kk tpos :: []) X.env = (false, eval (.Tuple ces kk tpos) X.env) :: starEach [] X.env := by rfl) (hpl : (backTo pos (starEach [.Tuple ces kk tpos] X.env)).any (·.1) = false := by rfl) :
    JX WF (G.wx a cls d) (X.suite a ((a, oe) :: pn)) (.Call (.Name "isinstance" p) [.Name n p2, .Tuple ces kk tpos] [] pos) (mXi i c b) :=
  PE.imp (pe_callB (X := X.suite a ((a, oe) :: pn)) (call_xi (by rw [hK]; exact T) hz hf) hg hm (by first | boot_by_name | rfl) (pa_cons (pe_var (X := X.suite a ((a, oe) :: pn)) hN hv hd hcd) (pa_cons (pe_tup hc.pa) pa_nil hs2) hs) (by decide) (by decide) hs hpl) fun σ H Q ⟨F, B, fp, S, R, h⟩ => by
    unfold mXi at h
    split at h
    · rename_i e es
      split at h
      · rename_i ec
        obtain ⟨_, a', cls', d', eg, eσ, x1, x2⟩ := R.sl i _ es
        cases eg
        subst ec
        obtain ⟨pr, run⟩ := hc.run
        refine ⟨_, eσ, run σ H _ ⟨by rw [sizeLine_eq]; omega, fun tp hn => ⟨x1, ?_, .inr ⟨tp, cvs, us, b, rfl, upd_same, pr, by rw [hK]; exact hb, h.val (R := rX (G.wx a cls d)) (Eff.new hn) (R.new hn) (rX_fz fr_bl)⟩⟩⟩⟩
        rcases x2 with ⟨_, _, x2⟩ | ⟨dd, fs, x2, x3, _⟩
        · exact .inl x2
        · exact .inr ⟨dd, fs, x2, by rw [upd_ne (ne_of_none x3 hn)]; exact x3⟩
      · exact h.elim
    · exact h.elim
end
end TL
set_option Elab.async false
set_option linter.all false
set_option maxRecDepth 100000
set_option maxHeartbeats 2000000
namespace TL
open PySem PySem.Spec PyProof.Rows L2
/-! ### instances are made -/
theorem putF_new {f : Str} {y : V} : ∀ {fs : List (Str × V)}, f ∉ fs.map (·.1) → putF f y fs = fs ++ [(f, y)]
  | [], _ => rfl
  | (g, z) :: fs, h => by
    have h1 : f ≠ g := fun e => h (by simp [e])
    have h2 : f ∉ fs.map (·.1) := fun e => h (by simp only [List.map_cons, List.mem_cons]; exact .inr e)
    unfold putF
    first
      | (rw [if_neg (fun e => h1 (Eq.symm e)), putF_new h2]; rfl)
      | (rw [if_neg h1, putF_new h2]; rfl)
def unNew : Sl → Sl
  | .new _ _ => .un
  | s => s
/-- the instance in the making gets a field more -/
def MS.fld (S : MS) (i c : Nat) (fs : List FV) : MS := { S with sl := (S.sl.map unNew).set i (.new c fs) }
section
variable {G : GT} {F : Fc} {B : Addr → Prop} {fp : Nat → List Addr} {S : MS} {σ : St} {H : Hp}
theorem SR.fld (R : SR G F B fp S σ H) {i c : Nat} {fs us : List FV} {a dx : Addr} {ss ss' : List (Str × V)} (hi : S.sl[i]? = some (.new c fs)) (ha : F.nw = some a) (hσ : σ[i]? = some (some (.ref a))) (hH : H a = some (.ins (G.C c) dx ss))
    (hn : ss'.map (·.1) = (G.nm c).take us.length) (hr : FReps G B H us (ss'.map (·.2))) : SR G F B fp (S.fld i c us) σ (upd H a (.ins (G.C c) dx ss')) := by
  obtain ⟨nB, nf, _⟩ := R.notNw ha
  obtain ⟨_, n0, _, nad⟩ := R.nw a ha
  have hk : ∀ b u, b ≠ a → H b = some u → upd H a (.ins (G.C c) dx ss') b = some u := fun b u n e => by rw [upd_ne n]; exact e
  have kF : ∀ b u, H b = some u → (mutO u → B b) → upd H a (.ins (G.C c) dx ss') b = some u := fun b u e w => by
    refine hk b u (fun z => ?_) e
    rw [z, hH] at e
    cases e
    exact nB (z ▸ w trivial)
  have fpi : fp i = [] := (R.sl i _ hi).1
  refine ⟨by rw [R.len]; simp [MS.fld], fun k s e => ?_, fun k e => ?_, R.nd, R.dj, R.nb, fun b u e n1 n2 => hk b u (fun z => n2 (by rw [ha, z])) (R.ext b u e n1 n2), ?_, fun b hb => ?_, R.bm, R.bg, fun b hb => ?_⟩
  · by_cases n : k = i
    · subst n
      have e2 : (S.fld k c us).sl[k]? = some (.new c us) := set_self hi
      rw [e2] at e
      cases e
      exact ⟨fpi, a, dx, ss', ha, hσ, upd_same, hn, FReps.keep kF (fun _ z => z) _ _ hr⟩
    · have hkl : k < S.sl.length := by
        have := (List.getElem?_eq_some_iff.mp e).1
        simpa [MS.fld] using this
      have es : S.sl[k]? = some S.sl[k] := by simp [hkl]
      have q := R.sl k _ es
      have e3 := get_map_set (f := unNew) n es e
      generalize S.sl[k] = s0 at q e3 es
      cases s0 with
      | un => subst e3; exact q
      | fz v => subst e3; obtain ⟨q0, x, q1, q2⟩ := q; exact ⟨q0, x, q1, FRep.keep kF (fun _ h => h) v x q2⟩
      | own ts => subst e3; obtain ⟨x, q1, q2⟩ := q; exact ⟨x, q1, ORep.keep kF (fun _ h => h) _ x _ (fun b hb => upd_ne fun z => nf k (z ▸ hb)) q2⟩
      | al j p => subst e3; obtain ⟨q0, x, r, q1, q2, q3⟩ := q; exact ⟨q0, x, r, q1, q2, AtP.mono (fun b xs pb e => ⟨pb, hk b _ (fun z => nf j (z ▸ pb)) e⟩) q3⟩
      | dr => subst e3; exact q
      | new c2 fs2 => subst e3; exact q.1
      | scr ns => subst e3; obtain ⟨q0, b, q1, q2⟩ := q; exact ⟨q0, b, q1, ScR.keep kF q2⟩
      | ex ee => subst e3; obtain ⟨q0, b, c, d, q1, q2, q3⟩ := q; exact ⟨q0, b, c, d, q1, q2, XRep.keep kF (fun _ h => h) q3⟩
  · refine R.out k ?_
    have := List.getElem?_eq_none_iff.mp e
    exact List.getElem?_eq_none_iff.mpr (by simpa [MS.fld] using this)
  · have d := R.dr
    unfold DrR at d ⊢
    cases e1 : F.ad with
    | none =>
      rw [e1] at d
      cases e2 : S.dr with
      | none => show match (none : Option Addr), S.dr with | some a, some ds => _ | none, none => True | _, _ => False; rw [e2]; trivial
      | some ds => rw [e2] at d; exact d.elim
    | some b =>
      rw [e1] at d
      show match (some b : Option Addr), S.dr with | some a, some ds => _ | none, none => True | _, _ => False
      cases e2 : S.dr with
      | none => rw [e2] at d; exact d.elim
      | some ds => rw [e2] at d; exact ⟨hk b _ (fun z => nad (by rw [e1, z])) d.1, d.2.1, d.2.2⟩
  · rw [ha] at hb
    cases hb
    exact ⟨⟨_, _, _, upd_same⟩, n0, (R.nw a ha).2.2.1, nad⟩
  · rw [upd_ne (fun (z : b = a) => nB (z ▸ hb))]
    exact R.bt b hb
end
/-- self.f = e, in __init__ -/
def sFld0 (i c k : Nat) (m : M RV) : MSt := fun S => (m S).thn fun v S1 => (toF v S1).thn fun u S2 => match S2.sl[i]? with
  | some (.new c' fs) => if c' = c ∧ fs.length = k ∧ k < 900 then .nx (S2.fld i c (fs ++ [u])) else .stuck
  | _ => .stuck
section
variable {W : WX} {G : GT} {X : Cx} {e : Expr} {m : M RV} {n f : Str} {i c k : Nat} {np pos' pos : Pos}
theorem js_fld (hK : X.K = G.K) (he : JX W G X e m) (hN : X.N[i]? = some n) (hv : Vis X.env.scope n) (hcl : Cls G.K (G.C c)) (hno : NoAttr G.K (G.C c) f) (hk : (G.nm c)[k]? = some f) (hnd : (G.nm c).Nodup)
    (hs : swapsWith e (some (.Attribute (.Name n np) f pos')) pos.line X.env = pure false := by rfl) (hd : (n == ("__debug__" : Str)) = false := by decide) (hcd : (n == ("__classdict__" : Str)) = false := by decide) :
    JS W G X (.Assign [.Attribute (.Name n np) f pos'] e pos) (sFld0 i c k m) :=
  PS.imp (ps_fld (pe_var hN hv hd hcd) he hs) fun D σ H h => by
    refine tS.expr (R2 := rX G) h fun F B fp S v S' B' fp' H' y R E R1 ry q => ?_
    have q' : Post W G F B fp σ H (toF v S') fun u S2 _ _ _ => PostS W G F D (match S2.sl[i]? with | some (.new c' fs) => if c' = c ∧ fs.length = k ∧ k < 900 then .nx (S2.fld i c (fs ++ [u])) else .stuck | _ => .stuck) := Post.thn q
    obtain ⟨u, S2, B2, fp2, _, E2, R2, fr, q2, _⟩ := toF_ok E R1 ry q'
    split at q2
    · rename_i c' fs es
      split at q2
      · rename_i cl
        obtain ⟨rfl, hl, h9⟩ := cl
        obtain ⟨_, a, dx, ss, ea, eσ, eH, en, er⟩ := R2.sl i _ es
        have hlen : fs.length = ss.length := by rw [er.len, List.length_map]
        have hss : ss.length = k := by rw [← hlen]; exact hl
        have htk : (G.nm c').take (k + 1) = (G.nm c').take k ++ [f] := by
          have hlt := (List.getElem?_eq_some_iff.mp hk).1
          rw [List.take_succ, hk]
          rfl
        have hfn : f ∉ ss.map (·.1) := fun hm => by
          rw [en, hl] at hm
          have nd2 : ((G.nm c').take (k + 1)).Nodup := hnd.sublist (List.take_sublist _ _)
          rw [htk] at nd2
          exact (List.nodup_append.mp nd2).2.2 f hm f (List.mem_singleton.mpr rfl) rfl
        refine ⟨_, eσ, a, G.C c', dx, ss, rfl, eH, by rw [hK]; exact hcl, by rw [hK]; exact hno, by omega, ?_⟩
        rw [putF_new hfn]
        refine q2 B2 fp2 σ _ (R2.fld es ea eσ eH ?_ ?_)
        · rw [List.map_append, en, List.length_append, hl]
          exact htk.symm
        · rw [List.map_append]
          refine FReps.app er ?_
          show FReps G B2 H' [u] [y]
          unfold FReps
          exact ⟨y, [], rfl, fr, by unfold FReps; rfl⟩
      · exact q2.elim
    · exact q2.elim
end
/-- what __init__ makes -/
def finI (c nf : Nat) (S : MS) : FR := match S.sl[0]? with
  | some (Sl.new c' fs) => if c' = c ∧ fs.length = nf then .ret (.fz (.obj c fs)) S.dr else .stuck
  | _ => .stuck
def fnI (n c nf : Nat) (mb : MSt) : FM := fun as d => match mb ⟨(.new c [] :: as) ++ List.replicate (n - (as.length + 1)) .un, d⟩ with
  | .nx S => finI c nf S
  | .err e S => .err e S.dr
  | _ => .stuck
/-- the state behind __init__, seen from its entry; x the instance -/
structure AfterI (B : Addr → Prop) (ad : Option Addr) (x : Addr) (H : Hp) (B' : Addr → Prop) (d : Option (List Int)) (H' : Hp) : Prop where
  keep : ∀ b o, H b = some o → ad ≠ some b → b ≠ x → H' b = some o
  bm : ∀ b, B b → B' b
  bg : ∀ b, B' b → B b ∨ H b = none
  bt : ∀ b, B' b → H' b ≠ none
  dr : DrA B' ad d H'
  nx : ¬ B' x
  tx : H' x ≠ none
def spI (G : GT) (n c : Nat) (fm : FM) : Sp := fun vs H Q E => vs.length = n ∧ ∃ (B : Addr → Prop) (ad : Option Addr) (as : List Sl) (d : Option (List Int)) (x dx : Addr) (ws : List V), vs = .ref x :: ws ∧ as.length + 1 = n ∧ H x = some (.ins (G.C c) dx []) ∧ ¬ B x ∧ ad ≠ some x ∧
  ArsR G B ad H as ws ∧ (∀ b, B b → H b ≠ none) ∧ DrA B ad d H ∧
  match fm as d with
  | .ret (.fz (.obj _ fs)) d' => ∀ B' H' dx' ss, AfterI B ad x H B' d' H' → H' x = some (.ins (G.C c) dx' ss) → ss.map (·.1) = (G.nm c).take fs.length → FReps G B' H' fs (ss.map (·.2)) → Q .non H'
  | .err e d' => ∀ B' H' c dd, AfterI B ad x H B' d' H' → XRep G B' H' e c dd → E c dd H'
  | _ => False
section
variable {G : GT} {B : Addr → Prop} {ad : Option Addr} {H : Hp}
theorem entryI {as : List Sl} {ws : List V} {d : Option (List Int)} {N : List Str} {x dx : Addr} {c : Nat} (ha : ArsR G B ad H as ws) (hb : ∀ b, B b → H b ≠ none) (hd : DrA B ad d H) (hl : ws.length + 1 ≤ N.length) (hx : H x = some (.ins (G.C c) dx [])) (hxB : ¬ B x) (had : ad ≠ some x) :
    SR G ⟨H, B, ad, some x, none⟩ B (fun _ => []) ⟨(.new c [] :: as) ++ List.replicate (N.length - (as.length + 1)) .un, d⟩ (L2.start N (.ref x :: ws)) H := by
  have el := ha.len
  refine ⟨?_, fun i s e => ?_, fun _ _ => rfl, fun _ => List.nodup_nil, fun i j a h => (by cases h), fun i a h => (by cases h), fun b o e _ _ => e, ?_, fun a h => ?_, fun b h => h, fun b h => .inl h, hb⟩
  · unfold L2.start
    simp only [List.length_append, List.length_map, List.length_replicate, List.length_cons]
    omega
  · by_cases c0 : i < as.length + 1
    · rw [List.getElem?_append_left (by simpa using c0)] at e
      cases i with
      | zero =>
        cases e
        refine ⟨rfl, x, dx, [], rfl, rfl, hx, rfl, ?_⟩
        show FReps G B H [] []
        unfold FReps
        rfl
      | succ i =>
        have e' : as[i]? = some s := e
        obtain ⟨y, ey, ry⟩ := ha.get e'
        have ex' : (L2.start N (.ref x :: ws))[i + 1]? = some (some y) := by
          unfold L2.start
          rw [List.getElem?_append_left (by rw [List.length_map, List.length_cons]; omega), List.getElem?_map]
          show Option.map some ws[i]? = _
          rw [ey]
          rfl
        cases s with
        | fz v => exact ⟨rfl, y, ex', ry⟩
        | dr => obtain ⟨a, e1, rfl⟩ := ry; exact ⟨rfl, a, e1, ex'⟩
        | scr ns => obtain ⟨a, rfl, r⟩ := ry; exact ⟨rfl, a, ex', r⟩
        | _ => exact ry.elim
    · rw [List.getElem?_append_right (by simpa using c0), List.getElem?_replicate] at e
      split at e
      · cases e; exact rfl
      · cases e
  · unfold DrA at hd
    unfold DrR
    cases ad with
    | none => cases d with
      | none => trivial
      | some ds => exact hd.elim
    | some a => cases d with
      | none => exact hd.elim
      | some ds =>
        obtain ⟨h1, h2⟩ := hd
        refine ⟨h1, ?_, h2⟩
        show H a ≠ none
        rw [h1]
        simp
  · cases h
    exact ⟨⟨_, _, _, hx⟩, (by show H x ≠ none; rw [hx]; simp), hxB, had⟩
theorem afterI {B' : Addr → Prop} {fp' : Nat → List Addr} {S' : MS} {σ' : St} {H' : Hp} {x : Addr} (R : SR G ⟨H, B, ad, some x, none⟩ B' fp' S' σ' H') : AfterI B ad x H B' S'.dr H' := by
  obtain ⟨nB, _, ⟨C, dx, fs, hx⟩⟩ := R.notNw (a := x) rfl
  refine ⟨fun b o e n n2 => R.ext b o e n (fun z => n2 (Option.some.inj z).symm), R.bm, R.bg, R.bt, ?_, nB, by rw [hx]; simp⟩
  have d := R.dr
  unfold DrR at d
  unfold DrA
  split at d
  · rename_i a ds e1 e2
    have e1' : ad = some a := e1
    rw [e1', e2]
    exact ⟨d.1, (R.notBad e1).1⟩
  · rename_i e1 e2
    have e1' : ad = none := e1
    rw [e1', e2]
    trivial
  · exact d.elim
end
theorem init_ok {G : GT} {P : Program} {w : World} {K : PySem.W.Frag} {mg : Str → Option Value} {base : Heap} {x qual : Str} {params : Arguments} {body : List Stmt} {scope : Scope} {dvs : List V} {kws : List (Str × V)} {f : Addr} {fd : FuncData} {N ps : List Str} {k c nf : Nat} {mb : MSt}
    (F : FunD K x qual params body scope dvs kws f fd) (Sc : FnScope N ps scope)
    (hb : ∀ (cdv : Value) (A : Around) (outer : List Env) (s : Shared) (H : Hp) (E : XK), Room k (A.deeper (envOfC qual scope s.heap.objs.size f cdv)) → JB (WOf E) G (cxOf (L2.CX P w) P w K mg base N qual scope f cdv A outer s H E) body mb) :
    FnOk P w K mg base (L2.CX P w) (k + 1) f fd ps (spI G ps.length c (fnI N.length c nf mb)) := by
  refine F.ok Sc (fun vs H Q E h => h.1) fun cdv A outer s H vs Q E hr hsp => ⟨_, hb cdv A outer s H E hr, ?_⟩
  obtain ⟨hl, B, ad, as, d, x, dx, ws, rfl, hla, hx, hxB, had, ha, hbt, hd, h⟩ := hsp
  have hpl : ps.length ≤ N.length := by have := congrArg List.length Sc.pre; rw [List.length_take] at this; omega
  refine ⟨_, _, _, _, entryI (N := N) ha hbt hd (by simp only [List.length_cons] at hl; omega) hx hxB had, ?_⟩
  unfold fnI at h
  cases em : mb ⟨(.new c [] :: as) ++ List.replicate (N.length - (as.length + 1)) .un, d⟩ with
  | nx S =>
    rw [em] at h
    intro B' fp' σ' H' R'
    have key : ∃ c' fs, S.sl[0]? = some (Sl.new c' fs) ∧ c' = c ∧ finI c nf S = .ret (.fz (.obj c fs)) S.dr := by
      have e1 : ∀ z, finI c nf S = z → z ≠ .stuck → ∃ c' fs, S.sl[0]? = some (Sl.new c' fs) ∧ c' = c ∧ finI c nf S = .ret (.fz (.obj c fs)) S.dr := fun z ez nz => by
        unfold finI at ez ⊢
        split at ez
        · rename_i c' fs e0
          split at ez
          · rename_i cc
            exact ⟨c', fs, e0, cc.1, if_pos cc⟩
          · exact absurd ez.symm nz
        · exact absurd ez.symm nz
      refine e1 _ rfl fun z => ?_
      replace h : (match finI c nf S with | .ret (.fz (.obj _ fs)) d' => _ | .err e d' => _ | _ => False) := h
      rw [z] at h
      exact h
    obtain ⟨c', fs, e0, rfl, ef⟩ := key
    replace h : (match finI c' nf S with | .ret (.fz (.obj _ fs)) d' => _ | .err e d' => _ | _ => False) := h
    rw [ef] at h
    obtain ⟨_, a, dx', ss, ea, _, eH, en, er⟩ := R'.sl 0 _ e0
    cases ea
    exact h B' H' dx' ss (afterI R') eH en er
  | err e S =>
    rw [em] at h
    intro B' fp' σ' H' c dd R' xr
    exact h B' H' c dd (afterI R') xr
  | _ => rw [em] at h; exact h.elim
end TL
set_option Elab.async false
set_option linter.all false
set_option maxRecDepth 100000
set_option maxHeartbeats 2000000
namespace TL
open PySem PySem.Spec PyProof.Rows L2
/-! ### C(..) -/
def tMakeS (C : Addr) (sp : Sp) (dvs : List V) (E : St → XK) (t : TA) : TE := fun σ H Q => t σ H fun vs H1 => ∀ x dx, H1 x = none → H1 dx = none → dx ≠ x → sp (.ref x :: (vs ++ dvs)) (upd (upd H1 dx (.own x)) x (.ins C dx [])) (fun v H2 => v = .non ∧ Q (.ref x) H2) (E σ)
section
variable {X : Cx} {CX : CXT} {k : Nat} {f C : Addr} {fd : FuncData} {ps : List Str} {sp : Sp} {dvs : List V} {ds : List Value} {E : St → XK} {x : Str} {p pos : Pos} {e : Expr} {es : List Expr} {t : TA}
theorem pe_makeSD (Mc : Mk X.K C f) (Fo : FnOk X.prog X.w X.K X.mg X.base CX k f fd ps sp) (room : Room (k + 1) X.A) (gl : Gl X x) (mgx : X.mg x = some (.ref C)) (bnd : Binds X.K fd ps ds) (dflt : Vals dvs ds) (pass : ∀ σ, PassesAt CX X σ (E σ))
    (ha : PA X (e :: es) t) (hdb : (x == ("__debug__" : Str)) = false := by decide) (he : starEach (e :: es) X.env = (false, eval e X.env) :: starEach es X.env := by rfl) (hpl : (backTo pos (starEach es X.env)).any (·.1) = false := by rfl) :
    PE X (.Call (.Name x p) (e :: es) [] pos) (tMakeS C sp dvs E t) := by
  refine ⟨fun pins s σ H Q I h => wpAny_Call_Name_kw (ld_glob I gl mgx (PySem.W.callWith_K (h₀ := X.base) I.ok.mod.kin Mc.kp (thn (ha.run pos pins s σ H _ I h) fun us s1 ⟨vs, H1, I1, r, q⟩ => ⟨I1.kIn, ?_⟩) he hpl) hdb)⟩
  have hq := q (s1.heap.objs.size + 1) s1.heap.objs.size (I1.hok.fresh (Nat.le_succ _)) (I1.hok.fresh (Nat.le_refl _)) (Nat.ne_of_lt (Nat.lt_succ_self _))
  have J := Inv.made (C := C) I1
  have rr : Vals (V.ref (s1.heap.objs.size + 1) :: (vs ++ dvs)) (Value.ref (s1.heap.objs.size + 1) :: (us ++ ds)) := Paired.cons rfl (r.append dflt)
  have hl : (Value.ref (s1.heap.objs.size + 1) :: us ++ ds).length = ps.length := (rr.length.symm.trans (Fo.len _ _ _ _ hq))
  have body := Fo.run _ X.stack _ _ ⟨Value.ref (s1.heap.objs.size + 1) :: us, []⟩ (Value.ref (s1.heap.objs.size + 1) :: (us ++ ds)) _ _ (E σ) (room.make C us []) (J.env0.make C us []) (bnd _ (Value.ref (s1.heap.objs.size + 1) :: us) J.kIn hl) rr hq
  refine wpAny_call (make_map (f := f) I1.kIn Mc.makes Mc.init (beq_iff_eq.mp Mc.fn) (codeAny_mono body fun res s' hr => ?_))
  match res, hr with
  | .error ev, hr => exact pass σ pins _ _ ev s' J hr
  | .ok (.ret u), hr =>
    obtain ⟨v, H', J3, rv, ev, q3⟩ := J.after hr
    subst ev
    exact ⟨rv, V.ref (s1.heap.objs.size + 1), H', J3, rfl, q3⟩
  | .ok .next, hr => exact False.elim hr
  | .ok .brk, hr => exact False.elim hr
  | .ok .cont, hr => exact False.elim hr
end
/-- a call of a class: what comes back -/
def makeM (fm : FM) (n c nf : Nat) : List Sl → M RV := fun ss S => match lend S ss with
  | none => .stuck
  | some as => if as.length + 1 = n then
      match fm as (if hasDr ss = true then S.dr else none) with
      | .ret (.fz (.obj _ fs)) d => if fs.length = nf ∧ ¬ (hasAl ss = true ∧ nolsts fs = false) then .ok (.fz (.obj c fs)) (if hasDr ss = true then { S with dr := d } else S) else .stuck
      | .err e d => if hasAl ss = true ∧ nolsts e.fs = false then .stuck else .err e (if hasDr ss = true then { S with dr := d } else S)
      | _ => .stuck
    else .stuck
section
variable {W : WX} {G : GT} {F : Fc} {Bs B B' : Addr → Prop} {fps fp fp' : Nat → List Addr} {S S' : MS} {σ : St} {Hs H H' : Hp}
theorem PasR.new {p : Addr} {o : HO} (R : SR G F B fp S σ H) (n : H p = none) : ∀ {ss : List Sl} {xs : List V}, PasR G F B σ H ss xs → PasR G F B σ (upd H p o) ss xs
  | [], _, h => h
  | s :: ss, _, ⟨x, r, e, h1, h2⟩ => ⟨x, r, e, h1.keep R (Eff.new n), PasR.new R n h2⟩
theorem make_ok {fm : FM} {n c nf : Nat} {ss : List Sl} {vs : List V} {Q : VK} {x dx : Addr} (hnf : (G.nm c).length = nf) (E : Eff F Bs fps Hs B fp H) (R : SR G F B fp S σ H) (hv : PasR G F B σ H ss vs) (hx : H x = none) (hdx : H dx = none) (hne : dx ≠ x)
    (p : Post W G F Bs fps σ Hs (makeM fm n c nf ss S) fun v S' B' fp' H' => ∀ x, rX G F Hs B' fp' S' σ H' v x → Q x H') : spI G n c fm (.ref x :: vs) (upd (upd H dx (.own x)) x (.ins (G.C c) dx [])) (fun v H2 => v = .non ∧ Q (.ref x) H2) (WE W σ) := by
  unfold makeM at p
  cases e1 : lend S ss with
  | none => rw [e1] at p; exact p.elim
  | some as =>
    rw [e1] at p
    simp only at p
    split at p
    · rename_i hn
      -- the heaps: with the instance's dict; with the instance
      have R1 : SR G F B fp S σ (upd H dx (.own x)) := R.new hdx
      have E1 : Eff F B fp H B fp (upd H dx (.own x)) := Eff.new hdx
      have hx1 : upd H dx (.own x) x = none := by rw [upd_ne (Ne.symm hne)]; exact hx
      have R2 : SR G F B fp S σ (upd (upd H dx (.own x)) x (.ins (G.C c) dx [])) := R1.new hx1
      have hv2 : PasR G F B σ (upd (upd H dx (.own x)) x (.ins (G.C c) dx [])) ss vs := (hv.new R hdx).new R1 hx1
      generalize hd : hasDr ss = b0 at p
      obtain ⟨ad, h1, h2, h3, h4⟩ : ∃ ad : Option Addr, (b0 = true → ad = F.ad) ∧ (b0 = false → ad = none) ∧ ad.isSome = b0 ∧ (ad = none ∨ ad = F.ad) := by
        cases b0 with
        | true => obtain ⟨a, ea⟩ := hasDr_ad hv hd; exact ⟨F.ad, fun _ => rfl, fun z => (by cases z), by rw [ea]; rfl, .inr rfl⟩
        | false => exact ⟨none, fun z => (by cases z), fun _ => rfl, rfl, .inl rfl⟩
      obtain ⟨g, g1, g2, g3, g4⟩ := lend_ok R2 (ad := ad) e1 hv2 (fun z => h1 (by rw [← hd]; exact z))
      have glst : ∀ a ∈ g, ∃ xs, H a = some (.lst xs) := fun a ha => by obtain ⟨j, hj⟩ := g1 a ha; exact R.fpl hj
      have nad : ∀ a ∈ g, F.ad ≠ some a := fun a ha z => by obtain ⟨j, hj⟩ := g1 a ha; exact (R.notBad z).2.1 j hj
      have xg : x ∉ g := fun z => by obtain ⟨xs, w⟩ := glst x z; rw [hx] at w; cases w
      have xB : ¬ B x := fun z => R.bt x z hx
      have xad : F.ad ≠ some x := fun z => by obtain ⟨_, _, ⟨xs, w⟩, _⟩ := R.notBad z; rw [hx] at w; cases w
      have hdr : DrA (fun b => B b ∨ b ∈ g) ad (if b0 = true then S.dr else none) (upd (upd H dx (.own x)) x (.ins (G.C c) dx [])) := by
        cases b0 with
        | true =>
          rw [if_pos rfl, h1 rfl]
          have d := R2.dr
          unfold DrR at d
          unfold DrA
          cases e2 : F.ad with
          | none => rw [h1 rfl, e2] at h3; cases h3
          | some a =>
            rw [e2] at d
            cases e3 : S.dr with
            | none => rw [e3] at d; exact d.elim
            | some ds => rw [e3] at d; exact ⟨d.1, fun z => z.elim (R.notBad e2).1 fun z => nad a z e2⟩
        | false => rw [if_neg (by simp), h2 rfl]; trivial
      refine ⟨by rw [List.length_cons, ← g2.len]; exact hn, fun b => B b ∨ b ∈ g, ad, as, if b0 = true then S.dr else none, x, dx, vs, rfl, hn, upd_same, fun z => z.elim xB xg, fun z => ?_, g2, fun b hb => ?_, hdr, ?_⟩
      · rcases h4 with y | y
        · rw [y] at z; cases z
        · exact xad (by rw [← y]; exact z)
      · rcases hb with z | z
        · exact R2.bt b z
        · obtain ⟨j, hj⟩ := g1 b z
          obtain ⟨xs, w⟩ := R2.fpl hj
          rw [w]; simp
      have mid : ∀ {B' : Addr → Prop} {d : Option (List Int)} {H' : Hp}, AfterI (fun b => B b ∨ b ∈ g) ad x (upd (upd H dx (.own x)) x (.ins (G.C c) dx [])) B' d H' → After (fun b => B b ∨ b ∈ g) ad (upd H dx (.own x)) B' d H' := fun A => by
        refine ⟨fun b o e n => ?_, A.bm, fun b hb => (A.bg b hb).imp id fun z => ?_, A.bt, A.dr⟩
        · have bx : b ≠ x := fun z => by rw [z, hx1] at e; cases e
          exact A.keep b o (by rw [upd_ne bx]; exact e) n bx
        · by_cases bx : b = x
          · rw [bx]; exact hx1
          · rw [upd_ne bx] at z; exact z
      have keepg : ∀ {B' : Addr → Prop} {d : Option (List Int)} {H' : Hp}, After (fun b => B b ∨ b ∈ g) ad (upd H dx (.own x)) B' d H' → ∀ b, B' b → (∃ xs, H' b = some (.lst xs)) ∨ (B' b ∧ b ∉ g) := fun A b hb => by
        by_cases c0 : b ∈ g
        · obtain ⟨xs, w⟩ := glst b c0
          have bd : b ≠ dx := fun z => by rw [z, hdx] at w; cases w
          refine .inl ⟨xs, A.keep b _ (by rw [upd_ne bd]; exact w) fun z => ?_⟩
          rcases h4 with y | y
          · rw [y] at z; cases z
          · exact nad b c0 (by rw [← y]; exact z)
        · exact .inr ⟨hb, c0⟩
      have st : ∀ {B' : Addr → Prop} {d : Option (List Int)} {H' : Hp}, After (fun b => B b ∨ b ∈ g) ad (upd H dx (.own x)) B' d H' → SR G F (fun b => B' b ∧ b ∉ g) fp (if b0 = true then { S with dr := d } else S) σ H' ∧ Eff F Bs fps Hs (fun b => B' b ∧ b ∉ g) fp H' := fun {B' d H'} A => by
        have hdn : ad = none → d = none := fun z => by
          have q := A.dr
          unfold DrA at q
          rw [z] at q
          cases d with
          | none => rfl
          | some ds => exact q.elim
        obtain ⟨r1, r2⟩ := back R1 g1 A h4 hdn
        rw [h3] at r1
        exact ⟨r1, (E.trans E1).trans r2⟩
      have noal : hasAl ss = false → ∀ (B' : Addr → Prop) b, B' b → B' b ∧ b ∉ g := fun z B' b hb => ⟨hb, by rw [g3 z]; exact List.not_mem_nil⟩
      cases e2 : fm as (if b0 = true then S.dr else none) with
      | ret v d =>
        rw [e2] at p
        cases v with
        | fz u =>
          cases u with
          | obj c' fs =>
            intro B' H' dx' ss' A eH en er
            have A' := mid A
            obtain ⟨r1, r2⟩ := st A'
            simp only at p
            split at p
            · rename_i cc
              obtain ⟨cl, ca⟩ := cc
              have r3 := r1.frzB (f := [x]) (fun a ha => by rw [List.mem_singleton.mp ha]; exact ⟨R.h0 hx, fun i z => by obtain ⟨xs, w⟩ := R.fpl z; rw [hx] at w; cases w⟩) fun a ha => by rw [List.mem_singleton.mp ha]; exact A.tx
              have e3 := r2.frzB (f := [x]) fun a ha => by rw [List.mem_singleton.mp ha]; exact Classical.byContradiction fun n => E.there x n hx
              refine ⟨rfl, p _ fp H' e3 r3 (.ref x) (rX_fz ?_)⟩
              unfold FRep
              refine ⟨x, dx', ss', rfl, .inr (List.mem_singleton.mpr rfl), eH, ?_, ?_⟩
              · rw [en, cl, ← hnf, List.take_length]
              · cases cb : hasAl ss with
                | false => exact FReps.keep (fun _ _ e _ => e) (fun b hb => .inl (noal cb B' b hb)) _ _ er
                | true =>
                  refine FReps.shrink (fun b hb => (keepg A' b hb).imp id .inl) _ _ ?_ er
                  cases cc : nolsts fs with
                  | true => rfl
                  | false => exact absurd ⟨cb, cc⟩ ca
            · exact p.elim
          | _ => exact p.elim
        | _ => exact p.elim
      | err ee d =>
        rw [e2] at p
        intro B' H' c' dd A xr
        have A' := mid A
        obtain ⟨r1, r2⟩ := st A'
        simp only at p
        split at p
        · exact p.elim
        · rename_i cc
          refine p _ fp H' c' dd r2 r1 ?_
          cases ca : hasAl ss with
          | false => exact xr.keep (fun _ _ e _ => e) (noal ca B')
          | true =>
            obtain ⟨x1, x2⟩ := xr
            refine ⟨x1, x2.elim .inl fun ⟨d0, fs, a1, a2, a3, a4⟩ => .inr ⟨d0, fs, a1, a2, a3, FReps.shrink (keepg A') _ _ ?_ a4⟩⟩
            cases cb : nolsts ee.fs with
            | true => rfl
            | false => exact absurd ⟨ca, cb⟩ cc
      | stuck => rw [e2] at p; exact p.elim
    · exact p.elim
end
section
variable {W : WX} {G : GT} {X : Cx} {k n c nf : Nat} {f : Addr} {fd : FuncData} {ps : List Str} {dvs : List V} {ds : List Value} {fs : List FV} {x : Str} {p pos : Pos} {e : Expr} {es : List Expr} {ms : M (List Sl)} {fm : FM}
def mMk (fm : FM) (n c nf : Nat) (fs : List FV) (ms : M (List Sl)) : M RV := fun S => (ms S).bind fun ss S1 => makeM fm n c nf (ss ++ fs.map Sl.fz) S1
theorem jx_make (Mc : Mk X.K (G.C c) f) (Fo : FnOk X.prog X.w X.K X.mg X.base (L2.CX X.prog X.w) k f fd ps (spI G n c fm)) (hnf : (G.nm c).length = nf) (room : Room (k + 1) X.A) (gl : Gl X x) (mgx : X.mg x = some (.ref (G.C c))) (bnd : Binds X.K fd ps ds) (dflt : Vals dvs ds) (hx : Takes X W)
    (ha : JP W G X (e :: es) ms) (hc : CoR fs dvs) (hdb : (x == ("__debug__" : Str)) = false := by decide) (he : starEach (e :: es) X.env = (false, eval e X.env) :: starEach es X.env := by rfl) (hpl : (backTo pos (starEach es X.env)).any (·.1) = false := by rfl) :
    JX W G X (.Call (.Name x p) (e :: es) [] pos) (mMk fm n c nf fs ms) :=
  PE.imp (pe_makeSD (E := WE W) Mc Fo room gl mgx bnd dflt (passAt hx) ha hdb he hpl) fun σ H Q h => tG.one (R2 := rP G) h fun F B fp ss S' B' fp' H' xs E R ra p y dy hy hdy hne => make_ok hnf E R (CoR.pas ra hc) hy hdy hne p
end
end TL
set_option Elab.async false
set_option linter.all false
set_option maxRecDepth 100000
set_option maxHeartbeats 2000000
namespace TL
open PySem PySem.Spec PyProof.Rows L2
section
variable {W : WX} {G : GT} {X : Cx} {a b c e : Expr} {ma mb mc m : M RV} {pos p2 : Pos}
/-! ### a op b op' c -/
def mChain (g g' : RV → RV → MS → ER RV) (ma mb mc : M RV) : M RV := fun S => (ma S).bind fun x S1 => (mb S1).bind fun y S2 => match x, y with
  | .fz u, .fz v => (g (.fz u) (.fz v) S2).bind fun z S3 => (asB z S3).bind fun k S4 => if k = true then (mc S4).bind fun w S5 => g' (.fz v) w S5 else .ok (.fz (.bl false)) S4
  | _, _ => .stuck
theorem chain_core {r r' : R2} {g g' : RV → RV → MS → ER RV} {α β : Type} {R0 : Rel α β} {fin : RV → MS → ER α} {σ : St} {H : Hp} {Q : β → Hp → Prop} {N : V → Hp → Prop} (hg : V2 W G r g) (hg' : V2 W G r' g')
    (hN : ∀ F B fp v S' B' fp' H' x, Eff F B fp H B' fp' H' → SR G F B' fp' S' σ H' → rX G F H B' fp' S' σ H' v x → Post W G F B fp σ H (fin v S') (fun v S'' B'' fp'' H'' => ∀ z, R0 F H B'' fp'' S'' σ H'' v z → Q z H'') → N x H')
    (h : tG W G R0 (fun S => (mChain g g' ma mb mc S).bind fin) σ H Q) : tChain r r' (tG W G (rX G) ma) (tG W G (rX G) mb) (tG W G (rX G) mc) σ H N := by
  obtain ⟨F, B, fp, S, R, h⟩ := h
  unfold mChain at h
  dsimp only at h
  rw [ER.assoc] at h
  refine ⟨F, B, fp, S, R, (Post.shift h Eff.refl).imp fun xv S1 B1 fp1 H1 _ R1 hh x rx => ?_⟩
  obtain ⟨E1, h1⟩ := hh
  rw [ER.assoc] at h1
  refine ⟨F, B1, fp1, S1, R1, (Post.shift h1 E1).imp fun yv S2 B2 fp2 H2 E12 R2 hh2 y ry => ?_⟩
  obtain ⟨E2, h2⟩ := hh2
  clear h h1
  split at h2
  · rename_i u v
    have fx := of_fz (rX.keep (S' := S2) R1 E12 rx)
    have fy := of_fz ry
    rw [ER.assoc] at h2
    refine hg F B2 fp2 H2 B2 fp2 S2 σ H2 _ _ x y _ Eff.refl R2 (rX_fz fx) (rX_fz fy) ((Post.shift h2 E2).imp fun zv S3 B3 fp3 H3 E23 R3 hh3 z rz => ?_)
    obtain ⟨E3, h3⟩ := hh3
    rw [ER.assoc] at h3
    obtain ⟨k, e, h4⟩ := asB_then (rX.start E2 rz) h3
    subst e
    refine ⟨k, rfl, ?_⟩
    cases k with
    | true =>
      rw [if_pos rfl] at h4 ⊢
      rw [ER.assoc] at h4
      refine ⟨F, B3, fp3, S3, R3, (Post.shift h4 E3).imp fun wv S4 B4 fp4 H4 E34 R4 hh4 w rw' => ?_⟩
      obtain ⟨E4, h5⟩ := hh4
      have fy4 := R3.frep E34 (R2.frep E23 fy)
      refine hg' F B fp H B4 fp4 S4 σ H4 _ _ y w _ E4 R4 (rX_fz fy4) (rX.start E3 rw') ((bindS h5).imp fun uv S5 B5 fp5 H5 E5 R5 h6 z' rz' => hN F B fp uv S5 B5 fp5 H5 z' E5 R5 rz' h6)
    | false =>
      rw [if_neg Bool.false_ne_true] at h4 ⊢
      exact hN F B fp _ S3 B3 fp3 H3 _ E3 R3 (rX_fz fr_bl) h4
  · exact h2.elim
theorem ER.bind_ok {α : Type} (r : ER α) : (r.bind fun v S => .ok v S) = r := by cases r <;> rfl
theorem jx_chain {op op' : CmpOp} {r r' : R2} {g g' : RV → RV → MS → ER RV} (ho : OpR X (compareOp op) r) (ho' : OpR X (compareOp op') r') (hg : V2 W G r g) (hg' : V2 W G r' g') (ha : JX W G X a ma) (hb : JX W G X b mb) (hc : JX W G X c mc)
    (hm : lastMarks [op, op'] [b, c] = false := by with_unfolding_all rfl) : JX W G X (.Compare a [op, op'] [b, c] pos) (mChain g g' ma mb mc) :=
  PE.imp (pe_chain ho ho' ha hb hc hm) fun σ H Q h => by
    refine chain_core (R0 := rX G) (fin := fun v S => .ok v S) (Q := Q) hg hg' (fun F B fp v S' B' fp' H' x E R rx p => p.val (R := rX G) E R rx) ?_
    obtain ⟨F, B, fp, S, R, h⟩ := h
    exact ⟨F, B, fp, S, R, by show Post W G F B fp σ H ((mChain g g' ma mb mc S).bind fun v S => ER.ok v S) _; rw [ER.bind_ok]; exact h⟩
theorem jt_chain {op op' : CmpOp} {r r' : R2} {g g' : RV → RV → MS → ER RV} (ho : OpR X (compareOp op) r) (ho' : OpR X (compareOp op') r') (hg : V2 W G r g) (hg' : V2 W G r' g') (ha : JX W G X a ma) (hb : JX W G X b mb) (hc : JX W G X c mc)
    (hm : lastMarks [op, op'] [b, c] = false := by with_unfolding_all rfl) : JT W G X (.Compare a [op, op'] [b, c] pos) (mB (mChain g g' ma mb mc)) :=
  PT.imp (pt_chain ho ho' ha hb hc hm) fun σ H Q h => chain_core (R0 := rB) (fin := asB) hg hg' (fun F B fp v S' B' fp' H' x E R rx p => asB_ok E R rx p) h
/-! ### {} -/
def mDic : M RV := fun S => .ok (.fz .dic) S
theorem jx_dic : JX W G X (.Dict [] [] pos) mDic :=
  PE.imp pe_dnewK fun σ H Q ⟨F, B, fp, S, R, h⟩ p hp => by
    refine h B fp _ (Eff.new hp) (R.new hp) (.ref p) (rX_fz ?_)
    unfold FRep
    exact ⟨p, rfl, upd_same⟩
/-! ### slices -/
def cutF {α : Type} (xs : List α) (lo hi : Option Int) : List α := (xs.drop (HT.sIx xs.length 0 lo)).take (HT.sIx xs.length xs.length hi - HT.sIx xs.length 0 lo)
abbrev MO := M (Option Int)
abbrev rOpt : Rel (Option Int) (Option Int) := fun _ _ _ _ _ _ _ v x => v = x
abbrev JO' (W : WX) (G : GT) (X : Cx) (e : Option Expr) (m : MO) : Prop := PO X e (tG W G rOpt m)
def oNone : MO := fun S => .ok none S
def oSome (m : M RV) : MO := fun S => (m S).bind fun v S1 => match v with
  | .fz (.int i) => .ok (some i) S1
  | _ => .stuck
theorem PO.imp {X : Cx} {e : Option Expr} {t t' : TO} (h : PO X e t) (k : ∀ σ H Q, t' σ H Q → t σ H Q) : PO X e t' := ⟨fun pins s σ H Q I q => h.run pins s σ H Q I (k σ H Q q)⟩
theorem jo_none : JO' W G X none oNone := PO.imp po_none fun σ H Q ⟨F, B, fp, S, R, h⟩ => h B fp H Eff.refl R none rfl
theorem jo_some (h : JX W G X e m) : JO' W G X (some e) (oSome m) :=
  PO.imp (po_some h) fun σ H Q h => tG.one (R2 := rX G) h fun F B fp v S' B' fp' H' x E R rx q => by
    split at q
    · rename_i i
      exact ⟨i, fz_int rx, q B' fp' H' E R _ rfl⟩
    · exact q.elim
theorem FReps.cut {B : Addr → Prop} {H : Hp} {ps : List FV} {xs : List V} (h : FReps G B H ps xs) (lo hi : Option Int) : FReps G B H (cutF ps lo hi) (cutV xs lo hi) := by
  have drop : ∀ (n : Nat) {ps : List FV} {xs : List V}, FReps G B H ps xs → FReps G B H (ps.drop n) (xs.drop n) := fun n => by
    induction n with
    | zero => intro ps xs h; exact h
    | succ n ih =>
      intro ps xs h
      cases ps with
      | nil => unfold FReps at h; subst h; show FReps G B H [] []; unfold FReps; rfl
      | cons p ps => unfold FReps at h; obtain ⟨x, r, rfl, _, h2⟩ := h; exact ih h2
  have take : ∀ (n : Nat) {ps : List FV} {xs : List V}, FReps G B H ps xs → FReps G B H (ps.take n) (xs.take n) := fun n => by
    induction n with
    | zero => intro ps xs h; show FReps G B H [] []; unfold FReps; rfl
    | succ n ih =>
      intro ps xs h
      cases ps with
      | nil => unfold FReps at h; subst h; show FReps G B H [] []; unfold FReps; rfl
      | cons p ps =>
        unfold FReps at h
        obtain ⟨x, r, rfl, h1, h2⟩ := h
        show FReps G B H (p :: ps.take n) (x :: r.take n)
        unfold FReps
        exact ⟨x, _, rfl, h1, ih h2⟩
  unfold cutF cutV
  rw [h.len]
  exact take _ (drop _ h)
/-- a slice of a list (new) or of a tuple -/
def gCut (v : RV) (lo hi : Option Int) (S : MS) : ER RV := match v with
  | .fz (.tup us) => .ok (.fz (.tup (cutF us lo hi))) S
  | v => match items v S with
    | some us => .ok (.tmp ((cutF us lo hi).map OT.fz)) S
    | none => .stuck
def mCut (m : M RV) (ml mh : MO) : M RV := fun S => (m S).bind fun v S1 => (ml S1).bind fun lo S2 => (mh S2).bind fun hi S3 => gCut v lo hi S3
theorem jx_cut {lo hi : Option Expr} {ml mh : MO} (hK : X.K = G.K) (he : JX W G X e m) (hl : JO' W G X lo ml) (hh : JO' W G X hi mh) : JX W G X (.Subscript e (.Slice lo hi none p2) pos) (mCut m ml mh) :=
  PE.imp (pe_slice (SlR.or sl_list sl_tupA) he hl hh) fun σ H Q h => tG.one (R2 := rX G) h fun F B fp v S1 B1 fp1 H1 x E1 R1 rx q => by
    refine ⟨F, B1, fp1, S1, R1, (Post.shift q E1).imp fun l S2 B2 fp2 H2 E12 R2 hq2 l' el => ?_⟩
    obtain ⟨E2, q2⟩ := hq2
    cases el
    refine ⟨F, B2, fp2, S2, R2, (Post.shift q2 E2).imp fun u S3 B3 fp3 H3 E23 R3 hq3 u' eu => ?_⟩
    obtain ⟨E3, q3⟩ := hq3
    cases eu
    have rx3 := rX.keep (S' := S3) R1 (E12.trans E23) rx
    rw [hK]
    unfold gCut at q3
    split at q3
    · rename_i us
      have fr := of_fz rx3
      have fr' := fr
      unfold FRep at fr
      obtain ⟨y, xs, rfl, ey, fs⟩ := fr
      refine .inr ⟨y, xs, rfl, SqT.of ey, fun hw => ?_, fun _ p hp => ?_⟩
      · have e : cutF us l u = us := by
          unfold cutF
          rw [fs.len, hw.1, hw.2, ← fs.len]
          simp
        rw [e] at q3
        exact q3.val (R := rX G) E3 R3 (rX_fz fr')
      · exact q3.newT E3 R3 (fs.cut l u) hp
    · split at q3
      · rename_i us eu
        obtain ⟨y, xs, rfl, hq, fs⟩ := items_ok R3 eu rx3
        exact .inl ⟨y, xs, rfl, hq, fun p hp => q3.newLF E3 R3 (fs.cut l u) hp⟩
      · exact q3.elim
/-- xs[::-1] -/
def mRevL (m : M RV) : M RV := fun S => (m S).bind fun v S1 => match items v S1 with
  | some us => .ok (.tmp (us.reverse.map OT.fz)) S1
  | none => .stuck
theorem jx_revL {k : Nat} {p1 p3 : Pos} (hK : X.K = G.K) (he : JX W G X e m) : JX W G X (.Subscript e (.Slice none none (some (.UnaryOp .USub (.Constant (.int 1) k p1) p2)) p3) pos) (mRevL m) :=
  PE.imp (pe_revL he) fun σ H Q h => tG.one (R2 := rX G) h fun F B fp v S1 B1 fp1 H1 x E1 R1 rx q => by
    split at q
    · rename_i us eu
      obtain ⟨y, xs, rfl, hq, fs⟩ := items_ok R1 eu rx
      rw [hK]
      exact ⟨y, xs, rfl, hq, fun p hp => q.newLF E1 R1 fs.rev hp⟩
    · exact q.elim
end
end TL
set_option Elab.async false
set_option linter.all false
set_option maxRecDepth 100000
set_option maxHeartbeats 2000000
namespace TL
open PySem PySem.Spec PyProof.Rows L2
/-! ### len(o), o with an own __len__ -/
def lenP (C : Addr) (sp : Sp) (E : XK) (Q : VK) (vs : List V) (H1 : Hp) : Prop := ∃ a dx fs, vs = [.ref a] ∧ H1 a = some (.ins C dx fs) ∧ sp [.ref a] H1 (fun v H2 => ∃ n : Int, v = .int n ∧ (0 ≤ n ∧ n < 2 ^ 63) ∧ Q (.int n) H2) E
section
variable {X : Cx} {CX : CXT} {k : Nat} {f C : Addr} {fd : FuncData} {ps : List Str} {sp : Sp} {E : St → XK} {p pos : Pos} {e : Expr} {te : TE}
def tLenO (C : Addr) (sp : Sp) (E : St → XK) (te : TE) : TE := fun σ H Q => te σ H fun x H1 => lenP C sp (E σ) Q [x] H1
theorem pe_lenO (Fo : FnOk X.prog X.w X.K X.mg X.base CX k f fd ps sp) (room : Room (k + 1) X.A) (hs : PySem.W.findIn X.K (.ref C) "__len__" = some (some (.ref f))) (hf : PySem.W.isFn X.K (.ref f) = true) (bnd : Binds X.K fd ps []) (pass : ∀ σ, PassesAt CX X σ (E σ))
    (hg : Gl X "len") (hm : X.mg "len" = none) (he : PE X e te) (hst : starEach (e :: []) X.env = (false, eval e X.env) :: starEach [] X.env := by rfl) (hpl : (backTo pos (starEach [] X.env)).any (·.1) = false := by rfl) : PE X (.Call (.Name "len" p) [e] [] pos) (tLenO C sp E te) := by
  refine ⟨fun pins s σ H Q I h => wpAny_Call_Name_kw (ld_blt I hg hm (by first | boot_by_name | rfl) (PyProof.Rows.callWith_builtin1 (thn ((pa_cons he pa_nil hst).run pos pins s σ H (lenP C sp (E σ) Q) I h) fun us s1 hh => ?_) hst hpl))⟩
  obtain ⟨vs, H1, I1, r, a, dx, fs, rfl, ha, hsp⟩ := hh
  cases r with
  | cons r1 r2 =>
    cases r2
    cases r1
    obtain ⟨mA, J, _⟩ := ins_get I1.hok ha
    obtain ⟨od, J, _⟩ := J.look
    obtain ⟨m, hF⟩ := I1.fr
    refine PySem.W.len_K hF I1.ok.mod.kin J hs hf ?_
    have e0 : Env0 X.prog X.w X.K X.mg X.base X.A.in1 X.stack s1 H1 := I1.env0.in1
    have hl := Fo.len _ _ _ _ hsp
    have rr : Vals [V.ref a] [Value.ref a] := .cons rfl .nil
    refine wpAny_call (codeAny_mono (Fo.run X.A.in1 X.stack s1 H1 ⟨[.ref a], []⟩ [.ref a] [.ref a] _ (E σ) room.in1 e0 (by
      have := bnd s1 [.ref a] I1.kIn (by simpa using hl)
      simpa using this) rr hsp) fun res s' hr => ?_)
    match res, hr with
    | .error ev, hr => exact pass σ pins H1 s1 ev s' I1 hr
    | .ok (.ret u), hr =>
      obtain ⟨v, H2, I2, rv, n, rfl, hn, q⟩ := I1.after hr
      obtain ⟨t, rfl⟩ := rv
      exact ⟨hn, .int n, H2, I2.tok _, ⟨_, rfl⟩, q⟩
    | .ok .next, hr => exact False.elim hr
    | .ok .brk, hr => exact False.elim hr
    | .ok .cont, hr => exact False.elim hr
end
def asN (v : RV) (S : MS) : ER RV := match v with
  | .fz (.int n) => if decide (0 ≤ n) && Nat.ble n.natAbs 9223372036854775807 then .ok (.fz (.int n)) S else .stuck
  | _ => .stuck
def lenR (c : Nat) (fm : FM) (v : RV) (S : MS) : ER RV := match v with
  | .fz (.obj c' fs) => if c' = c then (callM fm 1 [.fz (.obj c fs)] S).bind asN else .stuck
  | _ => .stuck
def mLenO (c : Nat) (fm : FM) (m : M RV) : M RV := fun S => (m S).bind (lenR c fm)
section
variable {W : WX} {G : GT} {X : Cx} {k c : Nat} {f : Addr} {fd : FuncData} {ps : List Str} {p pos : Pos} {e : Expr} {m : M RV} {fm : FM}
theorem jx_lenO (Fo : FnOk X.prog X.w X.K X.mg X.base (L2.CX X.prog X.w) k f fd ps (spM G 1 fm)) (room : Room (k + 1) X.A) (hs : PySem.W.findIn X.K (.ref (G.C c)) "__len__" = some (some (.ref f))) (hf : PySem.W.isFn X.K (.ref f) = true) (bnd : Binds X.K fd ps []) (hx : Takes X W)
    (hg : Gl X "len") (hm : X.mg "len" = none) (he : JX W G X e m) (hst : starEach (e :: []) X.env = (false, eval e X.env) :: starEach [] X.env := by rfl) (hpl : (backTo pos (starEach [] X.env)).any (·.1) = false := by rfl) : JX W G X (.Call (.Name "len" p) [e] [] pos) (mLenO c fm m) :=
  PE.imp (pe_lenO (E := WE W) Fo room hs hf bnd (passAt hx) hg hm he hst hpl) fun σ H Q h => tG.one (R2 := rX G) h fun F B fp v S' B' fp' H' x E R rx q => by
    unfold lenR at q
    split at q
    · rename_i c' fs
      split at q
      · rename_i ec
        subst ec
        have fr := of_fz rx
        have fr' := fr
        unfold FRep at fr'
        obtain ⟨a, dx, ss, rfl, _, ea, _⟩ := fr'
        refine ⟨a, dx, ss, rfl, ea, ?_⟩
        refine call_ok (W := W) (Q := fun v H2 => ∃ n : Int, v = .int n ∧ (0 ≤ n ∧ n < 2 ^ 63) ∧ Q (.int n) H2) E R (ss := [.fz (.obj c' fs)]) (vs := [.ref a]) ⟨.ref a, [], rfl, fr, rfl⟩ ((bindS q).imp fun w S2 B2 fp2 H2 E2 R2 q2 z rz => ?_)
        unfold asN at q2
        split at q2
        · rename_i n
          split at q2
          · rename_i hn
            have ez := fz_int rz
            rw [Bool.and_eq_true, decide_eq_true_eq] at hn
            exact ⟨n, ez, ⟨hn.1, (ble63 hn.2).2⟩, q2 B2 fp2 H2 E2 R2 _ (rX_fz fr_int)⟩
          · exact q2.elim
        · exact q2.elim
      · exact q.elim
    · exact q.elim
end
/-! ### a list of draws of one's own: what is done behind its making -/
def FvInts : List OT → Option (List Int)
  | [] => some []
  | .fz (.int i) :: ts => match FvInts ts with
    | some ns => some (i :: ns)
    | none => none
  | _ :: _ => none
def unDr : Sl → Sl
  | .dr => .un
  | s => s
def MS.noDr (S : MS) : MS := { sl := S.sl.map unDr, dr := none }
def outDr : Out → Out
  | .rt (.fz v) S => .rt (.fz v) S.noDr
  | _ => .stuck
def sDraws (i : Nat) (m : M RV) (rest : MSt) : MSt := fun S => (m S).thn fun v S1 => match v, S1.dr with
  | .tmp ts, none => match FvInts ts with
    | some ns => outDr (rest ⟨(S1.set i .dr).sl, some ns⟩)
    | none => .stuck
  | _, _ => .stuck
section
variable {G : GT} {B : Addr → Prop} {H : Hp}
theorem fvInts_ok : ∀ {ts : List OT} {ns : List Int} {xs : List V} {f : List Addr}, FvInts ts = some ns → OReps G B H ts xs f → xs = ns.map V.int ∧ f = []
  | [], ns, xs, f, h, r => by cases h; unfold OReps at r; exact ⟨r.1, r.2⟩
  | t :: ts, ns, xs, f, h, r => by
    unfold OReps at r
    obtain ⟨x, s, g, k, rfl, r1, r2, rfl⟩ := r
    unfold FvInts at h
    split at h
    · rename_i hh
      cases hh
    · rename_i i ts' he
      cases he
      split at h
      · rename_i ms e
        cases h
        obtain ⟨e1, e2⟩ := fvInts_ok e r2
        unfold ORep at r1
        obtain ⟨q1, q2⟩ := r1
        unfold FRep at q1
        subst q1 q2 e1 e2
        exact ⟨rfl, rfl⟩
      · cases h
    · cases h
/-- with the draws' list apart -/
def fcDr (F : Fc) (a : Addr) : Fc := { F with H0 := fun b => if b = a then some (.lst []) else F.H0 b, ad := some a }
variable {F : Fc} {B' : Addr → Prop} {fp fp' : Nat → List Addr} {S S' : MS} {σ σ' : St} {H' : Hp} {a : Addr}
theorem SR.toDr (R : SR G F B fp S σ H) (h0 : F.ad = none) {ns : List Int} (ha : H a = some (.lst (ns.map V.int))) (hb : ¬ B a ∧ F.H0 a = none ∧ ∀ i, a ∉ fp i) : SR G (fcDr F a) B fp ⟨S.sl, some ns⟩ σ H := by
  have ne : ∀ {b : Addr}, b ≠ a → (fcDr F a).H0 b = F.H0 b := fun n => if_neg n
  have ea : (fcDr F a).H0 a = some (.lst []) := if_pos rfl
  refine ⟨R.len, fun i s e => ?_, R.out, R.nd, R.dj, fun i b h => ⟨(R.nb i b h).1, ?_⟩, fun b o e n1 n2 => ?_, ⟨ha, by rw [ea]; simp, fun z => hb.1 (R.bm a z)⟩, fun b h => ?_, R.bm, fun b h => ?_, R.bt⟩
  · have q := R.sl i s e
    cases s with
    | dr => obtain ⟨_, b, e1, _⟩ := q; rw [h0] at e1; cases e1
    | _ => exact q
  · rw [ne fun z => hb.2.2 i (z ▸ h)]
    exact (R.nb i b h).2
  · have n : b ≠ a := fun z => n1 (by rw [z]; rfl)
    rw [ne n] at e
    exact R.ext b o e (by rw [h0]; simp) n2
  · obtain ⟨n1, n2, n3, n4⟩ := R.nw b h
    have n : b ≠ a := fun z => by obtain ⟨_, _, _, w⟩ := n1; rw [z, ha] at w; cases w
    refine ⟨n1, by rw [ne n]; exact n2, n3, fun z => n (Option.some.inj z).symm⟩
  · rcases R.bg b h with z | z
    · exact .inl z
    · refine .inr ?_
      rw [ne fun w => hb.1 (w ▸ h)]
      exact z
theorem SR.ofDr (h0 : F.ad = none) (hn : F.H0 a = none) (R : SR G (fcDr F a) B' fp' S' σ' H') : SR G F B' fp' S'.noDr σ' H' := by
  have ne : ∀ {b : Addr}, b ≠ a → (fcDr F a).H0 b = F.H0 b := fun n => if_neg n
  have back : ∀ b, (fcDr F a).H0 b = none → F.H0 b = none := fun b h => by
    by_cases n : b = a
    · rw [n]; exact hn
    · rw [ne n] at h; exact h
  have sl : ∀ i, (S'.noDr).sl[i]? = S'.sl[i]?.map unDr := fun i => List.getElem?_map
  refine ⟨by rw [R.len]; simp [MS.noDr], fun i s e => ?_, fun i e => ?_, R.nd, R.dj, fun i b h => ⟨(R.nb i b h).1, back b (R.nb i b h).2⟩, fun b o e n1 n2 => ?_, ?_, fun b h => ?_, R.bm, fun b h => (R.bg b h).imp id (back b), R.bt⟩
  · rw [sl] at e
    obtain ⟨s0, e0, es⟩ := Option.map_eq_some_iff.mp e
    have q := R.sl i s0 e0
    cases s0 with
    | dr => subst es; exact q.1
    | _ => subst es; exact q
  · rw [sl] at e
    exact R.out i (Option.map_eq_none_iff.mp e)
  · have n : b ≠ a := fun z => by rw [z, hn] at e; cases e
    exact R.ext b o (by rw [ne n]; exact e) (fun z => n (Option.some.inj z).symm) n2
  · unfold DrR
    rw [h0]
    trivial
  · obtain ⟨n1, n2, n3, n4⟩ := R.nw b h
    have n : b ≠ a := fun z => n4 (by rw [z]; rfl)
    exact ⟨n1, by rw [← ne n]; exact n2, n3, by rw [h0]; simp⟩
end
section
variable {W : WX} {G : GT} {X : Cx} {e : Expr} {m : M RV} {k : Nat} {x : Str} {pos' pos : Pos} {rest : List Stmt} {mr : MSt}
theorem jb_draws (hN : X.N.Nodup) (hi : X.N[k]? = some x) (hx : Loc X.env.scope x) (he : JX W G X e m) (hr : JB W G X rest mr) (hs : swapsWith e (some (.Name x pos')) pos.line X.env = pure false := by rfl) (hf : X.fn x = true ∨ X.env.scope.names.lookup x = some .local := by first | exact .inl rfl | exact .inr rfl | assumption) :
    JB W G X (.Assign [.Name x pos'] e pos :: rest) (sDraws k m mr) :=
  ⟨fun pins s σ H D I h => (pss_cons (ps_set hN hi hx he hs hf) hr).run pins s σ H D I (by
    have hl := I.len
    refine tS.expr (R2 := rX G) h fun F B fp S v S1 B1 fp1 H1 y R E R1 ry q => ?_
    split at q
    · rename_i ts ed
      split at q
      · rename_i ns en
        obtain ⟨f, ⟨r1, r2, r3⟩, _⟩ := ry
        have h0 : F.ad = none := by
          have d := R1.dr
          unfold DrR at d
          rw [ed] at d
          cases e1 : F.ad with
          | none => rfl
          | some b => rw [e1] at d; exact d.elim
        have r1' := r1
        unfold ORep at r1'
        obtain ⟨a, xs, g, rfl, ea, rs, rfl⟩ := r1'
        obtain ⟨rfl, rfl⟩ := fvInts_ok en rs
        have hb := r3 a List.mem_cons_self
        have hk : k < S1.sl.length := by rw [← R1.len, hl]; exact (List.getElem?_eq_some_iff.mp hi).1
        have hσ : k < σ.length := by rw [R1.len]; exact hk
        have R2 := R1.toDr h0 ea hb
        have R3 := R2.setSl (x := .ref a) (s := .dr) (f := []) (S := ⟨S1.sl, some ns⟩) hk List.nodup_nil (fun b hb => by cases hb) ⟨fpSet_same, a, rfl, List.getElem?_set_self hσ⟩
        refine ⟨fcDr F a, B1, _, _, R3, ?_⟩
        have es : (⟨(S1.set k .dr).sl, some ns⟩ : MS) = (⟨S1.sl, some ns⟩ : MS).set k .dr := rfl
        rw [es] at q
        cases eo : mr ((⟨S1.sl, some ns⟩ : MS).set k .dr) with
        | rt v S2 =>
          rw [eo] at q
          cases v with
          | fz u => exact fun B' fp' σ' H' y f R' rv => q B' fp' σ' H' y f (SR.ofDr h0 hb.2.1 R') ⟨rv.1, rv.2⟩
          | _ => exact q.elim
        | _ => rw [eo] at q; exact q.elim
      · exact q.elim
    · exact q.elim)⟩
end
end TL
set_option Elab.async false
set_option linter.all false
set_option maxRecDepth 100000
set_option maxHeartbeats 2000000
/-! what the printed derivations use -/
namespace TL
open PySem PySem.Spec PyProof.Rows L2
theorem bt_len : bootBuiltins "len" = some (.builtin "len") := PySem.boot_len
theorem bt_int : bootBuiltins "int" = some (.type "int") := by decide +kernel
theorem bt_list : bootBuiltins "list" = some (.type "list") := by decide +kernel
theorem bt_tuple : bootBuiltins "tuple" = some (.type "tuple") := by decide +kernel
theorem bt_sum : bootBuiltins "sum" = some (.builtin "sum") := by decide +kernel
theorem bt_min : bootBuiltins "min" = some (.builtin "min") := by decide +kernel
theorem bt_max : bootBuiltins "max" = some (.builtin "max") := by decide +kernel
theorem bt_abs : bootBuiltins "abs" = some (.builtin "abs") := by decide +kernel
theorem bt_bool : bootBuiltins "bool" = some (.type "bool") := by decide +kernel
theorem bt_str : bootBuiltins "str" = some (.type "str") := by decide +kernel
theorem bt_ve : bootBuiltins "ValueError" = some (.type "ValueError") := by decide +kernel
def visB (sc : Scope) (x : Str) : Bool := match sc.names.lookup x with
  | some .local => true
  | some .cell => true
  | some .free => true
  | _ => false
theorem vis_of {sc : Scope} {x : Str} (h : visB sc x = true) : Vis sc x := by
  unfold visB at h
  split at h <;> rename_i e <;> first | exact .inl e | exact .inr (.inl e) | exact .inr (.inr e) | cases h
def locB (sc : Scope) (x : Str) : Bool := match sc.names.lookup x with
  | some .local => true
  | some .cell => true
  | _ => false
theorem loc_of {sc : Scope} {x : Str} (h : locB sc x = true) : Loc sc x := by
  unfold locB at h
  split at h <;> rename_i e <;> first | exact .inl e | exact .inr e | cases h
theorem hu_of {k : Nat} {A : Around} (r : Room k A) : A.units + 64 < cLine := by have := r.un; omega
section
variable {W : WX} {G : GT} {X : Cx} {e a b : Expr} {m ma mb : M RV} {t : M Bool} {pos : Pos}
theorem jt_w (h : JW W G X e t) : JT W G X e t := h.pt
def mNeg (m : M RV) : M RV := fun S => (m S).bind fun v S' => gI (fun _ _ => true) (fun i _ => .int (-i)) v (.fz (.int 0)) S'
theorem jx_negm (h : JX W G X e m) : JX W G X (.UnaryOp .USub e pos) (mNeg m) := jx_neg h
abbrev gAddI := gI (fun _ _ => true) fun i j => .int (i + j)
theorem v2_addI : V2 W G (rI0 fun i j => .int (i + j)) gAddI := v2_I0 fun _ _ _ _ => fr_int
theorem jx_len (hK : X.K = G.K) (hg : Gl X "len") (hm : X.mg "len" = none) {p : Pos} {ls : M (List RV)} (ha : JL W G X [a] ls) (he : starEach [a] X.env = (false, eval a X.env) :: starEach [] X.env := by rfl) (hpl : (backTo pos (starEach [] X.env)).any (·.1) = false := by rfl) : JX W G X (.Call (.Name "len" p) [a] [] pos) (mCall gLen ls) :=
  jx_callB (by rw [← hK] at *; exact call_len) vc_len hg hm bt_len ha (by decide) (by decide) he hpl
end
/-! isinstance by built-in types -/
def tIn : List String → Ty → Option Bool
  | _, .cls _ => none
  | ts, .non => some (ts.contains "NoneType")
  | ts, .bl => some (ts.contains "bool" || ts.contains "int")
  | ts, .int => some (ts.contains "int")
  | ts, .str => some (ts.contains "str")
  | ts, .tup => some (ts.contains "tuple")
  | ts, .lst => some (ts.contains "list")
  | ts, .dic => some (ts.contains "dict")
theorem tIn_cls {ts : List String} {c : Nat} {b : Bool} {P : Prop} (h : tIn ts (.cls c) = some b) : P := by unfold tIn at h; cases h
theorem ti_int {G : GT} : ∀ t b, tIn ["int"] t = some b → PySem.W.kitOne G.K (tyV G t) (.type "int") = some b := by
  intro t b e
  cases t <;> cases e <;> exact kit_ty (by decide +kernel)
theorem ti_bool {G : GT} : ∀ t b, tIn ["bool"] t = some b → PySem.W.kitOne G.K (tyV G t) (.type "bool") = some b := by
  intro t b e
  cases t <;> cases e <;> exact kit_ty (by decide +kernel)
theorem ti_str {G : GT} : ∀ t b, tIn ["str"] t = some b → PySem.W.kitOne G.K (tyV G t) (.type "str") = some b := by
  intro t b e
  cases t <;> cases e <;> exact kit_ty (by decide +kernel)
theorem ti_tuple {G : GT} : ∀ t b, tIn ["tuple"] t = some b → PySem.W.kitOne G.K (tyV G t) (.type "tuple") = some b := by
  intro t b e
  cases t <;> cases e <;> exact kit_ty (by decide +kernel)
theorem ti_list {G : GT} : ∀ t b, tIn ["list"] t = some b → PySem.W.kitOne G.K (tyV G t) (.type "list") = some b := by
  intro t b e
  cases t <;> cases e <;> exact kit_ty (by decide +kernel)
theorem ti_lt {G : GT} : ∀ t b, tIn ["list", "tuple"] t = some b → PySem.W.kitAny G.K (tyV G t) [.type "list", .type "tuple"] = some b := by
  intro t b e
  have two : ∀ (a : String) (r : Bool), kitB a "list" = some (a == "list") → kitB a "tuple" = some (a == "tuple") → ((a == "list") || (a == "tuple")) = r → PySem.W.kitAny G.K (.type a) [.type "list", .type "tuple"] = some r := fun a r h1 h2 hr => by
    refine kitAny_cons (kit_ty h1) (fun z => ?_) fun z => by rw [← hr, z]; rfl
    refine kitAny_cons (kit_ty h2) (fun y => ?_) fun y => by rw [← hr, z, y]; rfl
    rw [← hr, z, y]
    rfl
  cases t <;> cases e <;> exact two _ _ (by decide +kernel) (by decide +kernel) (by decide +kernel)
end TL
set_option Elab.async false
set_option linter.all false
set_option maxRecDepth 100000
set_option maxHeartbeats 2000000
/-! list(o), o with an own __iter__ that gives iter(its tuple), and an own __len__ that gives the tuple's length -/
namespace TL
open PySem PySem.Spec PyProof.Rows L2
def ItOT (t it : Addr) (i : Nat) : HO := .ext fun h => h.IsTupleIter it t i
def ItDT (it : Addr) : HO := .ext fun h => ∃ o, h.get? it = some o
theorem itOT_ok {P : Program} {w : World} {H : Hp} {h : Heap} {t it : Addr} {i : Nat} (e : h.IsTupleIter it t i) : ObjOk P w H h it (ItOT t it i) :=
  ⟨e, ⟨_, e.choose_spec.1⟩, fun h1 h2 q k => q.at k⟩
theorem itDT_ok {P : Program} {w : World} {H : Hp} {h : Heap} {it : Addr} (e : ∃ o, h.get? it = some o) : ObjOk P w H h it (ItDT it) :=
  ⟨e, e, fun h1 h2 q k => ⟨_, k _ q.choose_spec⟩⟩
section
variable {prog : Program} {w : World} {A : Around} {E : Value → Shared → Prop} {s : Shared}
theorem next_endT {it t : Addr} {i : Nat} {its : Array Value} {Q : Option Value → Shared → Prop} (hh : A.handled = none) (hi : s.heap.IsTupleIter it t i) (ht : s.heap.IsTuple t its) (hx : its[i]? = none)
    (hQ : ∀ h', Heap.ExtBut it s.heap h' → (∃ o, h'.get? it = some o) → Q none { s with heap := h' }) : wpAny (model prog w) A (pyNext (.ref it)) Q E s := by
  obtain ⟨o, ho, hc, hd⟩ := id hi
  obtain ⟨ot, hot, _, nt, hdt⟩ := ht
  have e1 : (s.heap.update it (Obj.mapFields (·.setIfInBounds 0 Value.none))).get? it = some (Obj.mapFields (·.setIfInBounds 0 Value.none) o) := Heap.get?_update_self _ ho (Obj.isFreed_of_fields (Obj.data_mapFields hd _))
  unfold pyNext
  refine wpAny_bind (wpAny_attempt (wpAny_callSpecial?_slot (name := Str.ofString "__next__") hi.typeIs F.slot_tuple_iterator_next (wpAny_call_entry F.slot_tuple_iterator_next hi.typeIs F.entry_tuple_iterator_next ?_ (F.args_tuple_iterator_next_1 _))))
  refine (?_ : wpAny _ _ (field (.ref it) 0 >>= _) _ _ s)
  refine wpAny_bind (wpAny_field ho hd (x := Value.ref t) rfl ?_)
  refine (?_ : wpAny _ _ (if (Value.ref t == Value.none) = true then _ else _) _ _ s)
  rw [if_neg (by exact Bool.false_ne_true)]
  refine (?_ : wpAny _ _ (field (.ref it) 1 >>= _) _ _ s)
  refine wpAny_bind (wpAny_field ho hd (x := Value.int i 0) rfl ?_)
  refine (?_ : wpAny _ _ (seqItems? (.ref t) >>= _) _ _ s)
  refine wpAny_bind (wpAny_seqItems hot hdt ?_)
  simp only [Int.toNat_natCast, hx]
  refine wpAny_bind (wpAny_rule (wpAny_bind (wpAny_setField ho hd (by simp) ?_)))
  refine (?_ : wpAny _ _ (newExc (.type "StopIteration") [] >>= _) _ _ _)
  refine wpAny_bind ?_
  simp only [newExc, newTuple]
  refine wpAny_bind (wpAny_newObj_type ?_ (by size_fits))
  refine wpAny_bind (m := firstArgMember _ _) (wpAny_of_eq (a := Value.none) (by first | rfl | (simp only [firstArgMember] <;> rfl)) ?_)
  refine wpAny_newObj_type ?_ (by size_fits)
  simp only [raiseNew]
  refine wpAny_bind (wpAny_handled ?_)
  first | rw [show A.in1.handled = none from hh] | rw [hh]
  refine wpAny_bind (wpAny_pure (wpAny_throw ?_))
  refine wpAny_bind (wpAny_isInstance (T := "StopIteration") (b := true) ⟨_, Heap.get?_push_size _ rfl, rfl⟩ isSubtype_stop ?_)
  exact wpAny_pure (hQ _ (((Heap.SameBut.update ..).extBut.push _).push _) ⟨_, Heap.get?_push_of_some _ (Heap.get?_push_of_some _ e1)⟩)
theorem call_iter0T {l : Addr} {its : Array Value} {Q : Value → Shared → Prop} (hl : s.heap.IsTuple l its)
    (h : Q (.ref s.heap.objs.size) { s with heap := s.heap.push { cls := .type "tuple_iterator", data := .fields #[.ref l, .int 0 0] } }) : wpAny (model prog w) A (call (.builtin "iter") [.ref l]) Q E s := by
  refine Calls.call_function_entry (by decide +kernel) (by decide +kernel) PySem.W.kdk_entry_iter (PySem.W.kdk_args_iter _) ?_
  unfold Builtin.«iter»
  refine wpAny_bind (m := someArgs "iter" 1 2 _) (wpAny_of_eq (a := [Value.ref l]) (by first | rfl | kernel_rfl!) ?_)
  refine (?_ : wpAny _ _ (pyIter (.ref l) >>= _) _ _ _)
  refine wpAny_bind (wpAny_pyIter_tuple hl ?_)
  exact wpAny_pure ⟨_, rfl, h⟩
end
theorem upd_same_id {H : Hp} {a : Addr} {o : HO} (h : H a = some o) : upd H a o = H := by
  funext b
  by_cases z : b = a
  · rw [z, upd_same, h]
  · rw [upd_ne z]
def rIterT : List V → Hp → VK → Prop := fun xs H Q => ∃ (l : Addr) (zs : List V), xs = [.ref l] ∧ H l = some (.tup zs) ∧ ∀ it, H it = none → Q (.ref it) (upd H it (ItOT l it 0))
section
variable {X : Cx}
theorem call_iterT : CallR X (.builtin "iter") rIterT := by
  intro pins s σ H xs us Q I r h
  obtain ⟨l, zs, rfl, hq, q⟩ := h
  obtain ⟨u, rfl, ru⟩ := vals1 r
  cases ru
  obtain ⟨its, rv, pl, hz⟩ := I.tuple (SqT.of hq)
  refine call_iter0T (show s.heap.IsTuple l its.toArray from pl) ?_
  exact ⟨.ref s.heap.objs.size, _, I.laid (t' := s.toks) (fun b u e => Heap.get?_push_of_some _ e) (Nat.le_refl _) (itOT_ok ⟨_, Heap.get?_push_size _ rfl, rfl, rfl⟩), rfl, q _ (I.hok.fresh (Nat.le_refl _))⟩
end
/-- what o is -/
def OTup (C : Addr) (f : Str) (a t : Addr) (zs : List V) (H : Hp) : Prop := ∃ dx fs, H a = some (.ins C dx fs) ∧ fs.lookup f = some (.ref t) ∧ H t = some (.tup zs)
def spItr (C : Addr) (f : Str) : Sp := fun vs H Q _ => ∃ a t zs, vs = [.ref a] ∧ OTup C f a t zs H ∧ ∀ it, H it = none → Q (.ref it) (upd H it (ItOT t it 0))
def spLnT (C : Addr) (f : Str) : Sp := fun vs H Q _ => ∃ a t zs, vs = [.ref a] ∧ OTup C f a t zs H ∧ Q (.int zs.length) H
structure LsO (K : PySem.W.Frag) (C fi fl : Addr) : Prop where
  it : PySem.W.findIn K (.ref C) "__iter__" = some (some (.ref fi))
  itF : PySem.W.isFn K (.ref fi) = true
  ln : PySem.W.findIn K (.ref C) "__len__" = some (some (.ref fl))
  lnF : PySem.W.isFn K (.ref fl) = true
def NoE : XK := fun _ _ _ => False
theorem noE_pass {X : Cx} : Passes (CX X.prog X.w) X NoE := by
  intro pins σ H s e s' I h
  obtain ⟨a, B, H', cls, d, rfl, fl, hok, ub, na, os, ag, hE⟩ := h
  exact hE.elim
section
variable {X : Cx} {pins : List (Addr × Obj)} {σ : St} {C fi fl a q it t : Addr} {f : Str} {zs : List V} {A1 : Around}
theorem ext_loopT {Rs : Result → Shared → Prop} {H0 : Hp} {n : Nat} (sb : Sub X n A1.in1) (hc : X.calm = true) (hd : A1.in1.handled = none) (ht : H0 t = some (.tup zs)) (h1 : t ≠ it) (h2 : t ≠ q) (h3 : it ≠ q)
    (hdone : ∀ H s, Inv X pins σ H s → H it = some (ItDT it) → H q = some (.lst zs) → (∀ b, b ≠ it → b ≠ q → H b = H0 b) → Rs (.ok (.ret .none)) s) (herr : ∀ e s, X.xe e s → Rs (.error e) s) :
    ∀ (m i : Nat) (H : Hp) (s : Shared), i + m = zs.length → Inv X pins σ H s → H it = some (ItOT t it i) → H q = some (.lst (zs.take i)) → (∀ b, b ≠ it → b ≠ q → H b = H0 b) →
      codeAny (model X.prog X.w) A1 (.builtin "list.extend.loop" ⟨[.ref q, .ref it, .none], []⟩) Rs s := by
  intro m
  induction m with
  | zero =>
    intro i H s hi I e1 e2 e3
    refine codeAny_builtin PySem.F.entry_extend_loop ?_
    rw [Around.under_plainId PySem.F.plain_extend_loop _]
    refine (?_ : wpAny _ A1.in1 (pyNext (.ref it) >>= _) _ _ s)
    have ht' : H t = some (.tup zs) := (e3 t h1 h2).trans ht
    obtain ⟨its, rv, p, hz⟩ := I.tuple (SqT.of ht')
    have hl := rv.length
    have hit : s.heap.IsTupleIter it t i := (I.hok it _ e1).1
    refine wpAny_bind (next_endT hd hit (show s.heap.IsTuple t its.toArray from p) (by simp; omega) fun h' eb ho => ?_)
    have mu : Mut (H it) := by rw [e1]; exact True.intro
    refine wpAny_pure (hdone (upd H it (ItDT it)) _ (I.write (x := it) (e := it) (t' := s.toks) mu (.inl rfl) (fun b o nb z => eb b o nb z) ho (itDT_ok ho)) upd_same ?_ fun b n1 n2 => by rw [upd_ne n1]; exact e3 b n1 n2)
    rw [upd_ne (Ne.symm h3), e2, List.take_of_length_le (by omega)]
  | succ m ih =>
    intro i H s hi I e1 e2 e3
    refine codeAny_builtin PySem.F.entry_extend_loop ?_
    rw [Around.under_plainId PySem.F.plain_extend_loop _]
    refine (?_ : wpAny _ A1.in1 (pyNext (.ref it) >>= _) _ _ s)
    have ht' : H t = some (.tup zs) := (e3 t h1 h2).trans ht
    obtain ⟨its, rv, p, hz⟩ := I.tuple (SqT.of ht')
    have hl := rv.length
    have hit : s.heap.IsTupleIter it t i := (I.hok it _ e1).1
    have hlt : i < zs.length := by omega
    obtain ⟨u, hu, ru⟩ := rv.get (List.getElem?_eq_getElem hlt)
    refine wpAny_bind (wpAny_pyNext_tuple_item hit (show s.heap.IsTuple t its.toArray from p) (x := u) (by simpa using hu) fun h' st' sbb => ?_)
    have mu : Mut (H it) := by rw [e1]; exact True.intro
    have I1 : Inv X pins σ (upd H it (ItOT t it (i + 1))) { s with heap := h' } := I.write (x := it) (e := it) (t' := s.toks) mu (.inl rfl) (fun b o nb z => (sbb.2 b nb).trans z) ⟨_, st'.choose_spec.1⟩ (itOT_ok st')
    have e2' : upd H it (ItOT t it (i + 1)) q = some (.lst (zs.take i)) := by rw [upd_ne (Ne.symm h3)]; exact e2
    obtain ⟨z, its2, k, r2, hl2, e⟩ := I1.lstM e2'
    refine (?_ : wpAny _ A1.in1 (updateSeq q (·.push u) >>= _) _ _ _)
    have hz' : zs.length ≤ sizeLine := by simpa using hz
    have hl3 : its2.length = i := by rw [← hl2, List.length_take]; omega
    refine wpAny_bind (wpAny_updateSeq e rfl (wpAny_pure ⟨plainId_quiet PySem.F.plain_extend_loop _, ?_⟩) (by rw [List.size_toArray]; omega) (by show (its2.toArray.push u).size ≤ sizeLine + 1; rw [Array.size_push, List.size_toArray]; omega))
    have tk : zs.take (i + 1) = zs.take i ++ [zs[i]] := by rw [List.take_succ, List.getElem?_eq_getElem hlt]; rfl
    have I2 := I1.lset (its' := its2 ++ [u]) (t' := s.toks) (f := (·.push u)) e2' e (by simp) (r2.append (.cons ru .nil)) (by rw [List.length_append, List.length_singleton, List.length_take]; omega)
    refine ih (i + 1) _ _ (by omega) I2 ?_ ?_ fun b n1 n2 => by rw [upd_ne n2, upd_ne n1]; exact e3 b n1 n2
    · rw [upd_ne h3, upd_same]
    · rw [upd_same, tk]
end
/-! ### the calls -/
section
variable {X : Cx} {pins : List (Addr × Obj)} {σ : St} {H : Hp} {s : Shared} {C fi fl a q : Addr} {f : Str} {fdI fdL : FuncData} {psI psL : List Str} {n : Nat} {A1 : Around}
theorem env0_at (sb : Sub X n A1) (I : Inv X pins σ H s) : Env0 X.prog X.w X.K X.mg X.base A1 X.stack s H := by
  have e := I.env0
  exact ⟨by rw [sb.fr]; exact e.frames, e.mod, e.bs, e.bsz, e.funs, e.frf, e.hok, e.bare⟩
/-- an own method of one's own, run on self -/
theorem own1 {fn : Addr} {fd : FuncData} {ps : List Str} {sp : Sp} {Q : VK} {A : Around} (sb : Sub X n A) (FN : FnOk X.prog X.w X.K X.mg X.base (CX X.prog X.w) n fn fd ps sp) (bN : Binds X.K fd ps []) (I : Inv X pins σ H s) (hsp : sp [.ref a] H Q NoE)
    {R : Value → Shared → Prop} {E : Value → Shared → Prop} (h : ∀ u s', (∃ v H', Inv X pins σ H' s' ∧ RelV v u ∧ Q v H') → R u s') : wpAny (model X.prog X.w) A (call (.ref fn) [.ref a]) R E s := by
  have hl := FN.len _ _ _ _ hsp
  have r2 : Vals [V.ref a] [Value.ref a] := .cons rfl .nil
  refine wpAny_call (codeAny_mono (FN.run A X.stack s H ⟨[.ref a], []⟩ [.ref a] [.ref a] Q NoE sb.room (env0_at sb I) (by
    have := bN s [.ref a] I.kIn (by simpa using hl)
    simpa using this) r2 hsp) fun r s' hq => ?_)
  cases r with
  | error e =>
    obtain ⟨_, _, _, _, _, _, _, _, _, _, _, _, z⟩ := hq
    exact z.elim
  | ok fw =>
    cases fw with
    | ret u => exact h u s' (I.after hq)
    | next => exact False.elim hq
    | brk => exact False.elim hq
    | cont => exact False.elim hq
theorem ext_listO {Rs : Result → Shared → Prop} {t : Addr} {zs : List V} {dx : Addr} {fs : List (Str × V)} (sb : Sub X n A1.in1) (sb2 : Sub X n A1.in1.in1) (hcm : X.calm = true) (hd : A1.in1.handled = none) (hc : LsO X.K C fi fl)
    (FI : FnOk X.prog X.w X.K X.mg X.base (CX X.prog X.w) n fi fdI psI (spItr C f)) (bI : Binds X.K fdI psI []) (FL : FnOk X.prog X.w X.K X.mg X.base (CX X.prog X.w) n fl fdL psL (spLnT C f)) (bL : Binds X.K fdL psL [])
    (I : Inv X pins σ H s) (ha : H a = some (.ins C dx fs)) (hf : fs.lookup f = some (.ref t)) (ht : H t = some (.tup zs)) (hq : H q = some (.lst []))
    (hdone : ∀ s, Inv X pins σ (upd H q (.lst zs)) s → Rs (.ok (.ret .none)) s) (herr : ∀ e s, X.xe e s → Rs (.error e) s) :
    wpAny (model X.prog X.w) A1.in1 (Builtin.List.listExtendWith (.ref q) (.ref a) .none)
      (fun fin s' => match fin with | .done f => Rs (.ok f) s' | .again c' => c'.quiet = true ∧ codeAny (model X.prog X.w) A1 c' Rs s') (fun e s' => Rs (.error e) s') s := by
  have hne : q ≠ a := ne_of hq ha (fun z => nomatch z)
  obtain ⟨mA, J, _⟩ := ins_get I.hok ha
  obtain ⟨od, J, _⟩ := J.look
  obtain ⟨m0, hF⟩ := I.fr
  unfold Builtin.List.listExtendWith
  refine wpAny_bind (J.type.here ?_)
  have h1 : Builtin.List.listSameRef (.ref q) (.ref a) = false := by simp [Builtin.List.listSameRef, hne]
  have h2 : (Value.ref C == Value.type "list") = false := rfl
  have h3 : (Value.ref C == Value.type "tuple") = false := rfl
  simp only [h1, h2, h3, Bool.or_false, Bool.false_eq_true, if_false]
  refine wpAny_bind (PySem.W.owit_iter hF I.ok.mod.kin J hc.it hc.itF ?_)
  refine own1 (Q := fun v H' => ∃ it, v = .ref it ∧ H it = none ∧ H' = upd H it (ItOT t it 0)) sb FI bI I ⟨a, t, zs, rfl, ⟨dx, fs, ha, hf, ht⟩, fun it hn => ⟨it, rfl, hn, rfl⟩⟩ fun u s1 hu => ?_
  obtain ⟨v, H1, I1, rv, it, rfl, hn, rfl⟩ := hu
  cases rv
  have nq : it ≠ q := fun z => by rw [z, hq] at hn; cases hn
  have nt : it ≠ t := fun z => by rw [z, ht] at hn; cases hn
  have na : it ≠ a := fun z => by rw [z, ha] at hn; cases hn
  have e1 : upd H it (ItOT t it 0) it = some (ItOT t it 0) := upd_same
  have hit : s1.heap.IsTupleIter it t 0 := (I1.hok it _ e1).1
  have ha1 : upd H it (ItOT t it 0) a = some (.ins C dx fs) := by rw [upd_ne (Ne.symm na)]; exact ha
  have ht1 : upd H it (ItOT t it 0) t = some (.tup zs) := by rw [upd_ne (Ne.symm nt)]; exact ht
  have hq1 : upd H it (ItOT t it 0) q = some (.lst []) := by rw [upd_ne (Ne.symm nq)]; exact hq
  unfold PySem.W.OwitIt
  refine wpAny_specialOf (name := Str.ofString "__next__") hit.typeIs F.slot_tuple_iterator_next.lookup ?_
  obtain ⟨mA', J', _⟩ := ins_get I1.hok ha1
  obtain ⟨od', J', _⟩ := J'.look
  obtain ⟨m1, hF'⟩ := I1.fr
  obtain ⟨its, rv, p, hz⟩ := I1.tuple (SqT.of ht1)
  have hzl : zs.length ≤ sizeLine := by simpa using hz
  refine wpAny_bind (wpAny_holding ?_)
  have fin : ∀ s2, Inv X pins σ (upd H it (ItOT t it 0)) s2 → codeAny (model X.prog X.w) A1 (.builtin "list.extend.loop" ⟨[.ref q, .ref it, .none], []⟩) Rs s2 := fun s2 I2 =>
    ext_loopT (H0 := upd H it (ItOT t it 0)) sb hcm hd ht1 (Ne.symm nt) (ne_of ht hq (fun z => nomatch z)) nq (fun H3 s3 I3 f1 f2 f3 => by
      refine hdone s3 ?_
      have I4 := ItX.inv_drop I3 f1
      have eH : ItX.dropH H3 it = upd H q (.lst zs) := by
        funext b
        by_cases n1 : b = it
        · rw [n1, ItX.dropH_same, upd_ne nq, hn]
        · rw [ItX.dropH_ne n1]
          by_cases n2 : b = q
          · rw [n2, f2, upd_same]
          · rw [f3 b n1 n2, upd_ne n1, upd_ne n2]
      rw [eH] at I4
      exact I4) herr zs.length 0 _ s2 (by omega) I2 e1 (by rw [hq1]; rfl) fun _ _ _ => rfl
  have hint : wpAny (model X.prog X.w) A1.in1 (Builtin.List.listLengthHint (.ref a)) (fun _ s' => Inv X pins σ (upd H it (ItOT t it 0)) s') (fun e s' => Rs (.error e) s') s1 := by
    unfold Builtin.List.listLengthHint
    refine wpAny_bind (wpAny_bind (J'.type.here ((PySem.W.looks_findIn I1.kIn hc.ln).here ?_)))
    refine PySem.W.KFB.if_not rfl ?_
    refine PySem.W.KFB.if_so rfl ?_
    refine wpAny_bind (wpAny_rule ?_)
    refine wpAny_bind (wpAny_attempt (PySem.W.len_K hF' I1.ok.mod.kin J' hc.ln hc.lnF ?_))
    refine own1 (Q := fun v H' => v = .int zs.length ∧ H' = upd H it (ItOT t it 0)) sb2 FL bL I1 ⟨a, t, zs, rfl, ⟨dx, fs, ha1, hf, ht1⟩, rfl, rfl⟩ fun u s3 hu => ?_
    obtain ⟨v, H3, I3, rv3, rfl, rfl⟩ := hu
    obtain ⟨tk, rfl⟩ := rv3
    have l63 := line63
    have hs : sizeLine = 16777216 := sizeLine_eq
    refine ⟨⟨by omega, by omega⟩, ?_⟩
    refine wpAny_bind (wpAny_of_eq (a := some (zs.length : Int)) (by first | rfl | kernel_rfl) ?_)
    refine PySem.W.KFB.if_not (by simp [Builtin.List.listTooLong]; omega) ?_
    exact wpAny_pure (I3.tok _)
  refine wpAny_mono hint (fun b s2 I2 => ?_) fun _ _ z => z
  refine wpAny_ite_split (fun _ => ?_) (fun _ => wpAny_pure ⟨plainId_quiet PySem.F.plain_extend_loop _, fin s2 I2⟩)
  refine wpAny_bind (wpAny_rule ?_)
  refine wpAny_bind ?_
  refine (?_ : wpAny _ _ (updateSeq q (·.push .none) >>= fun _ => updateSeq q (·.pop)) _ _ _)
  obtain ⟨z, its3, k, r3, hl3, e3⟩ := I2.lstM hq1
  cases r3
  refine wpAny_bind (wpAny_updateSeq e3 rfl ?_)
  have I3 := I2.lset (f := (·.push Value.none)) (its' := [Value.none]) (ys := [.non]) (t' := s2.toks) hq1 e3 (by simp) (.cons rfl .nil) (by rw [List.length_singleton, sizeLine_eq]; decide)
  obtain ⟨z4, its4, k4, r4, hl4, e4⟩ := I3.lstM upd_same
  obtain ⟨u4, rfl, ru4⟩ := r4.one
  refine wpAny_updateSeq e4 rfl ?_ (by show 1 ≤ sizeLine; rw [sizeLine_eq]; decide) (Nat.zero_le _)
  have I4 := I3.lset (f := (·.pop)) (its := [u4]) (its' := []) (ys := []) (t' := s2.toks) upd_same e4 (by rfl) .nil (Nat.zero_le _)
  rw [upd_upd, upd_same_id hq1] at I4
  exact wpAny_pure ⟨plainId_quiet PySem.F.plain_extend_loop _, fin _ I4⟩
/-- list(o) -/
def rLstO (C : Addr) (f : Str) : List V → Hp → VK → Prop := fun xs H Q => ∃ a t zs, xs = [.ref a] ∧ OTup C f a t zs H ∧ ∀ q, H q = none → Q (.ref q) (upd H q (.lst zs))
theorem call_listO (hc : LsO X.K C fi fl) (hcm : X.calm = true) (FI : FnOk X.prog X.w X.K X.mg X.base (CX X.prog X.w) n fi fdI psI (spItr C f)) (bI : Binds X.K fdI psI []) (FL : FnOk X.prog X.w X.K X.mg X.base (CX X.prog X.w) n fl fdL psL (spLnT C f)) (bL : Binds X.K fdL psL []) (hr : Room (n + 3) X.A) :
    CallR X (.type "list") (rLstO C f) := by
  intro pins s σ H xs us Q I rv h
  obtain ⟨a, t, zs, rfl, ⟨dx, fs, ha, hf, ht⟩, hq⟩ := h
  obtain ⟨u, rfl, ru⟩ := rv.one
  cases ru
  have sb0 : Sub X (n + 1) X.A.in1.in1 := (Sub.in1 (Sub.in1 (⟨hr, rfl⟩ : Sub X (n + 3) X.A)))
  have sb1 : Sub X n X.A.in1.in1.in1 := Sub.in1 sb0
  have sb : Sub X n X.A.in1.in1 := ⟨sb0.room.mono (Nat.le_succ n), sb0.fr⟩
  refine callType_codes (Q₁ := fun obj s₁ => obj = .ref s.heap.objs.size ∧ s₁ = { s with heap := s.heap.push { cls := .type "list", data := .seq #[] } }) PySem.F.called_list (PySem.F.typeCall_list_1 _) PySem.F.entry_list_init (code_list_new _ ⟨rfl, rfl⟩) fun obj s₁ h₁ => ?_
  obtain ⟨rfl, rfl⟩ := h₁
  have hS : (s.heap.push { cls := .type "list", data := .seq #[] }).get? s.heap.objs.size = some { cls := .type "list", data := .seq #[] } := Heap.get?_push_size _ rfl
  refine ⟨⟨_, hS, rfl⟩, PySem.F.args_list_init_2 _ _, ?_⟩
  have fr : H s.heap.objs.size = none := I.hok.fresh (Nat.le_refl _)
  have I1 : Inv X pins σ (upd H s.heap.objs.size (.lst [])) { s with heap := s.heap.push { cls := .type "list", data := .seq #[] } } := I.lnew (its := []) (t' := s.toks) .nil (Nat.zero_le _)
  refine (?_ : wpAny _ _ (do let old ← Builtin.List.listItems (.ref s.heap.objs.size); Builtin.List.listUpdate (.ref s.heap.objs.size) (fun _ => #[]); letGo old.toList.reverse; Builtin.List.listExtendWith (.ref s.heap.objs.size) (.ref a) .none) _ _ _)
  refine wpAny_bind ?_
  unfold Builtin.List.listItems
  refine wpAny_bind (wpAny_seqItems hS rfl (wpAny_pure ?_))
  refine (?_ : wpAny _ _ (updateSeq s.heap.objs.size (fun _ => #[]) >>= fun _ => letGo (#[] : Array Value).toList.reverse >>= fun _ => Builtin.List.listExtendWith (.ref s.heap.objs.size) (.ref a) .none) _ _ _)
  refine wpAny_bind (wpAny_updateSeq hS rfl ?_)
  have I2 := I1.lset (f := fun _ => #[]) (its := []) (its' := []) (ys := []) (t' := s.toks) upd_same hS rfl .nil (Nat.zero_le _)
  rw [upd_upd] at I2
  refine wpAny_bind (wpAny_letGo ?_)
  have up : ∀ {b : Addr} {o : HO}, H b = some o → upd H s.heap.objs.size (.lst []) b = some o := fun e => by rw [upd_ne (ne_of_none e fr)]; exact e
  refine ext_listO (A1 := X.A.in1) (Rs := wants (fun r s₂ => r = .none ∧ EP X pins σ Q (.ref s.heap.objs.size) s₂) X.xe) sb sb1 hcm (I.ok.hd hcm) hc FI bI FL bL I2 (up ha) hf (up ht) upd_same (fun s' I' => ?_) (fun e s' he => he)
  rw [upd_upd] at I'
  exact ⟨rfl, .ref s.heap.objs.size, _, I', rfl, hq _ fr⟩
end
/-! ### the two defs -/
section
variable {P : Program} {w : World} {K : PySem.W.Frag} {mg : Str → Option Value} {base : Heap} {params : Arguments} {scope : Scope} {x qual f : Str} {fn C : Addr} {fd : FuncData} {p1 p2 p3 p4 p5 : Pos} {k : Nat}
theorem itr_ok (F : FunD K x qual params [.Return (some (.Call (.Name "iter" p1) [.Attribute (.Name "self" p2) f p3] [] p4)) p5] scope [] [] fn fd) (Sc : FnScope ["self"] ["self"] scope) (hv : Vis scope "self") (hg : ∀ cdv A outer s H E, Gl (cxOf (L2.CX P w) P w K mg base ["self"] qual scope fn cdv A outer s H E) "iter") (hm : mg "iter" = none)
    (hc : Cls K C) (hn : NoAttr K C f) : FnOk P w K mg base (L2.CX P w) 1 fn fd ["self"] (spItr C f) := by
  refine F.ok Sc (fun vs H Q E h => by obtain ⟨a, t, zs, rfl, _⟩ := h; rfl) fun cdv A outer s H vs Q E hr hsp => ?_
  obtain ⟨a, t, zs, rfl, ⟨dx, fs, ha, hf, ht⟩, q⟩ := hsp
  refine ⟨_, pss_one (ps_ret (pe_callB call_iterT (hg _ _ _ _ _ _) hm (by first | boot_by_name | rfl) (pa_cons (pe_fld (pe_var (i := 0) rfl hv) rfl) pa_nil))), ?_⟩
  exact ⟨.ref a, rfl, a, C, dx, fs, .ref t, rfl, ha, hc, hn, hf, t, zs, rfl, ht, q⟩
theorem lnT_ok (F : FunD K x qual params [.Return (some (.Call (.Name "len" p1) [.Attribute (.Name "self" p2) f p3] [] p4)) p5] scope [] [] fn fd) (Sc : FnScope ["self"] ["self"] scope) (hv : Vis scope "self") (hg : ∀ cdv A outer s H E, Gl (cxOf (L2.CX P w) P w K mg base ["self"] qual scope fn cdv A outer s H E) "len") (hm : mg "len" = none)
    (hc : Cls K C) (hn : NoAttr K C f) : FnOk P w K mg base (L2.CX P w) 1 fn fd ["self"] (spLnT C f) := by
  refine F.ok Sc (fun vs H Q E h => by obtain ⟨a, t, zs, rfl, _⟩ := h; rfl) fun cdv A outer s H vs Q E hr hsp => ?_
  obtain ⟨a, t, zs, rfl, ⟨dx, fs, ha, hf, ht⟩, q⟩ := hsp
  refine ⟨_, pss_one (ps_ret (pe_callB call_len (hg _ _ _ _ _ _) hm bt_len (pa_cons (pe_fld (pe_var (i := 0) rfl hv) rfl) pa_nil))), ?_⟩
  exact ⟨.ref a, rfl, a, C, dx, fs, .ref t, rfl, ha, hc, hn, hf, .ref t, zs.length, rfl, .inr ⟨zs, SqT.of ht, rfl⟩, q⟩
end
/-! ### the meaning -/
def gListO (c k : Nat) : List RV → MS → ER RV
  | [.fz (.obj c' fs)], S => if c' = c then match fs[k]? with
      | some (.tup us) => .ok (.tmp (us.map OT.fz)) S
      | _ => .stuck
    else .stuck
  | _, _ => .stuck
theorem vc_listO {W : WX} {G : GT} {c k : Nat} {f : Str} (hk : (G.nm c)[k]? = some f) (hnd : (G.nm c).Nodup) : VC W G (rLstO (G.C c) f) (gListO c k) := by
  intro F Bs fps Hs B fp S σ H vs xs Q E R ra h
  unfold gListO at h
  split at h
  · rename_i c' fs
    obtain ⟨x, r, rfl, rx, rfl⟩ := ra
    split at h
    · rename_i ec
      subst ec
      split at h
      · rename_i us eu
        have fr := of_fz rx
        unfold FRep at fr
        obtain ⟨a, dx, ss, rfl, _, ea, en, er⟩ := fr
        obtain ⟨y, ey, ry⟩ := er.get eu
        unfold FRep at ry
        obtain ⟨t, zs, rfl, ht, rz⟩ := ry
        exact ⟨a, t, zs, rfl, ⟨dx, ss, ea, lookup_nm en hnd hk ey, ht⟩, fun l n => h.newLF E R rz n⟩
      · exact h.elim
    · exact h.elim
  · exact h.elim
end TL
set_option Elab.async false
set_option linter.all false
set_option maxRecDepth 100000
set_option maxHeartbeats 2000000
/-! the head's facts: classes, own exceptions, isinstance -/
namespace HX
open PySem PySem.Spec PyProof.Rows L2 TL He
def vd (K : PySem.W.Frag) : Dv → Value
  | .ty n => .type n
  | .glo x => .ref (ga K x)
  | _ => .none
inductive Fb where
  | fa (f : Fa)
  | ins (x : Str)
  | one (t u : Dv) (r : Bool)
  | any (t : Dv) (us : List Dv) (r : Bool)
  | xs (x : Str)
  | lst (x : Str)
def insB (K : PySem.W.Frag) (C : Addr) : Bool := (PySem.W.plainGet K C Str.empty && (PySem.W.hasDictIn K C && (PySem.W.plainOver K C && eqO (PySem.W.findIn K (.ref C) "__setattr__") (some (some (.builtin "object.__setattr__")))))) &&
  (eqO (PySem.W.findIn K (.ref C) "__class__") (some (some (.builtin "object.__class__"))) && (eqO (PySem.W.specialIn K (.builtin "object.__class__") "__get__") (some (some (.builtin "getset_descriptor.__get__"))) && (decide (PySem.W.takesIn K (.builtin "object.__class__") = some true) && decide (PySem.W.mroIn K C (.type "object") = some true))))
theorem insB_ok {K : PySem.W.Frag} {C : Addr} (h : insB K C = true) : InsC K C := by
  obtain ⟨h1, h⟩ := ba h
  obtain ⟨a1, h1⟩ := ba h1
  obtain ⟨a2, h1⟩ := ba h1
  obtain ⟨a3, a4⟩ := ba h1
  obtain ⟨b1, h⟩ := ba h
  obtain ⟨b2, h⟩ := ba h
  obtain ⟨b3, b4⟩ := ba h
  exact ⟨⟨a1, a2, a3, eqO_ok a4⟩, eqO_ok b1, eqO_ok b2, of_decide_eq_true b3, of_decide_eq_true b4⟩
def xsB (K : PySem.W.Frag) (C : Addr) : Bool := xfB K C && ((PySem.W.clsIn K C).isSome && (eqO (PySem.W.findIn K (.ref C) "__class__") (some (some (.builtin "object.__class__"))) && (eqO (PySem.W.specialIn K (.builtin "object.__class__") "__get__") (some (some (.builtin "getset_descriptor.__get__"))) && (decide (PySem.W.takesIn K (.builtin "object.__class__") = some true) && decide (PySem.W.mroIn K C (.type "object") = some true)))))
theorem xsB_ok {K : PySem.W.Frag} {C : Addr} (h : xsB K C = true) : XsC K C := by
  obtain ⟨h1, h⟩ := ba h
  obtain ⟨h2, h⟩ := ba h
  obtain ⟨b1, h⟩ := ba h
  obtain ⟨b2, h⟩ := ba h
  obtain ⟨b3, b4⟩ := ba h
  exact ⟨xfB_ok h1, h2, eqO_ok b1, eqO_ok b2, of_decide_eq_true b3, of_decide_eq_true b4⟩
def lstB (K : PySem.W.Frag) (C : Addr) : Bool := eqO (PySem.W.findIn K (.ref C) "__iter__") (some (some (.ref (ma K C "__iter__")))) && (PySem.W.isFn K (.ref (ma K C "__iter__")) && (eqO (PySem.W.findIn K (.ref C) "__len__") (some (some (.ref (ma K C "__len__")))) && PySem.W.isFn K (.ref (ma K C "__len__"))))
theorem lstB_ok {K : PySem.W.Frag} {C : Addr} (h : lstB K C = true) : LsO K C (ma K C "__iter__") (ma K C "__len__") := by
  obtain ⟨h1, h⟩ := ba h
  obtain ⟨h2, h⟩ := ba h
  obtain ⟨h3, h4⟩ := ba h
  exact ⟨eqO_ok h1, h2, eqO_ok h3, h4⟩
def Fb.ok (K : PySem.W.Frag) : Fb → Bool
  | .fa f => f.ok K
  | .ins x => insB K (ga K x)
  | .one t u r => decide (PySem.W.kitOne K (vd K t) (vd K u) = some r)
  | .any t us r => decide (PySem.W.kitAny K (vd K t) (us.map (vd K)) = some r)
  | .xs x => xsB K (ga K x)
  | .lst x => lstB K (ga K x)
/-- an own exception's __init__ -/
structure XD where
  x : Str
  qual : Str
  params : Arguments
  body : List Stmt
  scope : Scope
abbrev FnC : Type := Option (Str × Str × Arguments × FuncBody × Scope × Addr × List Str × Addr)
def fnC (K : PySem.W.Frag) (p : Str × Option Str) : FnC := match K.lookup (fAd K p) with
  | some ⟨_, _, .func fd, _⟩ => some (fd.name, fd.qualname, fd.params, fd.body, fd.scope, fd.globals, fd.closure.map (·.1), fd.builtins)
  | _ => none
def XD.val (d : XD) : FnC := some ("__init__", d.qual, d.params, .stmts d.body, d.scope, mainGlobals, ["__class__"], builtinsNs)
def noneB : Value → Bool
  | .none => true
  | _ => false
theorem noneB_ok {v : Value} (h : noneB v = true) : v = .none := by
  cases v <;> first | rfl | cases h
def fileB (file : Str) (K : PySem.W.Frag) (c : Value) : Bool := match c with
  | .ref a => (match K.lookup a with
    | some ⟨_, _, .fields vs, _⟩ => (match (vs[2]? : Option Value) with
      | some (Value.str f _) => (file : Str) == f
      | _ => false)
    | _ => false)
  | _ => false
def cellB (K : PySem.W.Frag) (C : Addr) : List (Str × Addr) → Bool
  | [(_, cc)] => (match K.lookup cc with
    | some ⟨_, _, .cell (some (.ref c)), _⟩ => decide (c = C)
    | _ => false)
  | _ => false
def XD.fnB (file : Str) (K : PySem.W.Frag) (d : XD) : Bool := match K.lookup (fAd K (d.x, some "__init__")) with
  | some ⟨_, _, .func fd, _⟩ => PySem.W.codeIn K fd.code d.qual && (noneB fd.defaults && (noneB fd.kwdefaults && (fileB file K fd.code && cellB K (ga K d.x) fd.closure)))
  | _ => false
def clB (K : PySem.W.Frag) (C : Addr) : Bool := match PySem.W.clsIn K C with
  | some cd => PySem.HandSPX.refsVE cd.mro && cd.hasDict
  | none => false
def XD.clB2 (K : PySem.W.Frag) (d : XD) : Bool := eqO (PySem.W.findIn K (.ref (ga K d.x)) "__init__") (some (some (.ref (fAd K (d.x, some "__init__"))))) && (PySem.W.isFn K (.ref (fAd K (d.x, some "__init__"))) && (eqO (PySem.W.findIn K (.ref (ga K d.x)) "__setattr__") (some (some (.builtin "object.__setattr__"))) &&
  (eqO (PySem.W.ks_superIn K (ga K d.x) (ga K d.x) "__init__") (some (some (.builtin "ValueError.__init__"))) && (decide (PySem.W.subIn K (.ref (ga K d.x)) (.type "ValueError") = some true) && (decide (PySem.W.mroIn K (ga K d.x) (.ref (ga K d.x)) = some true) &&
  (decide (PySem.W.subIn K (.ref (ga K d.x)) (.type "BaseException") = some true) && (decide (PySem.W.typeIn K (.ref (ga K d.x)) = some (.type "type")) && PySem.W.keepIn K (.ref (ga K d.x)))))))))
def XD.ok (file : Str) (K : PySem.W.Frag) (d : XD) : Bool := eqO (PySem.W.nsIn K mainGlobals d.x) (some (some (.ref (ga K d.x)))) && (eqO (PySem.W.nsIn K mainGlobals "super") (some none) && (clB K (ga K d.x) && (PySem.W.excInitIn K (ga K d.x) PySem.TLX.ve "ValueError.__new__" &&
  (d.clB2 K && (eqO (PySem.W.nsIn K cStatics "thirdparty.any") (some none) && d.fnB file K)))))
theorem xd_ok {P : Program} {K : PySem.W.Frag} {h : Heap} {mg : Str → Option Value} {d : XD} {nms : List (Str × NameKind)} (X : K.In h) (G : h.Ns mainGlobals mg) (e : fnC K (d.x, some "__init__") = d.val) (c : d.ok P.main.file K = true) (hs : d.scope = PySem.TLX.sco nms)
    (top : (P.main.scope.names.lookup ("super" : Str)).isSome = false) (par : ∃ (ar : Arg), (d.params.posonlyargs ++ d.params.args).head? = some ar ∧ ar.arg = "self") (s1 : nms.lookup ("super" : Str) = some .globalImplicit) (s2 : nms.lookup ("__class__" : Str) = some .free) (s3 : nms.lookup ("self" : Str) = some .local) (s4 : ∀ y ∈ nms, y.2 ≠ .cell) :
    PySem.TLX.XTxt P K mg d.x (ga K d.x) (fAd K (d.x, some "__init__")) d.qual d.params d.body nms := by
  obtain ⟨c1, c⟩ := ba c
  obtain ⟨c2, c⟩ := ba c
  obtain ⟨c3, c⟩ := ba c
  obtain ⟨c4, c⟩ := ba c
  obtain ⟨c5, c⟩ := ba c
  obtain ⟨c6, c7⟩ := ba c
  obtain ⟨d1, c5⟩ := ba c5
  obtain ⟨d2, c5⟩ := ba c5
  obtain ⟨d3, c5⟩ := ba c5
  obtain ⟨d4, c5⟩ := ba c5
  obtain ⟨d5, c5⟩ := ba c5
  obtain ⟨d6, c5⟩ := ba c5
  obtain ⟨d7, c5⟩ := ba c5
  obtain ⟨d8, d9⟩ := ba c5
  have hcls : ∃ cd, PySem.W.clsIn K (ga K d.x) = some cd ∧ PySem.HandSPX.refsVE cd.mro = true ∧ cd.hasDict = true := by
    unfold clB at c3
    split at c3
    · rename_i cd ec
      exact ⟨cd, ec, (ba c3).1, (ba c3).2⟩
    · cases c3
  have hfn : ∃ (oc : Value) (od : Option Addr) (doc pm : Value) (an : Option Addr) (cda : Addr) (ct : Value) (osl : Array (Option Value)) (cc : Addr),
      K.lookup (fAd K (d.x, some "__init__")) = some ⟨oc, od, .func (PySem.W.ksFn "__init__" d.qual d.params d.body (PySem.TLX.sco nms) .none .none doc pm an (.ref cda) ct cc), osl⟩ ∧ PySem.W.codeIn K (.ref cda) d.qual = true ∧
      (∃ (k1 : Value) (k2 : Option Addr) (vs : Array Value) (k3 : Array (Option Value)) (file : Str) (tf : Tok), K.lookup cda = some ⟨k1, k2, .fields vs, k3⟩ ∧ vs[2]? = some (.str file tf) ∧ ((P.main.file : Str) == file) = true) ∧
      ∃ (k1 : Value) (k2 : Option Addr) (k3 : Array (Option Value)), K.lookup cc = some ⟨k1, k2, .cell (some (.ref (ga K d.x))), k3⟩ := by
    unfold XD.fnB at c7
    unfold fnC at e
    cases q : K.lookup (fAd K (d.x, some "__init__")) with
    | none => rw [q] at c7; cases c7
    | some o =>
      obtain ⟨oc, od, dt, osl⟩ := o
      rw [q] at c7 e
      cases dt with
      | func fd =>
        obtain ⟨n1, n2, n3, n4, n5, n6, n7, n8, n9, n10, n11, n12, n13, n14, n15⟩ := fd
        have e2 : (some (n1, n2, n3, n4, n5, n6, n7.map (·.1), n15) : FnC) = d.val := e
        unfold XD.val at e2
        simp only [Option.some.injEq, Prod.mk.injEq] at e2
        obtain ⟨h1, h2, h3, h4, h5, h6, h7, h8⟩ := e2
        have c8 : (PySem.W.codeIn K n13 d.qual && (noneB n8 && (noneB n9 && (fileB P.main.file K n13 && cellB K (ga K d.x) n7)))) = true := c7
        obtain ⟨k1, c9⟩ := ba c8
        obtain ⟨k2, c10⟩ := ba c9
        obtain ⟨k3, c11⟩ := ba c10
        obtain ⟨k4, k5⟩ := ba c11
        cases noneB_ok k2
        cases noneB_ok k3
        unfold fileB at k4
        split at k4
        · rename_i a
          split at k4
          · rename_i m1 m2 vs m3 em
            split at k4
            · rename_i f tf ef
              cases n7 with
              | nil => cases k5
              | cons q7 r7 =>
                obtain ⟨nm, cc⟩ := q7
                cases r7 with
                | cons _ _ => cases k5
                | nil =>
                  have k6 : (match K.lookup cc with
                    | some ⟨_, _, .cell (some (.ref c)), _⟩ => decide (c = ga K d.x)
                    | _ => false) = true := k5
                  split at k6
                  · rename_i u1 u2 cD u3 eu
                    have ecd : cD = ga K d.x := of_decide_eq_true k6
                    subst ecd
                    have enm : nm = ("__class__" : Str) := by simpa using h7
                    subst h1 h2 h3 h4 h6 h8 enm
                    rw [h5, hs]
                    exact ⟨oc, od, n10, n11, n12, a, n14, osl, cc, rfl, k1, ⟨m1, m2, vs, m3, f, tf, em, ef, k4⟩, u1, u2, u3, eu⟩
                  · cases k6
            · cases k4
          · cases k4
        · cases k4
      | _ => cases c7
  exact ⟨PySem.W.mg_of X G (eqO_ok c1), PySem.W.mg_none_of X G (eqO_ok c2), hcls, c4, eqO_ok d1, d2, eqO_ok d3, eqO_ok d4, of_decide_eq_true d5, of_decide_eq_true d6, of_decide_eq_true d7, of_decide_eq_true d8, d9, eqO_ok c6, hfn, top, par, s1, s2, s3, s4⟩
/-! ### the Hook -/
def asX (g : Addr → Option Obj) : Nat → List Addr
  | 0 => [mainGlobals, cStatics]
  | n + 1 => growD g (asX g n)
abbrev AlX : Type := Bool × List FnW × List FnC
def obsX (file : Str) (fb : List Fb) (fn : List DefD) (xd : List XD) (K : PySem.W.Frag) : AlX := ((fb.all fun f => f.ok K) && ((fn.all fun d => d.ok K) && xd.all fun d => d.ok file K), fn.map fun d => fnW K d.at_, xd.map fun d => fnC K (d.x, some "__init__"))
def valX (fn : List DefD) (xd : List XD) : AlX := (true, fn.map DefD.val, xd.map XD.val)
def SaysX (file : Str) (fb : List Fb) (fn : List DefD) (xd : List XD) (K : PySem.W.Frag) : Prop := obsX file fb fn xd K = valX fn xd
def obsXG (n : Nat) (file : Str) (fb : List Fb) (fn : List DefD) (xd : List XD) (g : Addr → Option Obj) : AlX := obsX file fb fn xd (frG g (asX g n))
def hookX (n : Nat) (file : Str) (fb : List Fb) (fn : List DefD) (xd : List XD) : PySem.W.Hook where
  α := AlX
  obs := fun s => obsXG n file fb fn xd s.heap.get?
  val := fun _ => valX fn xd
  says := fun _ h => ∃ K : PySem.W.Frag, K.In h ∧ SaysX file fb fn xd K
  of := fun _ _ e => ⟨_, frG_in, e⟩
  keeps := fun _ _ _ ⟨K, hK, c⟩ k => ⟨K, PySem.W.Frag.In.keeps hK k, c⟩
theorem obsXG_eq {n : Nat} {file : Str} {fb : List Fb} {fn : List DefD} {xd : List XD} {g : Addr → Option Obj} {s : Shared} (h : ∀ a, g a = s.heap.get? a) : obsXG n file fb fn xd g = (hookX n file fb fn xd).obs s := by
  have e : g = s.heap.get? := funext h
  rw [e] <;> rfl
section
variable {file : Str} {fb : List Fb} {fn : List DefD} {xd : List XD} {K : PySem.W.Frag}
theorem SaysX.bools (c : SaysX file fb fn xd K) : ((fb.all fun f => f.ok K) && ((fn.all fun d => d.ok K) && xd.all fun d => d.ok file K)) = true := congrArg (fun z : AlX => z.1) c
theorem SaysX.fact (c : SaysX file fb fn xd K) (i : Nat) {f : Fb} (h : fb[i]? = some f := by rfl) : f.ok K = true := List.all_eq_true.mp (ba c.bools).1 f (List.mem_of_getElem? h)
theorem SaysX.def_ (c : SaysX file fb fn xd K) (i : Nat) {d : DefD} (h : fn[i]? = some d := by rfl) : ∃ fd, FunD K d.name d.qual d.params d.body d.scope (d.dvs K) (d.kws K) (fAd K d.at_) fd := by
  have c2 := (ba (ba c.bools).2).1
  have e : fn.map (fun d => fnW K d.at_) = fn.map DefD.val := congrArg (fun z : AlX => z.2.1) c
  have e2 : (fn.map fun d => fnW K d.at_)[i]? = (fn.map DefD.val)[i]? := by rw [e]
  rw [List.getElem?_map, List.getElem?_map, h] at e2
  exact DefD.funD (Option.some.inj e2) (List.all_eq_true.mp c2 d (List.mem_of_getElem? h))
theorem SaysX.exc (c : SaysX file fb fn xd K) (i : Nat) {d : XD} (h : xd[i]? = some d := by rfl) : fnC K (d.x, some "__init__") = d.val ∧ d.ok file K = true := by
  have c2 := (ba (ba c.bools).2).2
  have e : (xd.map fun d => fnC K (d.x, some "__init__")) = xd.map XD.val := congrArg (fun z : AlX => z.2.2) c
  have e2 : (xd.map fun d => fnC K (d.x, some "__init__"))[i]? = (xd.map XD.val)[i]? := by rw [e]
  rw [List.getElem?_map, List.getElem?_map, h] at e2
  exact ⟨Option.some.inj e2, List.all_eq_true.mp c2 d (List.mem_of_getElem? h)⟩
end
/-- the law's end, the exceptions' shape by world -/
theorem walk_w {l : PySem.W.OpenLaw} {n k : Nat} {q : Program} {loose : List Str} {XP : (Str → Option Value) → Heap → Prop} {YP : World → Heap → Prop} {d : DefRec} {x : Str} (hn : l.most = some n) (hn2 : n ≤ sizeLine) (hdf : d.params.defaults = []) (hr : Room k callerA)
    (F : ∀ (w : World) (mg : Str → Option Value) (fa : Addr) (h : Heap), YP w h → h.Ns mainGlobals mg → mg d.name = some (.ref fa) → ∃ (K : PySem.W.Frag) (fd : FuncData) (sp : Sp), K.In h ∧ (∀ (s : Shared) (u : Value), BindsTo s fd ⟨[u], []⟩ [(x, u)]) ∧
      (∀ (H : Hp) (a : Addr) (ns : List Int), ns.length ≤ n → Only H → SqL K H a (ns.map V.int) → sp [.ref a] H (fun v _ => v = .bl true) fun _ _ _ => False) ∧ ∀ base : Heap, K.In base → base.Ns mainGlobals mg → FnOk l.prog w K mg base (L2.CX l.prog w) k fa fd [x] sp) :
    PySem.W.WalkO q loose XP YP l.row.toRowW d [] (fun f vs => PySem.call f vs) := by
  refine Att.attach_call hn hdf fun w s₀ s₁ mg mb fa o pm cd doc a vs ns G Y ho hd hcd hmg hobj hints hlen hg => ?_
  obtain ⟨K, fd, sp, KX, hb, hsp, hF⟩ := F w mg fa _ Y G.T.g hmg
  refine law_call KX G.T.g G.T.b G.T.builtins G.T.nolimit hg hobj hints (Nat.le_trans hlen hn2) hr hF hb (fun H hO hS => hsp H a ns hlen hO hS) fun H e s' z => ?_
  obtain ⟨_, _, _, _, _, _, _, _, _, _, _, _, h⟩ := z
  exact h
/-- the law's list -/
theorem scr_of {G : GT} {H : Hp} {a : Addr} {ns : List Int} (hO : Only H) (h : SqL G.K H a (ns.map V.int)) : ScR G H a ns := by
  rcases h with (h | ⟨o, h⟩) | h
  · rcases hO a with z | ⟨o, xs, z⟩ <;> rw [z] at h <;> cases h
  · exact .inl ⟨o, h⟩
  · exact .inr h
end HX
set_option Elab.async false
set_option linter.all false
set_option maxRecDepth 100000
set_option maxHeartbeats 4000000
namespace K07
open PySem PySem.Spec PyProof.Rows L2 TL
def top (i : Nat) : Stmt := PySem.Challenge.pw_calmmornings_k07_row_or_ring.main.body.getD i (.Pass ⟨0, 0, 0, 0⟩)
def cnm : Nat → Str
  | 0 => "Net"
  | _ => ""
def xnm : Nat → Str
  | 0 => "MorningError"
  | 1 => "BadNumber"
  | 2 => "BadRow"
  | 3 => "BadNet"
  | 4 => "BadMoves"
  | 5 => "HasRing"
  | _ => ""
def cfs : Nat → List Str
  | 0 => ["size", "arcs"]
  | _ => []
def xfs : Nat → List Str
  | 0 => []
  | 1 => ["name"]
  | 2 => ["place"]
  | 3 => ["place"]
  | 4 => ["place"]
  | 5 => ["ring"]
  | _ => []
def gt (K : PySem.W.Frag) : GT := { K := K, C := fun c => He.ga K (cnm c), nm := cfs, X := fun c => He.ga K (xnm c), xn := xfs }
def ix_arcs : Nat → Option Nat
  | 0 => some 1
  | _ => none
def ix_size : Nat → Option Nat
  | 0 => some 0
  | _ => none
def is_Net : Ty → Option Bool
  | .cls 0 => some true
  | .cls _ => none
  | _ => some false
def cat_BadNet : Nat → Option Bool
  | 0 => some false
  | 1 => some false
  | 2 => some false
  | 3 => some true
  | 4 => some false
  | 5 => some false
  | _ => none
def cat_BadNumber : Nat → Option Bool
  | 0 => some false
  | 1 => some true
  | 2 => some false
  | 3 => some false
  | 4 => some false
  | 5 => some false
  | _ => none
def cat_BadRow : Nat → Option Bool
  | 0 => some false
  | 1 => some false
  | 2 => some true
  | 3 => some false
  | 4 => some false
  | 5 => some false
  | _ => none
def cat_HasRing : Nat → Option Bool
  | 0 => some false
  | 1 => some false
  | 2 => some false
  | 3 => some false
  | 4 => some false
  | 5 => some true
  | _ => none
/-! ### meanings -/
/-- _law_draws; slots 0 script, 1 draws, 2 at, 3 cell, 4 k, 5 number -/
abbrev m_law_draws_b0 : MSt :=
  sIf (mB (m2 gGt (mVar 3) (mC (.int 0)))) (sSeq (sApp (mVar 1) (m2 gMod (mCall gInt (lCons (mVar 3) (lNil))) (mC (.int 30))))
  (sSet 3 (m2 gDiv (mVar 3) (mC (.int 30))))) (sNil)
abbrev m_law_draws_b1 : MSt :=
  sSeq (sSet 5 (m2 gMod (mCall gInt (lCons (m2 gPlus (m2 gPlus (m2 gPlus (m2 gTimes (mVar 5) (mVar 5)) (m2 gTimes (mVar 4) (mC (.int 433494437)))) (mVar 2)) (mC (.int 11))) (lNil))) (mC (.int 2147483587))))
  (sApp (mVar 1) (m2 gDiv (mCall gInt (lCons (mVar 5) (lNil))) (mC (.int 31))))
abbrev m_law_draws_b2 : MSt :=
  sSeq (sSet 3 (mCall gInt (lCons (m2 gIx (mVar 0) (mVar 2)) (lNil))))
  (sSeq (sIf (mB (m2 gLt (mVar 3) (mC (.int 0)))) (sSet 3 (m2 gSub (mC (.int 3)) (m2 gTimes (mC (.int 2)) (mVar 3)))) (sNil))
  (sIf (mB (m2 gGe (mVar 3) (m2 gPow (mC (.int 10)) (mC (.int 18))))) (sFor (mI gRng1 (lCons (mC (.int 40)) (lNil))) (bName 4) (m_law_draws_b0)) (sSeq (sSet 5 (m2 gMod (mCall gInt (lCons (m2 gPlus (m2 gPlus (m2 gTimes (mVar 3) (mC (.int 39916801))) (m2 gTimes (mVar 2) (mC (.int 27644437)))) (mC (.int 5))) (lNil))) (mC (.int 2147483629))))
  (sFor (mI gRng1 (lCons (mC (.int 6)) (lNil))) (bName 4) (m_law_draws_b1)))))
def m_law_draws : MSt :=
  sSeq (sSet 1 (mLst (oNil)))
  (sSeq (sFor (mI gRng1 (lCons (mCall gMin (lCons (mCall gLen (lCons (mVar 0) (lNil))) (lCons (mC (.int 63)) (lNil)))) (lNil))) (bName 2) (m_law_draws_b2))
  (sSeq (sRev (mVar 1))
  (sRet (mVar 1))))
def f_law_draws : FM := fnM 6 m_law_draws
/-- _law_take; slots 0 draws, 1 many -/
def m_law_take : MSt :=
  sSeq (sIf (mB (m2 (gEq false) (mCall gLen (lCons (mVar 0) (lNil))) (mC (.int 0)))) (sRet (mC (.int 0))) (sNil))
  (sRet (m2 gMod (mCall gInt (lCons (mPopD (mVar 0)) (lNil))) (mVar 1)))
def f_law_take : FM := fnM 2 m_law_take
/-- _law_net; slots 0 draws, 1 sure, 2 size, 3 scale, 4 heights, 5 arcs, 6 k, 7 a, 8 b, 9 length, 10 node -/
abbrev m_law_net_b0 : M RV :=
  m2 gTimes (mVar 3) (m2 gSub (m2 gMod (mCall gInt (lCons (m2 gPlus (mFn f_law_take 2 [] (pCons toP (mVar 0) (pCons toP (mC (.int 13)) (pNil)))) (m2 gTimes (mC (.int 5)) (mVar 10))) (lNil))) (mC (.int 13))) (mC (.int 6)))
abbrev m_law_net_b1 : MSt :=
  sSeq (sSet 7 (m2 gMod (mCall gInt (lCons (m2 gPlus (mVar 6) (mFn f_law_take 2 [] (pCons toP (mVar 0) (pCons toP (mVar 2) (pNil))))) (lNil))) (mVar 2)))
  (sSeq (sSet 8 (m2 gMod (mCall gInt (lCons (m2 gPlus (m2 gPlus (mVar 6) (mC (.int 1))) (mFn f_law_take 2 [] (pCons toP (mVar 0) (pCons toP (mVar 2) (pNil))))) (lNil))) (mVar 2)))
  (sSeq (sSet 9 (m2 gTimes (mVar 3) (m2 gIx (mLst (oCons (mC (.int 1)) (oCons (mNeg (mC (.int 1))) (oCons (mC (.int 2)) (oCons (mC (.int 0)) (oCons (mC (.int 3)) (oCons (mNeg (mC (.int 2))) (oCons (mC (.int 5)) (oCons (mC (.int 4)) (oNil)))))))))) (mFn f_law_take 2 [] (pCons toP (mVar 0) (pCons toP (mC (.int 8)) (pNil)))))))
  (sSeq (sIf (mB (mVar 1)) (sSet 9 (m2 gPlus (m2 gSub (m2 gIx (mVar 4) (mVar 8)) (m2 gIx (mVar 4) (mVar 7))) (mCall gAbs (lCons (mVar 9) (lNil))))) (sNil))
  (sApp (mVar 5) (mTup (aCons (mVar 7) (aCons (mVar 8) (aCons (mVar 9) (aNil)))))))))
def m_law_net : MSt :=
  sSeq (sSet 2 (m2 gIx (mLst (oCons (mC (.int 3)) (oCons (mC (.int 1)) (oCons (mC (.int 4)) (oCons (mC (.int 2)) (oCons (mC (.int 5)) (oCons (mC (.int 6)) (oCons (mC (.int 3)) (oNil))))))))) (mFn f_law_take 2 [] (pCons toP (mVar 0) (pCons toP (mC (.int 7)) (pNil))))))
  (sSeq (sSet 3 (m2 gIx (mLst (oCons (mC (.int 1)) (oCons (mC (.int 1)) (oCons (m2 gPow (mC (.int 10)) (mC (.int 12))) (oCons (mC (.int 1)) (oCons (m2 gPow (mC (.int 10)) (mC (.int 24))) (oNil))))))) (mFn f_law_take 2 [] (pCons toP (mVar 0) (pCons toP (mC (.int 5)) (pNil))))))
  (sSeq (sSet 4 (mLc [10] (mI gRng1 (lCons (mVar 2) (lNil))) (bName 10) (tYes') (m_law_net_b0)))
  (sSeq (sSet 5 (mLst (oNil)))
  (sSeq (sFor (mI gRng1 (lCons (m2 gIx (mLst (oCons (mC (.int 4)) (oCons (mC (.int 6)) (oCons (mC (.int 2)) (oCons (mC (.int 9)) (oCons (mC (.int 0)) (oCons (mC (.int 12)) (oCons (mC (.int 5)) (oNil))))))))) (mFn f_law_take 2 [] (pCons toP (mVar 0) (pCons toP (mC (.int 7)) (pNil))))) (lNil))) (bName 6) (m_law_net_b1))
  (sRet (mLst (oCons (mVar 2) (oCons (mVar 5) (oCons (mVar 4) (oNil))))))))))
def f_law_net : FM := fnM 11 m_law_net
/-- is_whole; slots 0 value -/
def m_is_whole : MSt :=
  sRet (mAndV (mIsi (tIn ["int"]) (mVar 0)) (mNotV (mIsi (tIn ["bool"]) (mVar 0))))
def f_is_whole : FM := fnM 1 m_is_whole
/-- is_triple; slots 0 size, 1 triple, 2 part -/
abbrev m_is_triple_b0 : MSt :=
  sIf (mNot (mB (mFn f_is_whole 1 [] (pCons toP (mVar 2) (pNil))))) (sRet (mC (.bl false))) (sNil)
def m_is_triple : MSt :=
  sSeq (sIf (mOr (mNot (mB (mIsi (tIn ["list", "tuple"]) (mVar 1)))) (mB (m2 (gEq true) (mCall gLen (lCons (mVar 1) (lNil))) (mC (.int 3))))) (sRet (mC (.bl false))) (sNil))
  (sSeq (sFor (mSeq (mVar 1)) (bName 2) (m_is_triple_b0))
  (sRet (mAndV (mChain gLe gLt (mC (.int 0)) (m2 gIx (mVar 1) (mC (.int 0))) (mVar 0)) (mChain gLe gLt (mC (.int 0)) (m2 gIx (mVar 1) (mC (.int 1))) (mVar 0)))))
def f_is_triple : FM := fnM 3 m_is_triple
/-- arc_rows; slots 0 size, 1 arcs, 2 place, 3 triple -/
abbrev m_arc_rows_b0 : MSt :=
  sIf (mNot (mB (mFn f_is_triple 2 [] (pCons toP (mVar 0) (pCons toP (mVar 3) (pNil)))))) (sRaise 3 1 (aCons (mVar 2) (aNil))) (sNil)
abbrev m_arc_rows_b1 : M RV :=
  mCall gTuple (lCons (mVar 3) (lNil))
def m_arc_rows : MSt :=
  sSeq (sIf (mNot (mB (mIsi (tIn ["list", "tuple"]) (mVar 1)))) (sRaise 3 1 (aCons (mNeg (mC (.int 1))) (aNil))) (sNil))
  (sSeq (sFor (mI gEnum (aCons (mVar 1) (aNil))) (bTup 2 (bCons (bName 2) (bCons (bName 3) (bNil)))) (m_arc_rows_b0))
  (sRet (mCall gTuple (lCons (mLc [3] (mSeq (mVar 1)) (bName 3) (tYes') (m_arc_rows_b1)) (lNil)))))
def f_arc_rows : FM := fnM 4 m_arc_rows
/-- Net.__init__; slots 0 self, 1 size, 2 arcs -/
def m_Net__init : MSt :=
  sSeq (sIf (mOr (mNot (mB (mFn f_is_whole 1 [] (pCons toP (mVar 1) (pNil))))) (mB (m2 gLt (mVar 1) (mC (.int 1))))) (sRaise 1 1 (aCons (mC (.str "size")) (aNil))) (sNil))
  (sSeq (sFld0 0 0 0 (mVar 1))
  (sFld0 0 0 1 (mFn f_arc_rows 2 [] (pCons toP (mVar 1) (pCons toP (mVar 2) (pNil))))))
def f_Net__init : FM := fnI 3 0 2 m_Net__init
/-- _law_int; slots 0 value -/
def m_law_int : MSt :=
  sRet (mAndV (mIsi (tIn ["int"]) (mVar 0)) (mNotV (mIsi (tIn ["bool"]) (mVar 0))))
def f_law_int : FM := fnM 1 m_law_int
/-- _law_ints; slots 0 value, 1 size, 2 one -/
abbrev m_law_ints_b0 : MSt :=
  sIf (mNot (mB (mFn f_law_int 1 [] (pCons toP (mVar 2) (pNil))))) (sRet (mC (.bl false))) (sNil)
def m_law_ints : MSt :=
  sSeq (sIf (mOr (mNot (mB (mIsi (tIn ["tuple"]) (mVar 0)))) (mB (m2 (gEq true) (mCall gLen (lCons (mVar 0) (lNil))) (mVar 1)))) (sRet (mC (.bl false))) (sNil))
  (sSeq (sFor (mSeq (mVar 0)) (bName 2) (m_law_ints_b0))
  (sRet (mC (.bl true))))
def f_law_ints : FM := fnM 3 m_law_ints
/-- Net.__len__; slots 0 self -/
def m_Net__len : MSt :=
  sRet (mCall gLen (lCons (mFld ix_arcs (mVar 0)) (lNil)))
def f_Net__len : FM := fnM 1 m_Net__len
/-- _law_first_broken; slots 0 arcs, 1 row, 2 number -/
abbrev m_law_first_broken_b0 : MSt :=
  sIf (mB (m2 gGt (m2 gIx (mVar 1) (m2 gIx (m2 gIx (mVar 0) (mVar 2)) (mC (.int 1)))) (m2 gPlus (m2 gIx (mVar 1) (m2 gIx (m2 gIx (mVar 0) (mVar 2)) (mC (.int 0)))) (m2 gIx (m2 gIx (mVar 0) (mVar 2)) (mC (.int 2)))))) (sRet (mVar 2)) (sNil)
def m_law_first_broken : MSt :=
  sSeq (sFor (mI gRng1 (lCons (mCall gLen (lCons (mVar 0) (lNil))) (lNil))) (bName 2) (m_law_first_broken_b0))
  (sRet (mC .non))
def f_law_first_broken : FM := fnM 3 m_law_first_broken
/-- given_net; slots 0 net, 1 name -/
def m_given_net : MSt :=
  sIf (mNot (mB (mIsi is_Net (mVar 0)))) (sRaise 1 1 (aCons (mVar 1) (aNil))) (sNil)
def f_given_net : FM := fnM 2 m_given_net
/-- whole_row; slots 0 value, 1 size, 2 low, 3 at, 4 entry -/
abbrev m_whole_row_b0 : MSt :=
  sIf (mOr (mNot (mB (mFn f_is_whole 1 [] (pCons toP (mVar 4) (pNil))))) (mAnd (mB (m2 (gIs true) (mVar 2) (mC .non))) (mB (m2 gLt (mVar 4) (mVar 2))))) (sRaise 2 1 (aCons (mVar 3) (aNil))) (sNil)
def m_whole_row : MSt :=
  sSeq (sIf (mNot (mB (mIsi (tIn ["list", "tuple"]) (mVar 0)))) (sRaise 2 1 (aCons (mNeg (mC (.int 1))) (aNil))) (sNil))
  (sSeq (sIf (mAnd (mB (m2 (gIs true) (mVar 1) (mC .non))) (mB (m2 (gEq true) (mCall gLen (lCons (mVar 0) (lNil))) (mVar 1)))) (sRaise 2 1 (aCons (mNeg (mC (.int 1))) (aNil))) (sNil))
  (sSeq (sFor (mI gEnum (aCons (mVar 0) (aNil))) (bTup 2 (bCons (bName 3) (bCons (bName 4) (bNil)))) (m_whole_row_b0))
  (sRet (mCall gTuple (lCons (mVar 0) (lNil))))))
def f_whole_row : FM := fnM 5 m_whole_row
/-- broken_arc; slots 0 net, 1 row, 2 heights, 3 number, 4 a, 5 b, 6 length -/
abbrev m_broken_arc_b0 : MSt :=
  sIf (mB (m2 gGt (m2 gIx (mVar 2) (mVar 5)) (m2 gPlus (m2 gIx (mVar 2) (mVar 4)) (mVar 6)))) (sRet (mVar 3)) (sNil)
def m_broken_arc : MSt :=
  sSeq (sExpr (mFn f_given_net 2 [.str "net"] (pCons toP (mVar 0) (pNil))))
  (sSeq (sSet 2 (mFn f_whole_row 3 [.non] (pCons toP (mVar 1) (pCons toP (mFld ix_size (mVar 0)) (pNil)))))
  (sSeq (sFor (mI gEnum (aCons (mFld ix_arcs (mVar 0)) (aNil))) (bTup 2 (bCons (bName 3) (bCons (bTup 3 (bCons (bName 4) (bCons (bName 5) (bCons (bName 6) (bNil))))) (bNil)))) (m_broken_arc_b0))
  (sRet (mC .non))))
def f_broken_arc : FM := fnM 7 m_broken_arc
/-- keeps; slots 0 net, 1 row -/
def m_keeps : MSt :=
  sRet (m2 (gIs false) (mFn f_broken_arc 2 [] (pCons toP (mVar 0) (pCons toP (mVar 1) (pNil)))) (mC .non))
def f_keeps : FM := fnM 2 m_keeps
/-- _law_looks; slots 0 net, 1 arcs, 2 row, 3 due, 4 told, 5 verdict -/
def m_law_looks : MSt :=
  sSeq (sSet 3 (mFn f_law_first_broken 2 [] (pCons toP (mVar 1) (pCons toP (mVar 2) (pNil)))))
  (sSeq (sSet 4 (mFn f_broken_arc 2 [] (pCons toP (mVar 0) (pCons toP (mCall gList (lCons (mVar 2) (lNil))) (pNil)))))
  (sSeq (sSet 5 (mFn f_keeps 2 [] (pCons toP (mVar 0) (pCons toP (mCall gTuple (lCons (mVar 2) (lNil))) (pNil)))))
  (sSeq (sIf (mB (m2 (gIs false) (mVar 3) (mC .non))) (sRet (mAndV (m2 (gIs false) (mVar 4) (mC .non)) (m2 (gIs false) (mVar 5) (mC (.bl true))))) (sNil))
  (sRet (mAndV (mFn f_law_int 1 [] (pCons toP (mVar 4) (pNil))) (mAndV (m2 (gEq false) (mVar 4) (mVar 3)) (m2 (gIs false) (mVar 5) (mC (.bl false)))))))))
def f_law_looks : FM := fnM 6 m_law_looks
/-- _law_kept; slots 0 draws, 1 size, 2 arcs, 3 heights, 4 handed, 5 net, 6 k, 7 near, 8 at, 9 row, 10 arc, 11 node -/
abbrev m_law_kept_b0 : M RV :=
  mCall gList (lCons (mVar 10) (lNil))
abbrev m_law_kept_b1 : MSt :=
  sSeq (sSet 9 (m2 gIx (mVar 4) (mVar 6)))
  (sSub (mVar 9) (mC (.int 2)) (m2 gSub (m2 gIx (mVar 9) (mC (.int 2))) (mC (.int 7))))
abbrev m_law_kept_b2 : MSt :=
  sIf (mOr (mNot (mB (mFn f_law_ints 2 [] (pCons toP (m2 gIx (mFld ix_arcs (mVar 5)) (mVar 6)) (pCons toP (mC (.int 3)) (pNil)))))) (mB (m2 (gEq true) (m2 gIx (mFld ix_arcs (mVar 5)) (mVar 6)) (m2 gIx (mVar 2) (mVar 6))))) (sRet (mC (.bl false))) (sNil)
abbrev m_law_kept_b3 : M RV :=
  mC (.int 0)
def m_law_kept : MSt :=
  sSeq (sSet 4 (mLc [10] (mSeq (mVar 2)) (bName 10) (tYes') (m_law_kept_b0)))
  (sSeq (sSet 5 (mMk f_Net__init 3 0 2 [] (pCons toP (mVar 1) (pCons toLent (mVar 4) (pNil)))))
  (sSeq (sApp (mVar 4) (mLst (oCons (mC (.int 0)) (oCons (mC (.int 0)) (oCons (mNeg (mC (.int 1))) (oNil))))))
  (sSeq (sFor (mI gRng1 (lCons (mCall gLen (lCons (mVar 2) (lNil))) (lNil))) (bName 6) (m_law_kept_b1))
  (sSeq (sIf (mOr (mNot (mB (mFn f_law_int 1 [] (pCons toP (mFld ix_size (mVar 5)) (pNil))))) (mOr (mB (m2 (gEq true) (mFld ix_size (mVar 5)) (mVar 1))) (mOr (mNot (mB (mIsi (tIn ["tuple"]) (mFld ix_arcs (mVar 5))))) (mB (m2 (gEq true) (mCall gLen (lCons (mFld ix_arcs (mVar 5)) (lNil))) (mCall gLen (lCons (mVar 2) (lNil)))))))) (sRet (mC (.bl false))) (sNil))
  (sSeq (sFor (mI gRng1 (lCons (mCall gLen (lCons (mVar 2) (lNil))) (lNil))) (bName 6) (m_law_kept_b2))
  (sSeq (sIf (mOr (mB (m2 (gEq true) (mLenO 0 f_Net__len (mVar 5)) (mCall gLen (lCons (mVar 2) (lNil))))) (mB (m2 (gEq true) (mCall (gListO 0 1) (lCons (mVar 5) (lNil))) (mVar 2)))) (sRet (mC (.bl false))) (sNil))
  (sSeq (sSet 7 (mCall gList (lCons (mVar 3) (lNil))))
  (sSeq (sSet 8 (mFn f_law_take 2 [] (pCons toP (mVar 0) (pCons toP (mVar 1) (pNil)))))
  (sSeq (sSub (mVar 7) (mVar 8) (m2 gPlus (m2 gIx (mVar 7) (mVar 8)) (m2 gIx (mLst (oCons (mC (.int 2)) (oCons (mNeg (mC (.int 1))) (oCons (mC (.int 9)) (oCons (mC (.int 1)) (oCons (mNeg (m2 gPow (mC (.int 10)) (mC (.int 26)))) (oCons (mC (.int 0)) (oNil)))))))) (mFn f_law_take 2 [] (pCons toP (mVar 0) (pCons toP (mC (.int 6)) (pNil)))))))
  (sRet (mAndV (mFn f_law_looks 3 [] (pCons toP (mVar 5) (pCons toP (mVar 2) (pCons toP (mVar 3) (pNil))))) (mAndV (mFn f_law_looks 3 [] (pCons toP (mVar 5) (pCons toP (mVar 2) (pCons toP (mVar 7) (pNil))))) (mFn f_law_looks 3 [] (pCons toP (mVar 5) (pCons toP (mVar 2) (pCons toP (mLc [11] (mI gRng1 (lCons (mVar 1) (lNil))) (bName 11) (tYes') (m_law_kept_b3)) (pNil)))))))))))))))))
def f_law_kept : FM := fnM 12 m_law_kept
/-- _law_dists; slots 0 size, 1 arcs, 2 table, 3 a, 4 b, 5 length, 6 c -/
abbrev m_law_dists_b0 : M RV :=
  mC .non
abbrev m_law_dists_b1 : M RV :=
  mLc [4] (mI gRng1 (lCons (mVar 0) (lNil))) (bName 4) (tYes') (m_law_dists_b0)
abbrev m_law_dists_b2 : MSt :=
  sSub (m2 gIx (mVar 2) (mVar 3)) (mVar 3) (mC (.int 0))
abbrev m_law_dists_b3 : MSt :=
  sIf (mOr (mB (m2 (gIs false) (m2 gIx (m2 gIx (mVar 2) (mVar 3)) (mVar 4)) (mC .non))) (mB (m2 gLt (mVar 5) (m2 gIx (m2 gIx (mVar 2) (mVar 3)) (mVar 4))))) (sSub (m2 gIx (mVar 2) (mVar 3)) (mVar 4) (mVar 5)) (sNil)
abbrev m_law_dists_b4 : MSt :=
  sIf (mAnd (mB (m2 (gIs true) (m2 gIx (m2 gIx (mVar 2) (mVar 3)) (mVar 6)) (mC .non))) (mB (m2 (gIs true) (m2 gIx (m2 gIx (mVar 2) (mVar 6)) (mVar 4)) (mC .non)))) (sSeq (sSet 5 (m2 gPlus (m2 gIx (m2 gIx (mVar 2) (mVar 3)) (mVar 6)) (m2 gIx (m2 gIx (mVar 2) (mVar 6)) (mVar 4))))
  (sIf (mOr (mB (m2 (gIs false) (m2 gIx (m2 gIx (mVar 2) (mVar 3)) (mVar 4)) (mC .non))) (mB (m2 gLt (mVar 5) (m2 gIx (m2 gIx (mVar 2) (mVar 3)) (mVar 4))))) (sSub (m2 gIx (mVar 2) (mVar 3)) (mVar 4) (mVar 5)) (sNil))) (sNil)
abbrev m_law_dists_b5 : MSt :=
  sFor (mI gRng1 (lCons (mVar 0) (lNil))) (bName 4) (m_law_dists_b4)
abbrev m_law_dists_b6 : MSt :=
  sFor (mI gRng1 (lCons (mVar 0) (lNil))) (bName 3) (m_law_dists_b5)
def m_law_dists : MSt :=
  sSeq (sSet 2 (mLc [3] (mI gRng1 (lCons (mVar 0) (lNil))) (bName 3) (tYes') (m_law_dists_b1)))
  (sSeq (sFor (mI gRng1 (lCons (mVar 0) (lNil))) (bName 3) (m_law_dists_b2))
  (sSeq (sFor (mSeq (mVar 1)) (bTup 3 (bCons (bName 3) (bCons (bName 4) (bCons (bName 5) (bNil))))) (m_law_dists_b3))
  (sSeq (sFor (mI gRng1 (lCons (mVar 0) (lNil))) (bName 6) (m_law_dists_b6))
  (sRet (mVar 2)))))
def f_law_dists : FM := fnM 7 m_law_dists
/-- shortened; slots 0 net, 1 starts, 2 lengths, 3 links, 4 fell, 5 _, 6 number, 7 a, 8 b, 9 length -/
abbrev m_shortened_b0 : MSt :=
  sSeq (sIf (mB (m2 (gIs false) (m2 gIx (mVar 2) (mVar 7)) (mC .non))) (sCont) (sNil))
  (sIf (mOr (mB (m2 (gIs false) (m2 gIx (mVar 2) (mVar 8)) (mC .non))) (mB (m2 gLt (m2 gPlus (m2 gIx (mVar 2) (mVar 7)) (mVar 9)) (m2 gIx (mVar 2) (mVar 8))))) (sSeq (sSub (mVar 2) (mVar 8) (m2 gPlus (m2 gIx (mVar 2) (mVar 7)) (mVar 9)))
  (sSeq (sSub (mVar 3) (mVar 8) (mVar 6))
  (sSet 4 (mVar 8)))) (sNil))
abbrev m_shortened_b1 : MSt :=
  sSeq (sSet 4 (mC .non))
  (sSeq (sFor (mI gEnum (aCons (mFld ix_arcs (mVar 0)) (aNil))) (bTup 2 (bCons (bName 6) (bCons (bTup 3 (bCons (bName 7) (bCons (bName 8) (bCons (bName 9) (bNil))))) (bNil)))) (m_shortened_b0))
  (sIf (mB (m2 (gIs false) (mVar 4) (mC .non))) (sBreak) (sNil)))
def m_shortened : MSt :=
  sSeq (sSet 2 (mCall gList (lCons (mVar 1) (lNil))))
  (sSeq (sSet 3 (m2 gTimes (mLst (oCons (mC .non) (oNil))) (mFld ix_size (mVar 0))))
  (sSeq (sSet 4 (mC .non))
  (sSeq (sFor (mI gRng1 (lCons (mFld ix_size (mVar 0)) (lNil))) (bName 5) (m_shortened_b1))
  (sRet (mTup (aCons (mVar 2) (aCons (mVar 3) (aCons (mVar 4) (aNil)))))))))
def f_shortened : FM := fnM 10 m_shortened
/-- link_ring; slots 0 net, 1 links, 2 node, 3 _, 4 first, 5 ring -/
abbrev m_link_ring_b0 : MSt :=
  sSet 2 (m2 gIx (m2 gIx (mFld ix_arcs (mVar 0)) (m2 gIx (mVar 1) (mVar 2))) (mC (.int 0)))
abbrev m_link_ring_b1 : MSt :=
  sSeq (sApp (mVar 5) (m2 gIx (mVar 1) (mVar 2)))
  (sSeq (sSet 2 (m2 gIx (m2 gIx (mFld ix_arcs (mVar 0)) (m2 gIx (mVar 1) (mVar 2))) (mC (.int 0))))
  (sIf (mB (m2 (gEq false) (mVar 2) (mVar 4))) (sBreak) (sNil)))
def m_link_ring : MSt :=
  sSeq (sFor (mI gRng1 (lCons (mFld ix_size (mVar 0)) (lNil))) (bName 3) (m_link_ring_b0))
  (sSeq (sSet 4 (mVar 2))
  (sSeq (sSet 5 (mLst (oNil)))
  (sSeq (sFor (mI gRng1 (lCons (mFld ix_size (mVar 0)) (lNil))) (bName 3) (m_link_ring_b1))
  (sRet (mCall gTuple (lCons (mRevL (mVar 5)) (lNil)))))))
def f_link_ring : FM := fnM 6 m_link_ring
/-- ring_below; slots 0 net, 1 _, 2 links, 3 fell -/
def m_ring_below : MSt :=
  sSeq (sExpr (mFn f_given_net 2 [.str "net"] (pCons toP (mVar 0) (pNil))))
  (sSeq (sAsg (bTup 3 (bCons (bName 1) (bCons (bName 2) (bCons (bName 3) (bNil))))) (mFn f_shortened 2 [] (pCons toP (mVar 0) (pCons toP (m2 gTimes (mLst (oCons (mC (.int 0)) (oNil))) (mFld ix_size (mVar 0))) (pNil)))))
  (sSeq (sIf (mB (m2 (gIs false) (mVar 3) (mC .non))) (sRet (mC .non)) (sNil))
  (sRet (mFn f_link_ring 3 [] (pCons toP (mVar 0) (pCons toP (mVar 2) (pCons toP (mVar 3) (pNil))))))))
def f_ring_below : FM := fnM 4 m_ring_below
/-- ringless; slots 0 net, 1 ring -/
def m_ringless : MSt :=
  sSeq (sSet 1 (mFn f_ring_below 1 [] (pCons toP (mVar 0) (pNil))))
  (sIf (mB (m2 (gIs true) (mVar 1) (mC .non))) (sRaise 5 1 (aCons (mVar 1) (aNil))) (sNil))
def f_ringless : FM := fnM 2 m_ringless
/-- some_row; slots 0 net, 1 lengths, 2 _ -/
def m_some_row : MSt :=
  sSeq (sExpr (mFn f_ringless 1 [] (pCons toP (mVar 0) (pNil))))
  (sSeq (sAsg (bTup 3 (bCons (bName 1) (bCons (bName 2) (bCons (bName 2) (bNil))))) (mFn f_shortened 2 [] (pCons toP (mVar 0) (pCons toP (m2 gTimes (mLst (oCons (mC (.int 0)) (oNil))) (mFld ix_size (mVar 0))) (pNil)))))
  (sRet (mCall gTuple (lCons (mVar 1) (lNil)))))
def f_some_row : FM := fnM 3 m_some_row
/-- _law_has_row; slots 0 size, 1 arcs, 2 net, 3 row, 4 arc -/
abbrev m_law_has_row_b0 : M RV :=
  mCall gList (lCons (mVar 4) (lNil))
def m_law_has_row : MSt :=
  sSeq (sSet 2 (mMk f_Net__init 3 0 2 [] (pCons toP (mVar 0) (pCons toP (mLc [4] (mSeq (mVar 1)) (bName 4) (tYes') (m_law_has_row_b0)) (pNil)))))
  (sSeq (sIf (mB (m2 (gIs true) (mFn f_ring_below 1 [] (pCons toP (mVar 2) (pNil))) (mC .non))) (sRet (mC (.bl false))) (sNil))
  (sSeq (sSet 3 (mFn f_some_row 1 [] (pCons toP (mVar 2) (pNil))))
  (sRet (mAndV (mFn f_law_ints 2 [] (pCons toP (mVar 3) (pCons toP (mVar 0) (pNil)))) (mAndV (m2 (gIs false) (mFn f_law_first_broken 2 [] (pCons toP (mVar 1) (pCons toP (mVar 3) (pNil)))) (mC .non)) (mFn f_law_looks 3 [] (pCons toP (mVar 2) (pCons toP (mVar 1) (pCons toP (mVar 3) (pNil))))))))))
def f_law_has_row : FM := fnM 5 m_law_has_row
/-- _law_ring_good; slots 0 arcs, 1 ring, 2 number, 3 total, 4 met, 5 here -/
abbrev m_law_ring_good_b0 : MSt :=
  sIf (mOr (mNot (mB (mFn f_law_int 1 [] (pCons toP (mVar 2) (pNil))))) (mOr (mB (m2 gLt (mVar 2) (mC (.int 0)))) (mB (m2 gGe (mVar 2) (mCall gLen (lCons (mVar 0) (lNil))))))) (sRet (mC (.bl false))) (sNil)
abbrev m_law_ring_good_b1 : MSt :=
  sSeq (sIf (mB (m2 (gEq true) (m2 gIx (m2 gIx (mVar 0) (mVar 2)) (mC (.int 0))) (mVar 5))) (sRet (mC (.bl false))) (sNil))
  (sSeq (sSet 5 (m2 gIx (m2 gIx (mVar 0) (mVar 2)) (mC (.int 1))))
  (sSeq (sIf (mB (m2 (gIn false) (mVar 5) (mVar 4))) (sRet (mC (.bl false))) (sNil))
  (sSeq (sApp (mVar 4) (mVar 5))
  (sAug 3 gAddI (m2 gIx (m2 gIx (mVar 0) (mVar 2)) (mC (.int 2)))))))
def m_law_ring_good : MSt :=
  sSeq (sIf (mOr (mNot (mB (mIsi (tIn ["tuple"]) (mVar 1)))) (mOr (mB (m2 (gEq false) (mCall gLen (lCons (mVar 1) (lNil))) (mC (.int 0)))) (mB (m2 gGt (mCall gLen (lCons (mVar 1) (lNil))) (mCall gLen (lCons (mVar 0) (lNil))))))) (sRet (mC (.bl false))) (sNil))
  (sSeq (sFor (mSeq (mVar 1)) (bName 2) (m_law_ring_good_b0))
  (sSeq (sSet 3 (mC (.int 0)))
  (sSeq (sSet 4 (mLst (oNil)))
  (sSeq (sSet 5 (m2 gIx (m2 gIx (mVar 0) (m2 gIx (mVar 1) (m2 gSub (mCall gLen (lCons (mVar 1) (lNil))) (mC (.int 1))))) (mC (.int 1))))
  (sSeq (sFor (mSeq (mVar 1)) (bName 2) (m_law_ring_good_b1))
  (sRet (m2 gLt (mVar 3) (mC (.int 0)))))))))
def f_law_ring_good : FM := fnM 6 m_law_ring_good
/-- no_arc_at; slots 0 net, 1 numbers, 2 place, 3 number -/
abbrev m_no_arc_at_b0 : MSt :=
  sIf (mOr (mNot (mB (mFn f_is_whole 1 [] (pCons toP (mVar 3) (pNil))))) (mNot (mB (mChain gLe gLt (mC (.int 0)) (mVar 3) (mCall gLen (lCons (mFld ix_arcs (mVar 0)) (lNil))))))) (sRet (mVar 2)) (sNil)
def m_no_arc_at : MSt :=
  sSeq (sExpr (mFn f_given_net 2 [.str "net"] (pCons toP (mVar 0) (pNil))))
  (sSeq (sIf (mNot (mB (mIsi (tIn ["list", "tuple"]) (mVar 1)))) (sRet (mNeg (mC (.int 1)))) (sNil))
  (sSeq (sFor (mI gEnum (aCons (mVar 1) (aNil))) (bTup 2 (bCons (bName 2) (bCons (bName 3) (bNil)))) (m_no_arc_at_b0))
  (sRet (mC .non))))
def f_no_arc_at : FM := fnM 4 m_no_arc_at
/-- arc_numbers; slots 0 net, 1 numbers, 2 place -/
def m_arc_numbers : MSt :=
  sSeq (sSet 2 (mFn f_no_arc_at 2 [] (pCons toP (mVar 0) (pCons toP (mVar 1) (pNil)))))
  (sSeq (sIf (mB (m2 (gIs true) (mVar 2) (mC .non))) (sRaise 4 1 (aCons (mVar 2) (aNil))) (sNil))
  (sRet (mCall gTuple (lCons (mVar 1) (lNil)))))
def f_arc_numbers : FM := fnM 3 m_arc_numbers
/-- slacks; slots 0 net, 1 row, 2 ring, 3 heights, 4 told, 5 number, 6 a, 7 b, 8 length -/
abbrev m_slacks_b0 : MSt :=
  sSeq (sAsg (bTup 3 (bCons (bName 6) (bCons (bName 7) (bCons (bName 8) (bNil))))) (m2 gIx (mFld ix_arcs (mVar 0)) (mVar 5)))
  (sApp (mVar 4) (m2 gSub (m2 gPlus (m2 gIx (mVar 3) (mVar 6)) (mVar 8)) (m2 gIx (mVar 3) (mVar 7))))
def m_slacks : MSt :=
  sSeq (sExpr (mFn f_given_net 2 [.str "net"] (pCons toP (mVar 0) (pNil))))
  (sSeq (sSet 3 (mFn f_whole_row 3 [.non] (pCons toP (mVar 1) (pCons toP (mFld ix_size (mVar 0)) (pNil)))))
  (sSeq (sSet 4 (mLst (oNil)))
  (sSeq (sFor (mSeq (mFn f_arc_numbers 2 [] (pCons toP (mVar 0) (pCons toP (mVar 2) (pNil))))) (bName 5) (m_slacks_b0))
  (sRet (mCall gTuple (lCons (mVar 4) (lNil)))))))
def f_slacks : FM := fnM 9 m_slacks
/-- _law_has_ring; slots 0 size, 1 arcs, 2 row, 3 net, 4 ring, 5 caught, 6 alone, 7 told, 8 at, 9 error, 10 a, 11 b, 12 length, 13 number -/
abbrev m_law_has_ring_b0 : MSt :=
  sSeq (sAsg (bTup 3 (bCons (bName 10) (bCons (bName 11) (bCons (bName 12) (bNil))))) (m2 gIx (mVar 1) (m2 gIx (mVar 4) (mVar 8))))
  (sIf (mB (m2 (gEq true) (m2 gIx (mVar 7) (mVar 8)) (m2 gSub (m2 gPlus (m2 gIx (mVar 2) (mVar 10)) (mVar 12)) (m2 gIx (mVar 2) (mVar 11))))) (sRet (mC (.bl false))) (sNil))
abbrev m_law_has_ring_b1 : M RV :=
  m2 gIx (m2 gIx (mVar 1) (mVar 13)) (mC (.int 2))
def m_law_has_ring : MSt :=
  sSeq (sSet 3 (mMk f_Net__init 3 0 2 [] (pCons toP (mVar 0) (pCons toP (mCall gTuple (lCons (mVar 1) (lNil))) (pNil)))))
  (sSeq (sSet 4 (mFn f_ring_below 1 [] (pCons toP (mVar 3) (pNil))))
  (sSeq (sIf (mNot (mB (mFn f_law_ring_good 2 [] (pCons toP (mVar 1) (pCons toP (mVar 4) (pNil)))))) (sRet (mC (.bl false))) (sNil))
  (sSeq (sSet 5 (mC .non))
  (sSeq (sSet 6 (mC (.bl false)))
  (sSeq (sTryAs cat_HasRing 9 (sExpr (mFn f_some_row 1 [] (pCons toP (mVar 3) (pNil)))) (sSeq (sSet 5 (mXf 9 5 0))
  (sSet 6 (mAndV (mXi 9 5 true) (mAndV (mXi 9 5 true) (mNotV (mXi 9 5 false)))))))
  (sSeq (sIf (mOr (mNot (mB (mFn f_law_ring_good 2 [] (pCons toP (mVar 1) (pCons toP (mVar 5) (pNil)))))) (mNot (mB (mVar 6)))) (sRet (mC (.bl false))) (sNil))
  (sSeq (sSet 7 (mFn f_slacks 3 [] (pCons toP (mVar 3) (pCons toP (mVar 2) (pCons toP (mVar 4) (pNil))))))
  (sSeq (sIf (mNot (mB (mFn f_law_ints 2 [] (pCons toP (mVar 7) (pCons toP (mCall gLen (lCons (mVar 4) (lNil))) (pNil)))))) (sRet (mC (.bl false))) (sNil))
  (sSeq (sFor (mI gRng1 (lCons (mCall gLen (lCons (mVar 4) (lNil))) (lNil))) (bName 8) (m_law_has_ring_b0))
  (sRet (mAndV (m2 (gEq false) (mCall gSum (lCons (mCall gList (lCons (mVar 7) (lNil))) (lNil))) (mCall gSum (lCons (mLc [13] (mSeq (mVar 4)) (bName 13) (tYes') (m_law_has_ring_b1)) (lNil)))) (mFn f_law_looks 3 [] (pCons toP (mVar 3) (pCons toP (mVar 1) (pCons toP (mVar 2) (pNil))))))))))))))))
def f_law_has_ring : FM := fnM 14 m_law_has_ring
/-- _law_closed; slots 0 draws, 1 size, 2 arcs, 3 heights, 4 table, 5 first, 6 a, 7 b, 8 place, 9 even, 10 bent -/
abbrev m_law_closed_b0 : M RV :=
  m2 gIx (m2 gIx (mVar 4) (mC (.int 0))) (mVar 7)
def m_law_closed : MSt :=
  sSeq (sSet 4 (mFn f_law_dists 2 [] (pCons toP (mVar 1) (pCons toP (mVar 2) (pNil)))))
  (sSeq (sSet 5 (mLc [7] (mI gRng1 (lCons (mVar 1) (lNil))) (bName 7) (tYes') (m_law_closed_b0)))
  (sSeq (sIf (mB (m2 (gIn true) (mC .non) (mVar 5))) (sIf (mNot (mB (mFn f_law_looks 3 [] (pCons toP (mMk f_Net__init 3 0 2 [] (pCons toP (mVar 1) (pCons toP (mVar 2) (pNil)))) (pCons toP (mVar 2) (pCons toP (mVar 5) (pNil))))))) (sRet (mC (.bl false))) (sNil)) (sNil))
  (sSeq (sSet 6 (mFn f_law_take 2 [] (pCons toP (mVar 0) (pCons toP (mVar 1) (pNil)))))
  (sSeq (sSet 7 (m2 gMod (mCall gInt (lCons (m2 gPlus (m2 gPlus (mVar 6) (mC (.int 2))) (mFn f_law_take 2 [] (pCons toP (mVar 0) (pCons toP (mVar 1) (pNil))))) (lNil))) (mVar 1)))
  (sSeq (sIf (mB (m2 (gIs false) (m2 gIx (m2 gIx (mVar 4) (mVar 6)) (mVar 7)) (mC .non))) (sSet 7 (mVar 6)) (sNil))
  (sSeq (sSet 8 (mFn f_law_take 2 [] (pCons toP (mVar 0) (pCons toP (m2 gPlus (mCall gLen (lCons (mVar 2) (lNil))) (mC (.int 1))) (pNil)))))
  (sSeq (sSet 9 (m2 gPlus (m2 gPlus (mCut (mVar 2) (oNone) (oSome (mVar 8))) (mLst (oCons (mTup (aCons (mVar 7) (aCons (mVar 6) (aCons (mNeg (m2 gIx (m2 gIx (mVar 4) (mVar 6)) (mVar 7))) (aNil))))) (oNil)))) (mCut (mVar 2) (oSome (mVar 8)) (oNone))))
  (sSeq (sSet 10 (m2 gPlus (m2 gPlus (mCut (mVar 2) (oNone) (oSome (mVar 8))) (mLst (oCons (mTup (aCons (mVar 7) (aCons (mVar 6) (aCons (m2 gSub (m2 gSub (mNeg (m2 gIx (m2 gIx (mVar 4) (mVar 6)) (mVar 7))) (mC (.int 1))) (mFn f_law_take 2 [] (pCons toP (mVar 0) (pCons toP (mC (.int 3)) (pNil))))) (aNil))))) (oNil)))) (mCut (mVar 2) (oSome (mVar 8)) (oNone))))
  (sRet (mAndV (mFn f_law_has_row 2 [] (pCons toP (mVar 1) (pCons toP (mVar 2) (pNil)))) (mAndV (mFn f_law_has_row 2 [] (pCons toP (mVar 1) (pCons toP (mVar 9) (pNil)))) (mFn f_law_has_ring 3 [] (pCons toP (mVar 1) (pCons toP (mVar 10) (pCons toP (mVar 3) (pNil))))))))))))))))
def f_law_closed : FM := fnM 11 m_law_closed
/-- _law_refused; slots 0 draws, 1 size, 2 arcs, 3 name, 4 bad, 5 spot, 6 handed, 7 place, 8 error -/
def m_law_refused : MSt :=
  sSeq (sSet 3 (mC .non))
  (sSeq (sTryAs cat_BadNumber 8 (sExpr (mMk f_Net__init 3 0 2 [] (pCons toP (m2 gIx (mLst (oCons (mC (.int 0)) (oCons (mNeg (mC (.int 1))) (oCons (mC (.bl true)) (oCons (mC .non) (oCons (mC (.str "2")) (oNil))))))) (mFn f_law_take 2 [] (pCons toP (mVar 0) (pCons toP (mC (.int 5)) (pNil))))) (pCons toP (mC .non) (pNil))))) (sSet 3 (mXf 8 1 0)))
  (sSeq (sIf (mB (m2 (gEq true) (mVar 3) (mC (.str "size")))) (sRet (mC (.bl false))) (sNil))
  (sSeq (sSet 4 (m2 gIx (mLst (oCons (mLst (oCons (mC (.int 0)) (oCons (mVar 1) (oCons (mC (.int 1)) (oNil))))) (oCons (mLst (oCons (mNeg (mC (.int 1))) (oCons (mC (.int 0)) (oCons (mC (.int 1)) (oNil))))) (oCons (mLst (oCons (mC (.int 0)) (oCons (mC (.int 0)) (oNil)))) (oCons (mLst (oCons (mC (.int 0)) (oCons (mC (.int 0)) (oCons (mC .non) (oNil))))) (oCons (mLst (oCons (mC (.bl true)) (oCons (mC (.int 0)) (oCons (mC (.int 1)) (oNil))))) (oCons (mC (.int 5)) (oCons (mLst (oCons (mC (.int 0)) (oCons (mC (.int 0)) (oCons (mC (.int 1)) (oCons (mC (.int 1)) (oNil)))))) (oCons (mLst (oCons (mC (.int 0)) (oCons (mC (.int 0)) (oCons (mC (.str "1")) (oNil))))) (oNil)))))))))) (mFn f_law_take 2 [] (pCons toP (mVar 0) (pCons toP (mC (.int 8)) (pNil))))))
  (sSeq (sSet 5 (mFn f_law_take 2 [] (pCons toP (mVar 0) (pCons toP (m2 gPlus (mCall gLen (lCons (mVar 2) (lNil))) (mC (.int 1))) (pNil)))))
  (sSeq (sSet 6 (m2 gPlus (m2 gPlus (m2 gPlus (mCut (mVar 2) (oNone) (oSome (mVar 5))) (mLst (oCons (mVar 4) (oNil)))) (mCut (mVar 2) (oSome (mVar 5)) (oNone))) (mLst (oCons (mC (.int 7)) (oNil)))))
  (sSeq (sSet 7 (mC .non))
  (sSeq (sTryAs cat_BadNet 8 (sExpr (mMk f_Net__init 3 0 2 [] (pCons toP (mVar 1) (pCons toP (mVar 6) (pNil))))) (sSet 7 (mXf 8 3 0)))
  (sSeq (sIf (mOr (mNot (mB (mFn f_law_int 1 [] (pCons toP (mVar 7) (pNil))))) (mB (m2 (gEq true) (mVar 7) (mVar 5)))) (sRet (mC (.bl false))) (sNil))
  (sSeq (sSet 7 (mC .non))
  (sSeq (sTryAs cat_BadNet 8 (sExpr (mMk f_Net__init 3 0 2 [] (pCons toP (mVar 1) (pCons toP (m2 gIx (mLst (oCons (mC .non) (oCons (mC (.int 5)) (oCons (mC (.str "ab")) (oCons (mDic) (oNil)))))) (mFn f_law_take 2 [] (pCons toP (mVar 0) (pCons toP (mC (.int 4)) (pNil))))) (pNil))))) (sSet 7 (mXf 8 3 0)))
  (sRet (mAndV (mFn f_law_int 1 [] (pCons toP (mVar 7) (pNil))) (m2 (gEq false) (mVar 7) (mNeg (mC (.int 1))))))))))))))))
def f_law_refused : FM := fnM 9 m_law_refused
/-- _law_refused_rows; slots 0 draws, 1 size, 2 arcs, 3 heights, 4 net, 5 place, 6 at, 7 odd, 8 first, 9 second, 10 name, 11 error -/
def m_law_refused_rows : MSt :=
  sSeq (sSet 4 (mMk f_Net__init 3 0 2 [] (pCons toP (mVar 1) (pCons toP (mVar 2) (pNil)))))
  (sSeq (sSet 5 (mC .non))
  (sSeq (sTryAs cat_BadRow 11 (sExpr (mFn f_keeps 2 [] (pCons toP (mVar 4) (pCons toP (m2 gPlus (mVar 3) (mLst (oCons (mC (.int 0)) (oNil)))) (pNil))))) (sSet 5 (mXf 11 2 0)))
  (sSeq (sIf (mOr (mNot (mB (mFn f_law_int 1 [] (pCons toP (mVar 5) (pNil))))) (mB (m2 (gEq true) (mVar 5) (mNeg (mC (.int 1)))))) (sRet (mC (.bl false))) (sNil))
  (sSeq (sSet 6 (mFn f_law_take 2 [] (pCons toP (mVar 0) (pCons toP (mVar 1) (pNil)))))
  (sSeq (sSet 7 (mCall gList (lCons (mVar 3) (lNil))))
  (sSeq (sSub (mVar 7) (mVar 6) (m2 gIx (mLst (oCons (mC .non) (oCons (mC (.bl true)) (oCons (mC (.str "0")) (oCons (mLst (oCons (mC (.int 0)) (oNil))) (oNil)))))) (mFn f_law_take 2 [] (pCons toP (mVar 0) (pCons toP (mC (.int 4)) (pNil))))))
  (sSeq (sSet 8 (mC .non))
  (sSeq (sTryAs cat_BadRow 11 (sExpr (mFn f_broken_arc 2 [] (pCons toP (mVar 4) (pCons toP (mVar 7) (pNil))))) (sSet 8 (mXf 11 2 0)))
  (sSeq (sSet 9 (mC .non))
  (sSeq (sTryAs cat_BadRow 11 (sExpr (mFn f_slacks 3 [] (pCons toP (mVar 4) (pCons toP (mVar 7) (pCons toP (mC .non) (pNil)))))) (sSet 9 (mXf 11 2 0)))
  (sSeq (sSet 10 (mC .non))
  (sSeq (sTryAs cat_BadNumber 11 (sExpr (mFn f_ring_below 1 [] (pCons toP (m2 gIx (mLst (oCons (mC .non) (oCons (mC (.int 3)) (oCons (mVar 2) (oNil))))) (mFn f_law_take 2 [] (pCons toP (mVar 0) (pCons toP (mC (.int 3)) (pNil))))) (pNil)))) (sSet 10 (mXf 11 1 0)))
  (sRet (mAndV (mFn f_law_int 1 [] (pCons toP (mVar 8) (pNil))) (mAndV (m2 (gEq false) (mVar 8) (mVar 6)) (mAndV (mFn f_law_int 1 [] (pCons toP (mVar 9) (pNil))) (mAndV (m2 (gEq false) (mVar 9) (mVar 6)) (m2 (gEq false) (mVar 10) (mC (.str "net"))))))))))))))))))))
def f_law_refused_rows : FM := fnM 12 m_law_refused_rows
/-- _law_long; slots 0 draws, 1 size, 2 mark, 3 scale, 4 heights, 5 arcs, 6 node, 7 end, 8 even, 9 bent -/
abbrev m_law_long_b0 : M RV :=
  m2 gTimes (mVar 3) (m2 gSub (m2 gMod (mCall gInt (lCons (m2 gPlus (m2 gTimes (mVar 6) (mVar 2)) (m2 gTimes (mVar 6) (mVar 6))) (lNil))) (mC (.int 31))) (mC (.int 15)))
abbrev m_law_long_b1 : MSt :=
  sApp (mVar 5) (mTup (aCons (mVar 6) (aCons (m2 gPlus (mVar 6) (mC (.int 1))) (aCons (m2 gSub (m2 gIx (mVar 4) (m2 gPlus (mVar 6) (mC (.int 1)))) (m2 gIx (mVar 4) (mVar 6))) (aNil)))))
def m_law_long : MSt :=
  sSeq (sSet 1 (m2 gPlus (mC (.int 30)) (mFn f_law_take 2 [] (pCons toP (mVar 0) (pCons toP (mC (.int 31)) (pNil))))))
  (sSeq (sSet 2 (m2 gPlus (mC (.int 3)) (mFn f_law_take 2 [] (pCons toP (mVar 0) (pCons toP (mC (.int 27)) (pNil))))))
  (sSeq (sSet 3 (m2 gIx (mLst (oCons (mC (.int 1)) (oCons (m2 gPow (mC (.int 10)) (mC (.int 20))) (oCons (mC (.int 7)) (oNil))))) (mFn f_law_take 2 [] (pCons toP (mVar 0) (pCons toP (mC (.int 3)) (pNil))))))
  (sSeq (sSet 4 (mLc [6] (mI gRng1 (lCons (mVar 1) (lNil))) (bName 6) (tYes') (m_law_long_b0)))
  (sSeq (sSet 5 (mLst (oNil)))
  (sSeq (sFor (mI gRng1 (lCons (m2 gSub (mVar 1) (mC (.int 1))) (lNil))) (bName 6) (m_law_long_b1))
  (sSeq (sSet 7 (m2 gSub (m2 gIx (mVar 4) (mC (.int 0))) (m2 gIx (mVar 4) (m2 gSub (mVar 1) (mC (.int 1))))))
  (sSeq (sSet 8 (m2 gPlus (mVar 5) (mLst (oCons (mTup (aCons (m2 gSub (mVar 1) (mC (.int 1))) (aCons (mC (.int 0)) (aCons (mVar 7) (aNil))))) (oNil)))))
  (sSeq (sSet 9 (m2 gPlus (mVar 5) (mLst (oCons (mTup (aCons (m2 gSub (mVar 1) (mC (.int 1))) (aCons (mC (.int 0)) (aCons (m2 gSub (mVar 7) (mC (.int 1))) (aNil))))) (oNil)))))
  (sSeq (sIf (mB (m2 (gEq false) (mFn f_law_take 2 [] (pCons toP (mVar 0) (pCons toP (mC (.int 2)) (pNil)))) (mC (.int 1)))) (sSeq (sRev (mVar 8))
  (sRev (mVar 9))) (sNil))
  (sRet (mAndV (mFn f_law_has_row 2 [] (pCons toP (mVar 1) (pCons toP (mVar 8) (pNil)))) (mFn f_law_has_ring 3 [] (pCons toP (mVar 1) (pCons toP (mVar 9) (pCons toP (mVar 4) (pNil))))))))))))))))
def f_law_long : FM := fnM 10 m_law_long
/-- _law_any_ring; slots 0 table, 1 a -/
abbrev m_law_any_ring_b0 : MSt :=
  sIf (mB (m2 gLt (m2 gIx (m2 gIx (mVar 0) (mVar 1)) (mVar 1)) (mC (.int 0)))) (sRet (mC (.bl true))) (sNil)
def m_law_any_ring : MSt :=
  sSeq (sFor (mI gRng1 (lCons (mCall gLen (lCons (mVar 0) (lNil))) (lNil))) (bName 1) (m_law_any_ring_b0))
  (sRet (mC (.bl false)))
def f_law_any_ring : FM := fnM 2 m_law_any_ring
/-- law; slots 0 script, 1 draws, 2 long, 3 size, 4 arcs, 5 heights, 6 many, 7 free, 8 row -/
def m_law : MSt :=
  sDraws 1 (mFn f_law_draws 1 [] (pCons toP (mVar 0) (pNil)))
  (sSeq (sSet 2 (m2 (gEq false) (mFn f_law_take 2 [] (pCons toP (mVar 1) (pCons toP (mC (.int 4)) (pNil)))) (mC (.int 3))))
  (sSeq (sAsg (bTup 3 (bCons (bName 3) (bCons (bName 4) (bCons (bName 5) (bNil))))) (mFn f_law_net 2 [] (pCons toP (mVar 1) (pCons toP (mC (.bl true)) (pNil)))))
  (sSeq (sIf (mOr (mNot (mB (mFn f_law_kept 4 [] (pCons toP (mVar 1) (pCons toP (mVar 3) (pCons toP (mVar 4) (pCons toP (mVar 5) (pNil)))))))) (mNot (mB (mFn f_law_closed 4 [] (pCons toP (mVar 1) (pCons toP (mVar 3) (pCons toP (mVar 4) (pCons toP (mVar 5) (pNil))))))))) (sRet (mC (.bl false))) (sNil))
  (sSeq (sIf (mOr (mNot (mB (mFn f_law_refused 3 [] (pCons toP (mVar 1) (pCons toP (mVar 3) (pCons toP (mVar 4) (pNil))))))) (mNot (mB (mFn f_law_refused_rows 4 [] (pCons toP (mVar 1) (pCons toP (mVar 3) (pCons toP (mVar 4) (pCons toP (mVar 5) (pNil))))))))) (sRet (mC (.bl false))) (sNil))
  (sSeq (sIf (mAnd (mB (mVar 2)) (mNot (mB (mFn f_law_long 1 [] (pCons toP (mVar 1) (pNil)))))) (sRet (mC (.bl false))) (sNil))
  (sSeq (sAsg (bTup 3 (bCons (bName 6) (bCons (bName 7) (bCons (bName 8) (bNil))))) (mFn f_law_net 2 [] (pCons toP (mVar 1) (pCons toP (mC (.bl false)) (pNil)))))
  (sSeq (sIf (mB (mFn f_law_any_ring 1 [] (pCons toP (mFn f_law_dists 2 [] (pCons toP (mVar 6) (pCons toP (mVar 7) (pNil)))) (pNil)))) (sRet (mFn f_law_has_ring 3 [] (pCons toP (mVar 6) (pCons toP (mVar 7) (pCons toP (mVar 8) (pNil)))))) (sNil))
  (sRet (mFn f_law_has_row 2 [] (pCons toP (mVar 6) (pCons toP (mVar 7) (pNil))))))))))))
def f_law : FM := fnM 9 m_law
end K07
set_option Elab.async false
set_option linter.all false
set_option maxRecDepth 100000
set_option maxHeartbeats 4000000
namespace K07
open PySem PySem.Spec PyProof.Rows L2 TL
/-! ### facts -/
structure Tx (P : Program) (w : World) (K : PySem.W.Frag) (mg : Str → Option Value) (fd : Nat → FuncData) : Prop where
  f_ValueError : mg "ValueError" = none
  f_abs : mg "abs" = none
  f_bool : mg "bool" = none
  f_enumerate : mg "enumerate" = none
  f_int : mg "int" = none
  f_isinstance : mg "isinstance" = none
  f_iter : mg "iter" = none
  f_len : mg "len" = none
  f_list : mg "list" = none
  f_min : mg "min" = none
  f_range : mg "range" = none
  f_sum : mg "sum" = none
  f_tuple : mg "tuple" = none
  g__law_draws : mg "_law_draws" = some (.ref (He.fAd K ("_law_draws", none)))
  u_law_draws : FunD K "_law_draws" "_law_draws" (defArgs (top 29)) (defBody (top 29)) (defScope (top 29)) [] [] (He.fAd K ("_law_draws", none)) (fd 0)
  g__law_take : mg "_law_take" = some (.ref (He.fAd K ("_law_take", none)))
  u_law_take : FunD K "_law_take" "_law_take" (defArgs (top 30)) (defBody (top 30)) (defScope (top 30)) [] [] (He.fAd K ("_law_take", none)) (fd 1)
  g__law_net : mg "_law_net" = some (.ref (He.fAd K ("_law_net", none)))
  u_law_net : FunD K "_law_net" "_law_net" (defArgs (top 35)) (defBody (top 35)) (defScope (top 35)) [] [] (He.fAd K ("_law_net", none)) (fd 2)
  g_is_whole : mg "is_whole" = some (.ref (He.fAd K ("is_whole", none)))
  u_is_whole : FunD K "is_whole" "is_whole" (defArgs (top 8)) (defBody (top 8)) (defScope (top 8)) [] [] (He.fAd K ("is_whole", none)) (fd 3)
  g_is_triple : mg "is_triple" = some (.ref (He.fAd K ("is_triple", none)))
  u_is_triple : FunD K "is_triple" "is_triple" (defArgs (top 11)) (defBody (top 11)) (defScope (top 11)) [] [] (He.fAd K ("is_triple", none)) (fd 4)
  g_arc_rows : mg "arc_rows" = some (.ref (He.fAd K ("arc_rows", none)))
  u_arc_rows : FunD K "arc_rows" "arc_rows" (defArgs (top 12)) (defBody (top 12)) (defScope (top 12)) [] [] (He.fAd K ("arc_rows", none)) (fd 5)
  u_Net__init : FunD K "__init__" "Net.__init__" (defArgs (inClass (top 13) 0)) (defBody (inClass (top 13) 0)) (defScope (inClass (top 13) 0)) [] [] (He.fAd K ("Net", some "__init__")) (fd 6)
  g__law_int : mg "_law_int" = some (.ref (He.fAd K ("_law_int", none)))
  u_law_int : FunD K "_law_int" "_law_int" (defArgs (top 31)) (defBody (top 31)) (defScope (top 31)) [] [] (He.fAd K ("_law_int", none)) (fd 7)
  g__law_ints : mg "_law_ints" = some (.ref (He.fAd K ("_law_ints", none)))
  u_law_ints : FunD K "_law_ints" "_law_ints" (defArgs (top 32)) (defBody (top 32)) (defScope (top 32)) [] [] (He.fAd K ("_law_ints", none)) (fd 8)
  u_Net__len : FunD K "__len__" "Net.__len__" (defArgs (inClass (top 13) 2)) (defBody (inClass (top 13) 2)) (defScope (inClass (top 13) 2)) [] [] (He.fAd K ("Net", some "__len__")) (fd 9)
  g__law_first_broken : mg "_law_first_broken" = some (.ref (He.fAd K ("_law_first_broken", none)))
  u_law_first_broken : FunD K "_law_first_broken" "_law_first_broken" (defArgs (top 36)) (defBody (top 36)) (defScope (top 36)) [] [] (He.fAd K ("_law_first_broken", none)) (fd 10)
  g_given_net : mg "given_net" = some (.ref (He.fAd K ("given_net", none)))
  u_given_net : FunD K "given_net" "given_net" (defArgs (top 14)) (defBody (top 14)) (defScope (top 14)) [.str "net"] [] (He.fAd K ("given_net", none)) (fd 11)
  g_whole_row : mg "whole_row" = some (.ref (He.fAd K ("whole_row", none)))
  u_whole_row : FunD K "whole_row" "whole_row" (defArgs (top 9)) (defBody (top 9)) (defScope (top 9)) [.non] [] (He.fAd K ("whole_row", none)) (fd 12)
  g_broken_arc : mg "broken_arc" = some (.ref (He.fAd K ("broken_arc", none)))
  u_broken_arc : FunD K "broken_arc" "broken_arc" (defArgs (top 15)) (defBody (top 15)) (defScope (top 15)) [] [] (He.fAd K ("broken_arc", none)) (fd 13)
  g_keeps : mg "keeps" = some (.ref (He.fAd K ("keeps", none)))
  u_keeps : FunD K "keeps" "keeps" (defArgs (top 16)) (defBody (top 16)) (defScope (top 16)) [] [] (He.fAd K ("keeps", none)) (fd 14)
  g__law_looks : mg "_law_looks" = some (.ref (He.fAd K ("_law_looks", none)))
  u_law_looks : FunD K "_law_looks" "_law_looks" (defArgs (top 38)) (defBody (top 38)) (defScope (top 38)) [] [] (He.fAd K ("_law_looks", none)) (fd 15)
  g__law_kept : mg "_law_kept" = some (.ref (He.fAd K ("_law_kept", none)))
  u_law_kept : FunD K "_law_kept" "_law_kept" (defArgs (top 41)) (defBody (top 41)) (defScope (top 41)) [] [] (He.fAd K ("_law_kept", none)) (fd 16)
  g__law_dists : mg "_law_dists" = some (.ref (He.fAd K ("_law_dists", none)))
  u_law_dists : FunD K "_law_dists" "_law_dists" (defArgs (top 33)) (defBody (top 33)) (defScope (top 33)) [] [] (He.fAd K ("_law_dists", none)) (fd 17)
  g_shortened : mg "shortened" = some (.ref (He.fAd K ("shortened", none)))
  u_shortened : FunD K "shortened" "shortened" (defArgs (top 18)) (defBody (top 18)) (defScope (top 18)) [] [] (He.fAd K ("shortened", none)) (fd 18)
  g_link_ring : mg "link_ring" = some (.ref (He.fAd K ("link_ring", none)))
  u_link_ring : FunD K "link_ring" "link_ring" (defArgs (top 19)) (defBody (top 19)) (defScope (top 19)) [] [] (He.fAd K ("link_ring", none)) (fd 19)
  g_ring_below : mg "ring_below" = some (.ref (He.fAd K ("ring_below", none)))
  u_ring_below : FunD K "ring_below" "ring_below" (defArgs (top 20)) (defBody (top 20)) (defScope (top 20)) [] [] (He.fAd K ("ring_below", none)) (fd 20)
  g_ringless : mg "ringless" = some (.ref (He.fAd K ("ringless", none)))
  u_ringless : FunD K "ringless" "ringless" (defArgs (top 25)) (defBody (top 25)) (defScope (top 25)) [] [] (He.fAd K ("ringless", none)) (fd 21)
  g_some_row : mg "some_row" = some (.ref (He.fAd K ("some_row", none)))
  u_some_row : FunD K "some_row" "some_row" (defArgs (top 27)) (defBody (top 27)) (defScope (top 27)) [] [] (He.fAd K ("some_row", none)) (fd 22)
  g__law_has_row : mg "_law_has_row" = some (.ref (He.fAd K ("_law_has_row", none)))
  u_law_has_row : FunD K "_law_has_row" "_law_has_row" (defArgs (top 39)) (defBody (top 39)) (defScope (top 39)) [] [] (He.fAd K ("_law_has_row", none)) (fd 23)
  g__law_ring_good : mg "_law_ring_good" = some (.ref (He.fAd K ("_law_ring_good", none)))
  u_law_ring_good : FunD K "_law_ring_good" "_law_ring_good" (defArgs (top 37)) (defBody (top 37)) (defScope (top 37)) [] [] (He.fAd K ("_law_ring_good", none)) (fd 24)
  g_no_arc_at : mg "no_arc_at" = some (.ref (He.fAd K ("no_arc_at", none)))
  u_no_arc_at : FunD K "no_arc_at" "no_arc_at" (defArgs (top 21)) (defBody (top 21)) (defScope (top 21)) [] [] (He.fAd K ("no_arc_at", none)) (fd 25)
  g_arc_numbers : mg "arc_numbers" = some (.ref (He.fAd K ("arc_numbers", none)))
  u_arc_numbers : FunD K "arc_numbers" "arc_numbers" (defArgs (top 22)) (defBody (top 22)) (defScope (top 22)) [] [] (He.fAd K ("arc_numbers", none)) (fd 26)
  g_slacks : mg "slacks" = some (.ref (He.fAd K ("slacks", none)))
  u_slacks : FunD K "slacks" "slacks" (defArgs (top 23)) (defBody (top 23)) (defScope (top 23)) [] [] (He.fAd K ("slacks", none)) (fd 27)
  g__law_has_ring : mg "_law_has_ring" = some (.ref (He.fAd K ("_law_has_ring", none)))
  u_law_has_ring : FunD K "_law_has_ring" "_law_has_ring" (defArgs (top 40)) (defBody (top 40)) (defScope (top 40)) [] [] (He.fAd K ("_law_has_ring", none)) (fd 28)
  g__law_closed : mg "_law_closed" = some (.ref (He.fAd K ("_law_closed", none)))
  u_law_closed : FunD K "_law_closed" "_law_closed" (defArgs (top 42)) (defBody (top 42)) (defScope (top 42)) [] [] (He.fAd K ("_law_closed", none)) (fd 29)
  g__law_refused : mg "_law_refused" = some (.ref (He.fAd K ("_law_refused", none)))
  u_law_refused : FunD K "_law_refused" "_law_refused" (defArgs (top 44)) (defBody (top 44)) (defScope (top 44)) [] [] (He.fAd K ("_law_refused", none)) (fd 30)
  g__law_refused_rows : mg "_law_refused_rows" = some (.ref (He.fAd K ("_law_refused_rows", none)))
  u_law_refused_rows : FunD K "_law_refused_rows" "_law_refused_rows" (defArgs (top 45)) (defBody (top 45)) (defScope (top 45)) [] [] (He.fAd K ("_law_refused_rows", none)) (fd 31)
  g__law_long : mg "_law_long" = some (.ref (He.fAd K ("_law_long", none)))
  u_law_long : FunD K "_law_long" "_law_long" (defArgs (top 43)) (defBody (top 43)) (defScope (top 43)) [] [] (He.fAd K ("_law_long", none)) (fd 32)
  g__law_any_ring : mg "_law_any_ring" = some (.ref (He.fAd K ("_law_any_ring", none)))
  u_law_any_ring : FunD K "_law_any_ring" "_law_any_ring" (defArgs (top 34)) (defBody (top 34)) (defScope (top 34)) [] [] (He.fAd K ("_law_any_ring", none)) (fd 33)
  g_law : mg "law" = some (.ref (He.fAd K ("law", none)))
  u_law : FunD K "law" "law" (defArgs (top 46)) (defBody (top 46)) (defScope (top 46)) [] [] (He.fAd K ("law", none)) (fd 34)
  u_Net__iter : FunD K "__iter__" "Net.__iter__" (defArgs (inClass (top 13) 1)) (defBody (inClass (top 13) 1)) (defScope (inClass (top 13) 1)) [] [] (He.fAd K ("Net", some "__iter__")) (fd 35)
  lo_Net : LsO K ((gt K).C 0) (He.fAd K ("Net", some "__iter__")) (He.fAd K ("Net", some "__len__"))
  g_Net : mg "Net" = some (.ref ((gt K).C 0))
  mk_Net : Mk K ((gt K).C 0) (He.fAd K ("Net", some "__init__"))
  cl_Net : Cls K ((gt K).C 0)
  in_Net : InsC K ((gt K).C 0)
  na_Net_size : NoAttr K ((gt K).C 0) "size"
  na_Net_arcs : NoAttr K ((gt K).C 0) "arcs"
  ln_Net : PySem.W.findIn K (.ref ((gt K).C 0)) "__len__" = some (some (.ref (He.fAd K ("Net", some "__len__"))))
  lf_Net : PySem.W.isFn K (.ref (He.fAd K ("Net", some "__len__"))) = true
  is_Net : ∀ t b, is_Net t = some b → PySem.W.kitOne K (tyV (gt K) t) (.ref ((gt K).C 0)) = some b
  g_MorningError : mg "MorningError" = some (.ref ((gt K).X 0))
  g_BadNumber : mg "BadNumber" = some (.ref ((gt K).X 1))
  xt_BadNumber : PySem.TLX.XTxt P K mg "BadNumber" ((gt K).X 1) (He.fAd K ("BadNumber", some "__init__")) "BadNumber.__init__" (defArgs (inClass (top 2) 0)) (defBody (inClass (top 2) 0)) (defScope (inClass (top 2) 0)).names
  xn_BadNumber_name : PySem.W.findIn K (.ref ((gt K).X 1)) "name" = some none
  xs_BadNumber : XsC K ((gt K).X 1)
  cat_BadNumber : ∀ k b, cat_BadNumber k = some b → PySem.W.exmOne K (.ref ((gt K).X k)) (.ref ((gt K).X 1)) = some b
  g_BadRow : mg "BadRow" = some (.ref ((gt K).X 2))
  xt_BadRow : PySem.TLX.XTxt P K mg "BadRow" ((gt K).X 2) (He.fAd K ("BadRow", some "__init__")) "BadRow.__init__" (defArgs (inClass (top 3) 0)) (defBody (inClass (top 3) 0)) (defScope (inClass (top 3) 0)).names
  xn_BadRow_place : PySem.W.findIn K (.ref ((gt K).X 2)) "place" = some none
  xs_BadRow : XsC K ((gt K).X 2)
  cat_BadRow : ∀ k b, cat_BadRow k = some b → PySem.W.exmOne K (.ref ((gt K).X k)) (.ref ((gt K).X 2)) = some b
  g_BadNet : mg "BadNet" = some (.ref ((gt K).X 3))
  xt_BadNet : PySem.TLX.XTxt P K mg "BadNet" ((gt K).X 3) (He.fAd K ("BadNet", some "__init__")) "BadNet.__init__" (defArgs (inClass (top 4) 0)) (defBody (inClass (top 4) 0)) (defScope (inClass (top 4) 0)).names
  xn_BadNet_place : PySem.W.findIn K (.ref ((gt K).X 3)) "place" = some none
  xs_BadNet : XsC K ((gt K).X 3)
  cat_BadNet : ∀ k b, cat_BadNet k = some b → PySem.W.exmOne K (.ref ((gt K).X k)) (.ref ((gt K).X 3)) = some b
  g_BadMoves : mg "BadMoves" = some (.ref ((gt K).X 4))
  xt_BadMoves : PySem.TLX.XTxt P K mg "BadMoves" ((gt K).X 4) (He.fAd K ("BadMoves", some "__init__")) "BadMoves.__init__" (defArgs (inClass (top 5) 0)) (defBody (inClass (top 5) 0)) (defScope (inClass (top 5) 0)).names
  xn_BadMoves_place : PySem.W.findIn K (.ref ((gt K).X 4)) "place" = some none
  g_HasRing : mg "HasRing" = some (.ref ((gt K).X 5))
  xt_HasRing : PySem.TLX.XTxt P K mg "HasRing" ((gt K).X 5) (He.fAd K ("HasRing", some "__init__")) "HasRing.__init__" (defArgs (inClass (top 6) 0)) (defBody (inClass (top 6) 0)) (defScope (inClass (top 6) 0)).names
  xn_HasRing_ring : PySem.W.findIn K (.ref ((gt K).X 5)) "ring" = some none
  xs_HasRing : XsC K ((gt K).X 5)
  cat_HasRing : ∀ k b, cat_HasRing k = some b → PySem.W.exmOne K (.ref ((gt K).X k)) (.ref ((gt K).X 5)) = some b
  xi_HasRing_BadNet_BadRow_BadNumber : PySem.W.kitAny K (.ref ((gt K).X 5)) [.ref ((gt K).X 3), .ref ((gt K).X 2), .ref ((gt K).X 1)] = some false
  xi_HasRing_MorningError : PySem.W.kitOne K (.ref ((gt K).X 5)) (.ref ((gt K).X 0)) = some true
  xi_HasRing_ValueError : PySem.W.kitOne K (.ref ((gt K).X 5)) (.type "ValueError") = some true
section
variable {P : Program} {w : World} {K : PySem.W.Frag} {mg : Str → Option Value} {base : Heap} {fd : Nat → FuncData}
theorem Tx.xf_BadNet (T : Tx P w K mg fd) : XfC (gt K).K ((gt K).X 3) := T.xs_BadNet.xf
theorem Tx.xf_BadNumber (T : Tx P w K mg fd) : XfC (gt K).K ((gt K).X 1) := T.xs_BadNumber.xf
theorem Tx.xf_BadRow (T : Tx P w K mg fd) : XfC (gt K).K ((gt K).X 2) := T.xs_BadRow.xf
theorem Tx.xf_HasRing (T : Tx P w K mg fd) : XfC (gt K).K ((gt K).X 5) := T.xs_HasRing.xf
theorem fl_arcs (T : Tx P w K mg fd) : ∀ c k, ix_arcs c = some k → Cls (gt K).K ((gt K).C c) ∧ NoAttr (gt K).K ((gt K).C c) "arcs" ∧ ((gt K).nm c)[k]? = some "arcs" ∧ ((gt K).nm c).Nodup := by
  intro c k h
  unfold ix_arcs at h
  split at h
  · cases h
    exact ⟨T.cl_Net, T.na_Net_arcs, rfl, by show (["size", "arcs"] : List Str).Nodup; decide⟩
  · cases h
theorem fl_size (T : Tx P w K mg fd) : ∀ c k, ix_size c = some k → Cls (gt K).K ((gt K).C c) ∧ NoAttr (gt K).K ((gt K).C c) "size" ∧ ((gt K).nm c)[k]? = some "size" ∧ ((gt K).nm c).Nodup := by
  intro c k h
  unfold ix_size at h
  split at h
  · cases h
    exact ⟨T.cl_Net, T.na_Net_size, rfl, by show (["size", "arcs"] : List Str).Nodup; decide⟩
  · cases h
theorem io_Net (T : Tx P w K mg fd) : ∀ c b, is_Net (.cls c) = some b → InsC (gt K).K ((gt K).C c) := by
  intro c b h
  by_cases e : c = 0
  · subst e
    exact T.in_Net
  · exfalso
    have n : is_Net (.cls c) = none := by unfold is_Net; split <;> simp_all
    rw [n] at h
    cases h
theorem bd0_Net__iter (T : Tx P w K mg fd) : Binds K (fd 35) ["self"] [] := (T.u_Net__iter).bindsN fun _ _ _ _ _ _ us hl => match us, hl with | [_], _ => rfl
theorem ok_Net__iter (T : Tx P w K mg fd) : FnOk P w K mg base (L2.CX P w) 1 (He.fAd K ("Net", some "__iter__")) (fd 35) ["self"] (spItr ((gt K).C 0) "arcs") := itr_ok T.u_Net__iter ⟨rfl, rfl, rfl, by decide +kernel, rfl, by decide +kernel, by decide +kernel⟩ (vis_of rfl) (fun _ _ _ _ _ _ => rfl) T.f_iter T.cl_Net T.na_Net_arcs
theorem ok2_Net__len (T : Tx P w K mg fd) : FnOk P w K mg base (L2.CX P w) 1 (He.fAd K ("Net", some "__len__")) (fd 9) ["self"] (spLnT ((gt K).C 0) "arcs") := lnT_ok T.u_Net__len ⟨rfl, rfl, rfl, by decide +kernel, rfl, by decide +kernel, by decide +kernel⟩ (vis_of rfl) (fun _ _ _ _ _ _ => rfl) T.f_len T.cl_Net T.na_Net_arcs
theorem sc_law_draws : FnScope ["script", "draws", "at", "cell", "k", "number"] ["script"] (defScope (top 29)) := ⟨rfl, rfl, rfl, by decide +kernel, rfl, by decide +kernel, by decide +kernel⟩
theorem bd0_law_draws (T : Tx P w K mg fd) : Binds K (fd 0) ["script"] [] := (T.u_law_draws).bindsN fun _ _ _ _ _ _ us hl => match us, hl with | [_], _ => rfl
theorem bd_law_draws_1 (T : Tx P w K mg fd) : ∃ ds, Vals [] ds ∧ Binds K (fd 0) ["script"] ds := ⟨[], .nil, bd0_law_draws T⟩
theorem ok_law_draws (T : Tx P w K mg fd) : FnOk P w K mg base (L2.CX P w) 1 (He.fAd K ("_law_draws", none)) (fd 0) ["script"] (spM (gt K) 1 f_law_draws) :=
  fn_ok (T.u_law_draws) sc_law_draws fun cdv A outer s H E hr => have hu := TL.hu_of hr
  (jb_cons (js_set (k := 1) sc_law_draws.nd rfl (loc_of rfl) (jx_lst jo_nil))
  (jb_cons (js_for (passes_of rfl) rfl (ji_rng1 rfl T.f_range (jl_cons (jx_callB (call_minx rfl) vc_min rfl T.f_min bt_min (jl_cons (jx_callB call_len vc_len rfl T.f_len bt_len (jl_cons (jx_var (i := 0) rfl (vis_of rfl)) jl_nil)) (jl_cons jx_int jl_nil))) jl_nil)) (jg_name (k := 2) sc_law_draws.nd rfl (loc_of rfl)) (jb_cons (js_set (k := 3) sc_law_draws.nd rfl (loc_of rfl) (jx_callTy call_int1 vc_int rfl T.f_int bt_int (jl_cons (jx_ix rfl (jx_var (i := 0) rfl (vis_of rfl)) (jx_var (i := 2) rfl (vis_of rfl)) (by intro _ _; rfl)) jl_nil)))
  (jb_cons (js_if (jt_cmp op_lt v2_lt (jx_var (i := 3) rfl (vis_of rfl)) jx_int (nomark _)) (jb_one (js_set (k := 3) sc_law_draws.nd rfl (loc_of rfl) (jx_bin op_sub v2_sub jx_int (jx_bin op_times v2_times jx_int (jx_var (i := 3) rfl (vis_of rfl)))))) jb_nil)
  (jb_one (js_if (jt_cmp op_ge v2_ge (jx_var (i := 3) rfl (vis_of rfl)) (jx_bin op_pow v2_pow jx_int jx_int) (nomark _)) (jb_one (js_for (passes_of rfl) rfl (ji_rng1 rfl T.f_range (jl_cons jx_int jl_nil)) (jg_name (k := 4) sc_law_draws.nd rfl (loc_of rfl)) (jb_one (js_if (jt_cmp op_gt v2_gt (jx_var (i := 3) rfl (vis_of rfl)) jx_int (nomark _)) (jb_cons (js_app rfl (jx_var (i := 1) rfl (vis_of rfl)) (jx_bin op_mod v2_mod (jx_callTy call_int1 vc_int rfl T.f_int bt_int (jl_cons (jx_var (i := 3) rfl (vis_of rfl)) jl_nil)) jx_int))
  (jb_one (js_set (k := 3) sc_law_draws.nd rfl (loc_of rfl) (jx_bin op_fdiv v2_div (jx_var (i := 3) rfl (vis_of rfl)) jx_int)))) jb_nil)))) (jb_cons (js_set (k := 5) sc_law_draws.nd rfl (loc_of rfl) (jx_bin op_mod v2_mod (jx_callTy call_int1 vc_int rfl T.f_int bt_int (jl_cons (jx_bin op_plus v2_plus (jx_bin op_plus v2_plus (jx_bin op_times v2_times (jx_var (i := 3) rfl (vis_of rfl)) jx_int) (jx_bin op_times v2_times (jx_var (i := 2) rfl (vis_of rfl)) jx_int)) jx_int) jl_nil)) jx_int))
  (jb_one (js_for (passes_of rfl) rfl (ji_rng1 rfl T.f_range (jl_cons jx_int jl_nil)) (jg_name (k := 4) sc_law_draws.nd rfl (loc_of rfl)) (jb_cons (js_set (k := 5) sc_law_draws.nd rfl (loc_of rfl) (jx_bin op_mod v2_mod (jx_callTy call_int1 vc_int rfl T.f_int bt_int (jl_cons (jx_bin op_plus v2_plus (jx_bin op_plus v2_plus (jx_bin op_plus v2_plus (jx_bin op_times v2_times (jx_var (i := 5) rfl (vis_of rfl)) (jx_var (i := 5) rfl (vis_of rfl))) (jx_bin op_times v2_times (jx_var (i := 4) rfl (vis_of rfl)) jx_int)) (jx_var (i := 2) rfl (vis_of rfl))) jx_int) jl_nil)) jx_int))
  (jb_one (js_app rfl (jx_var (i := 1) rfl (vis_of rfl)) (jx_bin op_fdiv v2_div (jx_callTy call_int1 vc_int rfl T.f_int bt_int (jl_cons (jx_var (i := 5) rfl (vis_of rfl)) jl_nil)) jx_int))))))))))))
  (jb_cons (js_rev rfl (jx_var (i := 1) rfl (vis_of rfl)))
  (jb_one (js_ret (jx_var (i := 1) rfl (vis_of rfl)))))))
theorem sc_law_take : FnScope ["draws", "many"] ["draws", "many"] (defScope (top 30)) := ⟨rfl, rfl, rfl, by decide +kernel, rfl, by decide +kernel, by decide +kernel⟩
theorem bd0_law_take (T : Tx P w K mg fd) : Binds K (fd 1) ["draws", "many"] [] := (T.u_law_take).bindsN fun _ _ _ _ _ _ us hl => match us, hl with | [_, _], _ => rfl
theorem bd_law_take_2 (T : Tx P w K mg fd) : ∃ ds, Vals [] ds ∧ Binds K (fd 1) ["draws", "many"] ds := ⟨[], .nil, bd0_law_take T⟩
theorem ok_law_take (T : Tx P w K mg fd) : FnOk P w K mg base (L2.CX P w) 1 (He.fAd K ("_law_take", none)) (fd 1) ["draws", "many"] (spM (gt K) 2 f_law_take) :=
  fn_ok (T.u_law_take) sc_law_take fun cdv A outer s H E hr => have hu := TL.hu_of hr
  (jb_cons (js_if (jt_cmp (op_eqD hu) v2_eqD (jx_callB call_len vc_len rfl T.f_len bt_len (jl_cons (jx_var (i := 0) rfl (vis_of rfl)) jl_nil)) jx_int (nomark _)) (jb_one (js_ret jx_int)) jb_nil)
  (jb_one (js_ret (jx_bin op_mod v2_mod (jx_callTy call_int1 vc_int rfl T.f_int bt_int (jl_cons (jx_popD rfl (jx_var (i := 0) rfl (vis_of rfl))) jl_nil)) (jx_var (i := 1) rfl (vis_of rfl))))))
theorem sc_law_net : FnScope ["draws", "sure", "size", "scale", "heights", "arcs", "k", "a", "b", "length", "node"] ["draws", "sure"] (defScope (top 35)) := ⟨rfl, rfl, rfl, by decide +kernel, rfl, by decide +kernel, by decide +kernel⟩
theorem bd0_law_net (T : Tx P w K mg fd) : Binds K (fd 2) ["draws", "sure"] [] := (T.u_law_net).bindsN fun _ _ _ _ _ _ us hl => match us, hl with | [_, _], _ => rfl
theorem bd_law_net_2 (T : Tx P w K mg fd) : ∃ ds, Vals [] ds ∧ Binds K (fd 2) ["draws", "sure"] ds := ⟨[], .nil, bd0_law_net T⟩
theorem ok_law_net (T : Tx P w K mg fd) : FnOk P w K mg base (L2.CX P w) 2 (He.fAd K ("_law_net", none)) (fd 2) ["draws", "sure"] (spM (gt K) 2 f_law_net) :=
  fn_ok (T.u_law_net) sc_law_net fun cdv A outer s H E hr => have hu := TL.hu_of hr
  (jb_cons (js_set (k := 2) sc_law_net.nd rfl (loc_of rfl) (jx_ix rfl (jx_lst (jo_cons jx_int (jo_cons jx_int (jo_cons jx_int (jo_cons jx_int (jo_cons jx_int (jo_cons jx_int (jo_cons jx_int jo_nil)))))))) (jx_call (ok_law_take T) (hr.mono (by decide)) rfl T.g__law_take (T.u_law_take).kp (bd_law_take_2 T).choose_spec.2 (bd_law_take_2 T).choose_spec.1 (takes_of rfl rfl rfl rfl) (jp_cons pc_P (jx_var (i := 0) rfl (vis_of rfl)) (jp_cons pc_P jx_int jp_nil)) co_nil) (by intro _ _; rfl)))
  (jb_cons (js_set (k := 3) sc_law_net.nd rfl (loc_of rfl) (jx_ix rfl (jx_lst (jo_cons jx_int (jo_cons jx_int (jo_cons (jx_bin op_pow v2_pow jx_int jx_int) (jo_cons jx_int (jo_cons (jx_bin op_pow v2_pow jx_int jx_int) jo_nil)))))) (jx_call (ok_law_take T) (hr.mono (by decide)) rfl T.g__law_take (T.u_law_take).kp (bd_law_take_2 T).choose_spec.2 (bd_law_take_2 T).choose_spec.1 (takes_of rfl rfl rfl rfl) (jp_cons pc_P (jx_var (i := 0) rfl (vis_of rfl)) (jp_cons pc_P jx_int jp_nil)) co_nil) (by intro _ _; rfl)))
  (jb_cons (js_setLc (k := 4) rfl sc_law_net.nd rfl rfl (sw_true rfl rfl rfl rfl) (by exact (ji_rng1 rfl T.f_range (jl_cons (jx_var (i := 2) rfl (vis_of rfl)) jl_nil))) (blkOk_by (own := [("node", 10)]) (by rfl)) (fun _ _ _ _ _ => (jg_name (k := 10) sc_law_net.nd rfl (loc_of rfl))) (fun _ _ _ _ _ => jts_nil) (fun _ _ _ _ _ => (jx_bin op_times v2_times (jx_var (i := 3) rfl (vis_of rfl)) (jx_bin op_sub v2_sub (jx_bin op_mod v2_mod (jx_callTy call_int1 vc_int rfl T.f_int bt_int (jl_cons (jx_bin op_plus v2_plus (jx_call (ok_law_take T) (hr.mono (by decide)) rfl T.g__law_take (T.u_law_take).kp (bd_law_take_2 T).choose_spec.2 (bd_law_take_2 T).choose_spec.1 takes0 (jp_cons pc_P (jx_var (i := 0) rfl (vis_of rfl)) (jp_cons pc_P jx_int jp_nil)) co_nil) (jx_bin op_times v2_times jx_int (jx_var (i := 10) rfl (vis_of rfl)))) jl_nil)) jx_int) jx_int))))
  (jb_cons (js_set (k := 5) sc_law_net.nd rfl (loc_of rfl) (jx_lst jo_nil))
  (jb_cons (js_for (passes_of rfl) rfl (ji_rng1 rfl T.f_range (jl_cons (jx_ix rfl (jx_lst (jo_cons jx_int (jo_cons jx_int (jo_cons jx_int (jo_cons jx_int (jo_cons jx_int (jo_cons jx_int (jo_cons jx_int jo_nil)))))))) (jx_call (ok_law_take T) (hr.mono (by decide)) rfl T.g__law_take (T.u_law_take).kp (bd_law_take_2 T).choose_spec.2 (bd_law_take_2 T).choose_spec.1 (takes_of rfl rfl rfl rfl) (jp_cons pc_P (jx_var (i := 0) rfl (vis_of rfl)) (jp_cons pc_P jx_int jp_nil)) co_nil) (by intro _ _; rfl)) jl_nil)) (jg_name (k := 6) sc_law_net.nd rfl (loc_of rfl)) (jb_cons (js_set (k := 7) sc_law_net.nd rfl (loc_of rfl) (jx_bin op_mod v2_mod (jx_callTy call_int1 vc_int rfl T.f_int bt_int (jl_cons (jx_bin op_plus v2_plus (jx_var (i := 6) rfl (vis_of rfl)) (jx_call (ok_law_take T) (hr.mono (by decide)) rfl T.g__law_take (T.u_law_take).kp (bd_law_take_2 T).choose_spec.2 (bd_law_take_2 T).choose_spec.1 (takes_of rfl rfl rfl rfl) (jp_cons pc_P (jx_var (i := 0) rfl (vis_of rfl)) (jp_cons pc_P (jx_var (i := 2) rfl (vis_of rfl)) jp_nil)) co_nil)) jl_nil)) (jx_var (i := 2) rfl (vis_of rfl))))
  (jb_cons (js_set (k := 8) sc_law_net.nd rfl (loc_of rfl) (jx_bin op_mod v2_mod (jx_callTy call_int1 vc_int rfl T.f_int bt_int (jl_cons (jx_bin op_plus v2_plus (jx_bin op_plus v2_plus (jx_var (i := 6) rfl (vis_of rfl)) jx_int) (jx_call (ok_law_take T) (hr.mono (by decide)) rfl T.g__law_take (T.u_law_take).kp (bd_law_take_2 T).choose_spec.2 (bd_law_take_2 T).choose_spec.1 (takes_of rfl rfl rfl rfl) (jp_cons pc_P (jx_var (i := 0) rfl (vis_of rfl)) (jp_cons pc_P (jx_var (i := 2) rfl (vis_of rfl)) jp_nil)) co_nil)) jl_nil)) (jx_var (i := 2) rfl (vis_of rfl))))
  (jb_cons (js_set (k := 9) sc_law_net.nd rfl (loc_of rfl) (jx_bin op_times v2_times (jx_var (i := 3) rfl (vis_of rfl)) (jx_ix rfl (jx_lst (jo_cons jx_int (jo_cons (jx_negm jx_int) (jo_cons jx_int (jo_cons jx_int (jo_cons jx_int (jo_cons (jx_negm jx_int) (jo_cons jx_int (jo_cons jx_int jo_nil))))))))) (jx_call (ok_law_take T) (hr.mono (by decide)) rfl T.g__law_take (T.u_law_take).kp (bd_law_take_2 T).choose_spec.2 (bd_law_take_2 T).choose_spec.1 (takes_of rfl rfl rfl rfl) (jp_cons pc_P (jx_var (i := 0) rfl (vis_of rfl)) (jp_cons pc_P jx_int jp_nil)) co_nil) (by intro _ _; rfl))))
  (jb_cons (js_if (jt_val (jx_var (i := 1) rfl (vis_of rfl))) (jb_one (js_set (k := 9) sc_law_net.nd rfl (loc_of rfl) (jx_bin op_plus v2_plus (jx_bin op_sub v2_sub (jx_ix rfl (jx_var (i := 4) rfl (vis_of rfl)) (jx_var (i := 8) rfl (vis_of rfl)) (by intro _ _; rfl)) (jx_ix rfl (jx_var (i := 4) rfl (vis_of rfl)) (jx_var (i := 7) rfl (vis_of rfl)) (by intro _ _; rfl))) (jx_callB call_abs vc_abs rfl T.f_abs bt_abs (jl_cons (jx_var (i := 9) rfl (vis_of rfl)) jl_nil))))) jb_nil)
  (jb_one (js_app rfl (jx_var (i := 5) rfl (vis_of rfl)) (jx_tup (ja_cons (jx_var (i := 7) rfl (vis_of rfl)) (ja_cons (jx_var (i := 8) rfl (vis_of rfl)) (ja_cons (jx_var (i := 9) rfl (vis_of rfl)) ja_nil)))))))))))
  (jb_one (js_ret (jx_lst (jo_cons (jx_var (i := 2) rfl (vis_of rfl)) (jo_cons (jx_var (i := 5) rfl (vis_of rfl)) (jo_cons (jx_var (i := 4) rfl (vis_of rfl)) jo_nil)))))))))))
theorem sc_is_whole : FnScope ["value"] ["value"] (defScope (top 8)) := ⟨rfl, rfl, rfl, by decide +kernel, rfl, by decide +kernel, by decide +kernel⟩
theorem bd0_is_whole (T : Tx P w K mg fd) : Binds K (fd 3) ["value"] [] := (T.u_is_whole).bindsN fun _ _ _ _ _ _ us hl => match us, hl with | [_], _ => rfl
theorem bd_is_whole_1 (T : Tx P w K mg fd) : ∃ ds, Vals [] ds ∧ Binds K (fd 3) ["value"] ds := ⟨[], .nil, bd0_is_whole T⟩
theorem ok_is_whole (T : Tx P w K mg fd) : FnOk P w K mg base (L2.CX P w) 1 (He.fAd K ("is_whole", none)) (fd 3) ["value"] (spM (gt K) 1 f_is_whole) :=
  fn_ok (T.u_is_whole) sc_is_whole fun cdv A outer s H E hr => have hu := TL.hu_of hr
  (jb_one (js_ret (jx_and (jx_isi rfl rfl T.f_isinstance (jx_var (i := 0) rfl (vis_of rfl)) (pe_bltn (v := .ty "int") rfl T.f_int bt_int rfl) (.ty _) ti_int (fun _ _ h => tIn_cls h)) (jx_one (jx_not (jx_isi rfl rfl T.f_isinstance (jx_var (i := 0) rfl (vis_of rfl)) (pe_bltn (v := .ty "bool") rfl T.f_bool bt_bool rfl) (.ty _) ti_bool (fun _ _ h => tIn_cls h)))))))
theorem sc_is_triple : FnScope ["size", "triple", "part"] ["size", "triple"] (defScope (top 11)) := ⟨rfl, rfl, rfl, by decide +kernel, rfl, by decide +kernel, by decide +kernel⟩
theorem bd0_is_triple (T : Tx P w K mg fd) : Binds K (fd 4) ["size", "triple"] [] := (T.u_is_triple).bindsN fun _ _ _ _ _ _ us hl => match us, hl with | [_, _], _ => rfl
theorem bd_is_triple_2 (T : Tx P w K mg fd) : ∃ ds, Vals [] ds ∧ Binds K (fd 4) ["size", "triple"] ds := ⟨[], .nil, bd0_is_triple T⟩
theorem ok_is_triple (T : Tx P w K mg fd) : FnOk P w K mg base (L2.CX P w) 2 (He.fAd K ("is_triple", none)) (fd 4) ["size", "triple"] (spM (gt K) 2 f_is_triple) :=
  fn_ok (T.u_is_triple) sc_is_triple fun cdv A outer s H E hr => have hu := TL.hu_of hr
  (jb_cons (js_if (jt_w (jw_or (jt_not (jt_val (jx_isiT rfl rfl T.f_isinstance (jx_var (i := 1) rfl (vis_of rfl)) (.cons (pe_bltn (v := .ty "list") rfl T.f_list bt_list rfl) (.ty _) (.cons (pe_bltn (v := .ty "tuple") rfl T.f_tuple bt_tuple rfl) (.ty _) .nil rfl) rfl) (Nat.le_of_ble_eq_true rfl) ti_lt (fun _ _ h => tIn_cls h)))) (jw_or1 (jt_cmp (op_neD hu) v2_neD (jx_callB call_len vc_len rfl T.f_len bt_len (jl_cons (jx_var (i := 1) rfl (vis_of rfl)) jl_nil)) jx_int (nomark _))))) (jb_one (js_ret jx_bl)) jb_nil)
  (jb_cons (js_for (passes_of rfl) rfl (ji_seq rfl (jx_var (i := 1) rfl (vis_of rfl))) (jg_name (k := 2) sc_is_triple.nd rfl (loc_of rfl)) (jb_one (js_if (jt_not (jt_val (jx_call (ok_is_whole T) (hr.mono (by decide)) rfl T.g_is_whole (T.u_is_whole).kp (bd_is_whole_1 T).choose_spec.2 (bd_is_whole_1 T).choose_spec.1 (takes_of rfl rfl rfl rfl) (jp_cons pc_P (jx_var (i := 2) rfl (vis_of rfl)) jp_nil) co_nil))) (jb_one (js_ret jx_bl)) jb_nil)))
  (jb_one (js_ret (jx_and (jx_chain op_le op_lt v2_le v2_lt jx_int (jx_ix rfl (jx_var (i := 1) rfl (vis_of rfl)) jx_int (by intro _ _; rfl)) (jx_var (i := 0) rfl (vis_of rfl))) (jx_one (jx_chain op_le op_lt v2_le v2_lt jx_int (jx_ix rfl (jx_var (i := 1) rfl (vis_of rfl)) jx_int (by intro _ _; rfl)) (jx_var (i := 0) rfl (vis_of rfl)))))))))
theorem sc_arc_rows : FnScope ["size", "arcs", "place", "triple"] ["size", "arcs"] (defScope (top 12)) := ⟨rfl, rfl, rfl, by decide +kernel, rfl, by decide +kernel, by decide +kernel⟩
theorem bd0_arc_rows (T : Tx P w K mg fd) : Binds K (fd 5) ["size", "arcs"] [] := (T.u_arc_rows).bindsN fun _ _ _ _ _ _ us hl => match us, hl with | [_, _], _ => rfl
theorem bd_arc_rows_2 (T : Tx P w K mg fd) : ∃ ds, Vals [] ds ∧ Binds K (fd 5) ["size", "arcs"] ds := ⟨[], .nil, bd0_arc_rows T⟩
theorem ok_arc_rows (T : Tx P w K mg fd) : FnOk P w K mg base (L2.CX P w) 3 (He.fAd K ("arc_rows", none)) (fd 5) ["size", "arcs"] (spM (gt K) 2 f_arc_rows) :=
  fn_ok (T.u_arc_rows) sc_arc_rows fun cdv A outer s H E hr => have hu := TL.hu_of hr
  (jb_cons (js_if (jt_not (jt_val (jx_isiT rfl rfl T.f_isinstance (jx_var (i := 1) rfl (vis_of rfl)) (.cons (pe_bltn (v := .ty "list") rfl T.f_list bt_list rfl) (.ty _) (.cons (pe_bltn (v := .ty "tuple") rfl T.f_tuple bt_tuple rfl) (.ty _) .nil rfl) rfl) (Nat.le_of_ble_eq_true rfl) ti_lt (fun _ _ h => tIn_cls h)))) (jb_one (js_raise (c := 3) rfl (takes_of rfl rfl rfl rfl) rfl rfl rfl (by simp [gt, xfs]) (PySem.TLX.pmk1 T.xt_BadNet (hr.mono (Nat.zero_le _)) (ja_cons (jx_negm jx_int) ja_nil) rfl rfl (by decide) rfl rfl T.xn_BadNet_place (fun _ _ _ _ _ _ _ _ => rfl)))) jb_nil)
  (jb_cons (js_for (passes_of rfl) rfl (ji_enum rfl rfl T.f_enumerate (ja_cons (jx_var (i := 1) rfl (vis_of rfl)) ja_nil)) (jg_tup rfl rfl (jgs_cons (jg_name (k := 2) sc_arc_rows.nd rfl (loc_of rfl)) (jgs_cons (jg_name (k := 3) sc_arc_rows.nd rfl (loc_of rfl)) jgs_nil))) (jb_one (js_if (jt_not (jt_val (jx_call (ok_is_triple T) (hr.mono (by decide)) rfl T.g_is_triple (T.u_is_triple).kp (bd_is_triple_2 T).choose_spec.2 (bd_is_triple_2 T).choose_spec.1 (takes_of rfl rfl rfl rfl) (jp_cons pc_P (jx_var (i := 0) rfl (vis_of rfl)) (jp_cons pc_P (jx_var (i := 3) rfl (vis_of rfl)) jp_nil)) co_nil))) (jb_one (js_raise (c := 3) rfl (takes_of rfl rfl rfl rfl) rfl rfl rfl (by simp [gt, xfs]) (PySem.TLX.pmk1 T.xt_BadNet (hr.mono (Nat.zero_le _)) (ja_cons (jx_var (i := 2) rfl (vis_of rfl)) ja_nil) rfl rfl (by decide) rfl rfl T.xn_BadNet_place (fun _ _ _ _ _ _ _ _ => rfl)))) jb_nil)))
  (jb_one (js_ret (jx_callTy call_tuple_of vc_tuple rfl T.f_tuple bt_tuple (jl_cons (jx_lc rfl sc_arc_rows.nd (by exact (ji_seq rfl (jx_var (i := 1) rfl (vis_of rfl)))) (blkOk_by (own := [("triple", 3)]) (by rfl)) (fun _ _ _ _ _ => (jg_name (k := 3) sc_arc_rows.nd rfl (loc_of rfl))) (fun _ _ _ _ _ => jts_nil) (fun _ _ _ _ _ => (jx_callTy call_tuple_of vc_tuple rfl T.f_tuple bt_tuple (jl_cons (jx_var (i := 3) rfl (vis_of rfl)) jl_nil)))) jl_nil))))))
theorem sc_Net__init : FnScope ["self", "size", "arcs"] ["self", "size", "arcs"] (defScope (inClass (top 13) 0)) := ⟨rfl, rfl, rfl, by decide +kernel, rfl, by decide +kernel, by decide +kernel⟩
theorem bd0_Net__init (T : Tx P w K mg fd) : Binds K (fd 6) ["self", "size", "arcs"] [] := (T.u_Net__init).bindsN fun _ _ _ _ _ _ us hl => match us, hl with | [_, _, _], _ => rfl
theorem bd_Net__init_3 (T : Tx P w K mg fd) : ∃ ds, Vals [] ds ∧ Binds K (fd 6) ["self", "size", "arcs"] ds := ⟨[], .nil, bd0_Net__init T⟩
theorem ok_Net__init (T : Tx P w K mg fd) : FnOk P w K mg base (L2.CX P w) 4 (He.fAd K ("Net", some "__init__")) (fd 6) ["self", "size", "arcs"] (spI (gt K) 3 0 f_Net__init) :=
  init_ok (T.u_Net__init) sc_Net__init fun cdv A outer s H E hr => have hu := TL.hu_of hr
  (jb_cons (js_if (jt_w (jw_or (jt_not (jt_val (jx_call (ok_is_whole T) (hr.mono (by decide)) rfl T.g_is_whole (T.u_is_whole).kp (bd_is_whole_1 T).choose_spec.2 (bd_is_whole_1 T).choose_spec.1 (takes_of rfl rfl rfl rfl) (jp_cons pc_P (jx_var (i := 1) rfl (vis_of rfl)) jp_nil) co_nil))) (jw_or1 (jt_cmp op_lt v2_lt (jx_var (i := 1) rfl (vis_of rfl)) jx_int (nomark _))))) (jb_one (js_raise (c := 1) rfl (takes_of rfl rfl rfl rfl) rfl rfl rfl (by simp [gt, xfs]) (PySem.TLX.pmk1 T.xt_BadNumber (hr.mono (Nat.zero_le _)) (ja_cons jx_str ja_nil) rfl rfl (by decide) rfl rfl T.xn_BadNumber_name (fun _ _ _ _ _ _ _ _ => rfl)))) jb_nil)
  (jb_cons (js_fld (i := 0) (c := 0) (k := 0) rfl (jx_var (i := 1) rfl (vis_of rfl)) rfl (vis_of rfl) T.cl_Net T.na_Net_size rfl (by show (["size", "arcs"] : List Str).Nodup; decide))
  (jb_one (js_fld (i := 0) (c := 0) (k := 1) rfl (jx_call (ok_arc_rows T) (hr.mono (by decide)) rfl T.g_arc_rows (T.u_arc_rows).kp (bd_arc_rows_2 T).choose_spec.2 (bd_arc_rows_2 T).choose_spec.1 (takes_of rfl rfl rfl rfl) (jp_cons pc_P (jx_var (i := 1) rfl (vis_of rfl)) (jp_cons pc_P (jx_var (i := 2) rfl (vis_of rfl)) jp_nil)) co_nil) rfl (vis_of rfl) T.cl_Net T.na_Net_arcs rfl (by show (["size", "arcs"] : List Str).Nodup; decide)))))
theorem sc_law_int : FnScope ["value"] ["value"] (defScope (top 31)) := ⟨rfl, rfl, rfl, by decide +kernel, rfl, by decide +kernel, by decide +kernel⟩
theorem bd0_law_int (T : Tx P w K mg fd) : Binds K (fd 7) ["value"] [] := (T.u_law_int).bindsN fun _ _ _ _ _ _ us hl => match us, hl with | [_], _ => rfl
theorem bd_law_int_1 (T : Tx P w K mg fd) : ∃ ds, Vals [] ds ∧ Binds K (fd 7) ["value"] ds := ⟨[], .nil, bd0_law_int T⟩
theorem ok_law_int (T : Tx P w K mg fd) : FnOk P w K mg base (L2.CX P w) 1 (He.fAd K ("_law_int", none)) (fd 7) ["value"] (spM (gt K) 1 f_law_int) :=
  fn_ok (T.u_law_int) sc_law_int fun cdv A outer s H E hr => have hu := TL.hu_of hr
  (jb_one (js_ret (jx_and (jx_isi rfl rfl T.f_isinstance (jx_var (i := 0) rfl (vis_of rfl)) (pe_bltn (v := .ty "int") rfl T.f_int bt_int rfl) (.ty _) ti_int (fun _ _ h => tIn_cls h)) (jx_one (jx_not (jx_isi rfl rfl T.f_isinstance (jx_var (i := 0) rfl (vis_of rfl)) (pe_bltn (v := .ty "bool") rfl T.f_bool bt_bool rfl) (.ty _) ti_bool (fun _ _ h => tIn_cls h)))))))
theorem sc_law_ints : FnScope ["value", "size", "one"] ["value", "size"] (defScope (top 32)) := ⟨rfl, rfl, rfl, by decide +kernel, rfl, by decide +kernel, by decide +kernel⟩
theorem bd0_law_ints (T : Tx P w K mg fd) : Binds K (fd 8) ["value", "size"] [] := (T.u_law_ints).bindsN fun _ _ _ _ _ _ us hl => match us, hl with | [_, _], _ => rfl
theorem bd_law_ints_2 (T : Tx P w K mg fd) : ∃ ds, Vals [] ds ∧ Binds K (fd 8) ["value", "size"] ds := ⟨[], .nil, bd0_law_ints T⟩
theorem ok_law_ints (T : Tx P w K mg fd) : FnOk P w K mg base (L2.CX P w) 2 (He.fAd K ("_law_ints", none)) (fd 8) ["value", "size"] (spM (gt K) 2 f_law_ints) :=
  fn_ok (T.u_law_ints) sc_law_ints fun cdv A outer s H E hr => have hu := TL.hu_of hr
  (jb_cons (js_if (jt_w (jw_or (jt_not (jt_val (jx_isi rfl rfl T.f_isinstance (jx_var (i := 0) rfl (vis_of rfl)) (pe_bltn (v := .ty "tuple") rfl T.f_tuple bt_tuple rfl) (.ty _) ti_tuple (fun _ _ h => tIn_cls h)))) (jw_or1 (jt_cmp (op_neD hu) v2_neD (jx_callB call_len vc_len rfl T.f_len bt_len (jl_cons (jx_var (i := 0) rfl (vis_of rfl)) jl_nil)) (jx_var (i := 1) rfl (vis_of rfl)) (nomark _))))) (jb_one (js_ret jx_bl)) jb_nil)
  (jb_cons (js_for (passes_of rfl) rfl (ji_seq rfl (jx_var (i := 0) rfl (vis_of rfl))) (jg_name (k := 2) sc_law_ints.nd rfl (loc_of rfl)) (jb_one (js_if (jt_not (jt_val (jx_call (ok_law_int T) (hr.mono (by decide)) rfl T.g__law_int (T.u_law_int).kp (bd_law_int_1 T).choose_spec.2 (bd_law_int_1 T).choose_spec.1 (takes_of rfl rfl rfl rfl) (jp_cons pc_P (jx_var (i := 2) rfl (vis_of rfl)) jp_nil) co_nil))) (jb_one (js_ret jx_bl)) jb_nil)))
  (jb_one (js_ret jx_bl))))
theorem sc_Net__len : FnScope ["self"] ["self"] (defScope (inClass (top 13) 2)) := ⟨rfl, rfl, rfl, by decide +kernel, rfl, by decide +kernel, by decide +kernel⟩
theorem bd0_Net__len (T : Tx P w K mg fd) : Binds K (fd 9) ["self"] [] := (T.u_Net__len).bindsN fun _ _ _ _ _ _ us hl => match us, hl with | [_], _ => rfl
theorem bd_Net__len_1 (T : Tx P w K mg fd) : ∃ ds, Vals [] ds ∧ Binds K (fd 9) ["self"] ds := ⟨[], .nil, bd0_Net__len T⟩
theorem ok_Net__len (T : Tx P w K mg fd) : FnOk P w K mg base (L2.CX P w) 1 (He.fAd K ("Net", some "__len__")) (fd 9) ["self"] (spM (gt K) 1 f_Net__len) :=
  fn_ok (T.u_Net__len) sc_Net__len fun cdv A outer s H E hr => have hu := TL.hu_of hr
  (jb_one (js_ret (jx_callB call_len vc_len rfl T.f_len bt_len (jl_cons (jx_fld rfl (jx_var (i := 0) rfl (vis_of rfl)) (fl_arcs T)) jl_nil))))
theorem sc_law_first_broken : FnScope ["arcs", "row", "number"] ["arcs", "row"] (defScope (top 36)) := ⟨rfl, rfl, rfl, by decide +kernel, rfl, by decide +kernel, by decide +kernel⟩
theorem bd0_law_first_broken (T : Tx P w K mg fd) : Binds K (fd 10) ["arcs", "row"] [] := (T.u_law_first_broken).bindsN fun _ _ _ _ _ _ us hl => match us, hl with | [_, _], _ => rfl
theorem bd_law_first_broken_2 (T : Tx P w K mg fd) : ∃ ds, Vals [] ds ∧ Binds K (fd 10) ["arcs", "row"] ds := ⟨[], .nil, bd0_law_first_broken T⟩
theorem ok_law_first_broken (T : Tx P w K mg fd) : FnOk P w K mg base (L2.CX P w) 1 (He.fAd K ("_law_first_broken", none)) (fd 10) ["arcs", "row"] (spM (gt K) 2 f_law_first_broken) :=
  fn_ok (T.u_law_first_broken) sc_law_first_broken fun cdv A outer s H E hr => have hu := TL.hu_of hr
  (jb_cons (js_for (passes_of rfl) rfl (ji_rng1 rfl T.f_range (jl_cons (jx_callB call_len vc_len rfl T.f_len bt_len (jl_cons (jx_var (i := 0) rfl (vis_of rfl)) jl_nil)) jl_nil)) (jg_name (k := 2) sc_law_first_broken.nd rfl (loc_of rfl)) (jb_one (js_if (jt_cmp op_gt v2_gt (jx_ix rfl (jx_var (i := 1) rfl (vis_of rfl)) (jx_ix rfl (jx_ix rfl (jx_var (i := 0) rfl (vis_of rfl)) (jx_var (i := 2) rfl (vis_of rfl)) (by intro _ _; rfl)) jx_int (by intro _ _; rfl)) (by intro _ _; rfl)) (jx_bin op_plus v2_plus (jx_ix rfl (jx_var (i := 1) rfl (vis_of rfl)) (jx_ix rfl (jx_ix rfl (jx_var (i := 0) rfl (vis_of rfl)) (jx_var (i := 2) rfl (vis_of rfl)) (by intro _ _; rfl)) jx_int (by intro _ _; rfl)) (by intro _ _; rfl)) (jx_ix rfl (jx_ix rfl (jx_var (i := 0) rfl (vis_of rfl)) (jx_var (i := 2) rfl (vis_of rfl)) (by intro _ _; rfl)) jx_int (by intro _ _; rfl))) (nomark _)) (jb_one (js_ret (jx_var (i := 2) rfl (vis_of rfl)))) jb_nil)))
  (jb_one (js_ret jx_non)))
theorem sc_given_net : FnScope ["net", "name"] ["net", "name"] (defScope (top 14)) := ⟨rfl, rfl, rfl, by decide +kernel, rfl, by decide +kernel, by decide +kernel⟩
theorem bd_given_net_1 (T : Tx P w K mg fd) : ∃ ds, Vals [.str "net"] ds ∧ Binds K (fd 11) ["net", "name"] ds :=
  (T.u_given_net).binds1 1 0 (by simp) rfl fun _ _ _ _ _ _ _ us its h1 h2 => match us, its, h1, h2 with | [_], [_], _, _ => ⟨_, rfl, rfl⟩
theorem ok_given_net (T : Tx P w K mg fd) : FnOk P w K mg base (L2.CX P w) 1 (He.fAd K ("given_net", none)) (fd 11) ["net", "name"] (spM (gt K) 2 f_given_net) :=
  fn_ok (T.u_given_net) sc_given_net fun cdv A outer s H E hr => have hu := TL.hu_of hr
  (jb_one (js_if (jt_not (jt_val (jx_isi rfl rfl T.f_isinstance (jx_var (i := 0) rfl (vis_of rfl)) (pe_glob (v := .ref ((gt K).C 0)) rfl T.g_Net rfl) (.own _) (T.is_Net) (io_Net T)))) (jb_one (js_raise (c := 1) rfl (takes_of rfl rfl rfl rfl) rfl rfl rfl (by simp [gt, xfs]) (PySem.TLX.pmk1 T.xt_BadNumber (hr.mono (Nat.zero_le _)) (ja_cons (jx_var (i := 1) rfl (vis_of rfl)) ja_nil) rfl rfl (by decide) rfl rfl T.xn_BadNumber_name (fun _ _ _ _ _ _ _ _ => rfl)))) jb_nil))
theorem sc_whole_row : FnScope ["value", "size", "low", "at", "entry"] ["value", "size", "low"] (defScope (top 9)) := ⟨rfl, rfl, rfl, by decide +kernel, rfl, by decide +kernel, by decide +kernel⟩
theorem bd_whole_row_2 (T : Tx P w K mg fd) : ∃ ds, Vals [.non] ds ∧ Binds K (fd 12) ["value", "size", "low"] ds :=
  (T.u_whole_row).binds1 2 0 (by simp) rfl fun _ _ _ _ _ _ _ us its h1 h2 => match us, its, h1, h2 with | [_, _], [_], _, _ => ⟨_, rfl, rfl⟩
theorem ok_whole_row (T : Tx P w K mg fd) : FnOk P w K mg base (L2.CX P w) 2 (He.fAd K ("whole_row", none)) (fd 12) ["value", "size", "low"] (spM (gt K) 3 f_whole_row) :=
  fn_ok (T.u_whole_row) sc_whole_row fun cdv A outer s H E hr => have hu := TL.hu_of hr
  (jb_cons (js_if (jt_not (jt_val (jx_isiT rfl rfl T.f_isinstance (jx_var (i := 0) rfl (vis_of rfl)) (.cons (pe_bltn (v := .ty "list") rfl T.f_list bt_list rfl) (.ty _) (.cons (pe_bltn (v := .ty "tuple") rfl T.f_tuple bt_tuple rfl) (.ty _) .nil rfl) rfl) (Nat.le_of_ble_eq_true rfl) ti_lt (fun _ _ h => tIn_cls h)))) (jb_one (js_raise (c := 2) rfl (takes_of rfl rfl rfl rfl) rfl rfl rfl (by simp [gt, xfs]) (PySem.TLX.pmk1 T.xt_BadRow (hr.mono (Nat.zero_le _)) (ja_cons (jx_negm jx_int) ja_nil) rfl rfl (by decide) rfl rfl T.xn_BadRow_place (fun _ _ _ _ _ _ _ _ => rfl)))) jb_nil)
  (jb_cons (js_if (jt_w (jw_and (jt_cmp op_isnotx v2_isnot (jx_var (i := 1) rfl (vis_of rfl)) jx_non (nomark _)) (jw_and1 (jt_cmp (op_neD hu) v2_neD (jx_callB call_len vc_len rfl T.f_len bt_len (jl_cons (jx_var (i := 0) rfl (vis_of rfl)) jl_nil)) (jx_var (i := 1) rfl (vis_of rfl)) (nomark _))))) (jb_one (js_raise (c := 2) rfl (takes_of rfl rfl rfl rfl) rfl rfl rfl (by simp [gt, xfs]) (PySem.TLX.pmk1 T.xt_BadRow (hr.mono (Nat.zero_le _)) (ja_cons (jx_negm jx_int) ja_nil) rfl rfl (by decide) rfl rfl T.xn_BadRow_place (fun _ _ _ _ _ _ _ _ => rfl)))) jb_nil)
  (jb_cons (js_for (passes_of rfl) rfl (ji_enum rfl rfl T.f_enumerate (ja_cons (jx_var (i := 0) rfl (vis_of rfl)) ja_nil)) (jg_tup rfl rfl (jgs_cons (jg_name (k := 3) sc_whole_row.nd rfl (loc_of rfl)) (jgs_cons (jg_name (k := 4) sc_whole_row.nd rfl (loc_of rfl)) jgs_nil))) (jb_one (js_if (jt_w (jw_or (jt_not (jt_val (jx_call (ok_is_whole T) (hr.mono (by decide)) rfl T.g_is_whole (T.u_is_whole).kp (bd_is_whole_1 T).choose_spec.2 (bd_is_whole_1 T).choose_spec.1 (takes_of rfl rfl rfl rfl) (jp_cons pc_P (jx_var (i := 4) rfl (vis_of rfl)) jp_nil) co_nil))) (jw_or1 (jt_w (jw_and (jt_cmp op_isnotx v2_isnot (jx_var (i := 2) rfl (vis_of rfl)) jx_non (nomark _)) (jw_and1 (jt_cmp op_lt v2_lt (jx_var (i := 4) rfl (vis_of rfl)) (jx_var (i := 2) rfl (vis_of rfl)) (nomark _)))))))) (jb_one (js_raise (c := 2) rfl (takes_of rfl rfl rfl rfl) rfl rfl rfl (by simp [gt, xfs]) (PySem.TLX.pmk1 T.xt_BadRow (hr.mono (Nat.zero_le _)) (ja_cons (jx_var (i := 3) rfl (vis_of rfl)) ja_nil) rfl rfl (by decide) rfl rfl T.xn_BadRow_place (fun _ _ _ _ _ _ _ _ => rfl)))) jb_nil)))
  (jb_one (js_ret (jx_callTy call_tuple_of vc_tuple rfl T.f_tuple bt_tuple (jl_cons (jx_var (i := 0) rfl (vis_of rfl)) jl_nil)))))))
theorem sc_broken_arc : FnScope ["net", "row", "heights", "number", "a", "b", "length"] ["net", "row"] (defScope (top 15)) := ⟨rfl, rfl, rfl, by decide +kernel, rfl, by decide +kernel, by decide +kernel⟩
theorem bd0_broken_arc (T : Tx P w K mg fd) : Binds K (fd 13) ["net", "row"] [] := (T.u_broken_arc).bindsN fun _ _ _ _ _ _ us hl => match us, hl with | [_, _], _ => rfl
theorem bd_broken_arc_2 (T : Tx P w K mg fd) : ∃ ds, Vals [] ds ∧ Binds K (fd 13) ["net", "row"] ds := ⟨[], .nil, bd0_broken_arc T⟩
theorem ok_broken_arc (T : Tx P w K mg fd) : FnOk P w K mg base (L2.CX P w) 3 (He.fAd K ("broken_arc", none)) (fd 13) ["net", "row"] (spM (gt K) 2 f_broken_arc) :=
  fn_ok (T.u_broken_arc) sc_broken_arc fun cdv A outer s H E hr => have hu := TL.hu_of hr
  (jb_cons (js_expr (jx_call (ok_given_net T) (hr.mono (by decide)) rfl T.g_given_net (T.u_given_net).kp (bd_given_net_1 T).choose_spec.2 (bd_given_net_1 T).choose_spec.1 (takes_of rfl rfl rfl rfl) (jp_cons pc_P (jx_var (i := 0) rfl (vis_of rfl)) jp_nil) (co_str co_nil)))
  (jb_cons (js_set (k := 2) sc_broken_arc.nd rfl (loc_of rfl) (jx_call (ok_whole_row T) (hr.mono (by decide)) rfl T.g_whole_row (T.u_whole_row).kp (bd_whole_row_2 T).choose_spec.2 (bd_whole_row_2 T).choose_spec.1 (takes_of rfl rfl rfl rfl) (jp_cons pc_P (jx_var (i := 1) rfl (vis_of rfl)) (jp_cons pc_P (jx_fld rfl (jx_var (i := 0) rfl (vis_of rfl)) (fl_size T)) jp_nil)) (co_non co_nil)))
  (jb_cons (js_for (passes_of rfl) rfl (ji_enum rfl rfl T.f_enumerate (ja_cons (jx_fld rfl (jx_var (i := 0) rfl (vis_of rfl)) (fl_arcs T)) ja_nil)) (jg_tup rfl rfl (jgs_cons (jg_name (k := 3) sc_broken_arc.nd rfl (loc_of rfl)) (jgs_cons (jg_tup rfl rfl (jgs_cons (jg_name (k := 4) sc_broken_arc.nd rfl (loc_of rfl)) (jgs_cons (jg_name (k := 5) sc_broken_arc.nd rfl (loc_of rfl)) (jgs_cons (jg_name (k := 6) sc_broken_arc.nd rfl (loc_of rfl)) jgs_nil)))) jgs_nil))) (jb_one (js_if (jt_cmp op_gt v2_gt (jx_ix rfl (jx_var (i := 2) rfl (vis_of rfl)) (jx_var (i := 5) rfl (vis_of rfl)) (by intro _ _; rfl)) (jx_bin op_plus v2_plus (jx_ix rfl (jx_var (i := 2) rfl (vis_of rfl)) (jx_var (i := 4) rfl (vis_of rfl)) (by intro _ _; rfl)) (jx_var (i := 6) rfl (vis_of rfl))) (nomark _)) (jb_one (js_ret (jx_var (i := 3) rfl (vis_of rfl)))) jb_nil)))
  (jb_one (js_ret jx_non)))))
theorem sc_keeps : FnScope ["net", "row"] ["net", "row"] (defScope (top 16)) := ⟨rfl, rfl, rfl, by decide +kernel, rfl, by decide +kernel, by decide +kernel⟩
theorem bd0_keeps (T : Tx P w K mg fd) : Binds K (fd 14) ["net", "row"] [] := (T.u_keeps).bindsN fun _ _ _ _ _ _ us hl => match us, hl with | [_, _], _ => rfl
theorem bd_keeps_2 (T : Tx P w K mg fd) : ∃ ds, Vals [] ds ∧ Binds K (fd 14) ["net", "row"] ds := ⟨[], .nil, bd0_keeps T⟩
theorem ok_keeps (T : Tx P w K mg fd) : FnOk P w K mg base (L2.CX P w) 4 (He.fAd K ("keeps", none)) (fd 14) ["net", "row"] (spM (gt K) 2 f_keeps) :=
  fn_ok (T.u_keeps) sc_keeps fun cdv A outer s H E hr => have hu := TL.hu_of hr
  (jb_one (js_ret (jx_cmp op_isx v2_is (jx_call (ok_broken_arc T) (hr.mono (by decide)) rfl T.g_broken_arc (T.u_broken_arc).kp (bd_broken_arc_2 T).choose_spec.2 (bd_broken_arc_2 T).choose_spec.1 (takes_of rfl rfl rfl rfl) (jp_cons pc_P (jx_var (i := 0) rfl (vis_of rfl)) (jp_cons pc_P (jx_var (i := 1) rfl (vis_of rfl)) jp_nil)) co_nil) jx_non (nomark _))))
theorem sc_law_looks : FnScope ["net", "arcs", "row", "due", "told", "verdict"] ["net", "arcs", "row"] (defScope (top 38)) := ⟨rfl, rfl, rfl, by decide +kernel, rfl, by decide +kernel, by decide +kernel⟩
theorem bd0_law_looks (T : Tx P w K mg fd) : Binds K (fd 15) ["net", "arcs", "row"] [] := (T.u_law_looks).bindsN fun _ _ _ _ _ _ us hl => match us, hl with | [_, _, _], _ => rfl
theorem bd_law_looks_3 (T : Tx P w K mg fd) : ∃ ds, Vals [] ds ∧ Binds K (fd 15) ["net", "arcs", "row"] ds := ⟨[], .nil, bd0_law_looks T⟩
theorem ok_law_looks (T : Tx P w K mg fd) : FnOk P w K mg base (L2.CX P w) 5 (He.fAd K ("_law_looks", none)) (fd 15) ["net", "arcs", "row"] (spM (gt K) 3 f_law_looks) :=
  fn_ok (T.u_law_looks) sc_law_looks fun cdv A outer s H E hr => have hu := TL.hu_of hr
  (jb_cons (js_set (k := 3) sc_law_looks.nd rfl (loc_of rfl) (jx_call (ok_law_first_broken T) (hr.mono (by decide)) rfl T.g__law_first_broken (T.u_law_first_broken).kp (bd_law_first_broken_2 T).choose_spec.2 (bd_law_first_broken_2 T).choose_spec.1 (takes_of rfl rfl rfl rfl) (jp_cons pc_P (jx_var (i := 1) rfl (vis_of rfl)) (jp_cons pc_P (jx_var (i := 2) rfl (vis_of rfl)) jp_nil)) co_nil))
  (jb_cons (js_set (k := 4) sc_law_looks.nd rfl (loc_of rfl) (jx_call (ok_broken_arc T) (hr.mono (by decide)) rfl T.g_broken_arc (T.u_broken_arc).kp (bd_broken_arc_2 T).choose_spec.2 (bd_broken_arc_2 T).choose_spec.1 (takes_of rfl rfl rfl rfl) (jp_cons pc_P (jx_var (i := 0) rfl (vis_of rfl)) (jp_cons pc_P (jx_callTy call_list_of vc_list rfl T.f_list bt_list (jl_cons (jx_var (i := 2) rfl (vis_of rfl)) jl_nil)) jp_nil)) co_nil))
  (jb_cons (js_set (k := 5) sc_law_looks.nd rfl (loc_of rfl) (jx_call (ok_keeps T) (hr.mono (by decide)) rfl T.g_keeps (T.u_keeps).kp (bd_keeps_2 T).choose_spec.2 (bd_keeps_2 T).choose_spec.1 (takes_of rfl rfl rfl rfl) (jp_cons pc_P (jx_var (i := 0) rfl (vis_of rfl)) (jp_cons pc_P (jx_callTy call_tuple_of vc_tuple rfl T.f_tuple bt_tuple (jl_cons (jx_var (i := 2) rfl (vis_of rfl)) jl_nil)) jp_nil)) co_nil))
  (jb_cons (js_if (jt_cmp op_isx v2_is (jx_var (i := 3) rfl (vis_of rfl)) jx_non (nomark _)) (jb_one (js_ret (jx_and (jx_cmp op_isx v2_is (jx_var (i := 4) rfl (vis_of rfl)) jx_non (nomark _)) (jx_one (jx_cmp op_isx v2_is (jx_var (i := 5) rfl (vis_of rfl)) jx_bl (nomark _)))))) jb_nil)
  (jb_one (js_ret (jx_and (jx_call (ok_law_int T) (hr.mono (by decide)) rfl T.g__law_int (T.u_law_int).kp (bd_law_int_1 T).choose_spec.2 (bd_law_int_1 T).choose_spec.1 (takes_of rfl rfl rfl rfl) (jp_cons pc_P (jx_var (i := 4) rfl (vis_of rfl)) jp_nil) co_nil) (jx_and (jx_cmp (op_eqD hu) v2_eqD (jx_var (i := 4) rfl (vis_of rfl)) (jx_var (i := 3) rfl (vis_of rfl)) (nomark _)) (jx_one (jx_cmp op_isx v2_is (jx_var (i := 5) rfl (vis_of rfl)) jx_bl (nomark _)))))))))))
theorem sc_law_kept : FnScope ["draws", "size", "arcs", "heights", "handed", "net", "k", "near", "at", "row", "arc", "node"] ["draws", "size", "arcs", "heights"] (defScope (top 41)) := ⟨rfl, rfl, rfl, by decide +kernel, rfl, by decide +kernel, by decide +kernel⟩
theorem bd0_law_kept (T : Tx P w K mg fd) : Binds K (fd 16) ["draws", "size", "arcs", "heights"] [] := (T.u_law_kept).bindsN fun _ _ _ _ _ _ us hl => match us, hl with | [_, _, _, _], _ => rfl
theorem bd_law_kept_4 (T : Tx P w K mg fd) : ∃ ds, Vals [] ds ∧ Binds K (fd 16) ["draws", "size", "arcs", "heights"] ds := ⟨[], .nil, bd0_law_kept T⟩
theorem ok_law_kept (T : Tx P w K mg fd) : FnOk P w K mg base (L2.CX P w) 6 (He.fAd K ("_law_kept", none)) (fd 16) ["draws", "size", "arcs", "heights"] (spM (gt K) 4 f_law_kept) :=
  fn_ok (T.u_law_kept) sc_law_kept fun cdv A outer s H E hr => have hu := TL.hu_of hr
  (jb_cons (js_setLc (k := 4) rfl sc_law_kept.nd rfl rfl (sw_true rfl rfl rfl rfl) (by exact (ji_seq rfl (jx_var (i := 2) rfl (vis_of rfl)))) (blkOk_by (own := [("arc", 10)]) (by rfl)) (fun _ _ _ _ _ => (jg_name (k := 10) sc_law_kept.nd rfl (loc_of rfl))) (fun _ _ _ _ _ => jts_nil) (fun _ _ _ _ _ => (jx_callTy call_list_of vc_list rfl T.f_list bt_list (jl_cons (jx_var (i := 10) rfl (vis_of rfl)) jl_nil))))
  (jb_cons (js_set (k := 5) sc_law_kept.nd rfl (loc_of rfl) (jx_make (c := 0) T.mk_Net (ok_Net__init T) rfl (hr.mono (by decide)) rfl T.g_Net (bd_Net__init_3 T).choose_spec.2 (bd_Net__init_3 T).choose_spec.1 (takes_of rfl rfl rfl rfl) (jp_cons pc_P (jx_var (i := 1) rfl (vis_of rfl)) (jp_cons pc_lent (jx_var (i := 4) rfl (vis_of rfl)) jp_nil)) co_nil))
  (jb_cons (js_app rfl (jx_var (i := 4) rfl (vis_of rfl)) (jx_lst (jo_cons jx_int (jo_cons jx_int (jo_cons (jx_negm jx_int) jo_nil)))))
  (jb_cons (js_for (passes_of rfl) rfl (ji_rng1 rfl T.f_range (jl_cons (jx_callB call_len vc_len rfl T.f_len bt_len (jl_cons (jx_var (i := 2) rfl (vis_of rfl)) jl_nil)) jl_nil)) (jg_name (k := 6) sc_law_kept.nd rfl (loc_of rfl)) (jb_cons (js_set (k := 9) sc_law_kept.nd rfl (loc_of rfl) (jx_ix rfl (jx_var (i := 4) rfl (vis_of rfl)) (jx_var (i := 6) rfl (vis_of rfl)) (by intro _ _; rfl)))
  (jb_one (js_sub (jx_bin op_sub v2_sub (jx_ix rfl (jx_var (i := 9) rfl (vis_of rfl)) jx_int (by intro _ _; rfl)) jx_int) (jx_var (i := 9) rfl (vis_of rfl)) jx_int))))
  (jb_cons (js_if (jt_w (jw_or (jt_not (jt_val (jx_call (ok_law_int T) (hr.mono (by decide)) rfl T.g__law_int (T.u_law_int).kp (bd_law_int_1 T).choose_spec.2 (bd_law_int_1 T).choose_spec.1 (takes_of rfl rfl rfl rfl) (jp_cons pc_P (jx_fld rfl (jx_var (i := 5) rfl (vis_of rfl)) (fl_size T)) jp_nil) co_nil))) (jw_or (jt_cmp (op_neD hu) v2_neD (jx_fld rfl (jx_var (i := 5) rfl (vis_of rfl)) (fl_size T)) (jx_var (i := 1) rfl (vis_of rfl)) (nomark _)) (jw_or (jt_not (jt_val (jx_isi rfl rfl T.f_isinstance (jx_fld rfl (jx_var (i := 5) rfl (vis_of rfl)) (fl_arcs T)) (pe_bltn (v := .ty "tuple") rfl T.f_tuple bt_tuple rfl) (.ty _) ti_tuple (fun _ _ h => tIn_cls h)))) (jw_or1 (jt_cmp (op_neD hu) v2_neD (jx_callB call_len vc_len rfl T.f_len bt_len (jl_cons (jx_fld rfl (jx_var (i := 5) rfl (vis_of rfl)) (fl_arcs T)) jl_nil)) (jx_callB call_len vc_len rfl T.f_len bt_len (jl_cons (jx_var (i := 2) rfl (vis_of rfl)) jl_nil)) (nomark _))))))) (jb_one (js_ret jx_bl)) jb_nil)
  (jb_cons (js_for (passes_of rfl) rfl (ji_rng1 rfl T.f_range (jl_cons (jx_callB call_len vc_len rfl T.f_len bt_len (jl_cons (jx_var (i := 2) rfl (vis_of rfl)) jl_nil)) jl_nil)) (jg_name (k := 6) sc_law_kept.nd rfl (loc_of rfl)) (jb_one (js_if (jt_w (jw_or (jt_not (jt_val (jx_call (ok_law_ints T) (hr.mono (by decide)) rfl T.g__law_ints (T.u_law_ints).kp (bd_law_ints_2 T).choose_spec.2 (bd_law_ints_2 T).choose_spec.1 (takes_of rfl rfl rfl rfl) (jp_cons pc_P (jx_ix rfl (jx_fld rfl (jx_var (i := 5) rfl (vis_of rfl)) (fl_arcs T)) (jx_var (i := 6) rfl (vis_of rfl)) (by intro _ _; rfl)) (jp_cons pc_P jx_int jp_nil)) co_nil))) (jw_or1 (jt_cmp (op_neD hu) v2_neD (jx_ix rfl (jx_fld rfl (jx_var (i := 5) rfl (vis_of rfl)) (fl_arcs T)) (jx_var (i := 6) rfl (vis_of rfl)) (by intro _ _; rfl)) (jx_ix rfl (jx_var (i := 2) rfl (vis_of rfl)) (jx_var (i := 6) rfl (vis_of rfl)) (by intro _ _; rfl)) (nomark _))))) (jb_one (js_ret jx_bl)) jb_nil)))
  (jb_cons (js_if (jt_w (jw_or (jt_cmp (op_neD hu) v2_neD (jx_lenO (c := 0) (ok_Net__len T) (hr.mono (by decide)) T.ln_Net T.lf_Net (bd0_Net__len T) (takes_of rfl rfl rfl rfl) rfl T.f_len (jx_var (i := 5) rfl (vis_of rfl))) (jx_callB call_len vc_len rfl T.f_len bt_len (jl_cons (jx_var (i := 2) rfl (vis_of rfl)) jl_nil)) (nomark _)) (jw_or1 (jt_cmp (op_neD hu) v2_neD (jx_callTy (call_listO T.lo_Net rfl (ok_Net__iter T) (bd0_Net__iter T) (ok2_Net__len T) (bd0_Net__len T) (hr.mono (by decide))) (vc_listO (k := 1) rfl (by show (["size", "arcs"] : List Str).Nodup; decide)) rfl T.f_list bt_list (jl_cons (jx_var (i := 5) rfl (vis_of rfl)) jl_nil)) (jx_var (i := 2) rfl (vis_of rfl)) (nomark _))))) (jb_one (js_ret jx_bl)) jb_nil)
  (jb_cons (js_set (k := 7) sc_law_kept.nd rfl (loc_of rfl) (jx_callTy call_list_of vc_list rfl T.f_list bt_list (jl_cons (jx_var (i := 3) rfl (vis_of rfl)) jl_nil)))
  (jb_cons (js_set (k := 8) sc_law_kept.nd rfl (loc_of rfl) (jx_call (ok_law_take T) (hr.mono (by decide)) rfl T.g__law_take (T.u_law_take).kp (bd_law_take_2 T).choose_spec.2 (bd_law_take_2 T).choose_spec.1 (takes_of rfl rfl rfl rfl) (jp_cons pc_P (jx_var (i := 0) rfl (vis_of rfl)) (jp_cons pc_P (jx_var (i := 1) rfl (vis_of rfl)) jp_nil)) co_nil))
  (jb_cons (js_sub (jx_bin op_plus v2_plus (jx_ix rfl (jx_var (i := 7) rfl (vis_of rfl)) (jx_var (i := 8) rfl (vis_of rfl)) (by intro _ _; rfl)) (jx_ix rfl (jx_lst (jo_cons jx_int (jo_cons (jx_negm jx_int) (jo_cons jx_int (jo_cons jx_int (jo_cons (jx_negm (jx_bin op_pow v2_pow jx_int jx_int)) (jo_cons jx_int jo_nil))))))) (jx_call (ok_law_take T) (hr.mono (by decide)) rfl T.g__law_take (T.u_law_take).kp (bd_law_take_2 T).choose_spec.2 (bd_law_take_2 T).choose_spec.1 (takes_of rfl rfl rfl rfl) (jp_cons pc_P (jx_var (i := 0) rfl (vis_of rfl)) (jp_cons pc_P jx_int jp_nil)) co_nil) (by intro _ _; rfl))) (jx_var (i := 7) rfl (vis_of rfl)) (jx_var (i := 8) rfl (vis_of rfl)))
  (jb_one (js_ret (jx_and (jx_call (ok_law_looks T) (hr.mono (by decide)) rfl T.g__law_looks (T.u_law_looks).kp (bd_law_looks_3 T).choose_spec.2 (bd_law_looks_3 T).choose_spec.1 (takes_of rfl rfl rfl rfl) (jp_cons pc_P (jx_var (i := 5) rfl (vis_of rfl)) (jp_cons pc_P (jx_var (i := 2) rfl (vis_of rfl)) (jp_cons pc_P (jx_var (i := 3) rfl (vis_of rfl)) jp_nil))) co_nil) (jx_and (jx_call (ok_law_looks T) (hr.mono (by decide)) rfl T.g__law_looks (T.u_law_looks).kp (bd_law_looks_3 T).choose_spec.2 (bd_law_looks_3 T).choose_spec.1 (takes_of rfl rfl rfl rfl) (jp_cons pc_P (jx_var (i := 5) rfl (vis_of rfl)) (jp_cons pc_P (jx_var (i := 2) rfl (vis_of rfl)) (jp_cons pc_P (jx_var (i := 7) rfl (vis_of rfl)) jp_nil))) co_nil) (jx_one (jx_call (ok_law_looks T) (hr.mono (by decide)) rfl T.g__law_looks (T.u_law_looks).kp (bd_law_looks_3 T).choose_spec.2 (bd_law_looks_3 T).choose_spec.1 (takes_of rfl rfl rfl rfl) (jp_cons pc_P (jx_var (i := 5) rfl (vis_of rfl)) (jp_cons pc_P (jx_var (i := 2) rfl (vis_of rfl)) (jp_cons pc_P (jx_lc rfl sc_law_kept.nd (by exact (ji_rng1 rfl T.f_range (jl_cons (jx_var (i := 1) rfl (vis_of rfl)) jl_nil))) (blkOk_by (own := [("node", 11)]) (by rfl)) (fun _ _ _ _ _ => (jg_name (k := 11) sc_law_kept.nd rfl (loc_of rfl))) (fun _ _ _ _ _ => jts_nil) (fun _ _ _ _ _ => jx_int)) jp_nil))) co_nil))))))))))))))))
theorem sc_law_dists : FnScope ["size", "arcs", "table", "a", "b", "length", "c"] ["size", "arcs"] (defScope (top 33)) := ⟨rfl, rfl, rfl, by decide +kernel, rfl, by decide +kernel, by decide +kernel⟩
theorem bd0_law_dists (T : Tx P w K mg fd) : Binds K (fd 17) ["size", "arcs"] [] := (T.u_law_dists).bindsN fun _ _ _ _ _ _ us hl => match us, hl with | [_, _], _ => rfl
theorem bd_law_dists_2 (T : Tx P w K mg fd) : ∃ ds, Vals [] ds ∧ Binds K (fd 17) ["size", "arcs"] ds := ⟨[], .nil, bd0_law_dists T⟩
theorem ok_law_dists (T : Tx P w K mg fd) : FnOk P w K mg base (L2.CX P w) 1 (He.fAd K ("_law_dists", none)) (fd 17) ["size", "arcs"] (spM (gt K) 2 f_law_dists) :=
  fn_ok (T.u_law_dists) sc_law_dists fun cdv A outer s H E hr => have hu := TL.hu_of hr
  (jb_cons (js_setLc (k := 2) rfl sc_law_dists.nd rfl rfl (sw_true rfl rfl rfl rfl) (by exact (ji_rng1 rfl T.f_range (jl_cons (jx_var (i := 0) rfl (vis_of rfl)) jl_nil))) (blkOk_by (own := [("a", 3)]) (by rfl)) (fun _ _ _ _ _ => (jg_name (k := 3) sc_law_dists.nd rfl (loc_of rfl))) (fun _ _ _ _ _ => jts_nil) (fun _ _ _ _ _ => (jx_lc rfl sc_law_dists.nd (by exact (ji_rng1 rfl T.f_range (jl_cons (jx_var (i := 0) rfl (vis_of rfl)) jl_nil))) (blkOk_by (own := [("b", 4)]) (by rfl)) (fun _ _ _ _ _ => (jg_name (k := 4) sc_law_dists.nd rfl (loc_of rfl))) (fun _ _ _ _ _ => jts_nil) (fun _ _ _ _ _ => jx_non))))
  (jb_cons (js_for (passes_of rfl) rfl (ji_rng1 rfl T.f_range (jl_cons (jx_var (i := 0) rfl (vis_of rfl)) jl_nil)) (jg_name (k := 3) sc_law_dists.nd rfl (loc_of rfl)) (jb_one (js_sub jx_int (jx_ix rfl (jx_var (i := 2) rfl (vis_of rfl)) (jx_var (i := 3) rfl (vis_of rfl)) (by intro _ _; rfl)) (jx_var (i := 3) rfl (vis_of rfl)))))
  (jb_cons (js_for (passes_of rfl) rfl (ji_seq rfl (jx_var (i := 1) rfl (vis_of rfl))) (jg_tup rfl rfl (jgs_cons (jg_name (k := 3) sc_law_dists.nd rfl (loc_of rfl)) (jgs_cons (jg_name (k := 4) sc_law_dists.nd rfl (loc_of rfl)) (jgs_cons (jg_name (k := 5) sc_law_dists.nd rfl (loc_of rfl)) jgs_nil)))) (jb_one (js_if (jt_w (jw_or (jt_cmp op_isx v2_is (jx_ix rfl (jx_ix rfl (jx_var (i := 2) rfl (vis_of rfl)) (jx_var (i := 3) rfl (vis_of rfl)) (by intro _ _; rfl)) (jx_var (i := 4) rfl (vis_of rfl)) (by intro _ _; rfl)) jx_non (nomark _)) (jw_or1 (jt_cmp op_lt v2_lt (jx_var (i := 5) rfl (vis_of rfl)) (jx_ix rfl (jx_ix rfl (jx_var (i := 2) rfl (vis_of rfl)) (jx_var (i := 3) rfl (vis_of rfl)) (by intro _ _; rfl)) (jx_var (i := 4) rfl (vis_of rfl)) (by intro _ _; rfl)) (nomark _))))) (jb_one (js_sub (jx_var (i := 5) rfl (vis_of rfl)) (jx_ix rfl (jx_var (i := 2) rfl (vis_of rfl)) (jx_var (i := 3) rfl (vis_of rfl)) (by intro _ _; rfl)) (jx_var (i := 4) rfl (vis_of rfl)))) jb_nil)))
  (jb_cons (js_for (passes_of rfl) rfl (ji_rng1 rfl T.f_range (jl_cons (jx_var (i := 0) rfl (vis_of rfl)) jl_nil)) (jg_name (k := 6) sc_law_dists.nd rfl (loc_of rfl)) (jb_one (js_for (passes_of rfl) rfl (ji_rng1 rfl T.f_range (jl_cons (jx_var (i := 0) rfl (vis_of rfl)) jl_nil)) (jg_name (k := 3) sc_law_dists.nd rfl (loc_of rfl)) (jb_one (js_for (passes_of rfl) rfl (ji_rng1 rfl T.f_range (jl_cons (jx_var (i := 0) rfl (vis_of rfl)) jl_nil)) (jg_name (k := 4) sc_law_dists.nd rfl (loc_of rfl)) (jb_one (js_if (jt_w (jw_and (jt_cmp op_isnotx v2_isnot (jx_ix rfl (jx_ix rfl (jx_var (i := 2) rfl (vis_of rfl)) (jx_var (i := 3) rfl (vis_of rfl)) (by intro _ _; rfl)) (jx_var (i := 6) rfl (vis_of rfl)) (by intro _ _; rfl)) jx_non (nomark _)) (jw_and1 (jt_cmp op_isnotx v2_isnot (jx_ix rfl (jx_ix rfl (jx_var (i := 2) rfl (vis_of rfl)) (jx_var (i := 6) rfl (vis_of rfl)) (by intro _ _; rfl)) (jx_var (i := 4) rfl (vis_of rfl)) (by intro _ _; rfl)) jx_non (nomark _))))) (jb_cons (js_set (k := 5) sc_law_dists.nd rfl (loc_of rfl) (jx_bin op_plus v2_plus (jx_ix rfl (jx_ix rfl (jx_var (i := 2) rfl (vis_of rfl)) (jx_var (i := 3) rfl (vis_of rfl)) (by intro _ _; rfl)) (jx_var (i := 6) rfl (vis_of rfl)) (by intro _ _; rfl)) (jx_ix rfl (jx_ix rfl (jx_var (i := 2) rfl (vis_of rfl)) (jx_var (i := 6) rfl (vis_of rfl)) (by intro _ _; rfl)) (jx_var (i := 4) rfl (vis_of rfl)) (by intro _ _; rfl))))
  (jb_one (js_if (jt_w (jw_or (jt_cmp op_isx v2_is (jx_ix rfl (jx_ix rfl (jx_var (i := 2) rfl (vis_of rfl)) (jx_var (i := 3) rfl (vis_of rfl)) (by intro _ _; rfl)) (jx_var (i := 4) rfl (vis_of rfl)) (by intro _ _; rfl)) jx_non (nomark _)) (jw_or1 (jt_cmp op_lt v2_lt (jx_var (i := 5) rfl (vis_of rfl)) (jx_ix rfl (jx_ix rfl (jx_var (i := 2) rfl (vis_of rfl)) (jx_var (i := 3) rfl (vis_of rfl)) (by intro _ _; rfl)) (jx_var (i := 4) rfl (vis_of rfl)) (by intro _ _; rfl)) (nomark _))))) (jb_one (js_sub (jx_var (i := 5) rfl (vis_of rfl)) (jx_ix rfl (jx_var (i := 2) rfl (vis_of rfl)) (jx_var (i := 3) rfl (vis_of rfl)) (by intro _ _; rfl)) (jx_var (i := 4) rfl (vis_of rfl)))) jb_nil))) jb_nil)))))))
  (jb_one (js_ret (jx_var (i := 2) rfl (vis_of rfl))))))))
theorem sc_shortened : FnScope ["net", "starts", "lengths", "links", "fell", "_", "number", "a", "b", "length"] ["net", "starts"] (defScope (top 18)) := ⟨rfl, rfl, rfl, by decide +kernel, rfl, by decide +kernel, by decide +kernel⟩
theorem bd0_shortened (T : Tx P w K mg fd) : Binds K (fd 18) ["net", "starts"] [] := (T.u_shortened).bindsN fun _ _ _ _ _ _ us hl => match us, hl with | [_, _], _ => rfl
theorem bd_shortened_2 (T : Tx P w K mg fd) : ∃ ds, Vals [] ds ∧ Binds K (fd 18) ["net", "starts"] ds := ⟨[], .nil, bd0_shortened T⟩
theorem ok_shortened (T : Tx P w K mg fd) : FnOk P w K mg base (L2.CX P w) 1 (He.fAd K ("shortened", none)) (fd 18) ["net", "starts"] (spM (gt K) 2 f_shortened) :=
  fn_ok (T.u_shortened) sc_shortened fun cdv A outer s H E hr => have hu := TL.hu_of hr
  (jb_cons (js_set (k := 2) sc_shortened.nd rfl (loc_of rfl) (jx_callTy call_list_of vc_list rfl T.f_list bt_list (jl_cons (jx_var (i := 1) rfl (vis_of rfl)) jl_nil)))
  (jb_cons (js_set (k := 3) sc_shortened.nd rfl (loc_of rfl) (jx_bin op_times v2_times (jx_lst (jo_cons jx_non jo_nil)) (jx_fld rfl (jx_var (i := 0) rfl (vis_of rfl)) (fl_size T))))
  (jb_cons (js_set (k := 4) sc_shortened.nd rfl (loc_of rfl) jx_non)
  (jb_cons (js_for (passes_of rfl) rfl (ji_rng1 rfl T.f_range (jl_cons (jx_fld rfl (jx_var (i := 0) rfl (vis_of rfl)) (fl_size T)) jl_nil)) (jg_name (k := 5) sc_shortened.nd rfl (loc_of rfl)) (jb_cons (js_set (k := 4) sc_shortened.nd rfl (loc_of rfl) jx_non)
  (jb_cons (js_for (passes_of rfl) rfl (ji_enum rfl rfl T.f_enumerate (ja_cons (jx_fld rfl (jx_var (i := 0) rfl (vis_of rfl)) (fl_arcs T)) ja_nil)) (jg_tup rfl rfl (jgs_cons (jg_name (k := 6) sc_shortened.nd rfl (loc_of rfl)) (jgs_cons (jg_tup rfl rfl (jgs_cons (jg_name (k := 7) sc_shortened.nd rfl (loc_of rfl)) (jgs_cons (jg_name (k := 8) sc_shortened.nd rfl (loc_of rfl)) (jgs_cons (jg_name (k := 9) sc_shortened.nd rfl (loc_of rfl)) jgs_nil)))) jgs_nil))) (jb_cons (js_if (jt_cmp op_isx v2_is (jx_ix rfl (jx_var (i := 2) rfl (vis_of rfl)) (jx_var (i := 7) rfl (vis_of rfl)) (by intro _ _; rfl)) jx_non (nomark _)) (jb_one js_cont) jb_nil)
  (jb_one (js_if (jt_w (jw_or (jt_cmp op_isx v2_is (jx_ix rfl (jx_var (i := 2) rfl (vis_of rfl)) (jx_var (i := 8) rfl (vis_of rfl)) (by intro _ _; rfl)) jx_non (nomark _)) (jw_or1 (jt_cmp op_lt v2_lt (jx_bin op_plus v2_plus (jx_ix rfl (jx_var (i := 2) rfl (vis_of rfl)) (jx_var (i := 7) rfl (vis_of rfl)) (by intro _ _; rfl)) (jx_var (i := 9) rfl (vis_of rfl))) (jx_ix rfl (jx_var (i := 2) rfl (vis_of rfl)) (jx_var (i := 8) rfl (vis_of rfl)) (by intro _ _; rfl)) (nomark _))))) (jb_cons (js_sub (jx_bin op_plus v2_plus (jx_ix rfl (jx_var (i := 2) rfl (vis_of rfl)) (jx_var (i := 7) rfl (vis_of rfl)) (by intro _ _; rfl)) (jx_var (i := 9) rfl (vis_of rfl))) (jx_var (i := 2) rfl (vis_of rfl)) (jx_var (i := 8) rfl (vis_of rfl)))
  (jb_cons (js_sub (jx_var (i := 6) rfl (vis_of rfl)) (jx_var (i := 3) rfl (vis_of rfl)) (jx_var (i := 8) rfl (vis_of rfl)))
  (jb_one (js_set (k := 4) sc_shortened.nd rfl (loc_of rfl) (jx_var (i := 8) rfl (vis_of rfl)))))) jb_nil))))
  (jb_one (js_if (jt_cmp op_isx v2_is (jx_var (i := 4) rfl (vis_of rfl)) jx_non (nomark _)) (jb_one js_break) jb_nil)))))
  (jb_one (js_ret (jx_tup (ja_cons (jx_var (i := 2) rfl (vis_of rfl)) (ja_cons (jx_var (i := 3) rfl (vis_of rfl)) (ja_cons (jx_var (i := 4) rfl (vis_of rfl)) ja_nil))))))))))
theorem sc_link_ring : FnScope ["net", "links", "node", "_", "first", "ring"] ["net", "links", "node"] (defScope (top 19)) := ⟨rfl, rfl, rfl, by decide +kernel, rfl, by decide +kernel, by decide +kernel⟩
theorem bd0_link_ring (T : Tx P w K mg fd) : Binds K (fd 19) ["net", "links", "node"] [] := (T.u_link_ring).bindsN fun _ _ _ _ _ _ us hl => match us, hl with | [_, _, _], _ => rfl
theorem bd_link_ring_3 (T : Tx P w K mg fd) : ∃ ds, Vals [] ds ∧ Binds K (fd 19) ["net", "links", "node"] ds := ⟨[], .nil, bd0_link_ring T⟩
theorem ok_link_ring (T : Tx P w K mg fd) : FnOk P w K mg base (L2.CX P w) 1 (He.fAd K ("link_ring", none)) (fd 19) ["net", "links", "node"] (spM (gt K) 3 f_link_ring) :=
  fn_ok (T.u_link_ring) sc_link_ring fun cdv A outer s H E hr => have hu := TL.hu_of hr
  (jb_cons (js_for (passes_of rfl) rfl (ji_rng1 rfl T.f_range (jl_cons (jx_fld rfl (jx_var (i := 0) rfl (vis_of rfl)) (fl_size T)) jl_nil)) (jg_name (k := 3) sc_link_ring.nd rfl (loc_of rfl)) (jb_one (js_set (k := 2) sc_link_ring.nd rfl (loc_of rfl) (jx_ix rfl (jx_ix rfl (jx_fld rfl (jx_var (i := 0) rfl (vis_of rfl)) (fl_arcs T)) (jx_ix rfl (jx_var (i := 1) rfl (vis_of rfl)) (jx_var (i := 2) rfl (vis_of rfl)) (by intro _ _; rfl)) (by intro _ _; rfl)) jx_int (by intro _ _; rfl)))))
  (jb_cons (js_set (k := 4) sc_link_ring.nd rfl (loc_of rfl) (jx_var (i := 2) rfl (vis_of rfl)))
  (jb_cons (js_set (k := 5) sc_link_ring.nd rfl (loc_of rfl) (jx_lst jo_nil))
  (jb_cons (js_for (passes_of rfl) rfl (ji_rng1 rfl T.f_range (jl_cons (jx_fld rfl (jx_var (i := 0) rfl (vis_of rfl)) (fl_size T)) jl_nil)) (jg_name (k := 3) sc_link_ring.nd rfl (loc_of rfl)) (jb_cons (js_app rfl (jx_var (i := 5) rfl (vis_of rfl)) (jx_ix rfl (jx_var (i := 1) rfl (vis_of rfl)) (jx_var (i := 2) rfl (vis_of rfl)) (by intro _ _; rfl)))
  (jb_cons (js_set (k := 2) sc_link_ring.nd rfl (loc_of rfl) (jx_ix rfl (jx_ix rfl (jx_fld rfl (jx_var (i := 0) rfl (vis_of rfl)) (fl_arcs T)) (jx_ix rfl (jx_var (i := 1) rfl (vis_of rfl)) (jx_var (i := 2) rfl (vis_of rfl)) (by intro _ _; rfl)) (by intro _ _; rfl)) jx_int (by intro _ _; rfl)))
  (jb_one (js_if (jt_cmp (op_eqD hu) v2_eqD (jx_var (i := 2) rfl (vis_of rfl)) (jx_var (i := 4) rfl (vis_of rfl)) (nomark _)) (jb_one js_break) jb_nil)))))
  (jb_one (js_ret (jx_callTy call_tuple_of vc_tuple rfl T.f_tuple bt_tuple (jl_cons (jx_revL rfl (jx_var (i := 5) rfl (vis_of rfl))) jl_nil))))))))
theorem sc_ring_below : FnScope ["net", "_", "links", "fell"] ["net"] (defScope (top 20)) := ⟨rfl, rfl, rfl, by decide +kernel, rfl, by decide +kernel, by decide +kernel⟩
theorem bd0_ring_below (T : Tx P w K mg fd) : Binds K (fd 20) ["net"] [] := (T.u_ring_below).bindsN fun _ _ _ _ _ _ us hl => match us, hl with | [_], _ => rfl
theorem bd_ring_below_1 (T : Tx P w K mg fd) : ∃ ds, Vals [] ds ∧ Binds K (fd 20) ["net"] ds := ⟨[], .nil, bd0_ring_below T⟩
theorem ok_ring_below (T : Tx P w K mg fd) : FnOk P w K mg base (L2.CX P w) 2 (He.fAd K ("ring_below", none)) (fd 20) ["net"] (spM (gt K) 1 f_ring_below) :=
  fn_ok (T.u_ring_below) sc_ring_below fun cdv A outer s H E hr => have hu := TL.hu_of hr
  (jb_cons (js_expr (jx_call (ok_given_net T) (hr.mono (by decide)) rfl T.g_given_net (T.u_given_net).kp (bd_given_net_1 T).choose_spec.2 (bd_given_net_1 T).choose_spec.1 (takes_of rfl rfl rfl rfl) (jp_cons pc_P (jx_var (i := 0) rfl (vis_of rfl)) jp_nil) (co_str co_nil)))
  (jb_cons (js_asg (jx_call (ok_shortened T) (hr.mono (by decide)) rfl T.g_shortened (T.u_shortened).kp (bd_shortened_2 T).choose_spec.2 (bd_shortened_2 T).choose_spec.1 (takes_of rfl rfl rfl rfl) (jp_cons pc_P (jx_var (i := 0) rfl (vis_of rfl)) (jp_cons pc_P (jx_bin op_times v2_times (jx_lst (jo_cons jx_int jo_nil)) (jx_fld rfl (jx_var (i := 0) rfl (vis_of rfl)) (fl_size T))) jp_nil)) co_nil) (jg_tup rfl rfl (jgs_cons (jg_name (k := 1) sc_ring_below.nd rfl (loc_of rfl)) (jgs_cons (jg_name (k := 2) sc_ring_below.nd rfl (loc_of rfl)) (jgs_cons (jg_name (k := 3) sc_ring_below.nd rfl (loc_of rfl)) jgs_nil)))))
  (jb_cons (js_if (jt_cmp op_isx v2_is (jx_var (i := 3) rfl (vis_of rfl)) jx_non (nomark _)) (jb_one (js_ret jx_non)) jb_nil)
  (jb_one (js_ret (jx_call (ok_link_ring T) (hr.mono (by decide)) rfl T.g_link_ring (T.u_link_ring).kp (bd_link_ring_3 T).choose_spec.2 (bd_link_ring_3 T).choose_spec.1 (takes_of rfl rfl rfl rfl) (jp_cons pc_P (jx_var (i := 0) rfl (vis_of rfl)) (jp_cons pc_P (jx_var (i := 2) rfl (vis_of rfl)) (jp_cons pc_P (jx_var (i := 3) rfl (vis_of rfl)) jp_nil))) co_nil))))))
theorem sc_ringless : FnScope ["net", "ring"] ["net"] (defScope (top 25)) := ⟨rfl, rfl, rfl, by decide +kernel, rfl, by decide +kernel, by decide +kernel⟩
theorem bd0_ringless (T : Tx P w K mg fd) : Binds K (fd 21) ["net"] [] := (T.u_ringless).bindsN fun _ _ _ _ _ _ us hl => match us, hl with | [_], _ => rfl
theorem bd_ringless_1 (T : Tx P w K mg fd) : ∃ ds, Vals [] ds ∧ Binds K (fd 21) ["net"] ds := ⟨[], .nil, bd0_ringless T⟩
theorem ok_ringless (T : Tx P w K mg fd) : FnOk P w K mg base (L2.CX P w) 3 (He.fAd K ("ringless", none)) (fd 21) ["net"] (spM (gt K) 1 f_ringless) :=
  fn_ok (T.u_ringless) sc_ringless fun cdv A outer s H E hr => have hu := TL.hu_of hr
  (jb_cons (js_set (k := 1) sc_ringless.nd rfl (loc_of rfl) (jx_call (ok_ring_below T) (hr.mono (by decide)) rfl T.g_ring_below (T.u_ring_below).kp (bd_ring_below_1 T).choose_spec.2 (bd_ring_below_1 T).choose_spec.1 (takes_of rfl rfl rfl rfl) (jp_cons pc_P (jx_var (i := 0) rfl (vis_of rfl)) jp_nil) co_nil))
  (jb_one (js_if (jt_cmp op_isnotx v2_isnot (jx_var (i := 1) rfl (vis_of rfl)) jx_non (nomark _)) (jb_one (js_raise (c := 5) rfl (takes_of rfl rfl rfl rfl) rfl rfl rfl (by simp [gt, xfs]) (PySem.TLX.pmk1 T.xt_HasRing (hr.mono (Nat.zero_le _)) (ja_cons (jx_var (i := 1) rfl (vis_of rfl)) ja_nil) rfl rfl (by decide) rfl rfl T.xn_HasRing_ring (fun _ _ _ _ _ _ _ _ => rfl)))) jb_nil)))
theorem sc_some_row : FnScope ["net", "lengths", "_"] ["net"] (defScope (top 27)) := ⟨rfl, rfl, rfl, by decide +kernel, rfl, by decide +kernel, by decide +kernel⟩
theorem bd0_some_row (T : Tx P w K mg fd) : Binds K (fd 22) ["net"] [] := (T.u_some_row).bindsN fun _ _ _ _ _ _ us hl => match us, hl with | [_], _ => rfl
theorem bd_some_row_1 (T : Tx P w K mg fd) : ∃ ds, Vals [] ds ∧ Binds K (fd 22) ["net"] ds := ⟨[], .nil, bd0_some_row T⟩
theorem ok_some_row (T : Tx P w K mg fd) : FnOk P w K mg base (L2.CX P w) 4 (He.fAd K ("some_row", none)) (fd 22) ["net"] (spM (gt K) 1 f_some_row) :=
  fn_ok (T.u_some_row) sc_some_row fun cdv A outer s H E hr => have hu := TL.hu_of hr
  (jb_cons (js_expr (jx_call (ok_ringless T) (hr.mono (by decide)) rfl T.g_ringless (T.u_ringless).kp (bd_ringless_1 T).choose_spec.2 (bd_ringless_1 T).choose_spec.1 (takes_of rfl rfl rfl rfl) (jp_cons pc_P (jx_var (i := 0) rfl (vis_of rfl)) jp_nil) co_nil))
  (jb_cons (js_asg (jx_call (ok_shortened T) (hr.mono (by decide)) rfl T.g_shortened (T.u_shortened).kp (bd_shortened_2 T).choose_spec.2 (bd_shortened_2 T).choose_spec.1 (takes_of rfl rfl rfl rfl) (jp_cons pc_P (jx_var (i := 0) rfl (vis_of rfl)) (jp_cons pc_P (jx_bin op_times v2_times (jx_lst (jo_cons jx_int jo_nil)) (jx_fld rfl (jx_var (i := 0) rfl (vis_of rfl)) (fl_size T))) jp_nil)) co_nil) (jg_tup rfl rfl (jgs_cons (jg_name (k := 1) sc_some_row.nd rfl (loc_of rfl)) (jgs_cons (jg_name (k := 2) sc_some_row.nd rfl (loc_of rfl)) (jgs_cons (jg_name (k := 2) sc_some_row.nd rfl (loc_of rfl)) jgs_nil)))))
  (jb_one (js_ret (jx_callTy call_tuple_of vc_tuple rfl T.f_tuple bt_tuple (jl_cons (jx_var (i := 1) rfl (vis_of rfl)) jl_nil))))))
theorem sc_law_has_row : FnScope ["size", "arcs", "net", "row", "arc"] ["size", "arcs"] (defScope (top 39)) := ⟨rfl, rfl, rfl, by decide +kernel, rfl, by decide +kernel, by decide +kernel⟩
theorem bd0_law_has_row (T : Tx P w K mg fd) : Binds K (fd 23) ["size", "arcs"] [] := (T.u_law_has_row).bindsN fun _ _ _ _ _ _ us hl => match us, hl with | [_, _], _ => rfl
theorem bd_law_has_row_2 (T : Tx P w K mg fd) : ∃ ds, Vals [] ds ∧ Binds K (fd 23) ["size", "arcs"] ds := ⟨[], .nil, bd0_law_has_row T⟩
theorem ok_law_has_row (T : Tx P w K mg fd) : FnOk P w K mg base (L2.CX P w) 6 (He.fAd K ("_law_has_row", none)) (fd 23) ["size", "arcs"] (spM (gt K) 2 f_law_has_row) :=
  fn_ok (T.u_law_has_row) sc_law_has_row fun cdv A outer s H E hr => have hu := TL.hu_of hr
  (jb_cons (js_set (k := 2) sc_law_has_row.nd rfl (loc_of rfl) (jx_make (c := 0) T.mk_Net (ok_Net__init T) rfl (hr.mono (by decide)) rfl T.g_Net (bd_Net__init_3 T).choose_spec.2 (bd_Net__init_3 T).choose_spec.1 (takes_of rfl rfl rfl rfl) (jp_cons pc_P (jx_var (i := 0) rfl (vis_of rfl)) (jp_cons pc_P (jx_lc rfl sc_law_has_row.nd (by exact (ji_seq rfl (jx_var (i := 1) rfl (vis_of rfl)))) (blkOk_by (own := [("arc", 4)]) (by rfl)) (fun _ _ _ _ _ => (jg_name (k := 4) sc_law_has_row.nd rfl (loc_of rfl))) (fun _ _ _ _ _ => jts_nil) (fun _ _ _ _ _ => (jx_callTy call_list_of vc_list rfl T.f_list bt_list (jl_cons (jx_var (i := 4) rfl (vis_of rfl)) jl_nil)))) jp_nil)) co_nil))
  (jb_cons (js_if (jt_cmp op_isnotx v2_isnot (jx_call (ok_ring_below T) (hr.mono (by decide)) rfl T.g_ring_below (T.u_ring_below).kp (bd_ring_below_1 T).choose_spec.2 (bd_ring_below_1 T).choose_spec.1 (takes_of rfl rfl rfl rfl) (jp_cons pc_P (jx_var (i := 2) rfl (vis_of rfl)) jp_nil) co_nil) jx_non (nomark _)) (jb_one (js_ret jx_bl)) jb_nil)
  (jb_cons (js_set (k := 3) sc_law_has_row.nd rfl (loc_of rfl) (jx_call (ok_some_row T) (hr.mono (by decide)) rfl T.g_some_row (T.u_some_row).kp (bd_some_row_1 T).choose_spec.2 (bd_some_row_1 T).choose_spec.1 (takes_of rfl rfl rfl rfl) (jp_cons pc_P (jx_var (i := 2) rfl (vis_of rfl)) jp_nil) co_nil))
  (jb_one (js_ret (jx_and (jx_call (ok_law_ints T) (hr.mono (by decide)) rfl T.g__law_ints (T.u_law_ints).kp (bd_law_ints_2 T).choose_spec.2 (bd_law_ints_2 T).choose_spec.1 (takes_of rfl rfl rfl rfl) (jp_cons pc_P (jx_var (i := 3) rfl (vis_of rfl)) (jp_cons pc_P (jx_var (i := 0) rfl (vis_of rfl)) jp_nil)) co_nil) (jx_and (jx_cmp op_isx v2_is (jx_call (ok_law_first_broken T) (hr.mono (by decide)) rfl T.g__law_first_broken (T.u_law_first_broken).kp (bd_law_first_broken_2 T).choose_spec.2 (bd_law_first_broken_2 T).choose_spec.1 (takes_of rfl rfl rfl rfl) (jp_cons pc_P (jx_var (i := 1) rfl (vis_of rfl)) (jp_cons pc_P (jx_var (i := 3) rfl (vis_of rfl)) jp_nil)) co_nil) jx_non (nomark _)) (jx_one (jx_call (ok_law_looks T) (hr.mono (by decide)) rfl T.g__law_looks (T.u_law_looks).kp (bd_law_looks_3 T).choose_spec.2 (bd_law_looks_3 T).choose_spec.1 (takes_of rfl rfl rfl rfl) (jp_cons pc_P (jx_var (i := 2) rfl (vis_of rfl)) (jp_cons pc_P (jx_var (i := 1) rfl (vis_of rfl)) (jp_cons pc_P (jx_var (i := 3) rfl (vis_of rfl)) jp_nil))) co_nil)))))))))
theorem sc_law_ring_good : FnScope ["arcs", "ring", "number", "total", "met", "here"] ["arcs", "ring"] (defScope (top 37)) := ⟨rfl, rfl, rfl, by decide +kernel, rfl, by decide +kernel, by decide +kernel⟩
theorem bd0_law_ring_good (T : Tx P w K mg fd) : Binds K (fd 24) ["arcs", "ring"] [] := (T.u_law_ring_good).bindsN fun _ _ _ _ _ _ us hl => match us, hl with | [_, _], _ => rfl
theorem bd_law_ring_good_2 (T : Tx P w K mg fd) : ∃ ds, Vals [] ds ∧ Binds K (fd 24) ["arcs", "ring"] ds := ⟨[], .nil, bd0_law_ring_good T⟩
theorem ok_law_ring_good (T : Tx P w K mg fd) : FnOk P w K mg base (L2.CX P w) 2 (He.fAd K ("_law_ring_good", none)) (fd 24) ["arcs", "ring"] (spM (gt K) 2 f_law_ring_good) :=
  fn_ok (T.u_law_ring_good) sc_law_ring_good fun cdv A outer s H E hr => have hu := TL.hu_of hr
  (jb_cons (js_if (jt_w (jw_or (jt_not (jt_val (jx_isi rfl rfl T.f_isinstance (jx_var (i := 1) rfl (vis_of rfl)) (pe_bltn (v := .ty "tuple") rfl T.f_tuple bt_tuple rfl) (.ty _) ti_tuple (fun _ _ h => tIn_cls h)))) (jw_or (jt_cmp (op_eqD hu) v2_eqD (jx_callB call_len vc_len rfl T.f_len bt_len (jl_cons (jx_var (i := 1) rfl (vis_of rfl)) jl_nil)) jx_int (nomark _)) (jw_or1 (jt_cmp op_gt v2_gt (jx_callB call_len vc_len rfl T.f_len bt_len (jl_cons (jx_var (i := 1) rfl (vis_of rfl)) jl_nil)) (jx_callB call_len vc_len rfl T.f_len bt_len (jl_cons (jx_var (i := 0) rfl (vis_of rfl)) jl_nil)) (nomark _)))))) (jb_one (js_ret jx_bl)) jb_nil)
  (jb_cons (js_for (passes_of rfl) rfl (ji_seq rfl (jx_var (i := 1) rfl (vis_of rfl))) (jg_name (k := 2) sc_law_ring_good.nd rfl (loc_of rfl)) (jb_one (js_if (jt_w (jw_or (jt_not (jt_val (jx_call (ok_law_int T) (hr.mono (by decide)) rfl T.g__law_int (T.u_law_int).kp (bd_law_int_1 T).choose_spec.2 (bd_law_int_1 T).choose_spec.1 (takes_of rfl rfl rfl rfl) (jp_cons pc_P (jx_var (i := 2) rfl (vis_of rfl)) jp_nil) co_nil))) (jw_or (jt_cmp op_lt v2_lt (jx_var (i := 2) rfl (vis_of rfl)) jx_int (nomark _)) (jw_or1 (jt_cmp op_ge v2_ge (jx_var (i := 2) rfl (vis_of rfl)) (jx_callB call_len vc_len rfl T.f_len bt_len (jl_cons (jx_var (i := 0) rfl (vis_of rfl)) jl_nil)) (nomark _)))))) (jb_one (js_ret jx_bl)) jb_nil)))
  (jb_cons (js_set (k := 3) sc_law_ring_good.nd rfl (loc_of rfl) jx_int)
  (jb_cons (js_set (k := 4) sc_law_ring_good.nd rfl (loc_of rfl) (jx_lst jo_nil))
  (jb_cons (js_set (k := 5) sc_law_ring_good.nd rfl (loc_of rfl) (jx_ix rfl (jx_ix rfl (jx_var (i := 0) rfl (vis_of rfl)) (jx_ix rfl (jx_var (i := 1) rfl (vis_of rfl)) (jx_bin op_sub v2_sub (jx_callB call_len vc_len rfl T.f_len bt_len (jl_cons (jx_var (i := 1) rfl (vis_of rfl)) jl_nil)) jx_int) (by intro _ _; rfl)) (by intro _ _; rfl)) jx_int (by intro _ _; rfl)))
  (jb_cons (js_for (passes_of rfl) rfl (ji_seq rfl (jx_var (i := 1) rfl (vis_of rfl))) (jg_name (k := 2) sc_law_ring_good.nd rfl (loc_of rfl)) (jb_cons (js_if (jt_cmp (op_neD hu) v2_neD (jx_ix rfl (jx_ix rfl (jx_var (i := 0) rfl (vis_of rfl)) (jx_var (i := 2) rfl (vis_of rfl)) (by intro _ _; rfl)) jx_int (by intro _ _; rfl)) (jx_var (i := 5) rfl (vis_of rfl)) (nomark _)) (jb_one (js_ret jx_bl)) jb_nil)
  (jb_cons (js_set (k := 5) sc_law_ring_good.nd rfl (loc_of rfl) (jx_ix rfl (jx_ix rfl (jx_var (i := 0) rfl (vis_of rfl)) (jx_var (i := 2) rfl (vis_of rfl)) (by intro _ _; rfl)) jx_int (by intro _ _; rfl)))
  (jb_cons (js_if (jt_cmp op_in_seq (v2_in false) (jx_var (i := 5) rfl (vis_of rfl)) (jx_var (i := 4) rfl (vis_of rfl)) (by with_unfolding_all rfl)) (jb_one (js_ret jx_bl)) jb_nil)
  (jb_cons (js_app rfl (jx_var (i := 4) rfl (vis_of rfl)) (jx_var (i := 5) rfl (vis_of rfl)))
  (jb_one (js_aug (k := 3) sc_law_ring_good.nd rfl (loc_of rfl) iop_add v2_addI (jx_ix rfl (jx_ix rfl (jx_var (i := 0) rfl (vis_of rfl)) (jx_var (i := 2) rfl (vis_of rfl)) (by intro _ _; rfl)) jx_int (by intro _ _; rfl)))))))))
  (jb_one (js_ret (jx_cmp op_lt v2_lt (jx_var (i := 3) rfl (vis_of rfl)) jx_int (nomark _))))))))))
theorem sc_no_arc_at : FnScope ["net", "numbers", "place", "number"] ["net", "numbers"] (defScope (top 21)) := ⟨rfl, rfl, rfl, by decide +kernel, rfl, by decide +kernel, by decide +kernel⟩
theorem bd0_no_arc_at (T : Tx P w K mg fd) : Binds K (fd 25) ["net", "numbers"] [] := (T.u_no_arc_at).bindsN fun _ _ _ _ _ _ us hl => match us, hl with | [_, _], _ => rfl
theorem bd_no_arc_at_2 (T : Tx P w K mg fd) : ∃ ds, Vals [] ds ∧ Binds K (fd 25) ["net", "numbers"] ds := ⟨[], .nil, bd0_no_arc_at T⟩
theorem ok_no_arc_at (T : Tx P w K mg fd) : FnOk P w K mg base (L2.CX P w) 2 (He.fAd K ("no_arc_at", none)) (fd 25) ["net", "numbers"] (spM (gt K) 2 f_no_arc_at) :=
  fn_ok (T.u_no_arc_at) sc_no_arc_at fun cdv A outer s H E hr => have hu := TL.hu_of hr
  (jb_cons (js_expr (jx_call (ok_given_net T) (hr.mono (by decide)) rfl T.g_given_net (T.u_given_net).kp (bd_given_net_1 T).choose_spec.2 (bd_given_net_1 T).choose_spec.1 (takes_of rfl rfl rfl rfl) (jp_cons pc_P (jx_var (i := 0) rfl (vis_of rfl)) jp_nil) (co_str co_nil)))
  (jb_cons (js_if (jt_not (jt_val (jx_isiT rfl rfl T.f_isinstance (jx_var (i := 1) rfl (vis_of rfl)) (.cons (pe_bltn (v := .ty "list") rfl T.f_list bt_list rfl) (.ty _) (.cons (pe_bltn (v := .ty "tuple") rfl T.f_tuple bt_tuple rfl) (.ty _) .nil rfl) rfl) (Nat.le_of_ble_eq_true rfl) ti_lt (fun _ _ h => tIn_cls h)))) (jb_one (js_ret (jx_negm jx_int))) jb_nil)
  (jb_cons (js_for (passes_of rfl) rfl (ji_enum rfl rfl T.f_enumerate (ja_cons (jx_var (i := 1) rfl (vis_of rfl)) ja_nil)) (jg_tup rfl rfl (jgs_cons (jg_name (k := 2) sc_no_arc_at.nd rfl (loc_of rfl)) (jgs_cons (jg_name (k := 3) sc_no_arc_at.nd rfl (loc_of rfl)) jgs_nil))) (jb_one (js_if (jt_w (jw_or (jt_not (jt_val (jx_call (ok_is_whole T) (hr.mono (by decide)) rfl T.g_is_whole (T.u_is_whole).kp (bd_is_whole_1 T).choose_spec.2 (bd_is_whole_1 T).choose_spec.1 (takes_of rfl rfl rfl rfl) (jp_cons pc_P (jx_var (i := 3) rfl (vis_of rfl)) jp_nil) co_nil))) (jw_or1 (jt_not (jt_chain op_le op_lt v2_le v2_lt jx_int (jx_var (i := 3) rfl (vis_of rfl)) (jx_callB call_len vc_len rfl T.f_len bt_len (jl_cons (jx_fld rfl (jx_var (i := 0) rfl (vis_of rfl)) (fl_arcs T)) jl_nil))))))) (jb_one (js_ret (jx_var (i := 2) rfl (vis_of rfl)))) jb_nil)))
  (jb_one (js_ret jx_non)))))
theorem sc_arc_numbers : FnScope ["net", "numbers", "place"] ["net", "numbers"] (defScope (top 22)) := ⟨rfl, rfl, rfl, by decide +kernel, rfl, by decide +kernel, by decide +kernel⟩
theorem bd0_arc_numbers (T : Tx P w K mg fd) : Binds K (fd 26) ["net", "numbers"] [] := (T.u_arc_numbers).bindsN fun _ _ _ _ _ _ us hl => match us, hl with | [_, _], _ => rfl
theorem bd_arc_numbers_2 (T : Tx P w K mg fd) : ∃ ds, Vals [] ds ∧ Binds K (fd 26) ["net", "numbers"] ds := ⟨[], .nil, bd0_arc_numbers T⟩
theorem ok_arc_numbers (T : Tx P w K mg fd) : FnOk P w K mg base (L2.CX P w) 3 (He.fAd K ("arc_numbers", none)) (fd 26) ["net", "numbers"] (spM (gt K) 2 f_arc_numbers) :=
  fn_ok (T.u_arc_numbers) sc_arc_numbers fun cdv A outer s H E hr => have hu := TL.hu_of hr
  (jb_cons (js_set (k := 2) sc_arc_numbers.nd rfl (loc_of rfl) (jx_call (ok_no_arc_at T) (hr.mono (by decide)) rfl T.g_no_arc_at (T.u_no_arc_at).kp (bd_no_arc_at_2 T).choose_spec.2 (bd_no_arc_at_2 T).choose_spec.1 (takes_of rfl rfl rfl rfl) (jp_cons pc_P (jx_var (i := 0) rfl (vis_of rfl)) (jp_cons pc_P (jx_var (i := 1) rfl (vis_of rfl)) jp_nil)) co_nil))
  (jb_cons (js_if (jt_cmp op_isnotx v2_isnot (jx_var (i := 2) rfl (vis_of rfl)) jx_non (nomark _)) (jb_one (js_raise (c := 4) rfl (takes_of rfl rfl rfl rfl) rfl rfl rfl (by simp [gt, xfs]) (PySem.TLX.pmk1 T.xt_BadMoves (hr.mono (Nat.zero_le _)) (ja_cons (jx_var (i := 2) rfl (vis_of rfl)) ja_nil) rfl rfl (by decide) rfl rfl T.xn_BadMoves_place (fun _ _ _ _ _ _ _ _ => rfl)))) jb_nil)
  (jb_one (js_ret (jx_callTy call_tuple_of vc_tuple rfl T.f_tuple bt_tuple (jl_cons (jx_var (i := 1) rfl (vis_of rfl)) jl_nil))))))
theorem sc_slacks : FnScope ["net", "row", "ring", "heights", "told", "number", "a", "b", "length"] ["net", "row", "ring"] (defScope (top 23)) := ⟨rfl, rfl, rfl, by decide +kernel, rfl, by decide +kernel, by decide +kernel⟩
theorem bd0_slacks (T : Tx P w K mg fd) : Binds K (fd 27) ["net", "row", "ring"] [] := (T.u_slacks).bindsN fun _ _ _ _ _ _ us hl => match us, hl with | [_, _, _], _ => rfl
theorem bd_slacks_3 (T : Tx P w K mg fd) : ∃ ds, Vals [] ds ∧ Binds K (fd 27) ["net", "row", "ring"] ds := ⟨[], .nil, bd0_slacks T⟩
theorem ok_slacks (T : Tx P w K mg fd) : FnOk P w K mg base (L2.CX P w) 4 (He.fAd K ("slacks", none)) (fd 27) ["net", "row", "ring"] (spM (gt K) 3 f_slacks) :=
  fn_ok (T.u_slacks) sc_slacks fun cdv A outer s H E hr => have hu := TL.hu_of hr
  (jb_cons (js_expr (jx_call (ok_given_net T) (hr.mono (by decide)) rfl T.g_given_net (T.u_given_net).kp (bd_given_net_1 T).choose_spec.2 (bd_given_net_1 T).choose_spec.1 (takes_of rfl rfl rfl rfl) (jp_cons pc_P (jx_var (i := 0) rfl (vis_of rfl)) jp_nil) (co_str co_nil)))
  (jb_cons (js_set (k := 3) sc_slacks.nd rfl (loc_of rfl) (jx_call (ok_whole_row T) (hr.mono (by decide)) rfl T.g_whole_row (T.u_whole_row).kp (bd_whole_row_2 T).choose_spec.2 (bd_whole_row_2 T).choose_spec.1 (takes_of rfl rfl rfl rfl) (jp_cons pc_P (jx_var (i := 1) rfl (vis_of rfl)) (jp_cons pc_P (jx_fld rfl (jx_var (i := 0) rfl (vis_of rfl)) (fl_size T)) jp_nil)) (co_non co_nil)))
  (jb_cons (js_set (k := 4) sc_slacks.nd rfl (loc_of rfl) (jx_lst jo_nil))
  (jb_cons (js_for (passes_of rfl) rfl (ji_seq rfl (jx_call (ok_arc_numbers T) (hr.mono (by decide)) rfl T.g_arc_numbers (T.u_arc_numbers).kp (bd_arc_numbers_2 T).choose_spec.2 (bd_arc_numbers_2 T).choose_spec.1 (takes_of rfl rfl rfl rfl) (jp_cons pc_P (jx_var (i := 0) rfl (vis_of rfl)) (jp_cons pc_P (jx_var (i := 2) rfl (vis_of rfl)) jp_nil)) co_nil)) (jg_name (k := 5) sc_slacks.nd rfl (loc_of rfl)) (jb_cons (js_asg (jx_ix rfl (jx_fld rfl (jx_var (i := 0) rfl (vis_of rfl)) (fl_arcs T)) (jx_var (i := 5) rfl (vis_of rfl)) (by intro _ _; rfl)) (jg_tup rfl rfl (jgs_cons (jg_name (k := 6) sc_slacks.nd rfl (loc_of rfl)) (jgs_cons (jg_name (k := 7) sc_slacks.nd rfl (loc_of rfl)) (jgs_cons (jg_name (k := 8) sc_slacks.nd rfl (loc_of rfl)) jgs_nil)))))
  (jb_one (js_app rfl (jx_var (i := 4) rfl (vis_of rfl)) (jx_bin op_sub v2_sub (jx_bin op_plus v2_plus (jx_ix rfl (jx_var (i := 3) rfl (vis_of rfl)) (jx_var (i := 6) rfl (vis_of rfl)) (by intro _ _; rfl)) (jx_var (i := 8) rfl (vis_of rfl))) (jx_ix rfl (jx_var (i := 3) rfl (vis_of rfl)) (jx_var (i := 7) rfl (vis_of rfl)) (by intro _ _; rfl)))))))
  (jb_one (js_ret (jx_callTy call_tuple_of vc_tuple rfl T.f_tuple bt_tuple (jl_cons (jx_var (i := 4) rfl (vis_of rfl)) jl_nil))))))))
theorem sc_law_has_ring : FnScope ["size", "arcs", "row", "net", "ring", "caught", "alone", "told", "at", "error", "a", "b", "length", "number"] ["size", "arcs", "row"] (defScope (top 40)) := ⟨rfl, rfl, rfl, by decide +kernel, rfl, by decide +kernel, by decide +kernel⟩
theorem bd0_law_has_ring (T : Tx P w K mg fd) : Binds K (fd 28) ["size", "arcs", "row"] [] := (T.u_law_has_ring).bindsN fun _ _ _ _ _ _ us hl => match us, hl with | [_, _, _], _ => rfl
theorem bd_law_has_ring_3 (T : Tx P w K mg fd) : ∃ ds, Vals [] ds ∧ Binds K (fd 28) ["size", "arcs", "row"] ds := ⟨[], .nil, bd0_law_has_ring T⟩
theorem ok_law_has_ring (T : Tx P w K mg fd) : FnOk P w K mg base (L2.CX P w) 6 (He.fAd K ("_law_has_ring", none)) (fd 28) ["size", "arcs", "row"] (spM (gt K) 3 f_law_has_ring) :=
  fn_ok (T.u_law_has_ring) sc_law_has_ring fun cdv A outer s H E hr => have hu := TL.hu_of hr
  (jb_cons (js_set (k := 3) sc_law_has_ring.nd rfl (loc_of rfl) (jx_make (c := 0) T.mk_Net (ok_Net__init T) rfl (hr.mono (by decide)) rfl T.g_Net (bd_Net__init_3 T).choose_spec.2 (bd_Net__init_3 T).choose_spec.1 (takes_of rfl rfl rfl rfl) (jp_cons pc_P (jx_var (i := 0) rfl (vis_of rfl)) (jp_cons pc_P (jx_callTy call_tuple_of vc_tuple rfl T.f_tuple bt_tuple (jl_cons (jx_var (i := 1) rfl (vis_of rfl)) jl_nil)) jp_nil)) co_nil))
  (jb_cons (js_set (k := 4) sc_law_has_ring.nd rfl (loc_of rfl) (jx_call (ok_ring_below T) (hr.mono (by decide)) rfl T.g_ring_below (T.u_ring_below).kp (bd_ring_below_1 T).choose_spec.2 (bd_ring_below_1 T).choose_spec.1 (takes_of rfl rfl rfl rfl) (jp_cons pc_P (jx_var (i := 3) rfl (vis_of rfl)) jp_nil) co_nil))
  (jb_cons (js_if (jt_not (jt_val (jx_call (ok_law_ring_good T) (hr.mono (by decide)) rfl T.g__law_ring_good (T.u_law_ring_good).kp (bd_law_ring_good_2 T).choose_spec.2 (bd_law_ring_good_2 T).choose_spec.1 (takes_of rfl rfl rfl rfl) (jp_cons pc_P (jx_var (i := 1) rfl (vis_of rfl)) (jp_cons pc_P (jx_var (i := 4) rfl (vis_of rfl)) jp_nil)) co_nil))) (jb_one (js_ret jx_bl)) jb_nil)
  (jb_cons (js_set (k := 5) sc_law_has_ring.nd rfl (loc_of rfl) jx_non)
  (jb_cons (js_set (k := 6) sc_law_has_ring.nd rfl (loc_of rfl) jx_bl)
  (jb_cons (js_try_as (i := 9) rfl rfl rfl rfl sc_law_has_ring.nd rfl rfl ⟨rfl, by decide, .inl T.g_HasRing⟩ (takes_of rfl rfl rfl rfl) (T.cat_HasRing) (fun _ _ _ tk hp => (jb_one (js_expr (jx_call (ok_some_row T) (hr.mono (by decide)) rfl T.g_some_row (T.u_some_row).kp (bd_some_row_1 T).choose_spec.2 (bd_some_row_1 T).choose_spec.1 tk (jp_cons pc_P (jx_var (i := 3) rfl (vis_of rfl)) jp_nil) co_nil)))) (fun _ _ _ _ _ hz hf => (jb_cons (js_set (k := 5) sc_law_has_ring.nd rfl (loc_of rfl) (jx_xf (c := 5) (k := 0) rfl hz hf (i := 9) rfl (vis_of rfl) (T.xf_HasRing) (T.xn_HasRing_ring) rfl (by show (["ring"] : List Str).Nodup; decide)))
  (jb_one (js_set (k := 6) sc_law_has_ring.nd rfl (loc_of rfl) (jx_and (jx_xi (c := 5) rfl hz hf (i := 9) rfl (vis_of rfl) T.xs_HasRing rfl T.f_isinstance (pe_glob (v := .ref ((gt K).X 0)) rfl T.g_MorningError rfl) (.own _) T.xi_HasRing_MorningError) (jx_and (jx_xi (c := 5) rfl hz hf (i := 9) rfl (vis_of rfl) T.xs_HasRing rfl T.f_isinstance (pe_bltn (v := .ty "ValueError") rfl T.f_ValueError bt_ve rfl) (.ty _) T.xi_HasRing_ValueError) (jx_one (jx_not (jx_xiT (c := 5) rfl hz hf (i := 9) rfl (vis_of rfl) T.xs_HasRing rfl T.f_isinstance (.cons (pe_glob (v := .ref ((gt K).X 3)) rfl T.g_BadNet rfl) (.own _) (.cons (pe_glob (v := .ref ((gt K).X 2)) rfl T.g_BadRow rfl) (.own _) (.cons (pe_glob (v := .ref ((gt K).X 1)) rfl T.g_BadNumber rfl) (.own _) .nil rfl) rfl) rfl) (Nat.le_of_ble_eq_true rfl) T.xi_HasRing_BadNet_BadRow_BadNumber))))))))))
  (jb_cons (js_if (jt_w (jw_or (jt_not (jt_val (jx_call (ok_law_ring_good T) (hr.mono (by decide)) rfl T.g__law_ring_good (T.u_law_ring_good).kp (bd_law_ring_good_2 T).choose_spec.2 (bd_law_ring_good_2 T).choose_spec.1 (takes_of rfl rfl rfl rfl) (jp_cons pc_P (jx_var (i := 1) rfl (vis_of rfl)) (jp_cons pc_P (jx_var (i := 5) rfl (vis_of rfl)) jp_nil)) co_nil))) (jw_or1 (jt_not (jt_val (jx_var (i := 6) rfl (vis_of rfl))))))) (jb_one (js_ret jx_bl)) jb_nil)
  (jb_cons (js_set (k := 7) sc_law_has_ring.nd rfl (loc_of rfl) (jx_call (ok_slacks T) (hr.mono (by decide)) rfl T.g_slacks (T.u_slacks).kp (bd_slacks_3 T).choose_spec.2 (bd_slacks_3 T).choose_spec.1 (takes_of rfl rfl rfl rfl) (jp_cons pc_P (jx_var (i := 3) rfl (vis_of rfl)) (jp_cons pc_P (jx_var (i := 2) rfl (vis_of rfl)) (jp_cons pc_P (jx_var (i := 4) rfl (vis_of rfl)) jp_nil))) co_nil))
  (jb_cons (js_if (jt_not (jt_val (jx_call (ok_law_ints T) (hr.mono (by decide)) rfl T.g__law_ints (T.u_law_ints).kp (bd_law_ints_2 T).choose_spec.2 (bd_law_ints_2 T).choose_spec.1 (takes_of rfl rfl rfl rfl) (jp_cons pc_P (jx_var (i := 7) rfl (vis_of rfl)) (jp_cons pc_P (jx_callB call_len vc_len rfl T.f_len bt_len (jl_cons (jx_var (i := 4) rfl (vis_of rfl)) jl_nil)) jp_nil)) co_nil))) (jb_one (js_ret jx_bl)) jb_nil)
  (jb_cons (js_for (passes_of rfl) rfl (ji_rng1 rfl T.f_range (jl_cons (jx_callB call_len vc_len rfl T.f_len bt_len (jl_cons (jx_var (i := 4) rfl (vis_of rfl)) jl_nil)) jl_nil)) (jg_name (k := 8) sc_law_has_ring.nd rfl (loc_of rfl)) (jb_cons (js_asg (jx_ix rfl (jx_var (i := 1) rfl (vis_of rfl)) (jx_ix rfl (jx_var (i := 4) rfl (vis_of rfl)) (jx_var (i := 8) rfl (vis_of rfl)) (by intro _ _; rfl)) (by intro _ _; rfl)) (jg_tup rfl rfl (jgs_cons (jg_name (k := 10) sc_law_has_ring.nd rfl (loc_of rfl)) (jgs_cons (jg_name (k := 11) sc_law_has_ring.nd rfl (loc_of rfl)) (jgs_cons (jg_name (k := 12) sc_law_has_ring.nd rfl (loc_of rfl)) jgs_nil)))))
  (jb_one (js_if (jt_cmp (op_neD hu) v2_neD (jx_ix rfl (jx_var (i := 7) rfl (vis_of rfl)) (jx_var (i := 8) rfl (vis_of rfl)) (by intro _ _; rfl)) (jx_bin op_sub v2_sub (jx_bin op_plus v2_plus (jx_ix rfl (jx_var (i := 2) rfl (vis_of rfl)) (jx_var (i := 10) rfl (vis_of rfl)) (by intro _ _; rfl)) (jx_var (i := 12) rfl (vis_of rfl))) (jx_ix rfl (jx_var (i := 2) rfl (vis_of rfl)) (jx_var (i := 11) rfl (vis_of rfl)) (by intro _ _; rfl))) (nomark _)) (jb_one (js_ret jx_bl)) jb_nil))))
  (jb_one (js_ret (jx_and (jx_cmp (op_eqD hu) v2_eqD (jx_callB (cr_sum rfl) vc_sum rfl T.f_sum bt_sum (jl_cons (jx_callTy call_list_of vc_list rfl T.f_list bt_list (jl_cons (jx_var (i := 7) rfl (vis_of rfl)) jl_nil)) jl_nil)) (jx_callB (cr_sum rfl) vc_sum rfl T.f_sum bt_sum (jl_cons (jx_lc rfl sc_law_has_ring.nd (by exact (ji_seq rfl (jx_var (i := 4) rfl (vis_of rfl)))) (blkOk_by (own := [("number", 13)]) (by rfl)) (fun _ _ _ _ _ => (jg_name (k := 13) sc_law_has_ring.nd rfl (loc_of rfl))) (fun _ _ _ _ _ => jts_nil) (fun _ _ _ _ _ => (jx_ix rfl (jx_ix rfl (jx_var (i := 1) rfl (vis_of rfl)) (jx_var (i := 13) rfl (vis_of rfl)) (by intro _ _; rfl)) jx_int (by intro _ _; rfl)))) jl_nil)) (nomark _)) (jx_one (jx_call (ok_law_looks T) (hr.mono (by decide)) rfl T.g__law_looks (T.u_law_looks).kp (bd_law_looks_3 T).choose_spec.2 (bd_law_looks_3 T).choose_spec.1 (takes_of rfl rfl rfl rfl) (jp_cons pc_P (jx_var (i := 3) rfl (vis_of rfl)) (jp_cons pc_P (jx_var (i := 1) rfl (vis_of rfl)) (jp_cons pc_P (jx_var (i := 2) rfl (vis_of rfl)) jp_nil))) co_nil)))))))))))))))
theorem sc_law_closed : FnScope ["draws", "size", "arcs", "heights", "table", "first", "a", "b", "place", "even", "bent"] ["draws", "size", "arcs", "heights"] (defScope (top 42)) := ⟨rfl, rfl, rfl, by decide +kernel, rfl, by decide +kernel, by decide +kernel⟩
theorem bd0_law_closed (T : Tx P w K mg fd) : Binds K (fd 29) ["draws", "size", "arcs", "heights"] [] := (T.u_law_closed).bindsN fun _ _ _ _ _ _ us hl => match us, hl with | [_, _, _, _], _ => rfl
theorem bd_law_closed_4 (T : Tx P w K mg fd) : ∃ ds, Vals [] ds ∧ Binds K (fd 29) ["draws", "size", "arcs", "heights"] ds := ⟨[], .nil, bd0_law_closed T⟩
theorem ok_law_closed (T : Tx P w K mg fd) : FnOk P w K mg base (L2.CX P w) 7 (He.fAd K ("_law_closed", none)) (fd 29) ["draws", "size", "arcs", "heights"] (spM (gt K) 4 f_law_closed) :=
  fn_ok (T.u_law_closed) sc_law_closed fun cdv A outer s H E hr => have hu := TL.hu_of hr
  (jb_cons (js_set (k := 4) sc_law_closed.nd rfl (loc_of rfl) (jx_call (ok_law_dists T) (hr.mono (by decide)) rfl T.g__law_dists (T.u_law_dists).kp (bd_law_dists_2 T).choose_spec.2 (bd_law_dists_2 T).choose_spec.1 (takes_of rfl rfl rfl rfl) (jp_cons pc_P (jx_var (i := 1) rfl (vis_of rfl)) (jp_cons pc_P (jx_var (i := 2) rfl (vis_of rfl)) jp_nil)) co_nil))
  (jb_cons (js_setLc (k := 5) rfl sc_law_closed.nd rfl rfl (sw_true rfl rfl rfl rfl) (by exact (ji_rng1 rfl T.f_range (jl_cons (jx_var (i := 1) rfl (vis_of rfl)) jl_nil))) (blkOk_by (own := [("b", 7)]) (by rfl)) (fun _ _ _ _ _ => (jg_name (k := 7) sc_law_closed.nd rfl (loc_of rfl))) (fun _ _ _ _ _ => jts_nil) (fun _ _ _ _ _ => (jx_ix rfl (jx_ix rfl (jx_var (i := 4) rfl (vis_of rfl)) jx_int (by intro _ _; rfl)) (jx_var (i := 7) rfl (vis_of rfl)) (by intro _ _; rfl))))
  (jb_cons (js_if (jt_cmp op_notIn_seq (v2_in true) jx_non (jx_var (i := 5) rfl (vis_of rfl)) (by with_unfolding_all rfl)) (jb_one (js_if (jt_not (jt_val (jx_call (ok_law_looks T) (hr.mono (by decide)) rfl T.g__law_looks (T.u_law_looks).kp (bd_law_looks_3 T).choose_spec.2 (bd_law_looks_3 T).choose_spec.1 (takes_of rfl rfl rfl rfl) (jp_cons pc_P (jx_make (c := 0) T.mk_Net (ok_Net__init T) rfl (hr.mono (by decide)) rfl T.g_Net (bd_Net__init_3 T).choose_spec.2 (bd_Net__init_3 T).choose_spec.1 (takes_of rfl rfl rfl rfl) (jp_cons pc_P (jx_var (i := 1) rfl (vis_of rfl)) (jp_cons pc_P (jx_var (i := 2) rfl (vis_of rfl)) jp_nil)) co_nil) (jp_cons pc_P (jx_var (i := 2) rfl (vis_of rfl)) (jp_cons pc_P (jx_var (i := 5) rfl (vis_of rfl)) jp_nil))) co_nil))) (jb_one (js_ret jx_bl)) jb_nil)) jb_nil)
  (jb_cons (js_set (k := 6) sc_law_closed.nd rfl (loc_of rfl) (jx_call (ok_law_take T) (hr.mono (by decide)) rfl T.g__law_take (T.u_law_take).kp (bd_law_take_2 T).choose_spec.2 (bd_law_take_2 T).choose_spec.1 (takes_of rfl rfl rfl rfl) (jp_cons pc_P (jx_var (i := 0) rfl (vis_of rfl)) (jp_cons pc_P (jx_var (i := 1) rfl (vis_of rfl)) jp_nil)) co_nil))
  (jb_cons (js_set (k := 7) sc_law_closed.nd rfl (loc_of rfl) (jx_bin op_mod v2_mod (jx_callTy call_int1 vc_int rfl T.f_int bt_int (jl_cons (jx_bin op_plus v2_plus (jx_bin op_plus v2_plus (jx_var (i := 6) rfl (vis_of rfl)) jx_int) (jx_call (ok_law_take T) (hr.mono (by decide)) rfl T.g__law_take (T.u_law_take).kp (bd_law_take_2 T).choose_spec.2 (bd_law_take_2 T).choose_spec.1 (takes_of rfl rfl rfl rfl) (jp_cons pc_P (jx_var (i := 0) rfl (vis_of rfl)) (jp_cons pc_P (jx_var (i := 1) rfl (vis_of rfl)) jp_nil)) co_nil)) jl_nil)) (jx_var (i := 1) rfl (vis_of rfl))))
  (jb_cons (js_if (jt_cmp op_isx v2_is (jx_ix rfl (jx_ix rfl (jx_var (i := 4) rfl (vis_of rfl)) (jx_var (i := 6) rfl (vis_of rfl)) (by intro _ _; rfl)) (jx_var (i := 7) rfl (vis_of rfl)) (by intro _ _; rfl)) jx_non (nomark _)) (jb_one (js_set (k := 7) sc_law_closed.nd rfl (loc_of rfl) (jx_var (i := 6) rfl (vis_of rfl)))) jb_nil)
  (jb_cons (js_set (k := 8) sc_law_closed.nd rfl (loc_of rfl) (jx_call (ok_law_take T) (hr.mono (by decide)) rfl T.g__law_take (T.u_law_take).kp (bd_law_take_2 T).choose_spec.2 (bd_law_take_2 T).choose_spec.1 (takes_of rfl rfl rfl rfl) (jp_cons pc_P (jx_var (i := 0) rfl (vis_of rfl)) (jp_cons pc_P (jx_bin op_plus v2_plus (jx_callB call_len vc_len rfl T.f_len bt_len (jl_cons (jx_var (i := 2) rfl (vis_of rfl)) jl_nil)) jx_int) jp_nil)) co_nil))
  (jb_cons (js_set (k := 9) sc_law_closed.nd rfl (loc_of rfl) (jx_bin op_plus v2_plus (jx_bin op_plus v2_plus (jx_cut rfl (jx_var (i := 2) rfl (vis_of rfl)) jo_none (jo_some (jx_var (i := 8) rfl (vis_of rfl)))) (jx_lst (jo_cons (jx_tup (ja_cons (jx_var (i := 7) rfl (vis_of rfl)) (ja_cons (jx_var (i := 6) rfl (vis_of rfl)) (ja_cons (jx_negm (jx_ix rfl (jx_ix rfl (jx_var (i := 4) rfl (vis_of rfl)) (jx_var (i := 6) rfl (vis_of rfl)) (by intro _ _; rfl)) (jx_var (i := 7) rfl (vis_of rfl)) (by intro _ _; rfl))) ja_nil)))) jo_nil))) (jx_cut rfl (jx_var (i := 2) rfl (vis_of rfl)) (jo_some (jx_var (i := 8) rfl (vis_of rfl))) jo_none)))
  (jb_cons (js_set (k := 10) sc_law_closed.nd rfl (loc_of rfl) (jx_bin op_plus v2_plus (jx_bin op_plus v2_plus (jx_cut rfl (jx_var (i := 2) rfl (vis_of rfl)) jo_none (jo_some (jx_var (i := 8) rfl (vis_of rfl)))) (jx_lst (jo_cons (jx_tup (ja_cons (jx_var (i := 7) rfl (vis_of rfl)) (ja_cons (jx_var (i := 6) rfl (vis_of rfl)) (ja_cons (jx_bin op_sub v2_sub (jx_bin op_sub v2_sub (jx_negm (jx_ix rfl (jx_ix rfl (jx_var (i := 4) rfl (vis_of rfl)) (jx_var (i := 6) rfl (vis_of rfl)) (by intro _ _; rfl)) (jx_var (i := 7) rfl (vis_of rfl)) (by intro _ _; rfl))) jx_int) (jx_call (ok_law_take T) (hr.mono (by decide)) rfl T.g__law_take (T.u_law_take).kp (bd_law_take_2 T).choose_spec.2 (bd_law_take_2 T).choose_spec.1 (takes_of rfl rfl rfl rfl) (jp_cons pc_P (jx_var (i := 0) rfl (vis_of rfl)) (jp_cons pc_P jx_int jp_nil)) co_nil)) ja_nil)))) jo_nil))) (jx_cut rfl (jx_var (i := 2) rfl (vis_of rfl)) (jo_some (jx_var (i := 8) rfl (vis_of rfl))) jo_none)))
  (jb_one (js_ret (jx_and (jx_call (ok_law_has_row T) (hr.mono (by decide)) rfl T.g__law_has_row (T.u_law_has_row).kp (bd_law_has_row_2 T).choose_spec.2 (bd_law_has_row_2 T).choose_spec.1 (takes_of rfl rfl rfl rfl) (jp_cons pc_P (jx_var (i := 1) rfl (vis_of rfl)) (jp_cons pc_P (jx_var (i := 2) rfl (vis_of rfl)) jp_nil)) co_nil) (jx_and (jx_call (ok_law_has_row T) (hr.mono (by decide)) rfl T.g__law_has_row (T.u_law_has_row).kp (bd_law_has_row_2 T).choose_spec.2 (bd_law_has_row_2 T).choose_spec.1 (takes_of rfl rfl rfl rfl) (jp_cons pc_P (jx_var (i := 1) rfl (vis_of rfl)) (jp_cons pc_P (jx_var (i := 9) rfl (vis_of rfl)) jp_nil)) co_nil) (jx_one (jx_call (ok_law_has_ring T) (hr.mono (by decide)) rfl T.g__law_has_ring (T.u_law_has_ring).kp (bd_law_has_ring_3 T).choose_spec.2 (bd_law_has_ring_3 T).choose_spec.1 (takes_of rfl rfl rfl rfl) (jp_cons pc_P (jx_var (i := 1) rfl (vis_of rfl)) (jp_cons pc_P (jx_var (i := 10) rfl (vis_of rfl)) (jp_cons pc_P (jx_var (i := 3) rfl (vis_of rfl)) jp_nil))) co_nil)))))))))))))))
theorem sc_law_refused : FnScope ["draws", "size", "arcs", "name", "bad", "spot", "handed", "place", "error"] ["draws", "size", "arcs"] (defScope (top 44)) := ⟨rfl, rfl, rfl, by decide +kernel, rfl, by decide +kernel, by decide +kernel⟩
theorem bd0_law_refused (T : Tx P w K mg fd) : Binds K (fd 30) ["draws", "size", "arcs"] [] := (T.u_law_refused).bindsN fun _ _ _ _ _ _ us hl => match us, hl with | [_, _, _], _ => rfl
theorem bd_law_refused_3 (T : Tx P w K mg fd) : ∃ ds, Vals [] ds ∧ Binds K (fd 30) ["draws", "size", "arcs"] ds := ⟨[], .nil, bd0_law_refused T⟩
theorem ok_law_refused (T : Tx P w K mg fd) : FnOk P w K mg base (L2.CX P w) 6 (He.fAd K ("_law_refused", none)) (fd 30) ["draws", "size", "arcs"] (spM (gt K) 3 f_law_refused) :=
  fn_ok (T.u_law_refused) sc_law_refused fun cdv A outer s H E hr => have hu := TL.hu_of hr
  (jb_cons (js_set (k := 3) sc_law_refused.nd rfl (loc_of rfl) jx_non)
  (jb_cons (js_try_as (i := 8) rfl rfl rfl rfl sc_law_refused.nd rfl rfl ⟨rfl, by decide, .inl T.g_BadNumber⟩ (takes_of rfl rfl rfl rfl) (T.cat_BadNumber) (fun _ _ _ tk hp => (jb_one (js_expr (jx_make (c := 0) T.mk_Net (ok_Net__init T) rfl (hr.mono (by decide)) rfl T.g_Net (bd_Net__init_3 T).choose_spec.2 (bd_Net__init_3 T).choose_spec.1 tk (jp_cons pc_P (jx_ix rfl (jx_lst (jo_cons jx_int (jo_cons (jx_negm jx_int) (jo_cons jx_bl (jo_cons jx_non (jo_cons jx_str jo_nil)))))) (jx_call (ok_law_take T) (hr.mono (by decide)) rfl T.g__law_take (T.u_law_take).kp (bd_law_take_2 T).choose_spec.2 (bd_law_take_2 T).choose_spec.1 tk (jp_cons pc_P (jx_var (i := 0) rfl (vis_of rfl)) (jp_cons pc_P jx_int jp_nil)) co_nil) (by intro _ _; rfl)) (jp_cons pc_P jx_non jp_nil)) co_nil)))) (fun _ _ _ _ _ hz hf => (jb_one (js_set (k := 3) sc_law_refused.nd rfl (loc_of rfl) (jx_xf (c := 1) (k := 0) rfl hz hf (i := 8) rfl (vis_of rfl) (T.xf_BadNumber) (T.xn_BadNumber_name) rfl (by show (["name"] : List Str).Nodup; decide))))))
  (jb_cons (js_if (jt_cmp (op_neD hu) v2_neD (jx_var (i := 3) rfl (vis_of rfl)) jx_str (nomark _)) (jb_one (js_ret jx_bl)) jb_nil)
  (jb_cons (js_set (k := 4) sc_law_refused.nd rfl (loc_of rfl) (jx_ix rfl (jx_lst (jo_cons (jx_lst (jo_cons jx_int (jo_cons (jx_var (i := 1) rfl (vis_of rfl)) (jo_cons jx_int jo_nil)))) (jo_cons (jx_lst (jo_cons (jx_negm jx_int) (jo_cons jx_int (jo_cons jx_int jo_nil)))) (jo_cons (jx_lst (jo_cons jx_int (jo_cons jx_int jo_nil))) (jo_cons (jx_lst (jo_cons jx_int (jo_cons jx_int (jo_cons jx_non jo_nil)))) (jo_cons (jx_lst (jo_cons jx_bl (jo_cons jx_int (jo_cons jx_int jo_nil)))) (jo_cons jx_int (jo_cons (jx_lst (jo_cons jx_int (jo_cons jx_int (jo_cons jx_int (jo_cons jx_int jo_nil))))) (jo_cons (jx_lst (jo_cons jx_int (jo_cons jx_int (jo_cons jx_str jo_nil)))) jo_nil))))))))) (jx_call (ok_law_take T) (hr.mono (by decide)) rfl T.g__law_take (T.u_law_take).kp (bd_law_take_2 T).choose_spec.2 (bd_law_take_2 T).choose_spec.1 (takes_of rfl rfl rfl rfl) (jp_cons pc_P (jx_var (i := 0) rfl (vis_of rfl)) (jp_cons pc_P jx_int jp_nil)) co_nil) (by intro _ _; rfl)))
  (jb_cons (js_set (k := 5) sc_law_refused.nd rfl (loc_of rfl) (jx_call (ok_law_take T) (hr.mono (by decide)) rfl T.g__law_take (T.u_law_take).kp (bd_law_take_2 T).choose_spec.2 (bd_law_take_2 T).choose_spec.1 (takes_of rfl rfl rfl rfl) (jp_cons pc_P (jx_var (i := 0) rfl (vis_of rfl)) (jp_cons pc_P (jx_bin op_plus v2_plus (jx_callB call_len vc_len rfl T.f_len bt_len (jl_cons (jx_var (i := 2) rfl (vis_of rfl)) jl_nil)) jx_int) jp_nil)) co_nil))
  (jb_cons (js_set (k := 6) sc_law_refused.nd rfl (loc_of rfl) (jx_bin op_plus v2_plus (jx_bin op_plus v2_plus (jx_bin op_plus v2_plus (jx_cut rfl (jx_var (i := 2) rfl (vis_of rfl)) jo_none (jo_some (jx_var (i := 5) rfl (vis_of rfl)))) (jx_lst (jo_cons (jx_var (i := 4) rfl (vis_of rfl)) jo_nil))) (jx_cut rfl (jx_var (i := 2) rfl (vis_of rfl)) (jo_some (jx_var (i := 5) rfl (vis_of rfl))) jo_none)) (jx_lst (jo_cons jx_int jo_nil))))
  (jb_cons (js_set (k := 7) sc_law_refused.nd rfl (loc_of rfl) jx_non)
  (jb_cons (js_try_as (i := 8) rfl rfl rfl rfl sc_law_refused.nd rfl rfl ⟨rfl, by decide, .inl T.g_BadNet⟩ (takes_of rfl rfl rfl rfl) (T.cat_BadNet) (fun _ _ _ tk hp => (jb_one (js_expr (jx_make (c := 0) T.mk_Net (ok_Net__init T) rfl (hr.mono (by decide)) rfl T.g_Net (bd_Net__init_3 T).choose_spec.2 (bd_Net__init_3 T).choose_spec.1 tk (jp_cons pc_P (jx_var (i := 1) rfl (vis_of rfl)) (jp_cons pc_P (jx_var (i := 6) rfl (vis_of rfl)) jp_nil)) co_nil)))) (fun _ _ _ _ _ hz hf => (jb_one (js_set (k := 7) sc_law_refused.nd rfl (loc_of rfl) (jx_xf (c := 3) (k := 0) rfl hz hf (i := 8) rfl (vis_of rfl) (T.xf_BadNet) (T.xn_BadNet_place) rfl (by show (["place"] : List Str).Nodup; decide))))))
  (jb_cons (js_if (jt_w (jw_or (jt_not (jt_val (jx_call (ok_law_int T) (hr.mono (by decide)) rfl T.g__law_int (T.u_law_int).kp (bd_law_int_1 T).choose_spec.2 (bd_law_int_1 T).choose_spec.1 (takes_of rfl rfl rfl rfl) (jp_cons pc_P (jx_var (i := 7) rfl (vis_of rfl)) jp_nil) co_nil))) (jw_or1 (jt_cmp (op_neD hu) v2_neD (jx_var (i := 7) rfl (vis_of rfl)) (jx_var (i := 5) rfl (vis_of rfl)) (nomark _))))) (jb_one (js_ret jx_bl)) jb_nil)
  (jb_cons (js_set (k := 7) sc_law_refused.nd rfl (loc_of rfl) jx_non)
  (jb_cons (js_try_as (i := 8) rfl rfl rfl rfl sc_law_refused.nd rfl rfl ⟨rfl, by decide, .inl T.g_BadNet⟩ (takes_of rfl rfl rfl rfl) (T.cat_BadNet) (fun _ _ _ tk hp => (jb_one (js_expr (jx_make (c := 0) T.mk_Net (ok_Net__init T) rfl (hr.mono (by decide)) rfl T.g_Net (bd_Net__init_3 T).choose_spec.2 (bd_Net__init_3 T).choose_spec.1 tk (jp_cons pc_P (jx_var (i := 1) rfl (vis_of rfl)) (jp_cons pc_P (jx_ix rfl (jx_lst (jo_cons jx_non (jo_cons jx_int (jo_cons jx_str (jo_cons jx_dic jo_nil))))) (jx_call (ok_law_take T) (hr.mono (by decide)) rfl T.g__law_take (T.u_law_take).kp (bd_law_take_2 T).choose_spec.2 (bd_law_take_2 T).choose_spec.1 tk (jp_cons pc_P (jx_var (i := 0) rfl (vis_of rfl)) (jp_cons pc_P jx_int jp_nil)) co_nil) (by intro _ _; rfl)) jp_nil)) co_nil)))) (fun _ _ _ _ _ hz hf => (jb_one (js_set (k := 7) sc_law_refused.nd rfl (loc_of rfl) (jx_xf (c := 3) (k := 0) rfl hz hf (i := 8) rfl (vis_of rfl) (T.xf_BadNet) (T.xn_BadNet_place) rfl (by show (["place"] : List Str).Nodup; decide))))))
  (jb_one (js_ret (jx_and (jx_call (ok_law_int T) (hr.mono (by decide)) rfl T.g__law_int (T.u_law_int).kp (bd_law_int_1 T).choose_spec.2 (bd_law_int_1 T).choose_spec.1 (takes_of rfl rfl rfl rfl) (jp_cons pc_P (jx_var (i := 7) rfl (vis_of rfl)) jp_nil) co_nil) (jx_one (jx_cmp (op_eqD hu) v2_eqD (jx_var (i := 7) rfl (vis_of rfl)) (jx_negm jx_int) (nomark _)))))))))))))))))
theorem sc_law_refused_rows : FnScope ["draws", "size", "arcs", "heights", "net", "place", "at", "odd", "first", "second", "name", "error"] ["draws", "size", "arcs", "heights"] (defScope (top 45)) := ⟨rfl, rfl, rfl, by decide +kernel, rfl, by decide +kernel, by decide +kernel⟩
theorem bd0_law_refused_rows (T : Tx P w K mg fd) : Binds K (fd 31) ["draws", "size", "arcs", "heights"] [] := (T.u_law_refused_rows).bindsN fun _ _ _ _ _ _ us hl => match us, hl with | [_, _, _, _], _ => rfl
theorem bd_law_refused_rows_4 (T : Tx P w K mg fd) : ∃ ds, Vals [] ds ∧ Binds K (fd 31) ["draws", "size", "arcs", "heights"] ds := ⟨[], .nil, bd0_law_refused_rows T⟩
theorem ok_law_refused_rows (T : Tx P w K mg fd) : FnOk P w K mg base (L2.CX P w) 6 (He.fAd K ("_law_refused_rows", none)) (fd 31) ["draws", "size", "arcs", "heights"] (spM (gt K) 4 f_law_refused_rows) :=
  fn_ok (T.u_law_refused_rows) sc_law_refused_rows fun cdv A outer s H E hr => have hu := TL.hu_of hr
  (jb_cons (js_set (k := 4) sc_law_refused_rows.nd rfl (loc_of rfl) (jx_make (c := 0) T.mk_Net (ok_Net__init T) rfl (hr.mono (by decide)) rfl T.g_Net (bd_Net__init_3 T).choose_spec.2 (bd_Net__init_3 T).choose_spec.1 (takes_of rfl rfl rfl rfl) (jp_cons pc_P (jx_var (i := 1) rfl (vis_of rfl)) (jp_cons pc_P (jx_var (i := 2) rfl (vis_of rfl)) jp_nil)) co_nil))
  (jb_cons (js_set (k := 5) sc_law_refused_rows.nd rfl (loc_of rfl) jx_non)
  (jb_cons (js_try_as (i := 11) rfl rfl rfl rfl sc_law_refused_rows.nd rfl rfl ⟨rfl, by decide, .inl T.g_BadRow⟩ (takes_of rfl rfl rfl rfl) (T.cat_BadRow) (fun _ _ _ tk hp => (jb_one (js_expr (jx_call (ok_keeps T) (hr.mono (by decide)) rfl T.g_keeps (T.u_keeps).kp (bd_keeps_2 T).choose_spec.2 (bd_keeps_2 T).choose_spec.1 tk (jp_cons pc_P (jx_var (i := 4) rfl (vis_of rfl)) (jp_cons pc_P (jx_bin op_plus v2_plus (jx_var (i := 3) rfl (vis_of rfl)) (jx_lst (jo_cons jx_int jo_nil))) jp_nil)) co_nil)))) (fun _ _ _ _ _ hz hf => (jb_one (js_set (k := 5) sc_law_refused_rows.nd rfl (loc_of rfl) (jx_xf (c := 2) (k := 0) rfl hz hf (i := 11) rfl (vis_of rfl) (T.xf_BadRow) (T.xn_BadRow_place) rfl (by show (["place"] : List Str).Nodup; decide))))))
  (jb_cons (js_if (jt_w (jw_or (jt_not (jt_val (jx_call (ok_law_int T) (hr.mono (by decide)) rfl T.g__law_int (T.u_law_int).kp (bd_law_int_1 T).choose_spec.2 (bd_law_int_1 T).choose_spec.1 (takes_of rfl rfl rfl rfl) (jp_cons pc_P (jx_var (i := 5) rfl (vis_of rfl)) jp_nil) co_nil))) (jw_or1 (jt_cmp (op_neD hu) v2_neD (jx_var (i := 5) rfl (vis_of rfl)) (jx_negm jx_int) (nomark _))))) (jb_one (js_ret jx_bl)) jb_nil)
  (jb_cons (js_set (k := 6) sc_law_refused_rows.nd rfl (loc_of rfl) (jx_call (ok_law_take T) (hr.mono (by decide)) rfl T.g__law_take (T.u_law_take).kp (bd_law_take_2 T).choose_spec.2 (bd_law_take_2 T).choose_spec.1 (takes_of rfl rfl rfl rfl) (jp_cons pc_P (jx_var (i := 0) rfl (vis_of rfl)) (jp_cons pc_P (jx_var (i := 1) rfl (vis_of rfl)) jp_nil)) co_nil))
  (jb_cons (js_set (k := 7) sc_law_refused_rows.nd rfl (loc_of rfl) (jx_callTy call_list_of vc_list rfl T.f_list bt_list (jl_cons (jx_var (i := 3) rfl (vis_of rfl)) jl_nil)))
  (jb_cons (js_sub (jx_ix rfl (jx_lst (jo_cons jx_non (jo_cons jx_bl (jo_cons jx_str (jo_cons (jx_lst (jo_cons jx_int jo_nil)) jo_nil))))) (jx_call (ok_law_take T) (hr.mono (by decide)) rfl T.g__law_take (T.u_law_take).kp (bd_law_take_2 T).choose_spec.2 (bd_law_take_2 T).choose_spec.1 (takes_of rfl rfl rfl rfl) (jp_cons pc_P (jx_var (i := 0) rfl (vis_of rfl)) (jp_cons pc_P jx_int jp_nil)) co_nil) (by intro _ _; rfl)) (jx_var (i := 7) rfl (vis_of rfl)) (jx_var (i := 6) rfl (vis_of rfl)))
  (jb_cons (js_set (k := 8) sc_law_refused_rows.nd rfl (loc_of rfl) jx_non)
  (jb_cons (js_try_as (i := 11) rfl rfl rfl rfl sc_law_refused_rows.nd rfl rfl ⟨rfl, by decide, .inl T.g_BadRow⟩ (takes_of rfl rfl rfl rfl) (T.cat_BadRow) (fun _ _ _ tk hp => (jb_one (js_expr (jx_call (ok_broken_arc T) (hr.mono (by decide)) rfl T.g_broken_arc (T.u_broken_arc).kp (bd_broken_arc_2 T).choose_spec.2 (bd_broken_arc_2 T).choose_spec.1 tk (jp_cons pc_P (jx_var (i := 4) rfl (vis_of rfl)) (jp_cons pc_P (jx_var (i := 7) rfl (vis_of rfl)) jp_nil)) co_nil)))) (fun _ _ _ _ _ hz hf => (jb_one (js_set (k := 8) sc_law_refused_rows.nd rfl (loc_of rfl) (jx_xf (c := 2) (k := 0) rfl hz hf (i := 11) rfl (vis_of rfl) (T.xf_BadRow) (T.xn_BadRow_place) rfl (by show (["place"] : List Str).Nodup; decide))))))
  (jb_cons (js_set (k := 9) sc_law_refused_rows.nd rfl (loc_of rfl) jx_non)
  (jb_cons (js_try_as (i := 11) rfl rfl rfl rfl sc_law_refused_rows.nd rfl rfl ⟨rfl, by decide, .inl T.g_BadRow⟩ (takes_of rfl rfl rfl rfl) (T.cat_BadRow) (fun _ _ _ tk hp => (jb_one (js_expr (jx_call (ok_slacks T) (hr.mono (by decide)) rfl T.g_slacks (T.u_slacks).kp (bd_slacks_3 T).choose_spec.2 (bd_slacks_3 T).choose_spec.1 tk (jp_cons pc_P (jx_var (i := 4) rfl (vis_of rfl)) (jp_cons pc_P (jx_var (i := 7) rfl (vis_of rfl)) (jp_cons pc_P jx_non jp_nil))) co_nil)))) (fun _ _ _ _ _ hz hf => (jb_one (js_set (k := 9) sc_law_refused_rows.nd rfl (loc_of rfl) (jx_xf (c := 2) (k := 0) rfl hz hf (i := 11) rfl (vis_of rfl) (T.xf_BadRow) (T.xn_BadRow_place) rfl (by show (["place"] : List Str).Nodup; decide))))))
  (jb_cons (js_set (k := 10) sc_law_refused_rows.nd rfl (loc_of rfl) jx_non)
  (jb_cons (js_try_as (i := 11) rfl rfl rfl rfl sc_law_refused_rows.nd rfl rfl ⟨rfl, by decide, .inl T.g_BadNumber⟩ (takes_of rfl rfl rfl rfl) (T.cat_BadNumber) (fun _ _ _ tk hp => (jb_one (js_expr (jx_call (ok_ring_below T) (hr.mono (by decide)) rfl T.g_ring_below (T.u_ring_below).kp (bd_ring_below_1 T).choose_spec.2 (bd_ring_below_1 T).choose_spec.1 tk (jp_cons pc_P (jx_ix rfl (jx_lst (jo_cons jx_non (jo_cons jx_int (jo_cons (jx_var (i := 2) rfl (vis_of rfl)) jo_nil)))) (jx_call (ok_law_take T) (hr.mono (by decide)) rfl T.g__law_take (T.u_law_take).kp (bd_law_take_2 T).choose_spec.2 (bd_law_take_2 T).choose_spec.1 tk (jp_cons pc_P (jx_var (i := 0) rfl (vis_of rfl)) (jp_cons pc_P jx_int jp_nil)) co_nil) (by intro _ _; rfl)) jp_nil) co_nil)))) (fun _ _ _ _ _ hz hf => (jb_one (js_set (k := 10) sc_law_refused_rows.nd rfl (loc_of rfl) (jx_xf (c := 1) (k := 0) rfl hz hf (i := 11) rfl (vis_of rfl) (T.xf_BadNumber) (T.xn_BadNumber_name) rfl (by show (["name"] : List Str).Nodup; decide))))))
  (jb_one (js_ret (jx_and (jx_call (ok_law_int T) (hr.mono (by decide)) rfl T.g__law_int (T.u_law_int).kp (bd_law_int_1 T).choose_spec.2 (bd_law_int_1 T).choose_spec.1 (takes_of rfl rfl rfl rfl) (jp_cons pc_P (jx_var (i := 8) rfl (vis_of rfl)) jp_nil) co_nil) (jx_and (jx_cmp (op_eqD hu) v2_eqD (jx_var (i := 8) rfl (vis_of rfl)) (jx_var (i := 6) rfl (vis_of rfl)) (nomark _)) (jx_and (jx_call (ok_law_int T) (hr.mono (by decide)) rfl T.g__law_int (T.u_law_int).kp (bd_law_int_1 T).choose_spec.2 (bd_law_int_1 T).choose_spec.1 (takes_of rfl rfl rfl rfl) (jp_cons pc_P (jx_var (i := 9) rfl (vis_of rfl)) jp_nil) co_nil) (jx_and (jx_cmp (op_eqD hu) v2_eqD (jx_var (i := 9) rfl (vis_of rfl)) (jx_var (i := 6) rfl (vis_of rfl)) (nomark _)) (jx_one (jx_cmp (op_eqD hu) v2_eqD (jx_var (i := 10) rfl (vis_of rfl)) jx_str (nomark _))))))))))))))))))))))
theorem sc_law_long : FnScope ["draws", "size", "mark", "scale", "heights", "arcs", "node", "end", "even", "bent"] ["draws"] (defScope (top 43)) := ⟨rfl, rfl, rfl, by decide +kernel, rfl, by decide +kernel, by decide +kernel⟩
theorem bd0_law_long (T : Tx P w K mg fd) : Binds K (fd 32) ["draws"] [] := (T.u_law_long).bindsN fun _ _ _ _ _ _ us hl => match us, hl with | [_], _ => rfl
theorem bd_law_long_1 (T : Tx P w K mg fd) : ∃ ds, Vals [] ds ∧ Binds K (fd 32) ["draws"] ds := ⟨[], .nil, bd0_law_long T⟩
theorem ok_law_long (T : Tx P w K mg fd) : FnOk P w K mg base (L2.CX P w) 7 (He.fAd K ("_law_long", none)) (fd 32) ["draws"] (spM (gt K) 1 f_law_long) :=
  fn_ok (T.u_law_long) sc_law_long fun cdv A outer s H E hr => have hu := TL.hu_of hr
  (jb_cons (js_set (k := 1) sc_law_long.nd rfl (loc_of rfl) (jx_bin op_plus v2_plus jx_int (jx_call (ok_law_take T) (hr.mono (by decide)) rfl T.g__law_take (T.u_law_take).kp (bd_law_take_2 T).choose_spec.2 (bd_law_take_2 T).choose_spec.1 (takes_of rfl rfl rfl rfl) (jp_cons pc_P (jx_var (i := 0) rfl (vis_of rfl)) (jp_cons pc_P jx_int jp_nil)) co_nil)))
  (jb_cons (js_set (k := 2) sc_law_long.nd rfl (loc_of rfl) (jx_bin op_plus v2_plus jx_int (jx_call (ok_law_take T) (hr.mono (by decide)) rfl T.g__law_take (T.u_law_take).kp (bd_law_take_2 T).choose_spec.2 (bd_law_take_2 T).choose_spec.1 (takes_of rfl rfl rfl rfl) (jp_cons pc_P (jx_var (i := 0) rfl (vis_of rfl)) (jp_cons pc_P jx_int jp_nil)) co_nil)))
  (jb_cons (js_set (k := 3) sc_law_long.nd rfl (loc_of rfl) (jx_ix rfl (jx_lst (jo_cons jx_int (jo_cons (jx_bin op_pow v2_pow jx_int jx_int) (jo_cons jx_int jo_nil)))) (jx_call (ok_law_take T) (hr.mono (by decide)) rfl T.g__law_take (T.u_law_take).kp (bd_law_take_2 T).choose_spec.2 (bd_law_take_2 T).choose_spec.1 (takes_of rfl rfl rfl rfl) (jp_cons pc_P (jx_var (i := 0) rfl (vis_of rfl)) (jp_cons pc_P jx_int jp_nil)) co_nil) (by intro _ _; rfl)))
  (jb_cons (js_setLc (k := 4) rfl sc_law_long.nd rfl rfl (sw_true rfl rfl rfl rfl) (by exact (ji_rng1 rfl T.f_range (jl_cons (jx_var (i := 1) rfl (vis_of rfl)) jl_nil))) (blkOk_by (own := [("node", 6)]) (by rfl)) (fun _ _ _ _ _ => (jg_name (k := 6) sc_law_long.nd rfl (loc_of rfl))) (fun _ _ _ _ _ => jts_nil) (fun _ _ _ _ _ => (jx_bin op_times v2_times (jx_var (i := 3) rfl (vis_of rfl)) (jx_bin op_sub v2_sub (jx_bin op_mod v2_mod (jx_callTy call_int1 vc_int rfl T.f_int bt_int (jl_cons (jx_bin op_plus v2_plus (jx_bin op_times v2_times (jx_var (i := 6) rfl (vis_of rfl)) (jx_var (i := 2) rfl (vis_of rfl))) (jx_bin op_times v2_times (jx_var (i := 6) rfl (vis_of rfl)) (jx_var (i := 6) rfl (vis_of rfl)))) jl_nil)) jx_int) jx_int))))
  (jb_cons (js_set (k := 5) sc_law_long.nd rfl (loc_of rfl) (jx_lst jo_nil))
  (jb_cons (js_for (passes_of rfl) rfl (ji_rng1 rfl T.f_range (jl_cons (jx_bin op_sub v2_sub (jx_var (i := 1) rfl (vis_of rfl)) jx_int) jl_nil)) (jg_name (k := 6) sc_law_long.nd rfl (loc_of rfl)) (jb_one (js_app rfl (jx_var (i := 5) rfl (vis_of rfl)) (jx_tup (ja_cons (jx_var (i := 6) rfl (vis_of rfl)) (ja_cons (jx_bin op_plus v2_plus (jx_var (i := 6) rfl (vis_of rfl)) jx_int) (ja_cons (jx_bin op_sub v2_sub (jx_ix rfl (jx_var (i := 4) rfl (vis_of rfl)) (jx_bin op_plus v2_plus (jx_var (i := 6) rfl (vis_of rfl)) jx_int) (by intro _ _; rfl)) (jx_ix rfl (jx_var (i := 4) rfl (vis_of rfl)) (jx_var (i := 6) rfl (vis_of rfl)) (by intro _ _; rfl))) ja_nil)))))))
  (jb_cons (js_set (k := 7) sc_law_long.nd rfl (loc_of rfl) (jx_bin op_sub v2_sub (jx_ix rfl (jx_var (i := 4) rfl (vis_of rfl)) jx_int (by intro _ _; rfl)) (jx_ix rfl (jx_var (i := 4) rfl (vis_of rfl)) (jx_bin op_sub v2_sub (jx_var (i := 1) rfl (vis_of rfl)) jx_int) (by intro _ _; rfl))))
  (jb_cons (js_set (k := 8) sc_law_long.nd rfl (loc_of rfl) (jx_bin op_plus v2_plus (jx_var (i := 5) rfl (vis_of rfl)) (jx_lst (jo_cons (jx_tup (ja_cons (jx_bin op_sub v2_sub (jx_var (i := 1) rfl (vis_of rfl)) jx_int) (ja_cons jx_int (ja_cons (jx_var (i := 7) rfl (vis_of rfl)) ja_nil)))) jo_nil))))
  (jb_cons (js_set (k := 9) sc_law_long.nd rfl (loc_of rfl) (jx_bin op_plus v2_plus (jx_var (i := 5) rfl (vis_of rfl)) (jx_lst (jo_cons (jx_tup (ja_cons (jx_bin op_sub v2_sub (jx_var (i := 1) rfl (vis_of rfl)) jx_int) (ja_cons jx_int (ja_cons (jx_bin op_sub v2_sub (jx_var (i := 7) rfl (vis_of rfl)) jx_int) ja_nil)))) jo_nil))))
  (jb_cons (js_if (jt_cmp (op_eqD hu) v2_eqD (jx_call (ok_law_take T) (hr.mono (by decide)) rfl T.g__law_take (T.u_law_take).kp (bd_law_take_2 T).choose_spec.2 (bd_law_take_2 T).choose_spec.1 (takes_of rfl rfl rfl rfl) (jp_cons pc_P (jx_var (i := 0) rfl (vis_of rfl)) (jp_cons pc_P jx_int jp_nil)) co_nil) jx_int (nomark _)) (jb_cons (js_rev rfl (jx_var (i := 8) rfl (vis_of rfl)))
  (jb_one (js_rev rfl (jx_var (i := 9) rfl (vis_of rfl))))) jb_nil)
  (jb_one (js_ret (jx_and (jx_call (ok_law_has_row T) (hr.mono (by decide)) rfl T.g__law_has_row (T.u_law_has_row).kp (bd_law_has_row_2 T).choose_spec.2 (bd_law_has_row_2 T).choose_spec.1 (takes_of rfl rfl rfl rfl) (jp_cons pc_P (jx_var (i := 1) rfl (vis_of rfl)) (jp_cons pc_P (jx_var (i := 8) rfl (vis_of rfl)) jp_nil)) co_nil) (jx_one (jx_call (ok_law_has_ring T) (hr.mono (by decide)) rfl T.g__law_has_ring (T.u_law_has_ring).kp (bd_law_has_ring_3 T).choose_spec.2 (bd_law_has_ring_3 T).choose_spec.1 (takes_of rfl rfl rfl rfl) (jp_cons pc_P (jx_var (i := 1) rfl (vis_of rfl)) (jp_cons pc_P (jx_var (i := 9) rfl (vis_of rfl)) (jp_cons pc_P (jx_var (i := 4) rfl (vis_of rfl)) jp_nil))) co_nil)))))))))))))))
theorem sc_law_any_ring : FnScope ["table", "a"] ["table"] (defScope (top 34)) := ⟨rfl, rfl, rfl, by decide +kernel, rfl, by decide +kernel, by decide +kernel⟩
theorem bd0_law_any_ring (T : Tx P w K mg fd) : Binds K (fd 33) ["table"] [] := (T.u_law_any_ring).bindsN fun _ _ _ _ _ _ us hl => match us, hl with | [_], _ => rfl
theorem bd_law_any_ring_1 (T : Tx P w K mg fd) : ∃ ds, Vals [] ds ∧ Binds K (fd 33) ["table"] ds := ⟨[], .nil, bd0_law_any_ring T⟩
theorem ok_law_any_ring (T : Tx P w K mg fd) : FnOk P w K mg base (L2.CX P w) 1 (He.fAd K ("_law_any_ring", none)) (fd 33) ["table"] (spM (gt K) 1 f_law_any_ring) :=
  fn_ok (T.u_law_any_ring) sc_law_any_ring fun cdv A outer s H E hr => have hu := TL.hu_of hr
  (jb_cons (js_for (passes_of rfl) rfl (ji_rng1 rfl T.f_range (jl_cons (jx_callB call_len vc_len rfl T.f_len bt_len (jl_cons (jx_var (i := 0) rfl (vis_of rfl)) jl_nil)) jl_nil)) (jg_name (k := 1) sc_law_any_ring.nd rfl (loc_of rfl)) (jb_one (js_if (jt_cmp op_lt v2_lt (jx_ix rfl (jx_ix rfl (jx_var (i := 0) rfl (vis_of rfl)) (jx_var (i := 1) rfl (vis_of rfl)) (by intro _ _; rfl)) (jx_var (i := 1) rfl (vis_of rfl)) (by intro _ _; rfl)) jx_int (nomark _)) (jb_one (js_ret jx_bl)) jb_nil)))
  (jb_one (js_ret jx_bl)))
theorem sc_law : FnScope ["script", "draws", "long", "size", "arcs", "heights", "many", "free", "row"] ["script"] (defScope (top 46)) := ⟨rfl, rfl, rfl, by decide +kernel, rfl, by decide +kernel, by decide +kernel⟩
theorem ok_law (T : Tx P w K mg fd) : FnOk P w K mg base (L2.CX P w) 8 (He.fAd K ("law", none)) (fd 34) ["script"] (spM (gt K) 1 f_law) :=
  fn_ok (T.u_law) sc_law fun cdv A outer s H E hr => have hu := TL.hu_of hr
  (jb_draws (k := 1) sc_law.nd rfl (loc_of rfl) (jx_call (ok_law_draws T) (hr.mono (by decide)) rfl T.g__law_draws (T.u_law_draws).kp (bd_law_draws_1 T).choose_spec.2 (bd_law_draws_1 T).choose_spec.1 (takes_of rfl rfl rfl rfl) (jp_cons pc_P (jx_var (i := 0) rfl (vis_of rfl)) jp_nil) co_nil)
  (jb_cons (js_set (k := 2) sc_law.nd rfl (loc_of rfl) (jx_cmp (op_eqD hu) v2_eqD (jx_call (ok_law_take T) (hr.mono (by decide)) rfl T.g__law_take (T.u_law_take).kp (bd_law_take_2 T).choose_spec.2 (bd_law_take_2 T).choose_spec.1 (takes_of rfl rfl rfl rfl) (jp_cons pc_P (jx_var (i := 1) rfl (vis_of rfl)) (jp_cons pc_P jx_int jp_nil)) co_nil) jx_int (nomark _)))
  (jb_cons (js_asg (jx_call (ok_law_net T) (hr.mono (by decide)) rfl T.g__law_net (T.u_law_net).kp (bd_law_net_2 T).choose_spec.2 (bd_law_net_2 T).choose_spec.1 (takes_of rfl rfl rfl rfl) (jp_cons pc_P (jx_var (i := 1) rfl (vis_of rfl)) (jp_cons pc_P jx_bl jp_nil)) co_nil) (jg_tup rfl rfl (jgs_cons (jg_name (k := 3) sc_law.nd rfl (loc_of rfl)) (jgs_cons (jg_name (k := 4) sc_law.nd rfl (loc_of rfl)) (jgs_cons (jg_name (k := 5) sc_law.nd rfl (loc_of rfl)) jgs_nil)))))
  (jb_cons (js_if (jt_w (jw_or (jt_not (jt_val (jx_call (ok_law_kept T) (hr.mono (by decide)) rfl T.g__law_kept (T.u_law_kept).kp (bd_law_kept_4 T).choose_spec.2 (bd_law_kept_4 T).choose_spec.1 (takes_of rfl rfl rfl rfl) (jp_cons pc_P (jx_var (i := 1) rfl (vis_of rfl)) (jp_cons pc_P (jx_var (i := 3) rfl (vis_of rfl)) (jp_cons pc_P (jx_var (i := 4) rfl (vis_of rfl)) (jp_cons pc_P (jx_var (i := 5) rfl (vis_of rfl)) jp_nil)))) co_nil))) (jw_or1 (jt_not (jt_val (jx_call (ok_law_closed T) (hr.mono (by decide)) rfl T.g__law_closed (T.u_law_closed).kp (bd_law_closed_4 T).choose_spec.2 (bd_law_closed_4 T).choose_spec.1 (takes_of rfl rfl rfl rfl) (jp_cons pc_P (jx_var (i := 1) rfl (vis_of rfl)) (jp_cons pc_P (jx_var (i := 3) rfl (vis_of rfl)) (jp_cons pc_P (jx_var (i := 4) rfl (vis_of rfl)) (jp_cons pc_P (jx_var (i := 5) rfl (vis_of rfl)) jp_nil)))) co_nil)))))) (jb_one (js_ret jx_bl)) jb_nil)
  (jb_cons (js_if (jt_w (jw_or (jt_not (jt_val (jx_call (ok_law_refused T) (hr.mono (by decide)) rfl T.g__law_refused (T.u_law_refused).kp (bd_law_refused_3 T).choose_spec.2 (bd_law_refused_3 T).choose_spec.1 (takes_of rfl rfl rfl rfl) (jp_cons pc_P (jx_var (i := 1) rfl (vis_of rfl)) (jp_cons pc_P (jx_var (i := 3) rfl (vis_of rfl)) (jp_cons pc_P (jx_var (i := 4) rfl (vis_of rfl)) jp_nil))) co_nil))) (jw_or1 (jt_not (jt_val (jx_call (ok_law_refused_rows T) (hr.mono (by decide)) rfl T.g__law_refused_rows (T.u_law_refused_rows).kp (bd_law_refused_rows_4 T).choose_spec.2 (bd_law_refused_rows_4 T).choose_spec.1 (takes_of rfl rfl rfl rfl) (jp_cons pc_P (jx_var (i := 1) rfl (vis_of rfl)) (jp_cons pc_P (jx_var (i := 3) rfl (vis_of rfl)) (jp_cons pc_P (jx_var (i := 4) rfl (vis_of rfl)) (jp_cons pc_P (jx_var (i := 5) rfl (vis_of rfl)) jp_nil)))) co_nil)))))) (jb_one (js_ret jx_bl)) jb_nil)
  (jb_cons (js_if (jt_w (jw_and (jt_val (jx_var (i := 2) rfl (vis_of rfl))) (jw_and1 (jt_not (jt_val (jx_call (ok_law_long T) (hr.mono (by decide)) rfl T.g__law_long (T.u_law_long).kp (bd_law_long_1 T).choose_spec.2 (bd_law_long_1 T).choose_spec.1 (takes_of rfl rfl rfl rfl) (jp_cons pc_P (jx_var (i := 1) rfl (vis_of rfl)) jp_nil) co_nil)))))) (jb_one (js_ret jx_bl)) jb_nil)
  (jb_cons (js_asg (jx_call (ok_law_net T) (hr.mono (by decide)) rfl T.g__law_net (T.u_law_net).kp (bd_law_net_2 T).choose_spec.2 (bd_law_net_2 T).choose_spec.1 (takes_of rfl rfl rfl rfl) (jp_cons pc_P (jx_var (i := 1) rfl (vis_of rfl)) (jp_cons pc_P jx_bl jp_nil)) co_nil) (jg_tup rfl rfl (jgs_cons (jg_name (k := 6) sc_law.nd rfl (loc_of rfl)) (jgs_cons (jg_name (k := 7) sc_law.nd rfl (loc_of rfl)) (jgs_cons (jg_name (k := 8) sc_law.nd rfl (loc_of rfl)) jgs_nil)))))
  (jb_cons (js_if (jt_val (jx_call (ok_law_any_ring T) (hr.mono (by decide)) rfl T.g__law_any_ring (T.u_law_any_ring).kp (bd_law_any_ring_1 T).choose_spec.2 (bd_law_any_ring_1 T).choose_spec.1 (takes_of rfl rfl rfl rfl) (jp_cons pc_P (jx_call (ok_law_dists T) (hr.mono (by decide)) rfl T.g__law_dists (T.u_law_dists).kp (bd_law_dists_2 T).choose_spec.2 (bd_law_dists_2 T).choose_spec.1 (takes_of rfl rfl rfl rfl) (jp_cons pc_P (jx_var (i := 6) rfl (vis_of rfl)) (jp_cons pc_P (jx_var (i := 7) rfl (vis_of rfl)) jp_nil)) co_nil) jp_nil) co_nil)) (jb_one (js_ret (jx_call (ok_law_has_ring T) (hr.mono (by decide)) rfl T.g__law_has_ring (T.u_law_has_ring).kp (bd_law_has_ring_3 T).choose_spec.2 (bd_law_has_ring_3 T).choose_spec.1 (takes_of rfl rfl rfl rfl) (jp_cons pc_P (jx_var (i := 6) rfl (vis_of rfl)) (jp_cons pc_P (jx_var (i := 7) rfl (vis_of rfl)) (jp_cons pc_P (jx_var (i := 8) rfl (vis_of rfl)) jp_nil))) co_nil))) jb_nil)
  (jb_one (js_ret (jx_call (ok_law_has_row T) (hr.mono (by decide)) rfl T.g__law_has_row (T.u_law_has_row).kp (bd_law_has_row_2 T).choose_spec.2 (bd_law_has_row_2 T).choose_spec.1 (takes_of rfl rfl rfl rfl) (jp_cons pc_P (jx_var (i := 6) rfl (vis_of rfl)) (jp_cons pc_P (jx_var (i := 7) rfl (vis_of rfl)) jp_nil)) co_nil)))))))))))
end
end K07
set_option Elab.async false
set_option linter.all false
set_option maxRecDepth 100000
set_option maxHeartbeats 0
namespace K07
open PySem PySem.Spec PyProof.Rows L2 TL
def d0 : He.DefD := ⟨("_law_draws", none), "_law_draws", "_law_draws", defArgs (top 29), defBody (top 29), defScope (top 29), [], []⟩
def d1 : He.DefD := ⟨("_law_take", none), "_law_take", "_law_take", defArgs (top 30), defBody (top 30), defScope (top 30), [], []⟩
def d2 : He.DefD := ⟨("_law_net", none), "_law_net", "_law_net", defArgs (top 35), defBody (top 35), defScope (top 35), [], []⟩
def d3 : He.DefD := ⟨("is_whole", none), "is_whole", "is_whole", defArgs (top 8), defBody (top 8), defScope (top 8), [], []⟩
def d4 : He.DefD := ⟨("is_triple", none), "is_triple", "is_triple", defArgs (top 11), defBody (top 11), defScope (top 11), [], []⟩
def d5 : He.DefD := ⟨("arc_rows", none), "arc_rows", "arc_rows", defArgs (top 12), defBody (top 12), defScope (top 12), [], []⟩
def d6 : He.DefD := ⟨("Net", some "__init__"), "__init__", "Net.__init__", defArgs (inClass (top 13) 0), defBody (inClass (top 13) 0), defScope (inClass (top 13) 0), [], []⟩
def d7 : He.DefD := ⟨("_law_int", none), "_law_int", "_law_int", defArgs (top 31), defBody (top 31), defScope (top 31), [], []⟩
def d8 : He.DefD := ⟨("_law_ints", none), "_law_ints", "_law_ints", defArgs (top 32), defBody (top 32), defScope (top 32), [], []⟩
def d9 : He.DefD := ⟨("Net", some "__len__"), "__len__", "Net.__len__", defArgs (inClass (top 13) 2), defBody (inClass (top 13) 2), defScope (inClass (top 13) 2), [], []⟩
def d10 : He.DefD := ⟨("_law_first_broken", none), "_law_first_broken", "_law_first_broken", defArgs (top 36), defBody (top 36), defScope (top 36), [], []⟩
def d11 : He.DefD := ⟨("given_net", none), "given_net", "given_net", defArgs (top 14), defBody (top 14), defScope (top 14), [.str "net"], []⟩
def d12 : He.DefD := ⟨("whole_row", none), "whole_row", "whole_row", defArgs (top 9), defBody (top 9), defScope (top 9), [.non], []⟩
def d13 : He.DefD := ⟨("broken_arc", none), "broken_arc", "broken_arc", defArgs (top 15), defBody (top 15), defScope (top 15), [], []⟩
def d14 : He.DefD := ⟨("keeps", none), "keeps", "keeps", defArgs (top 16), defBody (top 16), defScope (top 16), [], []⟩
def d15 : He.DefD := ⟨("_law_looks", none), "_law_looks", "_law_looks", defArgs (top 38), defBody (top 38), defScope (top 38), [], []⟩
def d16 : He.DefD := ⟨("_law_kept", none), "_law_kept", "_law_kept", defArgs (top 41), defBody (top 41), defScope (top 41), [], []⟩
def d17 : He.DefD := ⟨("_law_dists", none), "_law_dists", "_law_dists", defArgs (top 33), defBody (top 33), defScope (top 33), [], []⟩
def d18 : He.DefD := ⟨("shortened", none), "shortened", "shortened", defArgs (top 18), defBody (top 18), defScope (top 18), [], []⟩
def d19 : He.DefD := ⟨("link_ring", none), "link_ring", "link_ring", defArgs (top 19), defBody (top 19), defScope (top 19), [], []⟩
def d20 : He.DefD := ⟨("ring_below", none), "ring_below", "ring_below", defArgs (top 20), defBody (top 20), defScope (top 20), [], []⟩
def d21 : He.DefD := ⟨("ringless", none), "ringless", "ringless", defArgs (top 25), defBody (top 25), defScope (top 25), [], []⟩
def d22 : He.DefD := ⟨("some_row", none), "some_row", "some_row", defArgs (top 27), defBody (top 27), defScope (top 27), [], []⟩
def d23 : He.DefD := ⟨("_law_has_row", none), "_law_has_row", "_law_has_row", defArgs (top 39), defBody (top 39), defScope (top 39), [], []⟩
def d24 : He.DefD := ⟨("_law_ring_good", none), "_law_ring_good", "_law_ring_good", defArgs (top 37), defBody (top 37), defScope (top 37), [], []⟩
def d25 : He.DefD := ⟨("no_arc_at", none), "no_arc_at", "no_arc_at", defArgs (top 21), defBody (top 21), defScope (top 21), [], []⟩
def d26 : He.DefD := ⟨("arc_numbers", none), "arc_numbers", "arc_numbers", defArgs (top 22), defBody (top 22), defScope (top 22), [], []⟩
def d27 : He.DefD := ⟨("slacks", none), "slacks", "slacks", defArgs (top 23), defBody (top 23), defScope (top 23), [], []⟩
def d28 : He.DefD := ⟨("_law_has_ring", none), "_law_has_ring", "_law_has_ring", defArgs (top 40), defBody (top 40), defScope (top 40), [], []⟩
def d29 : He.DefD := ⟨("_law_closed", none), "_law_closed", "_law_closed", defArgs (top 42), defBody (top 42), defScope (top 42), [], []⟩
def d30 : He.DefD := ⟨("_law_refused", none), "_law_refused", "_law_refused", defArgs (top 44), defBody (top 44), defScope (top 44), [], []⟩
def d31 : He.DefD := ⟨("_law_refused_rows", none), "_law_refused_rows", "_law_refused_rows", defArgs (top 45), defBody (top 45), defScope (top 45), [], []⟩
def d32 : He.DefD := ⟨("_law_long", none), "_law_long", "_law_long", defArgs (top 43), defBody (top 43), defScope (top 43), [], []⟩
def d33 : He.DefD := ⟨("_law_any_ring", none), "_law_any_ring", "_law_any_ring", defArgs (top 34), defBody (top 34), defScope (top 34), [], []⟩
def d34 : He.DefD := ⟨("law", none), "law", "law", defArgs (top 46), defBody (top 46), defScope (top 46), [], []⟩
def d35 : He.DefD := ⟨("Net", some "__iter__"), "__iter__", "Net.__iter__", defArgs (inClass (top 13) 1), defBody (inClass (top 13) 1), defScope (inClass (top 13) 1), [], []⟩
def xd0 : HX.XD := ⟨"BadNumber", "BadNumber.__init__", defArgs (inClass (top 2) 0), defBody (inClass (top 2) 0), defScope (inClass (top 2) 0)⟩
def xd1 : HX.XD := ⟨"BadRow", "BadRow.__init__", defArgs (inClass (top 3) 0), defBody (inClass (top 3) 0), defScope (inClass (top 3) 0)⟩
def xd2 : HX.XD := ⟨"BadNet", "BadNet.__init__", defArgs (inClass (top 4) 0), defBody (inClass (top 4) 0), defScope (inClass (top 4) 0)⟩
def xd3 : HX.XD := ⟨"BadMoves", "BadMoves.__init__", defArgs (inClass (top 5) 0), defBody (inClass (top 5) 0), defScope (inClass (top 5) 0)⟩
def xd4 : HX.XD := ⟨"HasRing", "HasRing.__init__", defArgs (inClass (top 6) 0), defBody (inClass (top 6) 0), defScope (inClass (top 6) 0)⟩
def fn : List He.DefD := [d0, d1, d2, d3, d4, d5, d6, d7, d8, d9, d10, d11, d12, d13, d14, d15, d16, d17, d18, d19, d20, d21, d22, d23, d24, d25, d26, d27, d28, d29, d30, d31, d32, d33, d34, d35]
def xd : List HX.XD := [xd0, xd1, xd2, xd3, xd4]
def fb : List HX.Fb := [.fa (.free "ValueError"),
  .fa (.free "abs"),
  .fa (.free "bool"),
  .fa (.free "enumerate"),
  .fa (.free "int"),
  .fa (.free "isinstance"),
  .fa (.free "iter"),
  .fa (.free "len"),
  .fa (.free "list"),
  .fa (.free "min"),
  .fa (.free "range"),
  .fa (.free "sum"),
  .fa (.free "tuple"),
  .fa (.glo "_law_draws"),
  .fa (.glo "_law_take"),
  .fa (.glo "_law_net"),
  .fa (.glo "is_whole"),
  .fa (.glo "is_triple"),
  .fa (.glo "arc_rows"),
  .fa (.glo "_law_int"),
  .fa (.glo "_law_ints"),
  .fa (.glo "_law_first_broken"),
  .fa (.glo "given_net"),
  .fa (.glo "whole_row"),
  .fa (.glo "broken_arc"),
  .fa (.glo "keeps"),
  .fa (.glo "_law_looks"),
  .fa (.glo "_law_kept"),
  .fa (.glo "_law_dists"),
  .fa (.glo "shortened"),
  .fa (.glo "link_ring"),
  .fa (.glo "ring_below"),
  .fa (.glo "ringless"),
  .fa (.glo "some_row"),
  .fa (.glo "_law_has_row"),
  .fa (.glo "_law_ring_good"),
  .fa (.glo "no_arc_at"),
  .fa (.glo "arc_numbers"),
  .fa (.glo "slacks"),
  .fa (.glo "_law_has_ring"),
  .fa (.glo "_law_closed"),
  .fa (.glo "_law_refused"),
  .fa (.glo "_law_refused_rows"),
  .fa (.glo "_law_long"),
  .fa (.glo "_law_any_ring"),
  .fa (.glo "law"),
  .lst "Net",
  .fa (.glo "Net"),
  .fa (.mkr "Net"),
  .fa (.cls "Net"),
  .ins "Net",
  .fa (.noat "Net" "size"),
  .fa (.noat "Net" "arcs"),
  .fa (.meth "Net" "__len__"),
  .one (.ty "NoneType") (.glo "Net") false,
  .one (.ty "bool") (.glo "Net") false,
  .one (.ty "int") (.glo "Net") false,
  .one (.ty "str") (.glo "Net") false,
  .one (.ty "tuple") (.glo "Net") false,
  .one (.ty "list") (.glo "Net") false,
  .one (.ty "dict") (.glo "Net") false,
  .one (.glo "Net") (.glo "Net") true,
  .fa (.glo "MorningError"),
  .fa (.glo "BadNumber"),
  .fa (.noat "BadNumber" "name"),
  .xs "BadNumber",
  .fa (.exm "MorningError" "BadNumber" false),
  .fa (.exm "BadNumber" "BadNumber" true),
  .fa (.exm "BadRow" "BadNumber" false),
  .fa (.exm "BadNet" "BadNumber" false),
  .fa (.exm "BadMoves" "BadNumber" false),
  .fa (.exm "HasRing" "BadNumber" false),
  .fa (.glo "BadRow"),
  .fa (.noat "BadRow" "place"),
  .xs "BadRow",
  .fa (.exm "MorningError" "BadRow" false),
  .fa (.exm "BadNumber" "BadRow" false),
  .fa (.exm "BadRow" "BadRow" true),
  .fa (.exm "BadNet" "BadRow" false),
  .fa (.exm "BadMoves" "BadRow" false),
  .fa (.exm "HasRing" "BadRow" false),
  .fa (.glo "BadNet"),
  .fa (.noat "BadNet" "place"),
  .xs "BadNet",
  .fa (.exm "MorningError" "BadNet" false),
  .fa (.exm "BadNumber" "BadNet" false),
  .fa (.exm "BadRow" "BadNet" false),
  .fa (.exm "BadNet" "BadNet" true),
  .fa (.exm "BadMoves" "BadNet" false),
  .fa (.exm "HasRing" "BadNet" false),
  .fa (.glo "BadMoves"),
  .fa (.noat "BadMoves" "place"),
  .fa (.glo "HasRing"),
  .fa (.noat "HasRing" "ring"),
  .xs "HasRing",
  .fa (.exm "MorningError" "HasRing" false),
  .fa (.exm "BadNumber" "HasRing" false),
  .fa (.exm "BadRow" "HasRing" false),
  .fa (.exm "BadNet" "HasRing" false),
  .fa (.exm "BadMoves" "HasRing" false),
  .fa (.exm "HasRing" "HasRing" true),
  .any (.glo "HasRing") [.glo "BadNet", .glo "BadRow", .glo "BadNumber"] false,
  .one (.glo "HasRing") (.glo "MorningError") true,
  .one (.glo "HasRing") (.ty "ValueError") true]
abbrev R : PySem.W.OpenRow := PySem.W.OpenLaw.row PySem.Challenge.rw_calmmornings_k07_row_or_ring
abbrev hk : PySem.W.Hook := HX.hookX 5 R.prog.main.file fb fn xd
def ob (s : PySem.W.SharedT) : HX.AlX := HX.obsXG 5 R.prog.main.file fb fn xd (HandSHeadRun.getT s)
theorem ob_eq (s : PySem.W.SharedT) : ob s = hk.obs s.abs := HX.obsXG_eq (HandSHeadRun.getT_eq s)
def loose : List PySem.Str := [Str.ofString "MorningError", Str.ofString "BadNumber", Str.ofString "BadRow", Str.ofString "BadNet", Str.ofString "BadMoves", Str.ofString "HasRing", Str.ofString "is_whole", Str.ofString "whole_row", Str.ofString "is_triple", Str.ofString "arc_rows", Str.ofString "Net", Str.ofString "given_net", Str.ofString "broken_arc", Str.ofString "keeps", Str.ofString "shortened", Str.ofString "link_ring", Str.ofString "ring_below", Str.ofString "no_arc_at", Str.ofString "arc_numbers", Str.ofString "slacks", Str.ofString "ringless", Str.ofString "some_row", Str.ofString "_law_draws", Str.ofString "_law_take", Str.ofString "_law_int", Str.ofString "_law_ints", Str.ofString "_law_dists", Str.ofString "_law_any_ring", Str.ofString "_law_net", Str.ofString "_law_first_broken", Str.ofString "_law_ring_good", Str.ofString "_law_looks", Str.ofString "_law_has_row", Str.ofString "_law_has_ring", Str.ofString "_law_kept", Str.ofString "_law_closed", Str.ofString "_law_long", Str.ofString "_law_refused", Str.ofString "_law_refused_rows"]
theorem run (w : World) : HandSHeadRun.RunEq R (PySem.W.view R.prog [46]) hk ob 4000 loose w := by
  intro os
  kernel_rfl
theorem tx {w : World} {K : PySem.W.Frag} {h : Heap} {mg : Str → Option Value} (X : K.In h) (G : h.Ns mainGlobals mg) (c : HX.SaysX R.prog.main.file fb fn xd K) : ∃ fd : Nat → FuncData, Tx R.prog w K mg fd := by
  obtain ⟨f0, F0⟩ := c.def_ 0 (d := d0) rfl
  obtain ⟨f1, F1⟩ := c.def_ 1 (d := d1) rfl
  obtain ⟨f2, F2⟩ := c.def_ 2 (d := d2) rfl
  obtain ⟨f3, F3⟩ := c.def_ 3 (d := d3) rfl
  obtain ⟨f4, F4⟩ := c.def_ 4 (d := d4) rfl
  obtain ⟨f5, F5⟩ := c.def_ 5 (d := d5) rfl
  obtain ⟨f6, F6⟩ := c.def_ 6 (d := d6) rfl
  obtain ⟨f7, F7⟩ := c.def_ 7 (d := d7) rfl
  obtain ⟨f8, F8⟩ := c.def_ 8 (d := d8) rfl
  obtain ⟨f9, F9⟩ := c.def_ 9 (d := d9) rfl
  obtain ⟨f10, F10⟩ := c.def_ 10 (d := d10) rfl
  obtain ⟨f11, F11⟩ := c.def_ 11 (d := d11) rfl
  obtain ⟨f12, F12⟩ := c.def_ 12 (d := d12) rfl
  obtain ⟨f13, F13⟩ := c.def_ 13 (d := d13) rfl
  obtain ⟨f14, F14⟩ := c.def_ 14 (d := d14) rfl
  obtain ⟨f15, F15⟩ := c.def_ 15 (d := d15) rfl
  obtain ⟨f16, F16⟩ := c.def_ 16 (d := d16) rfl
  obtain ⟨f17, F17⟩ := c.def_ 17 (d := d17) rfl
  obtain ⟨f18, F18⟩ := c.def_ 18 (d := d18) rfl
  obtain ⟨f19, F19⟩ := c.def_ 19 (d := d19) rfl
  obtain ⟨f20, F20⟩ := c.def_ 20 (d := d20) rfl
  obtain ⟨f21, F21⟩ := c.def_ 21 (d := d21) rfl
  obtain ⟨f22, F22⟩ := c.def_ 22 (d := d22) rfl
  obtain ⟨f23, F23⟩ := c.def_ 23 (d := d23) rfl
  obtain ⟨f24, F24⟩ := c.def_ 24 (d := d24) rfl
  obtain ⟨f25, F25⟩ := c.def_ 25 (d := d25) rfl
  obtain ⟨f26, F26⟩ := c.def_ 26 (d := d26) rfl
  obtain ⟨f27, F27⟩ := c.def_ 27 (d := d27) rfl
  obtain ⟨f28, F28⟩ := c.def_ 28 (d := d28) rfl
  obtain ⟨f29, F29⟩ := c.def_ 29 (d := d29) rfl
  obtain ⟨f30, F30⟩ := c.def_ 30 (d := d30) rfl
  obtain ⟨f31, F31⟩ := c.def_ 31 (d := d31) rfl
  obtain ⟨f32, F32⟩ := c.def_ 32 (d := d32) rfl
  obtain ⟨f33, F33⟩ := c.def_ 33 (d := d33) rfl
  obtain ⟨f34, F34⟩ := c.def_ 34 (d := d34) rfl
  obtain ⟨f35, F35⟩ := c.def_ 35 (d := d35) rfl
  refine ⟨fun n => [f0, f1, f2, f3, f4, f5, f6, f7, f8, f9, f10, f11, f12, f13, f14, f15, f16, f17, f18, f19, f20, f21, f22, f23, f24, f25, f26, f27, f28, f29, f30, f31, f32, f33, f34, f35].getD n default, ?_⟩
  exact {
    f_ValueError := He.free_ok X G (c.fact 0 (f := .fa (.free "ValueError")) rfl),
    f_abs := He.free_ok X G (c.fact 1 (f := .fa (.free "abs")) rfl),
    f_bool := He.free_ok X G (c.fact 2 (f := .fa (.free "bool")) rfl),
    f_enumerate := He.free_ok X G (c.fact 3 (f := .fa (.free "enumerate")) rfl),
    f_int := He.free_ok X G (c.fact 4 (f := .fa (.free "int")) rfl),
    f_isinstance := He.free_ok X G (c.fact 5 (f := .fa (.free "isinstance")) rfl),
    f_iter := He.free_ok X G (c.fact 6 (f := .fa (.free "iter")) rfl),
    f_len := He.free_ok X G (c.fact 7 (f := .fa (.free "len")) rfl),
    f_list := He.free_ok X G (c.fact 8 (f := .fa (.free "list")) rfl),
    f_min := He.free_ok X G (c.fact 9 (f := .fa (.free "min")) rfl),
    f_range := He.free_ok X G (c.fact 10 (f := .fa (.free "range")) rfl),
    f_sum := He.free_ok X G (c.fact 11 (f := .fa (.free "sum")) rfl),
    f_tuple := He.free_ok X G (c.fact 12 (f := .fa (.free "tuple")) rfl),
    g__law_draws := He.glo_ok X G (c.fact 13 (f := .fa (.glo "_law_draws")) rfl),
    u_law_draws := F0,
    g__law_take := He.glo_ok X G (c.fact 14 (f := .fa (.glo "_law_take")) rfl),
    u_law_take := F1,
    g__law_net := He.glo_ok X G (c.fact 15 (f := .fa (.glo "_law_net")) rfl),
    u_law_net := F2,
    g_is_whole := He.glo_ok X G (c.fact 16 (f := .fa (.glo "is_whole")) rfl),
    u_is_whole := F3,
    g_is_triple := He.glo_ok X G (c.fact 17 (f := .fa (.glo "is_triple")) rfl),
    u_is_triple := F4,
    g_arc_rows := He.glo_ok X G (c.fact 18 (f := .fa (.glo "arc_rows")) rfl),
    u_arc_rows := F5,
    u_Net__init := F6,
    g__law_int := He.glo_ok X G (c.fact 19 (f := .fa (.glo "_law_int")) rfl),
    u_law_int := F7,
    g__law_ints := He.glo_ok X G (c.fact 20 (f := .fa (.glo "_law_ints")) rfl),
    u_law_ints := F8,
    u_Net__len := F9,
    g__law_first_broken := He.glo_ok X G (c.fact 21 (f := .fa (.glo "_law_first_broken")) rfl),
    u_law_first_broken := F10,
    g_given_net := He.glo_ok X G (c.fact 22 (f := .fa (.glo "given_net")) rfl),
    u_given_net := F11,
    g_whole_row := He.glo_ok X G (c.fact 23 (f := .fa (.glo "whole_row")) rfl),
    u_whole_row := F12,
    g_broken_arc := He.glo_ok X G (c.fact 24 (f := .fa (.glo "broken_arc")) rfl),
    u_broken_arc := F13,
    g_keeps := He.glo_ok X G (c.fact 25 (f := .fa (.glo "keeps")) rfl),
    u_keeps := F14,
    g__law_looks := He.glo_ok X G (c.fact 26 (f := .fa (.glo "_law_looks")) rfl),
    u_law_looks := F15,
    g__law_kept := He.glo_ok X G (c.fact 27 (f := .fa (.glo "_law_kept")) rfl),
    u_law_kept := F16,
    g__law_dists := He.glo_ok X G (c.fact 28 (f := .fa (.glo "_law_dists")) rfl),
    u_law_dists := F17,
    g_shortened := He.glo_ok X G (c.fact 29 (f := .fa (.glo "shortened")) rfl),
    u_shortened := F18,
    g_link_ring := He.glo_ok X G (c.fact 30 (f := .fa (.glo "link_ring")) rfl),
    u_link_ring := F19,
    g_ring_below := He.glo_ok X G (c.fact 31 (f := .fa (.glo "ring_below")) rfl),
    u_ring_below := F20,
    g_ringless := He.glo_ok X G (c.fact 32 (f := .fa (.glo "ringless")) rfl),
    u_ringless := F21,
    g_some_row := He.glo_ok X G (c.fact 33 (f := .fa (.glo "some_row")) rfl),
    u_some_row := F22,
    g__law_has_row := He.glo_ok X G (c.fact 34 (f := .fa (.glo "_law_has_row")) rfl),
    u_law_has_row := F23,
    g__law_ring_good := He.glo_ok X G (c.fact 35 (f := .fa (.glo "_law_ring_good")) rfl),
    u_law_ring_good := F24,
    g_no_arc_at := He.glo_ok X G (c.fact 36 (f := .fa (.glo "no_arc_at")) rfl),
    u_no_arc_at := F25,
    g_arc_numbers := He.glo_ok X G (c.fact 37 (f := .fa (.glo "arc_numbers")) rfl),
    u_arc_numbers := F26,
    g_slacks := He.glo_ok X G (c.fact 38 (f := .fa (.glo "slacks")) rfl),
    u_slacks := F27,
    g__law_has_ring := He.glo_ok X G (c.fact 39 (f := .fa (.glo "_law_has_ring")) rfl),
    u_law_has_ring := F28,
    g__law_closed := He.glo_ok X G (c.fact 40 (f := .fa (.glo "_law_closed")) rfl),
    u_law_closed := F29,
    g__law_refused := He.glo_ok X G (c.fact 41 (f := .fa (.glo "_law_refused")) rfl),
    u_law_refused := F30,
    g__law_refused_rows := He.glo_ok X G (c.fact 42 (f := .fa (.glo "_law_refused_rows")) rfl),
    u_law_refused_rows := F31,
    g__law_long := He.glo_ok X G (c.fact 43 (f := .fa (.glo "_law_long")) rfl),
    u_law_long := F32,
    g__law_any_ring := He.glo_ok X G (c.fact 44 (f := .fa (.glo "_law_any_ring")) rfl),
    u_law_any_ring := F33,
    g_law := He.glo_ok X G (c.fact 45 (f := .fa (.glo "law")) rfl),
    u_law := F34,
    u_Net__iter := F35,
    lo_Net := HX.lstB_ok (c.fact 46 (f := .lst "Net") rfl),
    g_Net := He.glo_ok X G (c.fact 47 (f := .fa (.glo "Net")) rfl),
    mk_Net := He.mkr_ok (c.fact 48 (f := .fa (.mkr "Net")) rfl),
    cl_Net := He.cls_ok (c.fact 49 (f := .fa (.cls "Net")) rfl),
    in_Net := HX.insB_ok (c.fact 50 (f := .ins "Net") rfl),
    na_Net_size := He.noat_ok (c.fact 51 (f := .fa (.noat "Net" "size")) rfl),
    na_Net_arcs := He.noat_ok (c.fact 52 (f := .fa (.noat "Net" "arcs")) rfl),
    ln_Net := (He.meth_ok (c.fact 53 (f := .fa (.meth "Net" "__len__")) rfl)).1,
    lf_Net := (He.meth_ok (c.fact 53 (f := .fa (.meth "Net" "__len__")) rfl)).2,
    is_Net := fun t b e => match t, b, e with
      | .non, _, rfl => of_decide_eq_true (c.fact 54 (f := .one (.ty "NoneType") (.glo "Net") false) rfl)
      | .bl, _, rfl => of_decide_eq_true (c.fact 55 (f := .one (.ty "bool") (.glo "Net") false) rfl)
      | .int, _, rfl => of_decide_eq_true (c.fact 56 (f := .one (.ty "int") (.glo "Net") false) rfl)
      | .str, _, rfl => of_decide_eq_true (c.fact 57 (f := .one (.ty "str") (.glo "Net") false) rfl)
      | .tup, _, rfl => of_decide_eq_true (c.fact 58 (f := .one (.ty "tuple") (.glo "Net") false) rfl)
      | .lst, _, rfl => of_decide_eq_true (c.fact 59 (f := .one (.ty "list") (.glo "Net") false) rfl)
      | .dic, _, rfl => of_decide_eq_true (c.fact 60 (f := .one (.ty "dict") (.glo "Net") false) rfl)
      | .cls 0, _, rfl => of_decide_eq_true (c.fact 61 (f := .one (.glo "Net") (.glo "Net") true) rfl),
    g_MorningError := He.glo_ok X G (c.fact 62 (f := .fa (.glo "MorningError")) rfl),
    g_BadNumber := He.glo_ok X G (c.fact 63 (f := .fa (.glo "BadNumber")) rfl),
    xt_BadNumber := HX.xd_ok (d := xd0) X G (c.exc 0 (d := xd0) rfl).1 (c.exc 0 (d := xd0) rfl).2 rfl rfl ⟨_, rfl, rfl⟩ rfl rfl rfl (by decide +kernel),
    xn_BadNumber_name := He.noat_ok (c.fact 64 (f := .fa (.noat "BadNumber" "name")) rfl),
    xs_BadNumber := HX.xsB_ok (c.fact 65 (f := .xs "BadNumber") rfl),
    cat_BadNumber := fun k b e => match k, b, e with
      | 0, _, rfl => He.exm_ok (c.fact 66 (f := .fa (.exm "MorningError" "BadNumber" false)) rfl)
      | 1, _, rfl => He.exm_ok (c.fact 67 (f := .fa (.exm "BadNumber" "BadNumber" true)) rfl)
      | 2, _, rfl => He.exm_ok (c.fact 68 (f := .fa (.exm "BadRow" "BadNumber" false)) rfl)
      | 3, _, rfl => He.exm_ok (c.fact 69 (f := .fa (.exm "BadNet" "BadNumber" false)) rfl)
      | 4, _, rfl => He.exm_ok (c.fact 70 (f := .fa (.exm "BadMoves" "BadNumber" false)) rfl)
      | 5, _, rfl => He.exm_ok (c.fact 71 (f := .fa (.exm "HasRing" "BadNumber" false)) rfl),
    g_BadRow := He.glo_ok X G (c.fact 72 (f := .fa (.glo "BadRow")) rfl),
    xt_BadRow := HX.xd_ok (d := xd1) X G (c.exc 1 (d := xd1) rfl).1 (c.exc 1 (d := xd1) rfl).2 rfl rfl ⟨_, rfl, rfl⟩ rfl rfl rfl (by decide +kernel),
    xn_BadRow_place := He.noat_ok (c.fact 73 (f := .fa (.noat "BadRow" "place")) rfl),
    xs_BadRow := HX.xsB_ok (c.fact 74 (f := .xs "BadRow") rfl),
    cat_BadRow := fun k b e => match k, b, e with
      | 0, _, rfl => He.exm_ok (c.fact 75 (f := .fa (.exm "MorningError" "BadRow" false)) rfl)
      | 1, _, rfl => He.exm_ok (c.fact 76 (f := .fa (.exm "BadNumber" "BadRow" false)) rfl)
      | 2, _, rfl => He.exm_ok (c.fact 77 (f := .fa (.exm "BadRow" "BadRow" true)) rfl)
      | 3, _, rfl => He.exm_ok (c.fact 78 (f := .fa (.exm "BadNet" "BadRow" false)) rfl)
      | 4, _, rfl => He.exm_ok (c.fact 79 (f := .fa (.exm "BadMoves" "BadRow" false)) rfl)
      | 5, _, rfl => He.exm_ok (c.fact 80 (f := .fa (.exm "HasRing" "BadRow" false)) rfl),
    g_BadNet := He.glo_ok X G (c.fact 81 (f := .fa (.glo "BadNet")) rfl),
    xt_BadNet := HX.xd_ok (d := xd2) X G (c.exc 2 (d := xd2) rfl).1 (c.exc 2 (d := xd2) rfl).2 rfl rfl ⟨_, rfl, rfl⟩ rfl rfl rfl (by decide +kernel),
    xn_BadNet_place := He.noat_ok (c.fact 82 (f := .fa (.noat "BadNet" "place")) rfl),
    xs_BadNet := HX.xsB_ok (c.fact 83 (f := .xs "BadNet") rfl),
    cat_BadNet := fun k b e => match k, b, e with
      | 0, _, rfl => He.exm_ok (c.fact 84 (f := .fa (.exm "MorningError" "BadNet" false)) rfl)
      | 1, _, rfl => He.exm_ok (c.fact 85 (f := .fa (.exm "BadNumber" "BadNet" false)) rfl)
      | 2, _, rfl => He.exm_ok (c.fact 86 (f := .fa (.exm "BadRow" "BadNet" false)) rfl)
      | 3, _, rfl => He.exm_ok (c.fact 87 (f := .fa (.exm "BadNet" "BadNet" true)) rfl)
      | 4, _, rfl => He.exm_ok (c.fact 88 (f := .fa (.exm "BadMoves" "BadNet" false)) rfl)
      | 5, _, rfl => He.exm_ok (c.fact 89 (f := .fa (.exm "HasRing" "BadNet" false)) rfl),
    g_BadMoves := He.glo_ok X G (c.fact 90 (f := .fa (.glo "BadMoves")) rfl),
    xt_BadMoves := HX.xd_ok (d := xd3) X G (c.exc 3 (d := xd3) rfl).1 (c.exc 3 (d := xd3) rfl).2 rfl rfl ⟨_, rfl, rfl⟩ rfl rfl rfl (by decide +kernel),
    xn_BadMoves_place := He.noat_ok (c.fact 91 (f := .fa (.noat "BadMoves" "place")) rfl),
    g_HasRing := He.glo_ok X G (c.fact 92 (f := .fa (.glo "HasRing")) rfl),
    xt_HasRing := HX.xd_ok (d := xd4) X G (c.exc 4 (d := xd4) rfl).1 (c.exc 4 (d := xd4) rfl).2 rfl rfl ⟨_, rfl, rfl⟩ rfl rfl rfl (by decide +kernel),
    xn_HasRing_ring := He.noat_ok (c.fact 93 (f := .fa (.noat "HasRing" "ring")) rfl),
    xs_HasRing := HX.xsB_ok (c.fact 94 (f := .xs "HasRing") rfl),
    cat_HasRing := fun k b e => match k, b, e with
      | 0, _, rfl => He.exm_ok (c.fact 95 (f := .fa (.exm "MorningError" "HasRing" false)) rfl)
      | 1, _, rfl => He.exm_ok (c.fact 96 (f := .fa (.exm "BadNumber" "HasRing" false)) rfl)
      | 2, _, rfl => He.exm_ok (c.fact 97 (f := .fa (.exm "BadRow" "HasRing" false)) rfl)
      | 3, _, rfl => He.exm_ok (c.fact 98 (f := .fa (.exm "BadNet" "HasRing" false)) rfl)
      | 4, _, rfl => He.exm_ok (c.fact 99 (f := .fa (.exm "BadMoves" "HasRing" false)) rfl)
      | 5, _, rfl => He.exm_ok (c.fact 100 (f := .fa (.exm "HasRing" "HasRing" true)) rfl),
    xi_HasRing_BadNet_BadRow_BadNumber := of_decide_eq_true (c.fact 101 (f := .any (.glo "HasRing") [.glo "BadNet", .glo "BadRow", .glo "BadNumber"] false) rfl),
    xi_HasRing_MorningError := of_decide_eq_true (c.fact 102 (f := .one (.glo "HasRing") (.glo "MorningError") true) rfl),
    xi_HasRing_ValueError := of_decide_eq_true (c.fact 103 (f := .one (.glo "HasRing") (.ty "ValueError") true) rfl) }
end K07
set_option Elab.async false
set_option linter.all false
set_option maxRecDepth 100000
set_option maxHeartbeats 0
namespace K07
open PySem PySem.Spec PyProof.Rows L2 TL
/-- what the plain law has to say -/
def Plain : Prop := ∀ ns : List Int, ns.length ≤ 63 → ∃ d, f_law [.scr ns] none = .ret (.fz (.bl true)) d
theorem sp_law {K : PySem.W.Frag} (hp : Plain) (H : Hp) (a : Addr) (ns : List Int) (hl : ns.length ≤ 63) (hO : Only H) (hS : SqL K H a (ns.map V.int)) : spM (gt K) 1 f_law [.ref a] H (fun v _ => v = .bl true) fun _ _ _ => False := by
  refine ⟨rfl, fun _ => False, none, [.scr ns], none, rfl, ⟨.ref a, [], rfl, ⟨a, rfl, HX.scr_of (G := gt K) hO hS⟩, rfl⟩, fun _ h => h.elim, trivial, ?_⟩
  obtain ⟨d, e⟩ := hp ns hl
  rw [e]
  intro B' H' x f _ r _ _
  have r1 : FRep (gt K) B' H' (.bl true) x := r.1
  unfold FRep at r1
  exact r1
theorem facts {w : World} {K : PySem.W.Frag} {h : Heap} {mg : Str → Option Value} {f : Addr} (X : K.In h) (G : h.Ns mainGlobals mg) (hfa : mg ("law" : Str) = some (.ref f)) (c : HX.SaysX R.prog.main.file fb fn xd K) :
    ∃ fd : FuncData, (∀ (s : Shared) (v : Value), BindsTo s fd ⟨[v], []⟩ [("script", v)]) ∧ ∀ base : Heap, K.In base → base.Ns mainGlobals mg → FnOk R.prog w K mg base (L2.CX R.prog w) 8 f fd ["script"] (spM (gt K) 1 f_law) := by
  obtain ⟨fd, T⟩ := tx (w := w) X G c
  have gl : mg ("law" : Str) = some (.ref (He.fAd K ("law", none))) := He.glo_ok X G (c.fact 45 (f := .fa (.glo "law")) rfl)
  have e := hfa.symm.trans gl
  cases e
  have b := FunD.bindsA (ps := ["script"]) T.u_law fun _ _ _ _ _ _ us hl => match us, hl with | [_], _ => rfl
  exact ⟨_, fun s v => b s [v] rfl, fun base _ _ => ok_law T⟩
end K07
section
open PySem PySem.W PySem.Calls PyProof.Rows
theorem K07.holds (hp : K07.Plain) : PySem.Challenge.rw_calmmornings_k07_row_or_ring.Holds := by
  w_on; o_law
  refine HandSHeadRun.head_any (r := OpenLaw.row PySem.Challenge.rw_calmmornings_k07_row_or_ring) (q := view (OpenLaw.row PySem.Challenge.rw_calmmornings_k07_row_or_ring).prog [46]) (H := K07.hk) (ob := K07.ob) (M := 4000) (loose := K07.loose) (d := HandSHeadRun.topDef (OpenLaw.row PySem.Challenge.rw_calmmornings_k07_row_or_ring).prog 46) (kwd := []) K07.ob_eq
    (by kernel_rfl) (fun s => by kernel_rfl) K07.run (by kernel_rfl) (by kernel_rfl) (by kernel_rfl) (by rfl) (by first | assumption | decide +kernel) (by decide +kernel) ⟨rfl, rfl, rfl, rfl, rfl, by decide +kernel⟩ ?hw ?hc
  case hw => w_witness2
  case hc =>
    refine HX.walk_w (l := PySem.Challenge.rw_calmmornings_k07_row_or_ring) (n := 63) (k := 8) (x := "script") rfl (by decide) (by kernel_rfl) ⟨rfl, by decide, by decide⟩ ?F
    intro w mg fa h Y G hmg0
    obtain ⟨K, KX, c⟩ := Y
    have hmg : mg ("law" : PySem.Str) = some (.ref fa) := by
      have e : (HandSHeadRun.topDef (OpenLaw.row PySem.Challenge.rw_calmmornings_k07_row_or_ring).prog 46).name = ("law" : PySem.Str) := by kernel_rfl
      rw [← e]
      exact hmg0
    obtain ⟨fd, hb, hF⟩ := K07.facts (w := w) KX G hmg c
    exact ⟨K, fd, TL.spM (K07.gt K) 1 K07.f_law, KX, hb, fun H a ns hl hO hS => K07.sp_law hp H a ns hl hO hS, hF⟩
end
set_option Elab.async false
set_option linter.all false
set_option maxRecDepth 100000
set_option maxHeartbeats 2000000
namespace TL
/-! ### evaluating meanings -/
@[simp] theorem er_ok {α β : Type} (a : α) (S : MS) (k : α → MS → ER β) : (ER.ok a S).bind k = k a S := rfl
@[simp] theorem er_err {α β : Type} (e : EV) (S : MS) (k : α → MS → ER β) : (ER.err e S : ER α).bind k = .err e S := rfl
@[simp] theorem er_ok_in {α β : Type} (a : α) (S : MS) (k : α → MS → ER β) : (ER.ok a S).in k = k a S := rfl
@[simp] theorem thn_ok {α : Type} (a : α) (S : MS) (k : α → MS → Out) : (ER.ok a S).thn k = k a S := rfl
@[simp] theorem thn_err {α : Type} (e : EV) (S : MS) (k : α → MS → Out) : (ER.err e S : ER α).thn k = .err e S := rfl
@[simp] theorem seq_nx (S : MS) (k : MSt) : (Out.nx S).seq k = k S := rfl
@[simp] theorem seq_rt (v : RV) (S : MS) (k : MSt) : (Out.rt v S).seq k = .rt v S := rfl
@[simp] theorem seq_bk (S : MS) (k : MSt) : (Out.bk S).seq k = .bk S := rfl
@[simp] theorem seq_ct (S : MS) (k : MSt) : (Out.ct S).seq k = .ct S := rfl
@[simp] theorem seq_err (e : EV) (S : MS) (k : MSt) : (Out.err e S).seq k = .err e S := rfl
@[simp] theorem lp_nx (S : MS) (k : MSt) : (Out.nx S).loop k = k S := rfl
@[simp] theorem lp_ct (S : MS) (k : MSt) : (Out.ct S).loop k = k S := rfl
@[simp] theorem lp_bk (S : MS) (k : MSt) : (Out.bk S).loop k = .nx S := rfl
@[simp] theorem lp_rt (v : RV) (S : MS) (k : MSt) : (Out.rt v S).loop k = .rt v S := rfl
@[simp] theorem lp_err (e : EV) (S : MS) (k : MSt) : (Out.err e S).loop k = .err e S := rfl
@[simp] theorem sSeq_at (m n : MSt) (S : MS) : sSeq m n S = (m S).seq n := rfl
@[simp] theorem sNil_at (S : MS) : sNil S = .nx S := rfl
@[simp] theorem sPass_at (S : MS) : sPass S = .nx S := rfl
@[simp] theorem sBreak_at (S : MS) : sBreak S = .bk S := rfl
@[simp] theorem sCont_at (S : MS) : sCont S = .ct S := rfl
@[simp] theorem sSet_at (i : Nat) (m : M RV) (S : MS) : sSet i m S = (m S).thn fun v S1 => match S1.bind i v with
  | some S2 => .nx S2
  | none => .stuck := rfl
@[simp] theorem sExpr_at (m : M RV) (S : MS) : sExpr m S = (m S).thn fun _ S1 => .nx S1 := rfl
@[simp] theorem sRet_at (m : M RV) (S : MS) : sRet m S = (m S).thn fun v S1 => .rt v S1 := rfl
@[simp] theorem sRetN_at (S : MS) : sRetN S = .rt (.fz .non) S := rfl
@[simp] theorem sIf_at (t : M Bool) (m n : MSt) (S : MS) : sIf t m n S = (t S).thn fun b S1 => if b = true then m S1 else n S1 := rfl
@[simp] theorem sAug_at (i : Nat) (g : RV → RV → MS → ER RV) (m : M RV) (S : MS) : sAug i g m S = sSet i (m2 g (mVar i) m) S := rfl
@[simp] theorem mC_at (v : FV) (S : MS) : mC v S = .ok (.fz v) S := rfl
@[simp] theorem m2_at (g : RV → RV → MS → ER RV) (ma mb : M RV) (S : MS) : m2 g ma mb S = (ma S).bind fun a S1 => (mb S1).bind fun b S2 => g a b S2 := rfl
@[simp] theorem mB_at (m : M RV) (S : MS) : mB m S = (m S).bind asB := rfl
@[simp] theorem asB_at (b : Bool) (S : MS) : asB (.fz (.bl b)) S = .ok b S := rfl
@[simp] theorem mNot_at (m : M Bool) (S : MS) : mNot m S = (m S).bind fun b S' => .ok (!b) S' := rfl
@[simp] theorem mAnd_at (m n : M Bool) (S : MS) : mAnd m n S = (m S).bind fun b S' => if b = true then n S' else .ok false S' := rfl
@[simp] theorem mOr_at (m n : M Bool) (S : MS) : mOr m n S = (m S).bind fun b S' => if b = true then .ok true S' else n S' := rfl
@[simp] theorem mAndV_at (m n : M RV) (S : MS) : mAndV m n S = (m S).bind fun v S1 => (asB v S1).bind fun b S' => if b = true then n S' else .ok (.fz (.bl false)) S' := rfl
@[simp] theorem mNotV_at (m : M RV) (S : MS) : mNotV m S = (m S).bind fun v S1 => (asB v S1).bind fun b S' => .ok (.fz (.bl !b)) S' := rfl
@[simp] theorem mCall_at (g : List RV → MS → ER RV) (n : M (List RV)) (S : MS) : mCall g n S = (n S).bind g := rfl
@[simp] theorem lNil_at (S : MS) : lNil S = .ok [] S := rfl
@[simp] theorem lCons_at (m : M RV) (n : M (List RV)) (S : MS) : lCons m n S = (m S).bind fun v S1 => (n S1).bind fun vs S2 => .ok (v :: vs) S2 := rfl
@[simp] theorem aNil_at (S : MS) : aNil S = .ok [] S := rfl
@[simp] theorem aCons_at (m : M RV) (n : M (List FV)) (S : MS) : aCons m n S = (m S).bind fun v S1 => (toF v S1).bind fun u S2 => (n S2).bind fun us S3 => .ok (u :: us) S3 := rfl
@[simp] theorem oNil_at (S : MS) : oNil S = .ok [] S := rfl
@[simp] theorem oCons_at (m : M RV) (n : M (List OT)) (S : MS) : oCons m n S = (m S).bind fun v S1 => (toO v S1).bind fun t S2 => (n S2).bind fun ts S3 => .ok (t :: ts) S3 := rfl
@[simp] theorem pNil_at (S : MS) : pNil S = .ok [] S := rfl
@[simp] theorem pCons_at (c : RV → MS → ER Sl) (m : M RV) (n : M (List Sl)) (S : MS) : pCons c m n S = (m S).bind fun v S1 => (c v S1).bind fun u S2 => (n S2).bind fun us S3 => .ok (u :: us) S3 := rfl
@[simp] theorem toF_fz (v : FV) (S : MS) : toF (.fz v) S = .ok v S := rfl
@[simp] theorem toF_tmp (ts : List OT) (S : MS) : toF (.tmp ts) S = .ok (.lst (frzs ts)) S := rfl
@[simp] theorem toP_fz (v : FV) (S : MS) : toP (.fz v) S = .ok (.fz v) S := rfl
@[simp] theorem toP_tmp (ts : List OT) (S : MS) : toP (.tmp ts) S = .ok (.fz (.lst (frzs ts))) S := rfl
@[simp] theorem toP_dr (S : MS) : toP .dr S = .ok .dr S := rfl
@[simp] theorem toP_scr (ns : List Int) (S : MS) : toP (.scr ns) S = .ok (.scr ns) S := rfl
@[simp] theorem mFn_at (fm : FM) (n : Nat) (fs : List FV) (ms : M (List Sl)) (S : MS) : mFn fm n fs ms S = (ms S).bind fun ss S1 => callM fm n (ss ++ fs.map Sl.fz) S1 := rfl
@[simp] theorem sFor_at (src : M (List FV)) (b : BT) (body : MSt) (S : MS) : sFor src b body S = (src S).thn fun vs S1 => loopF b body vs S1 := rfl
@[simp] theorem mSeq_at (m : M RV) (S : MS) : mSeq m S = (m S).bind toSeq := rfl
@[simp] theorem mI_at {γ : Type} (g : γ → MS → ER (List FV)) (ls : M γ) (S : MS) : mI g ls S = (ls S).bind g := rfl
@[simp] theorem mIsi_at (f : Ty → Option Bool) (m : M RV) (S : MS) : mIsi f m S = (m S).bind (isiR f) := rfl
@[simp] theorem sRaise_at (c n : Nat) (ms : M (List FV)) (S : MS) : sRaise c n ms S = (ms S).thn fun us S1 => if us.length = n then .err ⟨c, us⟩ S1 else .stuck := rfl
@[simp] theorem mTup_at (n : M (List FV)) (S : MS) : mTup n S = (n S).bind fun us S' => if lineOk us.length then .ok (.fz (.tup us)) S' else .stuck := rfl
@[simp] theorem mLst_at (n : M (List OT)) (S : MS) : mLst n S = (n S).bind fun ts S' => if lineOk ts.length then .ok (.tmp ts) S' else .stuck := rfl
@[simp] theorem loopF_nil (b : BT) (body : MSt) (S : MS) : loopF b body [] S = .nx S := rfl
theorem loopF_cons (b : BT) (body : MSt) (v : FV) (vs : List FV) (S : MS) : loopF b body (v :: vs) S = match b v S with
  | some S1 => (body S1).loop (loopF b body vs)
  | none => .stuck := rfl
@[simp] theorem bind_fz (S : MS) (i : Nat) (v : FV) : S.bind i (.fz v) = some (S.set i (.fz v)) := rfl
@[simp] theorem bind_tmp (S : MS) (i : Nat) (ts : List OT) : S.bind i (.tmp ts) = some (S.set i (.own ts)) := rfl
@[simp] theorem bName_at (i : Nat) (v : FV) (S : MS) : bName i v S = some (S.set i (.fz v)) := rfl
@[simp] theorem seq_ite (c : Prop) [Decidable c] (a b : Out) (k : MSt) : (if c then a else b).seq k = if c then a.seq k else b.seq k := by split <;> rfl
@[simp] theorem loop_ite (c : Prop) [Decidable c] (a b : Out) (k : MSt) : (if c then a else b).loop k = if c then a.loop k else b.loop k := by split <;> rfl
@[simp] theorem thn_ite {α : Type} (c : Prop) [Decidable c] (a b : ER α) (k : α → MS → Out) : (if c then a else b).thn k = if c then a.thn k else b.thn k := by split <;> rfl
@[simp] theorem bind_ite {α β : Type} (c : Prop) [Decidable c] (a b : ER α) (k : α → MS → ER β) : (if c then a else b).bind k = if c then a.bind k else b.bind k := by split <;> rfl
/-! readings of explicit states -/
@[simp] theorem mVar_at (i : Nat) (sl : List Sl) (d : Option (List Int)) : mVar i ⟨sl, d⟩ = match sl[i]? with
  | some (.fz v) => .ok (.fz v) ⟨sl, d⟩
  | some (.own _) => .ok (.pl i []) ⟨sl, d⟩
  | some (.al j p) => (match (MS.mk sl d).at j p with
    | some (.own _) => .ok (.pl j p) ⟨sl, d⟩
    | some (.fz v) => .ok (.fz v) ⟨sl, d⟩
    | none => .stuck)
  | some .dr => .ok .dr ⟨sl, d⟩
  | some (.scr ns) => .ok (.scr ns) ⟨sl, d⟩
  | _ => .stuck := rfl
@[simp] theorem set_at (sl : List Sl) (d : Option (List Int)) (i : Nat) (s : Sl) : (MS.mk sl d).set i s = ⟨(sl.map (dropAl i)).set i s, d⟩ := rfl
@[simp] theorem drA_un (i : Nat) : dropAl i .un = .un := rfl
@[simp] theorem drA_fz (i : Nat) (v : FV) : dropAl i (.fz v) = .fz v := rfl
@[simp] theorem drA_own (i : Nat) (v : List OT) : dropAl i (.own v) = .own v := rfl
@[simp] theorem drA_dr (i : Nat) : dropAl i .dr = .dr := rfl
@[simp] theorem drA_scr (i : Nat) (v : List Int) : dropAl i (.scr v) = .scr v := rfl
@[simp] theorem drA_new (i c : Nat) (v : List FV) : dropAl i (.new c v) = .new c v := rfl
@[simp] theorem drA_ex (i : Nat) (e : EV) : dropAl i (.ex e) = .ex e := rfl
theorem drA_al (i j : Nat) (p : List Nat) : dropAl i (.al j p) = if j = i then .un else .al j p := rfl
@[simp] theorem gI_at (C : Int → Int → Bool) (f : Int → Int → FV) (i j : Int) (S : MS) : gI C f (.fz (.int i)) (.fz (.int j)) S = if C i j = true then .ok (.fz (f i j)) S else .stuck := rfl
@[simp] theorem gIx_at (a : RV) (i : Int) (S : MS) : gIx a (.fz (.int i)) S = pick a i S := rfl
@[simp] theorem pick_lst (xs : List FV) (i : Int) (S : MS) : pick (.fz (.lst xs)) i S = match L2.atI xs i with
    | some u => .ok (.fz u) S
    | none => .stuck := rfl
@[simp] theorem pick_tup (xs : List FV) (i : Int) (S : MS) : pick (.fz (.tup xs)) i S = match L2.atI xs i with
    | some u => .ok (.fz u) S
    | none => .stuck := rfl
@[simp] theorem pick_tmp (xs : List OT) (i : Int) (S : MS) : pick (.tmp xs) i S = match L2.atI xs i with
    | some (.fz u) => .ok (.fz u) S
    | some (.own us) => .ok (.tmp us) S
    | none => .stuck := rfl
@[simp] theorem pick_pl (j : Nat) (p : List Nat) (i : Int) (S : MS) : pick (.pl j p) i S = match S.at j p with
    | some (.own ts) => (match L2.ixN ts.length i with
      | some k => (match ts[k]? with
        | some (.fz u) => .ok (.fz u) S
        | some (.own _) => .ok (.pl j (p ++ [k])) S
        | none => .stuck)
      | none => .stuck)
    | _ => .stuck := rfl
theorem ix_nn {α : Type} (xs : List α) (i : Nat) : L2.atI xs (i : Int) = xs[i]? := by
  unfold L2.atI L2.ixN
  by_cases h : i < xs.length
  · rw [if_pos (by omega), if_pos (by omega)]
    simp
  · rw [if_pos (by omega), if_neg (by omega), List.getElem?_eq_none (by omega)]
    rfl
theorem ix_int {α : Type} (xs : List α) (i : Int) (h : 0 ≤ i) : L2.atI xs i = xs[i.toNat]? := by
  have e : i = ((i.toNat : Nat) : Int) := by omega
  rw [e, ix_nn]
  rfl
@[simp] theorem ix0 {α : Type} (a : α) (xs : List α) : L2.atI (a :: xs) 0 = some a := ix_nn (a :: xs) 0
@[simp] theorem ix1 {α : Type} (a b : α) (xs : List α) : L2.atI (a :: b :: xs) 1 = some b := ix_nn (a :: b :: xs) 1
@[simp] theorem ix2 {α : Type} (a b c : α) (xs : List α) : L2.atI (a :: b :: c :: xs) 2 = some c := ix_nn (a :: b :: c :: xs) 2
@[simp] theorem isiR_fz (f : Ty → Option Bool) (v : FV) (S : MS) : isiR f (.fz v) S = match f (tyF v) with
    | some b => .ok (.fz (.bl b)) S
    | none => .stuck := rfl
@[simp] theorem isiR_pl (f : Ty → Option Bool) (j : Nat) (p : List Nat) (S : MS) : isiR f (.pl j p) S = match tyR (.pl j p) S with
  | some t => (match f t with
    | some b => .ok (.fz (.bl b)) S
    | none => .stuck)
  | none => .stuck := rfl
@[simp] theorem gEq_fz (ng : Bool) (a b : FV) (S : MS) : gEq ng (.fz a) (.fz b) S = if a.dat 64 && b.dat 64 then .ok (.fz (.bl (if ng then !a.eqv b else a.eqv b))) S else .stuck := rfl
@[simp] theorem dat_non (n : Nat) : FV.dat n .non = true := by cases n <;> rfl
@[simp] theorem dat_bl (n : Nat) (b : Bool) : FV.dat n (.bl b) = true := by cases n <;> rfl
@[simp] theorem dat_int (n : Nat) (i : Int) : FV.dat n (.int i) = true := by cases n <;> rfl
@[simp] theorem eqv_int (i j : Int) : FV.eqv (.int i) (.int j) = (i == j) := rfl
@[simp] theorem gLen_fz (v : FV) (S : MS) (h : ∀ s, v ≠ .str s) : gLen [.fz v] S = match count (.fz v) S with
    | some n => .ok (.fz (.int n)) S
    | none => .stuck := by cases v <;> first | rfl | exact absurd rfl (h _)
@[simp] theorem gLen_tmp (v : List OT) (S : MS) : gLen [.tmp v] S = .ok (.fz (.int v.length)) S := rfl
@[simp] theorem gLen_pl (j : Nat) (p : List Nat) (S : MS) : gLen [.pl j p] S = match count (.pl j p) S with
    | some n => .ok (.fz (.int n)) S
    | none => .stuck := rfl
@[simp] theorem gLen_dr (sl : List Sl) (ds : List Int) : gLen [.dr] ⟨sl, some ds⟩ = .ok (.fz (.int ds.length)) ⟨sl, some ds⟩ := rfl
@[simp] theorem count_lst (xs : List FV) (S : MS) : count (.fz (.lst xs)) S = some xs.length := rfl
@[simp] theorem count_tup (xs : List FV) (S : MS) : count (.fz (.tup xs)) S = some xs.length := rfl
@[simp] theorem gInt_int (i : Int) (S : MS) : gInt [.fz (.int i)] S = .ok (.fz (.int i)) S := rfl
@[simp] theorem toSeq_tup (us : List FV) (S : MS) : toSeq (.fz (.tup us)) S = .ok us S := rfl
@[simp] theorem toSeq_lst (us : List FV) (S : MS) : toSeq (.fz (.lst us)) S = .ok us S := rfl
@[simp] theorem mChain_at (g g' : RV → RV → MS → ER RV) (ma mb mc : M RV) (S : MS) : mChain g g' ma mb mc S = (ma S).bind fun x S1 => (mb S1).bind fun y S2 => match x, y with
  | .fz u, .fz v => (g (.fz u) (.fz v) S2).bind fun z S3 => (asB z S3).bind fun k S4 => if k = true then (mc S4).bind fun w S5 => g' (.fz v) w S5 else .ok (.fz (.bl false)) S4
  | _, _ => .stuck := rfl
/-- a def's end -/
def finM : Out → FR
  | .nx S => .ret (.fz .non) S.dr
  | .rt v S => match outV v S with
    | some r => .ret r S.dr
    | none => .stuck
  | .err e S => .err e S.dr
  | _ => .stuck
theorem fnM_fin (n : Nat) (mb : MSt) (as : List Sl) (d : Option (List Int)) : fnM n mb as d = finM (mb ⟨as ++ List.replicate (n - as.length) .un, d⟩) := by
  unfold fnM finM
  rfl
@[simp] theorem finM_nx (S : MS) : finM (.nx S) = .ret (.fz .non) S.dr := rfl
@[simp] theorem finM_fz (v : FV) (S : MS) : finM (.rt (.fz v) S) = .ret (.fz v) S.dr := rfl
@[simp] theorem finM_tmp (ts : List OT) (S : MS) : finM (.rt (.tmp ts) S) = .ret (.tmp ts) S.dr := rfl
@[simp] theorem finM_err (e : EV) (S : MS) : finM (.err e S) = .err e S.dr := rfl
@[simp] theorem finM_ite (c : Prop) [Decidable c] (a b : Out) : finM (if c then a else b) = if c then finM a else finM b := by split <;> rfl
/-- calls of frozen things -/
theorem lend_fz : ∀ (vs : List FV) (S : MS), lend S (vs.map Sl.fz) = some (vs.map Sl.fz)
  | [], _ => rfl
  | v :: vs, S => by simp [lend, lend_fz vs S]
/-- one turn of a comprehension -/
def lcStep (b : BT) (t : M Bool) (m : M RV) (vs : List Nat) (v : FV) (S : MS) : ER OT := match b v S with
  | none => .stuck
  | some S1 => (t S1).in fun ok S2 => if ok = true then (m S2).in fun y S3 => (toO y S3).in fun o S4 => .ok o (S4.wipe vs) else .stuck
theorem lcF_step {b : BT} {t : M Bool} {m : M RV} {vs : List Nat} {v : FV} {r : List FV} {acc : List OT} {S S' : MS} {o : OT} (h : lcStep b t m vs v S = .ok o S') (hl : acc.length + 1 ≤ 16777216) : lcF b t m vs (v :: r) acc S = lcF b t m vs r (acc ++ [o]) S' := by
  have ok : lineOk (acc.length + 1) = true := Nat.ble_eq_true_of_le hl
  unfold lcStep at h
  rw [lcF]
  cases eb : b v S with
  | none => rw [eb] at h; cases h
  | some S1 =>
    rw [eb] at h
    simp only at h ⊢
    cases et : t S1 with
    | err e S2 => rw [et] at h; cases h
    | stuck => rw [et] at h; cases h
    | ok k S2 =>
      rw [et] at h
      simp only [er_ok_in] at h ⊢
      cases k with
      | false => cases h
      | true =>
        simp only [if_true] at h ⊢
        cases em : m S2 with
        | err e S3 => rw [em] at h; cases h
        | stuck => rw [em] at h; cases h
        | ok y S3 =>
          rw [em] at h
          simp only [er_ok_in] at h ⊢
          cases eo : toO y S3 with
          | err e S4 => rw [eo] at h; cases h
          | stuck => rw [eo] at h; cases h
          | ok o' S4 =>
            rw [eo] at h
            simp only [er_ok_in] at h ⊢
            cases h
            rw [ok, if_pos rfl]
theorem lcF_pure {b : BT} {t : M Bool} {m : M RV} {vs : List Nat} {S : MS} {g : FV → OT} : ∀ (its : List FV) (acc : List OT), (∀ v ∈ its, lcStep b t m vs v S = .ok (g v) S) → acc.length + its.length ≤ 16777216 → lcF b t m vs its acc S = .ok (acc ++ its.map g) S
  | [], acc, _, _ => by simp [lcF]
  | v :: its, acc, h, hl => by
    simp only [List.length_cons] at hl
    rw [lcF_step (h v List.mem_cons_self) (by omega), lcF_pure its (acc ++ [g v]) (fun w hw => h w (List.mem_cons_of_mem _ hw)) (by simp; omega)]
    simp
/-- a slot that no list stands in -/
def Pl (s : Sl) : Prop := (∀ i, dropAl i s = s) ∧ (∀ vs, dropIn vs s = s) ∧ (∀ j p, kill j p s = s) ∧ unNew s = s ∧ ∀ j p v, thaw j p v s = s
theorem pl_un : Pl .un := ⟨fun _ => rfl, fun _ => rfl, fun _ _ => rfl, rfl, fun _ _ _ => rfl⟩
theorem pl_fz (v : FV) : Pl (.fz v) := ⟨fun _ => rfl, fun _ => rfl, fun _ _ => rfl, rfl, fun _ _ _ => rfl⟩
@[simp] theorem wipeAt (sl : List Sl) (d : Option (List Int)) (vs : List Nat) : (MS.mk sl d).wipe vs = ⟨sl.mapIdx fun i s => if i ∈ vs then .un else dropIn vs s, d⟩ := rfl
@[simp] theorem drI_un (vs : List Nat) : dropIn vs .un = .un := rfl
@[simp] theorem drI_fz (vs : List Nat) (v : FV) : dropIn vs (.fz v) = .fz v := rfl
@[simp] theorem drI_own (vs : List Nat) (v : List OT) : dropIn vs (.own v) = .own v := rfl
@[simp] theorem drI_dr (vs : List Nat) : dropIn vs .dr = .dr := rfl
@[simp] theorem drI_scr (vs : List Nat) (v : List Int) : dropIn vs (.scr v) = .scr v := rfl
@[simp] theorem drI_new (vs : List Nat) (c : Nat) (v : List FV) : dropIn vs (.new c v) = .new c v := rfl
@[simp] theorem tYes_at (S : MS) : tYes' S = .ok true S := rfl
@[simp] theorem mLc_at (vs : List Nat) (src : M (List FV)) (b : BT) (t : M Bool) (m : M RV) (S : MS) : mLc vs src b t m S = (src S).bind fun us S1 => (lcF b t m vs us [] (S1.wipe vs)).in fun ts S2 => .ok (.tmp ts) (S2.wipe vs) := rfl
@[simp] theorem allFz_map : ∀ (vs : List FV), allFz (vs.map OT.fz) = some vs
  | [] => rfl
  | v :: vs => by simp [allFz, allFz_map vs]
@[simp] theorem gTuple_tup (us : List FV) (S : MS) : gTuple [.fz (.tup us)] S = .ok (.fz (.tup us)) S := rfl
@[simp] theorem gTuple_lst (us : List FV) (S : MS) : gTuple [.fz (.lst us)] S = .ok (.fz (.tup us)) S := rfl
@[simp] theorem gTuple_tmp (us : List FV) (S : MS) : gTuple [.tmp (us.map OT.fz)] S = .ok (.fz (.tup us)) S := by simp [gTuple, items]
@[simp] theorem toO_fz (v : FV) (S : MS) : toO (.fz v) S = .ok (.fz v) S := rfl
@[simp] theorem toO_tmp (v : List OT) (S : MS) : toO (.tmp v) S = .ok (.own v) S := rfl
@[simp] theorem gEnum_lst (us : List FV) (S : MS) : gEnum [.lst us] S = .ok (numd 0 us) S := rfl
@[simp] theorem gEnum_tup (us : List FV) (S : MS) : gEnum [.tup us] S = .ok (numd 0 us) S := rfl
theorem numd_map {α : Type} (f : α → FV) : ∀ (xs : List α) (n : Nat), numd n (xs.map f) = (xs.zipIdx n).map fun p => .tup [.int (p.2 : Nat), f p.1]
  | [], _ => rfl
  | x :: xs, n => by simp [numd, numd_map f xs (n + 1)]
def finN (c nf : Nat) : Out → FR
  | .nx S => finI c nf S
  | .err e S => .err e S.dr
  | _ => .stuck
theorem fnI_fin (n c nf : Nat) (mb : MSt) (as : List Sl) (d : Option (List Int)) : fnI n c nf mb as d = finN c nf (mb ⟨(.new c [] :: as) ++ List.replicate (n - (as.length + 1)) .un, d⟩) := by
  unfold fnI finN
  rfl
@[simp] theorem finN_nx (c nf : Nat) (S : MS) : finN c nf (.nx S) = finI c nf S := rfl
@[simp] theorem finN_err (c nf : Nat) (e : EV) (S : MS) : finN c nf (.err e S) = .err e S.dr := rfl
@[simp] theorem finN_ite (n nf : Nat) (c : Prop) [Decidable c] (a b : Out) : finN n nf (if c then a else b) = if c then finN n nf a else finN n nf b := by split <;> rfl
@[simp] theorem fld0_at (i c k : Nat) (m : M RV) (S : MS) : sFld0 i c k m S = (m S).thn fun v S1 => (toF v S1).thn fun u S2 => match S2.sl[i]? with
  | some (.new c' fs) => if c' = c ∧ fs.length = k ∧ k < 900 then .nx (S2.fld i c (fs ++ [u])) else .stuck
  | _ => .stuck := rfl
@[simp] theorem fldS_at (sl : List Sl) (d : Option (List Int)) (i c : Nat) (fs : List FV) : (MS.mk sl d).fld i c fs = ⟨(sl.map unNew).set i (.new c fs), d⟩ := rfl
@[simp] theorem unN_un : unNew .un = .un := rfl
@[simp] theorem unN_fz (v : FV) : unNew (.fz v) = .fz v := rfl
@[simp] theorem unN_new (c : Nat) (v : List FV) : unNew (.new c v) = .un := rfl
@[simp] theorem mMk_at (fm : FM) (n c nf : Nat) (fs : List FV) (ms : M (List Sl)) (S : MS) : mMk fm n c nf fs ms S = (ms S).bind fun ss S1 => makeM fm n c nf (ss ++ fs.map Sl.fz) S1 := rfl
def fldR (idx : Nat → Option Nat) (v : RV) (S1 : MS) : ER RV := match v with
  | .fz (.obj c fs) => match idx c with
    | some k => match fs[k]? with
      | some u => .ok (.fz u) S1
      | none => .stuck
    | none => .stuck
  | _ => .stuck
@[simp] theorem mFld_at (idx : Nat → Option Nat) (m : M RV) (S : MS) : mFld idx m S = (m S).bind (fldR idx) := rfl
@[simp] theorem gIs_non (ng : Bool) (S : MS) : gIs ng (.fz .non) (.fz .non) S = .ok (.fz (.bl (if ng then false else true))) S := by cases ng <;> rfl
@[simp] theorem gIs_int (ng : Bool) (i : Int) (S : MS) : gIs ng (.fz (.int i)) (.fz .non) S = .ok (.fz (.bl (if ng then true else false))) S := by cases ng <;> rfl
@[simp] theorem gIs_tup (ng : Bool) (i : List FV) (S : MS) : gIs ng (.fz (.tup i)) (.fz .non) S = .ok (.fz (.bl (if ng then true else false))) S := by cases ng <;> rfl
@[simp] theorem gIs_bl (ng a b : Bool) (S : MS) : gIs ng (.fz (.bl a)) (.fz (.bl b)) S = .ok (.fz (.bl (if ng then !decide (a = b) else decide (a = b)))) S := rfl
@[simp] theorem gPlus_int (i j : Int) (S : MS) : gPlus (.fz (.int i)) (.fz (.int j)) S = .ok (.fz (.int (i + j))) S := rfl
theorem rng_succ (lo : Int) (n : Nat) : rng lo (n + 1) = .int lo :: rng (lo + 1) n := by
  unfold rng
  rw [List.range_succ_eq_map]
  simp only [List.map_cons, List.map_map]
  congr 1
  · simp
  · refine List.map_congr_left fun i _ => ?_
    simp only [Function.comp]
    congr 1
    omega
@[simp] theorem rng_zero (lo : Int) : rng lo 0 = [] := rfl
@[simp] theorem frzs_map : ∀ (vs : List FV), frzs (vs.map OT.fz) = vs
  | [] => rfl
  | v :: vs => by simp [frzs, OT.frz, frzs_map vs]
@[simp] theorem gList_lst (us : List FV) (S : MS) : gList [.fz (.lst us)] S = .ok (.tmp (us.map OT.fz)) S := rfl
@[simp] theorem gList_tup (us : List FV) (S : MS) : gList [.fz (.tup us)] S = .ok (.tmp (us.map OT.fz)) S := rfl
@[simp] theorem gRng1_ok (j : Int) (S : MS) (h : small j = true) : gRng1 [.fz (.int j)] S = .ok (rng 0 j.toNat) S := by
  show (if small j = true then ER.ok (rng 0 j.toNat) S else ER.stuck) = _
  rw [if_pos h]
theorem sm_of {j : Int} (h : 0 ≤ j) (h2 : j ≤ 16777216) : small j = true := Nat.ble_eq_true_of_le (by omega)
end TL
set_option linter.all false
namespace BF
/-- an arc: from, to, length -/
abbrev Arc := Int × Int × Int
/-- the plain lookups -/
def gl (L : List (Option Int)) (i : Int) : Option Int := (L[i.toNat]?).getD none
def gk (K : List (Option Nat)) (i : Int) : Option Nat := (K[i.toNat]?).getD none
structure St where
  L : List (Option Int)
  K : List (Option Nat)
  f : Option Int
/-- what one arc does -/
def falls (L : List (Option Int)) (a : Arc) : Option Int := match gl L a.1 with
  | none => none
  | some la => match gl L a.2.1 with
    | none => some (la + a.2.2)
    | some lb => if la + a.2.2 < lb then some (la + a.2.2) else none
def relax (s : St) (p : Arc × Nat) : St := match falls s.L p.1 with
  | none => s
  | some v => ⟨s.L.set p.1.2.1.toNat (some v), s.K.set p.1.2.1.toNat (some p.2), some p.1.2.1⟩
def round (xs : List Arc) (s : St) : St := xs.zipIdx.foldl relax { s with f := none }
def rounds (xs : List Arc) : Nat → St → St
  | 0, s => s
  | m + 1, s => let s' := round xs s; if s'.f = none then s' else rounds xs m s'
def shorten (n : Nat) (xs : List Arc) (L : List (Option Int)) : St := rounds xs n ⟨L, List.replicate n none, none⟩

theorem gl_set (L : List (Option Int)) (i j : Int) (v : Option Int) (hi : 0 ≤ i) (hj : 0 ≤ j) (hl : i < L.length) : gl (L.set i.toNat v) j = if j = i then v else gl L j := by
  unfold gl
  rw [List.getElem?_set]
  by_cases h : j = i
  · subst h
    have : j.toNat < L.length := by omega
    simp [this]
  · have : i.toNat ≠ j.toNat := by omega
    simp [this, h]
theorem gk_set (L : List (Option Nat)) (i j : Int) (v : Option Nat) (hi : 0 ≤ i) (hj : 0 ≤ j) (hl : i < L.length) : gk (L.set i.toNat v) j = if j = i then v else gk L j := by
  unfold gk
  rw [List.getElem?_set]
  by_cases h : j = i
  · subst h
    have : j.toNat < L.length := by omega
    simp [this]
  · have : i.toNat ≠ j.toNat := by omega
    simp [this, h]
def Fit (n : Nat) (xs : List Arc) : Prop := ∀ a ∈ xs, (0 ≤ a.1 ∧ a.1 < n) ∧ 0 ≤ a.2.1 ∧ a.2.1 < n
/-- an arc that may still shorten -/
def Vio (L : List (Option Int)) (a : Arc) : Prop := falls L a ≠ none
/-- back along the links -/
inductive LP (xs : List Arc) (K : List (Option Nat)) : Int → Int → Int → Prop
  | nil (x : Int) : LP xs K x x 0
  | step {x y s : Int} {m : Nat} {a : Arc} (h : gk K x = some m) (ha : xs[m]? = some a) (r : LP xs K a.1 y s) : LP xs K x y (s + a.2.2)
inductive LP1 (xs : List Arc) (K : List (Option Nat)) : Int → Int → Int → Prop
  | step {x y s : Int} {m : Nat} {a : Arc} (h : gk K x = some m) (ha : xs[m]? = some a) (r : LP xs K a.1 y s) : LP1 xs K x y (s + a.2.2)
theorem LP.app {xs K} {x y z s t : Int} (h : LP xs K x y s) (r : LP xs K y z t) : LP xs K x z (s + t) := by
  induction h with
  | nil => simpa using r
  | @step x y s m a h ha _ ih =>
    have := LP.step h ha (ih r)
    have e : s + a.2.2 + t = s + t + a.2.2 := by omega
    rw [e]; exact this
theorem LP1.app {xs K} {x y z s t : Int} (h : LP1 xs K x y s) (r : LP xs K y z t) : LP1 xs K x z (s + t) := by
  cases h with
  | @step s m a h ha r1 =>
    have := LP1.step h ha (r1.app r)
    have e : s + a.2.2 + t = s + t + a.2.2 := by omega
    rw [e]; exact this
theorem LP1.lp {xs K} {x y s : Int} (h : LP1 xs K x y s) : LP xs K x y s := by
  cases h with
  | step h ha r => exact .step h ha r
/-- the state within round k, the first j arcs done -/
structure Inv (n : Nat) (xs : List Arc) (k j : Nat) (s : St) (fr : Int → Nat) : Prop where
  lL : s.L.length = n
  lK : s.K.length = n
  lk : ∀ (x : Int) (m : Nat), 0 ≤ x → x < n → gk s.K x = some m → ∃ a la lx, xs[m]? = some a ∧ a.2.1 = x ∧ gl s.L a.1 = some la ∧ gl s.L x = some lx ∧ la + a.2.2 ≤ lx ∧ fr x ≤ fr a.1 + 1
  no : ∀ x : Int, 0 ≤ x → x < n → 1 ≤ fr x → gk s.K x ≠ none
  cy : ∀ x t : Int, 0 ≤ x → x < n → LP1 xs s.K x x t → t < 0
  vi : ∀ i a, xs[i]? = some a → Vio s.L a → (if i < j then k else k - 1) ≤ fr a.1
  le : ∀ x : Int, fr x ≤ k
  fn : s.f = none → ∀ x : Int, 0 ≤ x → x < n → fr x < k
  fs : ∀ x : Int, s.f = some x → 0 ≤ x ∧ x < n ∧ fr x = k
theorem Inv.path {n xs k j s fr} (I : Inv n xs k j s fr) (hf : Fit n xs) {x y t : Int} (h : LP xs s.K x y t) : 0 ≤ x → x < n → ∀ lx, gl s.L x = some lx → ∃ ly, gl s.L y = some ly ∧ ly + t ≤ lx := by
  induction h with
  | nil x => exact fun _ _ lx e => ⟨lx, e, by omega⟩
  | @step x y t m a h ha r ih =>
    intro h0 h1 lx e
    obtain ⟨a', la, lx', e1, e2, e3, e4, e5, _⟩ := I.lk x m h0 h1 h
    rw [ha] at e1
    cases e1
    have q := hf a (List.mem_of_getElem? ha)
    obtain ⟨ly, g1, g2⟩ := ih q.1.1 q.1.2 la e3
    rw [e4] at e
    cases e
    exact ⟨ly, g1, by omega⟩
theorem Inv.rel1 {n xs k j s fr} (I : Inv n xs k j s fr) (hf : Fit n xs) {a : Arc} (hj : xs[j]? = some a) (hk : 1 ≤ k) : ∃ fr', Inv n xs k (j + 1) (relax s (a, j)) fr' ∧ ∀ x, fr x ≤ fr' x := by
  obtain ⟨⟨a0, a1⟩, b0, b1⟩ := hf a (List.mem_of_getElem? hj)
  unfold relax
  cases e : falls s.L a with
  | none =>
    refine ⟨fr, ⟨I.lL, I.lK, I.lk, I.no, I.cy, fun i c hi v => ?_, I.le, I.fn, I.fs⟩, fun _ => Nat.le_refl _⟩
    by_cases hij : i = j
    · subst hij
      rw [hj] at hi
      cases hi
      exact absurd e v
    · have := I.vi i c hi v
      have e2 : (i < j + 1) ↔ (i < j) := by omega
      simp only [e2]; exact this
  | some v =>
    have lenL := I.lL
    have lenK := I.lK
    -- the value
    have hv : ∃ la, gl s.L a.1 = some la ∧ v = la + a.2.2 ∧ ∀ lb, gl s.L a.2.1 = some lb → v < lb := by
      unfold falls at e
      cases ea : gl s.L a.1 with
      | none => rw [ea] at e; cases e
      | some la =>
        rw [ea] at e
        simp only at e
        cases eb : gl s.L a.2.1 with
        | none =>
          rw [eb] at e
          simp only [Option.some.injEq] at e
          exact ⟨la, rfl, e.symm, fun lb h => by cases h⟩
        | some lb =>
          rw [eb] at e
          simp only at e
          split at e
          · simp only [Option.some.injEq] at e
            refine ⟨la, rfl, e.symm, fun lb' h => ?_⟩
            cases h
            omega
          · cases e
    obtain ⟨la, ela, ev, hlt⟩ := hv
    have gL : ∀ x, 0 ≤ x → gl (s.L.set a.2.1.toNat (some v)) x = if x = a.2.1 then some v else gl s.L x := fun x h0 => gl_set _ _ _ _ b0 h0 (by omega)
    have gK : ∀ x, 0 ≤ x → gk (s.K.set a.2.1.toNat (some j)) x = if x = a.2.1 then some j else gk s.K x := fun x h0 => gk_set _ _ _ _ b0 h0 (by omega)
    have self : a.1 = a.2.1 → a.2.2 < 0 := fun h => by
      have := hlt la (by rw [← h]; exact ela)
      omega
    -- a known length stays known and does not grow
    have down : ∀ x lx, 0 ≤ x → gl s.L x = some lx → ∃ lx', gl (s.L.set a.2.1.toNat (some v)) x = some lx' ∧ lx' ≤ lx := fun x lx h0 hx => by
      rw [gL x h0]
      by_cases h : x = a.2.1
      · rw [if_pos h]
        subst h
        exact ⟨v, rfl, by have := hlt lx hx; omega⟩
      · rw [if_neg h]
        exact ⟨lx, hx, Int.le_refl _⟩
    let fr' : Int → Nat := fun x => if x = a.2.1 then k else fr x
    have up : ∀ x, fr x ≤ fr' x := fun x => by
      show fr x ≤ if x = a.2.1 then k else fr x
      split
      · exact I.le x
      · exact Nat.le_refl _
    have fra : k - 1 ≤ fr a.1 := by
      have := I.vi j a hj (by unfold Vio; rw [e]; simp)
      rw [if_neg (by omega)] at this
      exact this
    -- paths that end at b
    have back : ∀ {x y t : Int}, LP xs (s.K.set a.2.1.toNat (some j)) x y t → 0 ≤ x → x < n → y = a.2.1 → ∃ t0, LP xs s.K x y t0 ∧ t ≤ t0 := by
      intro x y t h
      induction h with
      | nil x => exact fun _ _ _ => ⟨0, .nil x, Int.le_refl _⟩
      | @step x y t m c h hc r ih =>
        intro h0 h1 ey
        have q := hf c (List.mem_of_getElem? hc)
        obtain ⟨t0, p, le⟩ := ih q.1.1 q.1.2 ey
        rw [gK x h0] at h
        by_cases hx : x = a.2.1
        · rw [if_pos hx] at h
          cases h
          rw [hj] at hc
          cases hc
          obtain ⟨ly, g1, g2⟩ := I.path hf p a0 a1 la ela
          refine ⟨0, by rw [hx, ey]; exact .nil _, ?_⟩
          have := hlt ly (by rw [← ey]; exact g1)
          omega
        · rw [if_neg hx] at h
          exact ⟨t0 + c.2.2, .step h hc p, by omega⟩
    have loop : ∀ {t : Int}, LP1 xs (s.K.set a.2.1.toNat (some j)) a.2.1 a.2.1 t → t < 0 := by
      intro t h
      cases h with
      | @step t m c h hc r =>
        rw [gK _ b0, if_pos rfl] at h
        cases h
        rw [hj] at hc
        cases hc
        obtain ⟨t0, p, le⟩ := back r a0 a1 rfl
        obtain ⟨ly, g1, g2⟩ := I.path hf p a0 a1 la ela
        have := hlt ly g1
        omega
    have thru : ∀ {x y t : Int}, LP xs (s.K.set a.2.1.toNat (some j)) x y t → 0 ≤ x → x < n → LP xs s.K x y t ∨ ∃ t1 t2, t = t1 + t2 ∧ LP xs (s.K.set a.2.1.toNat (some j)) x a.2.1 t1 ∧ LP1 xs (s.K.set a.2.1.toNat (some j)) a.2.1 y t2 := by
      intro x y t h
      induction h with
      | nil x => exact fun _ _ => .inl (.nil x)
      | @step x y t m c h hc r ih =>
        intro h0 h1
        have q := hf c (List.mem_of_getElem? hc)
        by_cases hx : x = a.2.1
        · subst hx
          exact .inr ⟨0, _, by omega, .nil _, .step h hc r⟩
        · rcases ih q.1.1 q.1.2 with p | ⟨t1, t2, e1, p1, p2⟩
          · rw [gK x h0, if_neg hx] at h
            exact .inl (.step h hc p)
          · exact .inr ⟨t1 + c.2.2, t2, by omega, .step h hc p1, p2⟩
    refine ⟨fr', ⟨by simp [lenL], by simp [lenK], fun x m h0 h1 h => ?_, fun x h0 h1 h => ?_, fun x t h0 h1 h => ?_, fun i c hi w => ?_, fun x => ?_, fun h => ?_, fun x h => ?_⟩, up⟩
    · rw [gK x h0] at h
      by_cases hx : x = a.2.1
      · rw [if_pos hx] at h
        cases h
        obtain ⟨la', d1, d2⟩ := down a.1 la a0 ela
        refine ⟨a, la', v, hj, hx.symm, d1, by rw [gL x h0, if_pos hx], ?_, ?_⟩
        · omega
        · show (if x = a.2.1 then k else fr x) ≤ (if a.1 = a.2.1 then k else fr a.1) + 1
          rw [if_pos hx]
          split <;> omega
      · rw [if_neg hx] at h
        obtain ⟨c, lc, lx, e1, e2, e3, e4, e5, e6⟩ := I.lk x m h0 h1 h
        have q := hf c (List.mem_of_getElem? e1)
        obtain ⟨lc', d1, d2⟩ := down c.1 lc q.1.1 e3
        refine ⟨c, lc', lx, e1, e2, d1, by rw [gL x h0, if_neg hx]; exact e4, by omega, ?_⟩
        have := up c.1
        show (if x = a.2.1 then k else fr x) ≤ fr' c.1 + 1
        rw [if_neg hx]
        omega
    · rw [gK x h0]
      split
      · simp
      · rename_i hx
        refine I.no x h0 h1 ?_
        have : fr' x = fr x := if_neg hx
        omega
    · have h2 := h
      cases h with
      | @step t m c h hc r =>
        have q := hf c (List.mem_of_getElem? hc)
        by_cases hx : x = a.2.1
        · subst hx
          exact loop h2
        · rcases thru r q.1.1 q.1.2 with p | ⟨t1, t2, e1, p1, p2⟩
          · rw [gK x h0, if_neg hx] at h
            exact I.cy x _ h0 h1 (.step h hc p)
          · have := loop (p2.app (.step h hc p1))
            omega
    · have q := hf c (List.mem_of_getElem? hi)
      by_cases hc : c.1 = a.2.1
      · have e3 : fr' c.1 = k := if_pos hc
        rw [e3]
        split <;> omega
      · have e3 : fr' c.1 = fr c.1 := if_neg hc
        rw [e3]
        -- the arc was short already, or it is the one at hand
        have w' : Vio s.L c := by
          unfold Vio falls at w ⊢
          rw [gL c.1 q.1.1, if_neg hc, gL c.2.1 q.2.1] at w
          cases ec : gl s.L c.1 with
          | none => rw [ec] at w; exact absurd rfl w
          | some lc =>
            rw [ec] at w
            simp only at w ⊢
            cases ed : gl s.L c.2.1 with
            | none => simp
            | some ld =>
              by_cases hd : c.2.1 = a.2.1
              · rw [if_pos hd] at w
                simp only at w ⊢
                have := hlt ld (by rw [← hd]; exact ed)
                by_cases z : lc + c.2.2 < v
                · rw [if_pos (by omega)]; simp
                · rw [if_neg z] at w; exact absurd rfl w
              · rw [if_neg hd, ed] at w
                exact w
        have r := I.vi i c hi w'
        by_cases hij : i = j
        · subst hij
          rw [hj] at hi
          cases hi
          -- just done: not short any more
          exfalso
          unfold Vio falls at w
          rw [gL _ a0, if_neg hc, gL _ b0, if_pos rfl, ela] at w
          simp only at w
          rw [if_neg (by omega)] at w
          exact w rfl
        · have e2 : (i < j + 1) ↔ (i < j) := by omega
          simp only [e2]; exact r
    · show (if x = a.2.1 then k else fr x) ≤ k
      split
      · exact Nat.le_refl _
      · exact I.le x
    · cases h
    · cases h
      exact ⟨b0, b1, if_pos rfl⟩
theorem Inv.fold {n xs k} (hf : Fit n xs) (hk : 1 ≤ k) : ∀ (ys : List Arc) (j : Nat) (s : St) (fr : Int → Nat), xs.drop j = ys → Inv n xs k j s fr → ∃ fr', Inv n xs k xs.length ((ys.zipIdx j).foldl relax s) fr'
  | [], j, s, fr, h, I => by
    refine ⟨fr, ?_⟩
    have hj : xs.length ≤ j := List.drop_eq_nil_iff.mp h
    refine ⟨I.lL, I.lK, I.lk, I.no, I.cy, fun i c hi v => ?_, I.le, I.fn, I.fs⟩
    have := I.vi i c hi v
    have hl := (List.getElem?_eq_some_iff.mp hi).1
    rw [if_pos (by omega)] at this
    rw [if_pos hl]
    exact this
  | a :: ys, j, s, fr, h, I => by
    have hj : xs[j]? = some a := by
      have h2 : (xs.drop j)[0]? = some a := by rw [h]; rfl
      rw [List.getElem?_drop] at h2
      exact h2
    obtain ⟨fr1, I1, _⟩ := I.rel1 hf hj hk
    have h1 : xs.drop (j + 1) = ys := by rw [← List.drop_drop, h]; rfl
    exact Inv.fold hf hk ys (j + 1) _ fr1 h1 I1
/-- the round's end -/
theorem Inv.round {n xs k s fr} (hf : Fit n xs) (hk : 1 ≤ k) (I : Inv n xs k 0 { s with f := none } fr) : ∃ fr', Inv n xs k xs.length (round xs s) fr' := Inv.fold hf hk xs 0 _ fr rfl I
theorem Inv.next {n xs k s fr} (I : Inv n xs k xs.length s fr) : Inv n xs (k + 1) 0 { s with f := none } fr :=
  ⟨I.lL, I.lK, I.lk, I.no, I.cy, fun i c hi v => by
    have := I.vi i c hi v
    have hl := (List.getElem?_eq_some_iff.mp hi).1
    rw [if_pos hl] at this
    rw [if_neg (by omega)]
    exact this, fun x => Nat.le_succ_of_le (I.le x), fun _ x _ _ => by have := I.le x; omega, fun x h => by cases h⟩
theorem Inv.calm {n xs k s fr} (hf : Fit n xs) (I : Inv n xs k xs.length s fr) (h : s.f = none) : ∀ a ∈ xs, falls s.L a = none := fun a ha => by
  cases e : falls s.L a with
  | none => rfl
  | some v =>
    obtain ⟨i, hl, rfl⟩ := List.mem_iff_getElem.mp ha
    have := I.vi i _ (List.getElem?_eq_getElem hl) (by unfold Vio; rw [e]; simp)
    rw [if_pos hl] at this
    have q := hf _ ha
    have := I.fn h _ q.1.1 q.1.2
    omega
theorem rounds_ok {n xs} (hf : Fit n xs) : ∀ (m k : Nat) (s : St) (fr : Int → Nat), 1 ≤ k → Inv n xs k 0 { s with f := none } fr → ∃ k' fr', Inv n xs k' xs.length (rounds xs (m + 1) s) fr' ∧ ((rounds xs (m + 1) s).f = none ∨ k' = k + m)
  | 0, k, s, fr, hk, I => by
    obtain ⟨fr1, I1⟩ := I.round hf hk
    have e : rounds xs 1 s = BF.round xs s := by
      unfold rounds
      simp only [rounds]
      split <;> rfl
    rw [e]
    exact ⟨k, fr1, I1, .inr rfl⟩
  | m + 1, k, s, fr, hk, I => by
    obtain ⟨fr1, I1⟩ := I.round hf hk
    unfold rounds
    simp only
    split
    · exact ⟨k, fr1, I1, .inl (by assumption)⟩
    · obtain ⟨k', fr', I', h'⟩ := rounds_ok hf m (k + 1) _ fr1 (by omega) I1.next
      refine ⟨k', fr', I', ?_⟩
      rcases h' with h' | h'
      · exact .inl h'
      · exact .inr (by omega)
theorem gk_rep (n : Nat) (x : Int) : gk (List.replicate n none) x = none := by
  unfold gk
  rw [List.getElem?_replicate]
  split <;> rfl
theorem Inv.start (n : Nat) (xs : List Arc) (L : List (Option Int)) (h : L.length = n) : Inv n xs 1 0 ⟨L, List.replicate n none, none⟩ fun _ => 0 := by
  refine ⟨h, by simp, fun x m _ _ e => ?_, fun x _ _ e => by omega, fun x t _ _ e => ?_, fun i a _ _ => by simp, fun _ => by omega, fun _ _ _ _ => by omega, fun x e => by cases e⟩
  · rw [gk_rep] at e; cases e
  · cases e with
    | step e _ _ => rw [gk_rep] at e; cases e
theorem shorten_ok {n : Nat} {xs : List Arc} (hf : Fit n xs) (hn : 1 ≤ n) (L : List (Option Int)) (h : L.length = n) : ∃ k fr, Inv n xs k xs.length (shorten n xs L) fr ∧ ((shorten n xs L).f = none ∨ k = n) := by
  obtain ⟨m, rfl⟩ : ∃ m, n = m + 1 := ⟨n - 1, by omega⟩
  obtain ⟨k, fr, I, e⟩ := rounds_ok hf m 1 ⟨L, List.replicate (m + 1) none, none⟩ _ (Nat.le_refl 1) (Inv.start (m + 1) xs L h)
  refine ⟨k, fr, I, ?_⟩
  rcases e with e | e
  · exact .inl e
  · exact .inr (by omega)
/-! ### the ring -/
def ar (xs : List Arc) (m : Nat) : Arc := xs.getD m (0, 0, 0)
theorem ar_of {xs : List Arc} {m : Nat} {a : Arc} (h : xs[m]? = some a) : ar xs m = a := by
  unfold ar
  rw [List.getD_eq_getElem?_getD, h]
  rfl
def nm (K : List (Option Nat)) (x : Int) : Nat := (gk K x).getD 0
def nxt (xs : List Arc) (K : List (Option Nat)) (x : Int) : Int := (ar xs (nm K x)).1
def back (xs : List Arc) (K : List (Option Nat)) : Nat → Int → Int
  | 0, x => x
  | m + 1, x => back xs K m (nxt xs K x)
def ringFrom (xs : List Arc) (K : List (Option Nat)) (first : Int) : Nat → Int → List Nat
  | 0, _ => []
  | m + 1, x => nm K x :: if nxt xs K x = first then [] else ringFrom xs K first m (nxt xs K x)
def linkRing (n : Nat) (xs : List Arc) (K : List (Option Nat)) (v : Int) : List Nat := (ringFrom xs K (back xs K n v) n (back xs K n v)).reverse
def Chn (xs : List Arc) : Int → List Nat → Int → Prop
  | x, [], y => x = y
  | x, m :: r, y => (ar xs m).1 = x ∧ Chn xs (ar xs m).2.1 r y
structure Good (xs : List Arc) (ring : List Nat) : Prop where
  ne : ring ≠ []
  lt : ∀ m ∈ ring, m < xs.length
  len : ring.length ≤ xs.length
  ch : ∀ m, ring.getLast? = some m → Chn xs (ar xs m).2.1 ring (ar xs m).2.1
  nd : (ring.map fun m => (ar xs m).2.1).Nodup
  neg : (ring.map fun m => (ar xs m).2.2).sum < 0
theorem nodup_len : ∀ (n : Nat) (l : List Int), l.Nodup → (∀ x ∈ l, 0 ≤ x ∧ x < n) → l.length ≤ n
  | 0, [], _, _ => Nat.le_refl 0
  | 0, x :: l, _, h => by have := h x List.mem_cons_self; omega
  | n + 1, l, hd, h => by
    have h1 := nodup_len n (l.erase (n : Int)) (hd.erase _) fun x hx => by
      have h2 := h x (List.mem_of_mem_erase hx)
      have h3 : x ≠ (n : Int) := (hd.mem_erase_iff.mp hx).1
      omega
    have h2 := List.length_erase_le (a := (n : Int)) (l := l)
    have h3 : l.length ≤ (l.erase (n : Int)).length + 1 := by
      rw [List.length_erase]
      split <;> omega
    omega
theorem pigeon (n : Nat) (f : Nat → Int) (h : ∀ i, i ≤ n → 0 ≤ f i ∧ f i < n) : ∃ i j, i < j ∧ j ≤ n ∧ f i = f j := by
  apply Classical.byContradiction
  intro hc
  have hd : ((List.range (n + 1)).map f).Nodup := by
    rw [List.nodup_iff_pairwise_ne, List.pairwise_map]
    refine List.Pairwise.imp_of_mem (R := fun a b => a < b) (fun ha hb hab e => hc ⟨_, _, hab, by have := List.mem_range.mp hb; omega, e⟩) List.pairwise_lt_range
  have := nodup_len n _ hd fun x hx => by
    obtain ⟨i, hi, rfl⟩ := List.mem_map.mp hx
    exact h i (by have := List.mem_range.mp hi; omega)
  simp at this
  omega
theorem back_add (xs K) : ∀ (i j : Nat) (x : Int), back xs K (i + j) x = back xs K j (back xs K i x)
  | 0, j, x => by rw [Nat.zero_add]; rfl
  | i + 1, j, x => by
    have : i + 1 + j = (i + j) + 1 := by omega
    rw [this]
    show back xs K (i + j) (nxt xs K x) = _
    rw [back_add xs K i j]
    rfl
theorem back_succ (xs K) (i : Nat) (x : Int) : back xs K (i + 1) x = nxt xs K (back xs K i x) := by
  rw [back_add]
  rfl
theorem least {P : Nat → Prop} : ∀ (n : Nat), P n → ∃ m, P m ∧ m ≤ n ∧ ∀ i, i < m → ¬ P i
  | n, h => by
    by_cases hc : ∃ i, i < n ∧ P i
    · obtain ⟨i, hi, hp⟩ := hc
      obtain ⟨m, h1, h2, h3⟩ := least i hp
      exact ⟨m, h1, by omega, h3⟩
    · exact ⟨n, h, Nat.le_refl n, fun i hi hp => hc ⟨i, hi, hp⟩⟩
  termination_by n => n
/-- the numbers met going back -/
def nums (K : List (Option Nat)) (y : Nat → Int) : Nat → List Nat
  | 0 => []
  | m + 1 => nm K (y m) :: nums K y m
theorem ringFrom_eq (xs K) (x0 : Int) (q : Nat) (hq : back xs K q x0 = x0) (hmin : ∀ i, 0 < i → i < q → back xs K i x0 ≠ x0) : ∀ (m i : Nat), i < q → q ≤ i + m → ringFrom xs K x0 m (back xs K i x0) ++ (nums K (fun t => back xs K t x0) i) = ((nums K (fun t => back xs K t x0) q).reverse).drop i ++ nums K (fun t => back xs K t x0) i := by
  intro m
  induction m with
  | zero => intro i h1 h2; omega
  | succ m ih =>
    intro i h1 h2
    congr 1
    unfold ringFrom
    have len : ∀ q, (nums K (fun t => back xs K t x0) q).length = q := fun q => by induction q with
      | zero => rfl
      | succ q ih => simp [nums, ih]
    have get : ∀ q i, i < q → (nums K (fun t => back xs K t x0) q).reverse[i]? = some (nm K (back xs K i x0)) := fun q i hi => by
      induction q with
      | zero => omega
      | succ q ih2 =>
        simp only [nums, List.reverse_cons]
        by_cases e : i = q
        · subst e
          rw [List.getElem?_append_right (by simp [len])]
          simp [len]
        · rw [List.getElem?_append_left (by simp [len]; omega)]
          exact ih2 (by omega)
    have lr : (nums K (fun t => back xs K t x0) q).reverse.length = q := by simp [len]
    rw [List.drop_eq_getElem_cons (by omega)]
    have g := get q i h1
    rw [List.getElem?_eq_getElem (by omega)] at g
    rw [Option.some.inj g]
    congr 1
    rw [← back_succ]
    by_cases e : i + 1 = q
    · rw [if_pos (by rw [e]; exact hq), List.drop_of_length_le (by omega)]
    · rw [if_neg (hmin (i + 1) (by omega) (by omega))]
      have := ih (i + 1) (by omega) (by omega)
      exact List.append_cancel_right this
/-- links that go round -/
structure Loop (n : Nat) (xs : List Arc) (K : List (Option Nat)) (x0 : Int) (q : Nat) : Prop where
  q1 : 1 ≤ q
  qn : q ≤ n
  ret : back xs K q x0 = x0
  mn : ∀ i, 0 < i → i < q → back xs K i x0 ≠ x0
  arc : ∀ i, ∃ m a, gk K (back xs K i x0) = some m ∧ xs[m]? = some a ∧ a.2.1 = back xs K i x0 ∧ a.1 = back xs K (i + 1) x0 ∧ 0 ≤ back xs K i x0 ∧ back xs K i x0 < n
theorem Inv.loop {n xs s fr} (hf : Fit n xs) (hn : 1 ≤ n) (I : Inv n xs n xs.length s fr) {v : Int} (h : s.f = some v) : ∃ q, Loop n xs s.K (back xs s.K n v) q := by
  obtain ⟨v0, v1, v2⟩ := I.fs v h
  -- a node that fell has a link
  have one : ∀ x : Int, 0 ≤ x → x < n → gk s.K x ≠ none → ∃ m a, gk s.K x = some m ∧ xs[m]? = some a ∧ a.2.1 = x ∧ a.1 = nxt xs s.K x ∧ fr x ≤ fr (nxt xs s.K x) + 1 ∧ 0 ≤ nxt xs s.K x ∧ nxt xs s.K x < n := by
    intro x h0 h1 h2
    cases e : gk s.K x with
    | none => exact absurd e h2
    | some m =>
      obtain ⟨a, la, lx, e1, e2, e3, e4, e5, e6⟩ := I.lk x m h0 h1 e
      have q := hf a (List.mem_of_getElem? e1)
      have en : nxt xs s.K x = a.1 := by
        unfold nxt nm
        rw [e]
        show (ar xs m).1 = a.1
        rw [ar_of e1]
      rw [en]
      exact ⟨m, a, rfl, e1, e2, rfl, e6, q.1.1, q.1.2⟩
  have depth : ∀ i, i ≤ n → 0 ≤ back xs s.K i v ∧ back xs s.K i v < n ∧ n ≤ fr (back xs s.K i v) + i := by
    intro i
    induction i with
    | zero => exact fun _ => ⟨v0, v1, by show n ≤ fr v + 0; omega⟩
    | succ i ih =>
      intro hi
      obtain ⟨h0, h1, h2⟩ := ih (by omega)
      obtain ⟨m, a, e1, e2, e3, e4, e5, e6, e7⟩ := one _ h0 h1 (I.no _ h0 h1 (by omega))
      rw [back_succ]
      exact ⟨e6, e7, by omega⟩
  obtain ⟨i, j, hij, hj, e⟩ := pigeon n (fun i => back xs s.K i v) fun i hi => ⟨(depth i hi).1, (depth i hi).2.1⟩
  -- all nodes from i on are linked
  have per : ∀ t, back xs s.K (i + t) v = back xs s.K (j + t) v := fun t => by rw [back_add, back_add xs s.K j, e]
  have all : ∀ t, i ≤ t → 0 ≤ back xs s.K t v ∧ back xs s.K t v < n ∧ gk s.K (back xs s.K t v) ≠ none := by
    intro t
    induction t using Nat.strongRecOn with
    | ind t ih =>
      intro ht
      by_cases hl : t < j
      · obtain ⟨h0, h1, h2⟩ := depth t (by omega)
        exact ⟨h0, h1, I.no _ h0 h1 (by omega)⟩
      · have := per (t - j)
        have e1 : j + (t - j) = t := by omega
        rw [e1] at this
        rw [← this]
        exact ih (i + (t - j)) (by omega) (by omega)
  have retp : back xs s.K (j - i) (back xs s.K n v) = back xs s.K n v := by
    rw [← back_add]
    have := per (n - i)
    have e1 : i + (n - i) = n := by omega
    have e2 : j + (n - i) = n + (j - i) := by omega
    rw [e1, e2] at this
    exact this.symm
  obtain ⟨q, ⟨q1, q2⟩, q3, q4⟩ := least (P := fun q => 1 ≤ q ∧ back xs s.K q (back xs s.K n v) = back xs s.K n v) (j - i) ⟨by omega, retp⟩
  refine ⟨q, q1, by omega, q2, fun t t0 t1 e => q4 t t1 ⟨t0, e⟩, fun t => ?_⟩
  rw [back_succ]
  rw [← back_add]
  obtain ⟨h0, h1, h2⟩ := all (n + t) (by omega)
  obtain ⟨m, a, e1, e2, e3, e4, _⟩ := one _ h0 h1 h2
  exact ⟨m, a, e1, e2, e3, e4, h0, h1⟩
theorem Loop.good {n xs k fr} {s : St} {x0 : Int} {q : Nat} (hf : Fit n xs) (I : Inv n xs k xs.length s fr) (Lo : Loop n xs s.K x0 q) : Good xs (nums s.K (fun t => back xs s.K t x0) q) := by
  let y := fun t => back xs s.K t x0
  have arc : ∀ i, nm s.K (y i) < xs.length ∧ (ar xs (nm s.K (y i))).2.1 = y i ∧ (ar xs (nm s.K (y i))).1 = y (i + 1) := fun i => by
    obtain ⟨m, a, e1, e2, e3, e4, _⟩ := Lo.arc i
    have e5 : nm s.K (y i) = m := by unfold nm; rw [e1]; rfl
    rw [e5, ar_of e2]
    exact ⟨(List.getElem?_eq_some_iff.mp e2).1, e3, e4⟩
  have len : ∀ q, (nums s.K y q).length = q := fun q => by induction q with
    | zero => rfl
    | succ q ih => simp [nums, ih]
  -- nodes differ
  have inj : ∀ i j, i < j → j < q → y i ≠ y j := fun i j hij hj e => by
    have h := back_add xs s.K i (q - j) x0
    have h2 := back_add xs s.K j (q - j) x0
    have e2 : back xs s.K i x0 = back xs s.K j x0 := e
    rw [e2, ← h2] at h
    have e3 : j + (q - j) = q := by omega
    rw [e3, Lo.ret] at h
    exact Lo.mn (i + (q - j)) (by omega) (by omega) h
  have mem : ∀ p m, m ∈ nums s.K y p → ∃ i, i < p ∧ m = nm s.K (y i) := fun p => by induction p with
    | zero => intro m h; cases h
    | succ p ih =>
      intro m h
      rcases List.mem_cons.mp h with rfl | h
      · exact ⟨p, by omega, rfl⟩
      · obtain ⟨i, h1, h2⟩ := ih m h
        exact ⟨i, by omega, h2⟩
  have nd : ∀ p, p ≤ q → ((nums s.K y p).map fun m => (ar xs m).2.1).Nodup := fun p => by induction p with
    | zero => exact fun _ => List.nodup_nil
    | succ p ih =>
      intro hp
      simp only [nums, List.map_cons]
      refine List.nodup_cons.mpr ⟨fun h => ?_, ih (by omega)⟩
      obtain ⟨m, h1, h2⟩ := List.mem_map.mp h
      obtain ⟨i, h3, rfl⟩ := mem p m h1
      rw [(arc i).2.1, (arc p).2.1] at h2
      exact inj i p h3 (by omega) h2
  have ch : ∀ p, Chn xs (y p) (nums s.K y p) (y 0) := fun p => by induction p with
    | zero => rfl
    | succ p ih => exact ⟨(arc p).2.2, by rw [(arc p).2.1]; exact ih⟩
  have st : ∀ p, LP1 xs s.K (y p) (y (p + 1)) (0 + (ar xs (nm s.K (y p))).2.2) := fun p => by
    obtain ⟨m, a, e1, e2, e3, e4, _⟩ := Lo.arc p
    have e5 : nm s.K (y p) = m := by unfold nm; rw [e1]; rfl
    rw [e5, ar_of e2]
    exact .step e1 e2 (by rw [e4]; exact .nil _)
  have sm : ∀ p, LP1 xs s.K (y 0) (y (p + 1)) ((nums s.K y (p + 1)).map fun m => (ar xs m).2.2).sum := fun p => by induction p with
    | zero =>
      have := st 0
      simp only [nums, List.map_cons, List.map_nil, List.sum_cons, List.sum_nil]
      rw [Int.add_comm]
      exact this
    | succ p ih =>
      have := ih.app (st (p + 1)).lp
      rw [nums, List.map_cons, List.sum_cons]
      have e6 : (ar xs (nm s.K (y (p + 1)))).2.2 + ((nums s.K y (p + 1)).map fun m => (ar xs m).2.2).sum = ((nums s.K y (p + 1)).map fun m => (ar xs m).2.2).sum + (0 + (ar xs (nm s.K (y (p + 1)))).2.2) := by omega
      rw [e6]
      exact this
  have ex : ∃ p, q = p + 1 := ⟨q - 1, by have := Lo.q1; omega⟩
  have lst : ∀ p, (nums s.K y (p + 1)).getLast? = some (nm s.K (y 0)) := fun p => by induction p with
    | zero => rfl
    | succ p ih =>
      show (nm s.K (y (p + 1)) :: nums s.K y (p + 1)).getLast? = _
      rw [List.getLast?_cons, ih]
      rfl
  obtain ⟨p, rfl⟩ := ex
  refine ⟨by simp [nums], fun m h => ?_, ?_, fun m h => ?_, nd _ (Nat.le_refl _), ?_⟩
  · obtain ⟨i, _, rfl⟩ := mem _ m h
    exact (arc i).1
  · -- numbers differ, too
    have nd2 : ((nums s.K y (p + 1)).map fun m : Nat => (m : Int)).Nodup := by
      have := nd (p + 1) (Nat.le_refl _)
      rw [List.nodup_iff_pairwise_ne, List.pairwise_map] at this ⊢
      exact this.imp fun hab e => hab (by rw [Int.ofNat.inj e])
    have := nodup_len xs.length _ nd2 fun x hx => by
      obtain ⟨m, hm, rfl⟩ := List.mem_map.mp hx
      obtain ⟨i, _, rfl⟩ := mem _ m hm
      have := (arc i).1
      omega
    simpa using this
  · rw [lst p] at h
    cases h
    rw [(arc 0).2.1]
    have := ch (p + 1)
    have e : y (p + 1) = y 0 := Lo.ret
    rw [e] at this
    exact this
  · have h := sm p
    have e : y (p + 1) = y 0 := Lo.ret
    rw [e] at h
    obtain ⟨m, a, e1, e2, e3, e4, e5, e6⟩ := Lo.arc 0
    exact I.cy _ _ e5 e6 h
def Lk (n : Nat) (xs : List Arc) (K : List (Option Nat)) (x : Int) : Prop := ∃ m a, gk K x = some m ∧ xs[m]? = some a ∧ a.1 = nxt xs K x ∧ 0 ≤ x ∧ x < n
theorem Inv.steps {n xs s fr} (hf : Fit n xs) (I : Inv n xs n xs.length s fr) {v : Int} (h : s.f = some v) : ∀ i, i < n → Lk n xs s.K (back xs s.K i v) := by
  obtain ⟨v0, v1, v2⟩ := I.fs v h
  have one : ∀ x : Int, 0 ≤ x → x < n → gk s.K x ≠ none → ∃ m a, gk s.K x = some m ∧ xs[m]? = some a ∧ a.1 = nxt xs s.K x ∧ fr x ≤ fr (nxt xs s.K x) + 1 ∧ 0 ≤ nxt xs s.K x ∧ nxt xs s.K x < n := by
    intro x h0 h1 h2
    cases e : gk s.K x with
    | none => exact absurd e h2
    | some m =>
      obtain ⟨a, la, lx, e1, e2, e3, e4, e5, e6⟩ := I.lk x m h0 h1 e
      have q := hf a (List.mem_of_getElem? e1)
      have en : nxt xs s.K x = a.1 := by
        unfold nxt nm
        rw [e]
        show (ar xs m).1 = a.1
        rw [ar_of e1]
      rw [en]
      exact ⟨m, a, rfl, e1, rfl, e6, q.1.1, q.1.2⟩
  have depth : ∀ i, i ≤ n → 0 ≤ back xs s.K i v ∧ back xs s.K i v < n ∧ n ≤ fr (back xs s.K i v) + i := by
    intro i
    induction i with
    | zero => exact fun _ => ⟨v0, v1, by show n ≤ fr v + 0; omega⟩
    | succ i ih =>
      intro hi
      obtain ⟨h0, h1, h2⟩ := ih (by omega)
      obtain ⟨m, a, e1, e2, e4, e5, e6, e7⟩ := one _ h0 h1 (I.no _ h0 h1 (by omega))
      rw [back_succ]
      exact ⟨e6, e7, by omega⟩
  intro i hi
  obtain ⟨h0, h1, h2⟩ := depth i (by omega)
  obtain ⟨m, a, e1, e2, e4, _⟩ := one _ h0 h1 (I.no _ h0 h1 (by omega))
  exact ⟨m, a, e1, e2, e4, h0, h1⟩
theorem Loop.lk {n xs K x0 q} (Lo : Loop n xs K x0 q) (i : Nat) : Lk n xs K (back xs K i x0) := by
  obtain ⟨m, a, e1, e2, e3, e4, e5, e6⟩ := Lo.arc i
  exact ⟨m, a, e1, e2, by rw [e4, back_succ], e5, e6⟩
theorem linkRing_eq {n xs} {K : List (Option Nat)} {v : Int} {q : Nat} (Lo : Loop n xs K (back xs K n v) q) : linkRing n xs K v = nums K (fun t => back xs K t (back xs K n v)) q := by
  have h := ringFrom_eq xs K (back xs K n v) q Lo.ret Lo.mn n 0 (by have := Lo.q1; omega) (by have := Lo.qn; omega)
  simp only [nums, List.append_nil, List.drop_zero] at h
  unfold linkRing
  have h2 : ringFrom xs K (back xs K n v) n (back xs K n v) = (nums K (fun t => back xs K t (back xs K n v)) q).reverse := h
  rw [h2, List.reverse_reverse]
/-- what the search for a ring gives -/
def ringBelow (n : Nat) (xs : List Arc) : Option (List Nat) := match (shorten n xs (List.replicate n (some 0))).f with
  | none => none
  | some v => some (linkRing n xs (shorten n xs (List.replicate n (some 0))).K v)
theorem ring_good {n xs r} (hf : Fit n xs) (hn : 1 ≤ n) (h : ringBelow n xs = some r) : Good xs r := by
  unfold ringBelow at h
  obtain ⟨k, fr, I, e⟩ := shorten_ok hf hn (List.replicate n (some 0)) (by simp)
  split at h
  · cases h
  · rename_i v hv
    cases h
    rcases e with e | rfl
    · rw [e] at hv; cases hv
    · obtain ⟨q, Lo⟩ := I.loop hf hn hv
      rw [linkRing_eq Lo]
      exact Lo.good hf I
/-! ### rows that keep a net -/
def Keep (xs : List Arc) (p : Int → Int) : Prop := ∀ a ∈ xs, p a.2.1 ≤ p a.1 + a.2.2
theorem Keep.chn {xs p} (h : Keep xs p) : ∀ (r : List Nat) (x y : Int), (∀ m ∈ r, m < xs.length) → Chn xs x r y → p y ≤ p x + (r.map fun m => (ar xs m).2.2).sum
  | [], x, y, _, c => by
    have e : x = y := c
    subst e
    simp
  | m :: r, x, y, hl, c => by
    have h1 := h.chn r _ y (fun k hk => hl k (List.mem_cons_of_mem _ hk)) c.2
    have hm := hl m List.mem_cons_self
    have h2 := h (ar xs m) (by unfold ar; rw [List.getD_eq_getElem?_getD, List.getElem?_eq_getElem hm]; exact List.getElem_mem hm)
    have h3 := c.1
    simp only [List.map_cons, List.sum_cons]
    rw [h3] at h2
    omega
theorem Keep.no {xs p r} (h : Keep xs p) (g : Good xs r) : False := by
  cases e : r.getLast? with
  | none => exact g.ne (List.getLast?_eq_none_iff.mp e)
  | some m =>
    have := h.chn r _ _ g.lt (g.ch m e)
    have := g.neg
    omega
theorem Keep.none {n xs p} (h : Keep xs p) (hf : Fit n xs) (hn : 1 ≤ n) : ringBelow n xs = none := by
  cases e : ringBelow n xs with
  | none => rfl
  | some r => exact (h.no (ring_good hf hn e)).elim
/-- all lengths known -/
def All (n : Nat) (L : List (Option Int)) : Prop := ∀ x : Int, 0 ≤ x → x < n → gl L x ≠ none
theorem All.relax {n} {s : St} {p : Arc × Nat} (h : All n s.L) (hl : s.L.length = n) (hb : 0 ≤ p.1.2.1 ∧ p.1.2.1 < n) : All n (relax s p).L := by
  unfold BF.relax
  split
  · exact h
  · intro x h0 h1
    show gl (s.L.set p.1.2.1.toNat _) x ≠ _
    rw [gl_set _ _ _ _ hb.1 h0 (by omega)]
    split
    · simp
    · exact h x h0 h1
theorem relax_ll (s : St) (p : Arc × Nat) : (relax s p).L.length = s.L.length := by
  unfold relax
  split <;> simp
theorem All.fold {n} : ∀ (ps : List (Arc × Nat)) (s : St), All n s.L → s.L.length = n → (∀ p ∈ ps, 0 ≤ p.1.2.1 ∧ p.1.2.1 < n) → All n (ps.foldl BF.relax s).L ∧ (ps.foldl BF.relax s).L.length = n
  | [], s, h, hl, _ => ⟨h, hl⟩
  | p :: ps, s, h, hl, hp => All.fold ps (BF.relax s p) (h.relax hl (hp p List.mem_cons_self)) (by rw [relax_ll]; exact hl) fun q hq => hp q (List.mem_cons_of_mem _ hq)
theorem zip_fit {n xs} (hf : Fit n xs) : ∀ p ∈ xs.zipIdx, (0 : Int) ≤ p.1.2.1 ∧ p.1.2.1 < n := fun p hp => (hf p.1 (by
  obtain ⟨a, k⟩ := p
  have := List.mem_zipIdx hp
  simp only
  rw [this.2.2]
  exact List.getElem_mem _)).2
theorem All.rounds {n xs} (hf : Fit n xs) : ∀ (m : Nat) (s : St), All n s.L → s.L.length = n → All n (rounds xs m s).L ∧ (rounds xs m s).L.length = n
  | 0, s, h, hl => ⟨h, hl⟩
  | m + 1, s, h, hl => by
    have q : All n (BF.round xs s).L ∧ (BF.round xs s).L.length = n := All.fold xs.zipIdx { s with f := Option.none } h hl (zip_fit hf)
    unfold BF.rounds
    simp only
    split
    · exact q
    · exact All.rounds hf m _ q.1 q.2
/-- the row found -/
def theRow (n : Nat) (xs : List Arc) : List Int := (shorten n xs (List.replicate n (some 0))).L.map fun o => o.getD 0
def rowAt (r : List Int) (x : Int) : Int := r.getD x.toNat 0
theorem all_zero (n : Nat) : All n (List.replicate n (some 0)) := fun x h0 h1 => by
  unfold gl
  rw [List.getElem?_replicate, if_pos (by omega)]
  simp
theorem theRow_ok {n xs} (hf : Fit n xs) (hn : 1 ≤ n) : (theRow n xs).length = n ∧ (shorten n xs (List.replicate n (some 0))).L = (theRow n xs).map some ∧ (ringBelow n xs = none → Keep xs (rowAt (theRow n xs))) := by
  have q : All n (shorten n xs (List.replicate n (some 0))).L ∧ _ := All.rounds hf n ⟨List.replicate n (some 0), List.replicate n none, none⟩ (all_zero n) (by simp)
  have ql : (shorten n xs (List.replicate n (some 0))).L.length = n := q.2
  have e : (shorten n xs (List.replicate n (some 0))).L = (theRow n xs).map some := by
    refine List.ext_getElem (by simp [theRow]) fun i h1 h2 => ?_
    have := q.1 i (by omega) (by omega)
    unfold gl at this
    rw [Int.toNat_natCast, List.getElem?_eq_getElem h1] at this
    simp only [theRow, List.map_map, List.getElem_map, Function.comp]
    simp only [Option.getD_some] at this
    cases h : (shorten n xs (List.replicate n (some 0))).L[i] with
    | none => exact absurd h this
    | some v => rfl
  have gr : ∀ x : Int, 0 ≤ x → x < n → gl (shorten n xs (List.replicate n (some 0))).L x = some (rowAt (theRow n xs) x) := fun x h0 h1 => by
    rw [e]
    have hl : x.toNat < (theRow n xs).length := by simp [theRow, ql]; omega
    unfold gl rowAt
    rw [List.getElem?_map, List.getElem?_eq_getElem hl, List.getD_eq_getElem?_getD, List.getElem?_eq_getElem hl]
    rfl
  refine ⟨by simp [theRow, ql], e, fun h a ha => ?_⟩
  obtain ⟨k, fr, I, _⟩ := shorten_ok hf hn (List.replicate n (some 0)) (by simp)
  have hfn : (shorten n xs (List.replicate n (some 0))).f = none := by
    unfold ringBelow at h
    split at h
    · assumption
    · cases h
  have c := I.calm hf hfn a ha
  obtain ⟨⟨a0, a1⟩, b0, b1⟩ := hf a ha
  unfold falls at c
  rw [gr _ a0 a1, gr _ b0 b1] at c
  simp only at c
  split at c
  · cases c
  · omega
/-- no ring: the row; a row: no ring -/
theorem none_iff {n xs} (hf : Fit n xs) (hn : 1 ≤ n) : ringBelow n xs = none ↔ ∃ p, Keep xs p := ⟨fun h => ⟨_, (theRow_ok hf hn).2.2 h⟩, fun ⟨_, h⟩ => h.none hf hn⟩
end BF
set_option Elab.async false
set_option linter.all false
set_option maxRecDepth 100000
set_option maxHeartbeats 2000000
namespace TL
/-! ### loops by a relation -/
theorem loopF_rel {b : BT} {body : MSt} (P : List FV → MS → Prop) (step : ∀ v vs S, P (v :: vs) S → ∃ S1 S2, b v S = some S1 ∧ (body S1 = .nx S2 ∨ body S1 = .ct S2) ∧ P vs S2) : ∀ (vs : List FV) (S : MS), P vs S → ∃ S', loopF b body vs S = .nx S' ∧ P [] S'
  | [], S, h => ⟨S, rfl, h⟩
  | v :: vs, S, h => by
    obtain ⟨S1, S2, e1, e2, h2⟩ := step v vs S h
    obtain ⟨S', e3, h3⟩ := loopF_rel P step vs S2 h2
    refine ⟨S', ?_, h3⟩
    rw [loopF_cons, e1]
    simp only
    rcases e2 with e2 | e2 <;> rw [e2] <;> exact e3
/-- .. a loop that may break; Q holds behind it -/
theorem loopF_brk {b : BT} {body : MSt} (P : List FV → MS → Prop) (Q : MS → Prop) (step : ∀ v vs S, P (v :: vs) S → ∃ S1 S2, b v S = some S1 ∧ (((body S1 = .nx S2 ∨ body S1 = .ct S2) ∧ P vs S2) ∨ (body S1 = .bk S2 ∧ Q S2))) (fin : ∀ S, P [] S → Q S) : ∀ (vs : List FV) (S : MS), P vs S → ∃ S', loopF b body vs S = .nx S' ∧ Q S'
  | [], S, h => ⟨S, rfl, fin S h⟩
  | v :: vs, S, h => by
    obtain ⟨S1, S2, e1, h2⟩ := step v vs S h
    rcases h2 with ⟨e2, h2⟩ | ⟨e2, h2⟩
    · obtain ⟨S', e3, h3⟩ := loopF_brk P Q step fin vs S2 h2
      refine ⟨S', ?_, h3⟩
      rw [loopF_cons, e1]
      simp only
      rcases e2 with e2 | e2 <;> rw [e2] <;> exact e3
    · refine ⟨S2, ?_, h2⟩
      rw [loopF_cons, e1]
      simp only
      rw [e2]
      rfl
/-- .. a loop that may return -/
theorem loopF_ret {b : BT} {body : MSt} (P : List FV → MS → Prop) (R : RV → MS → Prop) (step : ∀ v vs S, P (v :: vs) S → ∃ S1 S2, b v S = some S1 ∧ (((body S1 = .nx S2 ∨ body S1 = .ct S2) ∧ P vs S2) ∨ ∃ r, body S1 = .rt r S2 ∧ R r S2)) : ∀ (vs : List FV) (S : MS), P vs S → (∃ S', loopF b body vs S = .nx S' ∧ P [] S') ∨ ∃ r S', loopF b body vs S = .rt r S' ∧ R r S'
  | [], S, h => .inl ⟨S, rfl, h⟩
  | v :: vs, S, h => by
    obtain ⟨S1, S2, e1, h2⟩ := step v vs S h
    rcases h2 with ⟨e2, h2⟩ | ⟨r, e2, h2⟩
    · have e4 : loopF b body (v :: vs) S = loopF b body vs S2 := by
        rw [loopF_cons, e1]
        simp only
        rcases e2 with e2 | e2 <;> rw [e2] <;> rfl
      rw [e4]
      exact loopF_ret P R step vs S2 h2
    · refine .inr ⟨r, S2, ?_, h2⟩
      rw [loopF_cons, e1]
      simp only
      rw [e2]
      rfl
/-! ### places -/
@[simp] theorem at_nil (sl : List Sl) (d : Option (List Int)) (j : Nat) : (MS.mk sl d).at j [] = match sl[j]? with
    | some (.own ts) => some (.own ts)
    | _ => none := by
  have e : (MS.mk sl d).at j [] = match (match sl[j]? with
    | some (.own ts) => some (OT.own ts)
    | _ => none) with
    | some t => t.at []
    | none => none := rfl
  rw [e]
  cases sl[j]? with
  | none => rfl
  | some s => cases s <;> rfl
theorem put_nil (sl : List Sl) (d : Option (List Int)) (j : Nat) (ts us : List OT) (h : sl[j]? = some (.own ts)) : (MS.mk sl d).put j [] (.own us) = ⟨(sl.map (kill j [])).set j (.own us), d⟩ := by
  unfold MS.put MS.tree
  simp only [h]
  rfl
@[simp] theorem sSub_at (mo mi me : M RV) (S : MS) : sSub mo mi me S = (me S).thn fun v S1 => (toO v S1).thn fun t S2 => (mo S2).thn fun o S3 => (mi S3).thn fun i S4 => setAt t o i S4 := rfl
theorem setAt_pl (t : OT) (j : Nat) (p : List Nat) (k : Int) (S : MS) : setAt t (.pl j p) (.fz (.int k)) S = match S.at j p with
    | some (.own us) => (match L2.ixN us.length k with
      | some n => .nx (S.put j p (.own (us.set n t)))
      | none => .stuck)
    | _ => .stuck := rfl
theorem ixN_nn {n : Nat} {i : Int} (h : 0 ≤ i) (h2 : i < n) : L2.ixN n i = some i.toNat := by
  unfold L2.ixN
  rw [if_pos h, if_pos (by omega)]
@[simp] theorem setAt_own (t : OT) (j : Nat) (i : Int) (sl : List Sl) (d : Option (List Int)) (ts : List OT) (h : sl[j]? = some (.own ts)) (h0 : 0 ≤ i) (h1 : i < ts.length) : setAt t (.pl j []) (.fz (.int i)) ⟨sl, d⟩ = .nx ⟨(sl.map (kill j [])).set j (.own (ts.set i.toNat t)), d⟩ := by
  rw [setAt_pl]
  simp only [at_nil, h, ixN_nn h0 h1, put_nil sl d j ts _ h]
@[simp] theorem kl_un (j : Nat) (p : List Nat) : kill j p .un = .un := rfl
@[simp] theorem kl_fz (j : Nat) (p : List Nat) (v : FV) : kill j p (.fz v) = .fz v := rfl
@[simp] theorem kl_own (j : Nat) (p : List Nat) (v : List OT) : kill j p (.own v) = .own v := rfl
@[simp] theorem kl_dr (j : Nat) (p : List Nat) : kill j p .dr = .dr := rfl
@[simp] theorem kl_scr (j : Nat) (p : List Nat) (v : List Int) : kill j p (.scr v) = .scr v := rfl
/-- o.append -/
@[simp] theorem sApp_at (mo m : M RV) (S : MS) : sApp mo m S = (mo S).thn fun o S1 => match listAt o S1 with
  | some _ => (m S1).thn fun v S2 => (toO v S2).thn fun t S3 => match listAt o S3 with
    | some us => if lineOk (us.length + 1) then .nx (putAt o (us ++ [t]) S3) else .stuck
    | none => .stuck
  | none => .stuck := rfl
@[simp] theorem listAt_own (j : Nat) (sl : List Sl) (d : Option (List Int)) (ts : List OT) (h : sl[j]? = some (.own ts)) : listAt (.pl j []) ⟨sl, d⟩ = some ts := by
  unfold listAt
  simp only [at_nil, h]
@[simp] theorem putAt_own (j : Nat) (us : List OT) (sl : List Sl) (d : Option (List Int)) (ts : List OT) (h : sl[j]? = some (.own ts)) : putAt (.pl j []) us ⟨sl, d⟩ = ⟨(sl.map (kill j [])).set j (.own us), d⟩ := by
  unfold putAt
  exact put_nil sl d j ts us h
theorem line_of {n : Nat} (h : n ≤ 16777216) : lineOk n = true := Nat.ble_eq_true_of_le h
/-- [x] * n -/
theorem gTimes_rep (t : OT) (v : FV) (k : Nat) (S : MS) (ht : t = .fz v) (hk : k ≤ 16777216) : gTimes (.tmp [t]) (.fz (.int k)) S = .ok (.tmp (List.replicate k (.fz v))) S := by
  subst ht
  have e : gTimes (.tmp [.fz v]) (.fz (.int k)) S = if Nat.ble (k : Int).natAbs 9223372036854775807 && (lineOk ([v].length * (k : Int).toNat) && noScr (.tmp [.fz v])) then .ok (.tmp ((List.replicate (k : Int).toNat [v]).flatten.map OT.fz)) S else .stuck := rfl
  rw [e]
  have e1 : Nat.ble (k : Int).natAbs 9223372036854775807 = true := Nat.ble_eq_true_of_le (by omega)
  have e2 : lineOk ([v].length * (k : Int).toNat) = true := line_of (by simp; omega)
  rw [e1, e2]
  have e3 : (List.replicate (k : Int).toNat [v]).flatten.map OT.fz = List.replicate k (.fz v) := by
    rw [Int.toNat_natCast]
    clear e e1 e2 hk
    induction k with
    | zero => rfl
    | succ k ih => simp [List.replicate_succ, ih]
  rw [e3]
  rfl
/-- a place, frozen -/
@[simp] theorem toF_own (j : Nat) (sl : List Sl) (d : Option (List Int)) (ts : List OT) (h : sl[j]? = some (.own ts)) : toF (.pl j []) ⟨sl, d⟩ = .ok (.lst (frzs ts)) ((MS.mk sl d).frz j [] (.lst (frzs ts))) := by
  have e : toF (.pl j []) ⟨sl, d⟩ = match (MS.mk sl d).at j [] with
    | some u => .ok u.frz ((MS.mk sl d).frz j [] u.frz)
    | none => .stuck := rfl
  rw [e]
  simp only [at_nil, h]
  rfl
@[simp] theorem frz_nil (sl : List Sl) (d : Option (List Int)) (j : Nat) (ts : List OT) (v : FV) (h : sl[j]? = some (.own ts)) : (MS.mk sl d).frz j [] v = ⟨(sl.map (thaw j [] v)).set j (.fz v), d⟩ := by
  unfold MS.frz MS.tree
  simp only [h]
  rfl
@[simp] theorem tw_un (j : Nat) (p : List Nat) (w : FV) : thaw j p w .un = .un := rfl
@[simp] theorem tw_fz (j : Nat) (p : List Nat) (w v : FV) : thaw j p w (.fz v) = .fz v := rfl
@[simp] theorem tw_own (j : Nat) (p : List Nat) (w : FV) (v : List OT) : thaw j p w (.own v) = .own v := rfl
@[simp] theorem tw_dr (j : Nat) (p : List Nat) (w : FV) : thaw j p w .dr = .dr := rfl
theorem pick_own (i : Int) (j : Nat) (sl : List Sl) (d : Option (List Int)) (ts : List OT) (u : FV) (h : sl[j]? = some (.own ts)) (h0 : 0 ≤ i) (hu : ts[i.toNat]? = some (.fz u)) : pick (.pl j []) i ⟨sl, d⟩ = .ok (.fz u) ⟨sl, d⟩ := by
  have h1 : i < ts.length := by
    have := (List.getElem?_eq_some_iff.mp hu).1
    omega
  rw [pick_pl]
  simp only [at_nil, h, ixN_nn h0 h1, hu]
theorem toO_own (j : Nat) (sl : List Sl) (d : Option (List Int)) (ts : List OT) (h : sl[j]? = some (.own ts)) : toO (.pl j []) ⟨sl, d⟩ = .ok (.fz (.lst (frzs ts))) ((MS.mk sl d).frz j [] (.lst (frzs ts))) := by
  have e : toO (.pl j []) ⟨sl, d⟩ = match (MS.mk sl d).at j [] with
    | some u => .ok (.fz u.frz) ((MS.mk sl d).frz j [] u.frz)
    | none => .stuck := rfl
  rw [e]
  simp only [at_nil, h]
  rfl
end TL
set_option Elab.async false
set_option linter.all false
set_option maxRecDepth 100000
set_option maxHeartbeats 2000000
namespace TL
theorem items_own (j : Nat) (sl : List Sl) (d : Option (List Int)) (us : List FV) (h : sl[j]? = some (.own (us.map OT.fz))) : items (.pl j []) ⟨sl, d⟩ = some us := by
  have e : items (.pl j []) ⟨sl, d⟩ = match (MS.mk sl d).at j [] with
    | some (.own ts) => allFz ts
    | _ => none := rfl
  rw [e]
  simp only [at_nil, h, allFz_map]
@[simp] theorem mRevL_at (m : M RV) (S : MS) : mRevL m S = (m S).bind fun v S1 => match items v S1 with
  | some us => .ok (.tmp (us.reverse.map OT.fz)) S1
  | none => .stuck := rfl
@[simp] theorem bTup_tup (n : Nat) (bs : BTs) (us : List FV) (S : MS) : bTup n bs (.tup us) S = if us.length = n then bs us S else none := rfl
@[simp] theorem bTup_lst (n : Nat) (bs : BTs) (us : List FV) (S : MS) : bTup n bs (.lst us) S = if us.length = n then bs us S else none := rfl
@[simp] theorem bCons_at (b : BT) (bs : BTs) (v : FV) (r : List FV) (S : MS) : bCons b bs (v :: r) S = match b v S with
    | some S1 => bs r S1
    | none => none := rfl
@[simp] theorem bNil_at (S : MS) : bNil [] S = some S := rfl
@[simp] theorem sAsg_at (b : BT) (m : M RV) (S : MS) : sAsg b m S = (m S).thn fun v S1 => (toF v S1).thn fun u S2 => match b u S2 with
  | some S3 => .nx S3
  | none => .stuck := rfl
/-! ### try -/
@[simp] theorem sTryAs_at (cat : Nat → Option Bool) (i : Nat) (mb ms : MSt) (S : MS) : sTryAs cat i mb ms S = match mb S with
  | .err e S1 => (match cat e.c with
    | some true => if i < S1.sl.length then unEx i (ms (S1.set i (.ex e))) else .stuck
    | some false => .err e S1
    | none => .stuck)
  | o => o := rfl
@[simp] theorem unEx_nx (i : Nat) (S : MS) : unEx i (.nx S) = if noEx (S.wipe [i]) = true then .nx (S.wipe [i]) else .stuck := rfl
@[simp] theorem noEx_nil (d : Option (List Int)) : noEx ⟨[], d⟩ = true := rfl
@[simp] theorem noEx_cons (s : Sl) (sl : List Sl) (d : Option (List Int)) : noEx ⟨s :: sl, d⟩ = (!isEx s && noEx ⟨sl, d⟩) := by simp [noEx]
@[simp] theorem isEx_un : isEx .un = false := rfl
@[simp] theorem isEx_fz (v : FV) : isEx (.fz v) = false := rfl
@[simp] theorem isEx_own (v : List OT) : isEx (.own v) = false := rfl
@[simp] theorem isEx_dr : isEx .dr = false := rfl
@[simp] theorem isEx_scr (v : List Int) : isEx (.scr v) = false := rfl
@[simp] theorem isEx_al (j : Nat) (p : List Nat) : isEx (.al j p) = false := rfl
@[simp] theorem mXf_at (i c k : Nat) (sl : List Sl) (d : Option (List Int)) : mXf i c k ⟨sl, d⟩ = match sl[i]? with
  | some (.ex e) => if e.c = c then (match e.fs[k]? with
      | some u => .ok (.fz u) ⟨sl, d⟩
      | none => .stuck)
    else .stuck
  | _ => .stuck := rfl
@[simp] theorem mXi_at (i c : Nat) (b : Bool) (sl : List Sl) (d : Option (List Int)) : mXi i c b ⟨sl, d⟩ = match sl[i]? with
  | some (.ex e) => if e.c = c then .ok (.fz (.bl b)) ⟨sl, d⟩ else .stuck
  | _ => .stuck := rfl
/-! ### ints in a list -/
theorem any_int (i : Int) : ∀ (ms : List Int), ((ms.map FV.int).any fun v => v.eqv (.int i)) = decide (i ∈ ms)
  | [] => rfl
  | m :: ms => by
    have h := any_int i ms
    simp only [List.map_cons, List.any_cons, h, eqv_int, List.mem_cons, Bool.decide_or]
    congr 1
    by_cases e : m = i
    · subst e; simp
    · have e2 : ¬ i = m := fun z => e z.symm
      simp [e, e2]
theorem all_flat : ∀ (ms : List Int), (ms.map FV.int).all FV.flat = true
  | [] => rfl
  | m :: ms => by simp [FV.flat]
theorem gIn_ints (ng : Bool) (i : Int) (j : Nat) (sl : List Sl) (d : Option (List Int)) (ms : List Int) (h : sl[j]? = some (.own ((ms.map FV.int).map OT.fz))) : gIn ng (.fz (.int i)) (.pl j []) ⟨sl, d⟩ = .ok (.fz (.bl (if ng then !decide (i ∈ ms) else decide (i ∈ ms)))) ⟨sl, d⟩ := by
  have e2 : seqOf (.pl j []) ⟨sl, d⟩ = some (ms.map FV.int) := items_own j sl d _ h
  unfold gIn
  rw [e2]
  simp only [any_int, all_flat]
  rfl
theorem gSum_tmp (ms : List Int) (S : MS) : gSum [.tmp ((ms.map FV.int).map OT.fz)] S = .ok (.fz (.int ms.sum)) S := by
  have e : gSum [.tmp ((ms.map FV.int).map OT.fz)] S = match itemsI (.tmp ((ms.map FV.int).map OT.fz)) S with
    | some ns => .ok (.fz (.int ns.sum)) S
    | none => .stuck := rfl
  have e2 : itemsI (.tmp ((ms.map FV.int).map OT.fz)) S = some ms := by
    unfold itemsI items
    simp only [allFz_map]
    clear e
    induction ms with
    | nil => rfl
    | cons m ms ih => simp [intsOf, ih]
  rw [e, e2]
theorem gSum_tmp' (ts : List OT) (ms : List Int) (S : MS) (h : ts = (ms.map FV.int).map OT.fz) : gSum [.tmp ts] S = .ok (.fz (.int ms.sum)) S := by
  subst h
  exact gSum_tmp ms S
theorem gTuple_own (j : Nat) (sl : List Sl) (d : Option (List Int)) (us : List FV) (h : sl[j]? = some (.own (us.map OT.fz))) : gTuple [.pl j []] ⟨sl, d⟩ = .ok (.fz (.tup us)) ⟨sl, d⟩ := by
  have e : gTuple [.pl j []] ⟨sl, d⟩ = match items (.pl j []) ⟨sl, d⟩ with
    | some us => .ok (.fz (.tup us)) ⟨sl, d⟩
    | none => .stuck := rfl
  rw [e, items_own j sl d us h]
theorem gList_own (j : Nat) (sl : List Sl) (d : Option (List Int)) (us : List FV) (h : sl[j]? = some (.own (us.map OT.fz))) : gList [.pl j []] ⟨sl, d⟩ = .ok (.tmp (us.map OT.fz)) ⟨sl, d⟩ := by
  have e : gList [.pl j []] ⟨sl, d⟩ = match items (.pl j []) ⟨sl, d⟩ with
    | some us => .ok (.tmp (us.map OT.fz)) ⟨sl, d⟩
    | none => .stuck := rfl
  rw [e, items_own j sl d us h]
@[simp] theorem frzs_ints {α : Type} (f : α → FV) (xs : List α) : frzs (xs.map fun a => OT.fz (f a)) = xs.map f := by
  have : (xs.map fun a => OT.fz (f a)) = (xs.map f).map OT.fz := by simp
  rw [this, frzs_map]
end TL
set_option Elab.async false
set_option linter.all false
set_option maxRecDepth 100000
set_option maxHeartbeats 2000000
namespace K07P
open TL K07
/-- what _law_take gives -/
def tk (ds : List Int) (n : Int) : Int := match ds.getLast? with
  | some d => d % n
  | none => 0
theorem take_eq (ds : List Int) (n : Int) (h : 0 < n) : f_law_take [.dr, .fz (.int n)] (some ds) = .ret (.fz (.int (tk ds n))) (some ds.dropLast) := by
  unfold f_law_take m_law_take
  rw [fnM_fin]
  by_cases e : ds = []
  · subst e
    simp [tk]
  · have e2 : ds[ds.length - 1]? = some (ds.getLast e) := by rw [List.getLast_eq_getElem]; exact List.getElem?_eq_getElem _
    have e3 : ds.getLast? = some (ds.getLast e) := List.getLast?_eq_some_getLast e
    simp [tk, e, e2, e3, mPopD, h]
theorem tk_lo (ds : List Int) {n : Int} (h : 0 < n) : 0 ≤ tk ds n := by
  unfold tk
  split
  · exact Int.emod_nonneg _ (by omega)
  · omega
theorem tk_hi (ds : List Int) {n : Int} (h : 0 < n) : tk ds n < n := by
  unfold tk
  split
  · exact Int.emod_lt_of_pos _ h
  · omega
@[simp] theorem call_take (ds : List Int) (n : Int) (h : 0 < n) (sl : List Sl) : callM f_law_take 2 [.dr, .fz (.int n)] ⟨sl, some ds⟩ = .ok (.fz (.int (tk ds n))) ⟨sl, some ds.dropLast⟩ := by
  simp [callM, lend, hasDr, hasAl, take_eq ds n h]
/-! ### the things -/
def arcV (a : Int × Int × Int) : FV := .tup [.int a.1, .int a.2.1, .int a.2.2]
def intsV (ns : List Int) : List FV := ns.map FV.int
def intsO (ns : List Int) : List OT := ns.map fun i => .fz (.int i)
def arcsV (xs : List (Int × Int × Int)) : List FV := xs.map arcV
def arcsO (xs : List (Int × Int × Int)) : List OT := xs.map fun a => .fz (arcV a)
/-- the kinds of a list -/
theorem whole_int (i : Int) (d : Option (List Int)) : f_is_whole [.fz (.int i)] d = .ret (.fz (.bl true)) d := by
  unfold f_is_whole m_is_whole
  rw [fnM_fin]
  simp [tyF, tIn]
end K07P
set_option Elab.async false
set_option linter.all false
set_option maxRecDepth 100000
set_option maxHeartbeats 2000000
namespace K07P
open TL K07
abbrev Arc := Int × Int × Int
def arcL (a : Arc) : FV := .lst [.int a.1, .int a.2.1, .int a.2.2]
def fits (n : Int) (a : Arc) : Bool := decide (0 ≤ a.1) && (decide (a.1 < n) && (decide (0 ≤ a.2.1) && decide (a.2.1 < n)))
theorem call_whole (v : FV) (r : Bool) (S : MS) (h : ∀ d, f_is_whole [.fz v] d = .ret (.fz (.bl r)) d) : callM f_is_whole 1 [.fz v] S = .ok (.fz (.bl r)) S := by
  simp [callM, lend, hasDr, hasAl, h]
def isW : FV → Bool
  | .int _ => true
  | _ => false
theorem whole_is (v : FV) (hc : ∀ c fs, v ≠ .obj c fs) (d : Option (List Int)) : f_is_whole [.fz v] d = .ret (.fz (.bl (isW v))) d := by
  unfold f_is_whole m_is_whole
  rw [fnM_fin]
  cases v <;> first
    | (exfalso; exact hc _ _ rfl)
    | simp [tyF, tIn, isW]
theorem triple_ok (n : Int) (a : Arc) (t : FV) (ht : t = arcV a ∨ t = arcL a) (d : Option (List Int)) : f_is_triple [.fz (.int n), .fz t] d = .ret (.fz (.bl (fits n a))) d := by
  unfold f_is_triple m_is_triple
  rw [fnM_fin]
  rcases ht with rfl | rfl <;> obtain ⟨i, j, l⟩ := a
  · simp [tyF, tIn, arcV, loopF_cons, call_whole _ _ _ (whole_int _), fits]
    by_cases h1 : 0 ≤ i <;> by_cases h2 : i < n <;> by_cases h3 : 0 ≤ j <;> simp [h1, h2, h3]
  · simp [tyF, tIn, arcL, loopF_cons, call_whole _ _ _ (whole_int _), fits]
    by_cases h1 : 0 ≤ i <;> by_cases h2 : i < n <;> by_cases h3 : 0 ≤ j <;> simp [h1, h2, h3]
theorem call_triple (n : Int) (a : Arc) (t : FV) (ht : t = arcV a ∨ t = arcL a) (S : MS) : callM f_is_triple 2 [.fz (.int n), .fz t] S = .ok (.fz (.bl (fits n a))) S := by
  simp [callM, lend, hasDr, hasAl, triple_ok n a t ht]
def tupOf : FV → FV
  | .lst xs => .tup xs
  | v => v
theorem toF_var {S : MS} {i : Nat} {v : FV} (h : S.sl[i]? = some (.fz v)) : mVar i S = .ok (.fz v) S := by
  unfold mVar
  rw [h]
/-- arcs as handed over: each triple a list or a tuple -/
def Handed (ts : List FV) (xs : List Arc) : Prop := ts.length = xs.length ∧ ∀ (i : Nat) (t : FV) (a : Arc), ts[i]? = some t → xs[i]? = some a → t = arcV a ∨ t = arcL a
theorem rows_loop (n : Int) (arcs : FV) (d : Option (List Int)) : ∀ (ts : List FV) (xs : List Arc) (k : Nat) (s2 s3 : Sl), Pl s2 → Pl s3 → Handed ts xs → (∀ a ∈ xs, fits n a = true) →
    ∃ s2' s3', loopF (bTup 2 (bCons (bName 2) (bCons (bName 3) bNil))) (sIf (mNot (mB (mFn f_is_triple 2 [] (pCons toP (mVar 0) (pCons toP (mVar 3) (pNil)))))) (sRaise 3 1 (aCons (mVar 2) (aNil))) (sNil)) (numd k ts) ⟨[.fz (.int n), .fz arcs, s2, s3], d⟩ = .nx ⟨[.fz (.int n), .fz arcs, s2', s3'], d⟩ ∧ Pl s2' ∧ Pl s3'
  | [], [], k, s2, s3, p2, p3, _, _ => ⟨s2, s3, rfl, p2, p3⟩
  | t :: ts, a :: xs, k, s2, s3, p2, p3, h, hf => by
    have ht := h.2 0 t a rfl rfl
    have hr : Handed ts xs := ⟨by simpa using h.1, fun i u b e1 e2 => h.2 (i + 1) u b (by simpa using e1) (by simpa using e2)⟩
    obtain ⟨u2, u3, e, q2, q3⟩ := rows_loop n arcs d ts xs (k + 1) (.fz (.int k)) (.fz t) (pl_fz _) (pl_fz _) hr fun b hb => hf b (List.mem_cons_of_mem _ hb)
    refine ⟨u2, u3, ?_, q2, q3⟩
    rw [← e]
    simp only [numd]
    rw [loopF_cons]
    simp [bTup, bCons, bNil, call_triple n a t ht, hf a List.mem_cons_self]
  | [], _ :: _, _, _, _, _, _, h, _ => by cases h.1
  | _ :: _, [], _, _, _, _, _, h, _ => by cases h.1
theorem handed_tup {ts : List FV} {xs : List Arc} (h : Handed ts xs) : ts.map tupOf = arcsV xs := by
  refine List.ext_getElem (by simp [arcsV, h.1]) fun i h1 h2 => ?_
  have h3 : i < ts.length := by simpa using h1
  have h4 : i < xs.length := by rw [← h.1]; exact h3
  rcases h.2 i ts[i] xs[i] (List.getElem?_eq_getElem h3) (List.getElem?_eq_getElem h4) with e | e <;> simp [arcsV, e, tupOf, arcV, arcL]
theorem handed_is {ts : List FV} {xs : List Arc} (h : Handed ts xs) : ∀ v ∈ ts, ∃ us, (v = .tup us ∨ v = .lst us) ∧ tupOf v = .tup us := by
  intro v hv
  obtain ⟨i, h1, rfl⟩ := List.mem_iff_getElem.mp hv
  have h4 : i < xs.length := by rw [← h.1]; exact h1
  rcases h.2 i ts[i] xs[i] (List.getElem?_eq_getElem h1) (List.getElem?_eq_getElem h4) with e | e
  · exact ⟨_, .inl e, by rw [e]; rfl⟩
  · exact ⟨_, .inr e, by rw [e]; rfl⟩
theorem rows_ok (n : Int) (ts : List FV) (xs : List Arc) (arcs : FV) (ha : arcs = .lst ts ∨ arcs = .tup ts) (h : Handed ts xs) (hf : ∀ a ∈ xs, fits n a = true) (hl : xs.length ≤ 16777216) (d : Option (List Int)) : f_arc_rows [.fz (.int n), .fz arcs] d = .ret (.fz (.tup (arcsV xs))) d := by
  unfold f_arc_rows m_arc_rows
  rw [fnM_fin]
  obtain ⟨s2, s3, el, p2, p3⟩ := rows_loop n arcs d ts xs 0 .un .un pl_un pl_un h hf
  have lc : lcF (bName 3) tYes' (mCall gTuple (lCons (mVar 3) lNil)) [3] ts [] ⟨[.fz (.int n), .fz arcs, s2, .un], d⟩ = .ok ((arcsV xs).map OT.fz) ⟨[.fz (.int n), .fz arcs, s2, .un], d⟩ := by
    rw [lcF_pure (g := fun v => .fz (tupOf v)) ts [] (fun v hv => ?_) (by simp [h.1]; exact hl)]
    · rw [← handed_tup h]
      simp
    · obtain ⟨us, e1, e2⟩ := handed_is h v hv
      rcases e1 with rfl | rfl <;> simp [lcStep, p2.1, p2.2, tupOf]
  rcases ha with rfl | rfl
  · simp [tyF, tIn, el, lc, p2.1, p2.2]
  · simp [tyF, tIn, el, lc, p2.1, p2.2]
end K07P
set_option Elab.async false
set_option linter.all false
set_option maxRecDepth 100000
set_option maxHeartbeats 2000000
namespace K07P
open TL K07
/-- a net -/
def netV (n : Int) (xs : List Arc) : FV := .obj 0 [.int n, .tup (arcsV xs)]
def Fits (n : Int) (xs : List Arc) : Prop := ∀ a ∈ xs, fits n a = true
theorem init_ok (n : Int) (hn : 1 ≤ n) (ts : List FV) (xs : List Arc) (arcs : FV) (ha : arcs = .lst ts ∨ arcs = .tup ts) (h : Handed ts xs) (hf : Fits n xs) (hl : xs.length ≤ 16777216) (d : Option (List Int)) :
    f_Net__init [.fz (.int n), .fz arcs] d = .ret (.fz (netV n xs)) d := by
  unfold f_Net__init m_Net__init
  rw [fnI_fin]
  have c : ∀ S, callM f_arc_rows 2 [.fz (.int n), .fz arcs] S = .ok (.fz (.tup (arcsV xs))) S := fun S => by simp [callM, lend, hasDr, hasAl, rows_ok n ts xs arcs ha h hf hl]
  have n1 : ¬ n < 1 := by omega
  simp [call_whole _ _ _ (whole_int _), n1, c, finI, netV]
theorem make_ok (n : Int) (hn : 1 ≤ n) (ts : List FV) (xs : List Arc) (arcs : FV) (ha : arcs = .lst ts ∨ arcs = .tup ts) (h : Handed ts xs) (hf : Fits n xs) (hl : xs.length ≤ 16777216) (S : MS) :
    makeM f_Net__init 3 0 2 [.fz (.int n), .fz arcs] S = .ok (.fz (netV n xs)) S := by
  simp [makeM, lend, hasDr, hasAl, init_ok n hn ts xs arcs ha h hf hl, netV]
theorem given_ok (n : Int) (xs : List Arc) (S : MS) : callM f_given_net 2 [.fz (netV n xs), .fz (.str "net")] S = .ok (.fz .non) S := by
  have e : ∀ d, f_given_net [.fz (netV n xs), .fz (.str "net")] d = .ret (.fz .non) d := fun d => by
    unfold f_given_net m_given_net
    rw [fnM_fin]
    simp [netV, tyF, is_Net]
  simp [callM, lend, hasDr, hasAl, e]
@[simp] theorem net_size (n : Int) (xs : List Arc) (S : MS) : fldR ix_size (.fz (netV n xs)) S = .ok (.fz (.int n)) S := rfl
@[simp] theorem net_arcs (n : Int) (xs : List Arc) (S : MS) : fldR ix_arcs (.fz (netV n xs)) S = .ok (.fz (.tup (arcsV xs))) S := rfl
/-! ### rows -/
def Row (v : FV) (r : List Int) : Prop := v = .lst (intsV r) ∨ v = .tup (intsV r)
theorem wrow_loop (v sz : FV) (d : Option (List Int)) : ∀ (r : List Int) (k : Nat) (s3 s4 : Sl), Pl s3 → Pl s4 →
    ∃ s3' s4', loopF (bTup 2 (bCons (bName 3) (bCons (bName 4) (bNil)))) (sIf (mOr (mNot (mB (mFn f_is_whole 1 [] (pCons toP (mVar 4) (pNil))))) (mAnd (mB (m2 (gIs true) (mVar 2) (mC .non))) (mB (m2 gLt (mVar 4) (mVar 2))))) (sRaise 2 1 (aCons (mVar 3) (aNil))) (sNil)) (numd k (intsV r)) ⟨[.fz v, .fz sz, .fz .non, s3, s4], d⟩ = .nx ⟨[.fz v, .fz sz, .fz .non, s3', s4'], d⟩ ∧ Pl s3' ∧ Pl s4'
  | [], k, s3, s4, p3, p4 => ⟨s3, s4, rfl, p3, p4⟩
  | i :: r, k, s3, s4, p3, p4 => by
    obtain ⟨u3, u4, e, q⟩ := wrow_loop v sz d r (k + 1) (.fz (.int k)) (.fz (.int i)) (pl_fz _) (pl_fz _)
    refine ⟨u3, u4, ?_, q⟩
    rw [← e]
    simp only [intsV, List.map_cons, numd]
    rw [loopF_cons]
    simp [bTup, bCons, bNil, call_whole _ _ _ (whole_int _)]
theorem wrow_ok (v : FV) (r : List Int) (h : Row v r) (sz : FV) (hs : sz = .int r.length ∨ sz = .non) (d : Option (List Int)) : f_whole_row [.fz v, .fz sz, .fz .non] d = .ret (.fz (.tup (intsV r))) d := by
  unfold f_whole_row m_whole_row
  rw [fnM_fin]
  obtain ⟨s3, s4, el, p3, p4⟩ := wrow_loop v sz d r 0 .un .un pl_un pl_un
  have l : (intsV r).length = r.length := by simp [intsV]
  rcases h with rfl | rfl <;> rcases hs with rfl | rfl <;> simp [tyF, tIn, el, l]
theorem call_wrow (v : FV) (r : List Int) (h : Row v r) (sz : FV) (hs : sz = .int r.length ∨ sz = .non) (S : MS) : callM f_whole_row 3 [.fz v, .fz sz, .fz .non] S = .ok (.fz (.tup (intsV r))) S := by
  simp [callM, lend, hasDr, hasAl, wrow_ok v r h sz hs]
/-- the entry at a node -/
def at_ (r : List Int) (i : Int) : Int := r.getD i.toNat 0
theorem at_ok (r : List Int) (i : Int) (h0 : 0 ≤ i) (h1 : i < r.length) : L2.atI (intsV r) i = some (.int (at_ r i)) := by
  have h2 : i.toNat < r.length := by omega
  rw [ix_int _ _ h0, intsV, List.getElem?_map, List.getElem?_eq_getElem h2, at_, List.getD_eq_getElem?_getD, List.getElem?_eq_getElem h2]
  rfl
def brk (r : List Int) (a : Arc) : Bool := decide (at_ r a.1 + a.2.2 < at_ r a.2.1)
def fb (r : List Int) : Nat → List Arc → Option Nat
  | _, [] => none
  | k, a :: xs => if brk r a then some k else fb r (k + 1) xs
def optV : Option Nat → FV
  | none => .non
  | some k => .int k
theorem fits_at {n : Int} {a : Arc} (h : fits n a = true) : (0 ≤ a.1 ∧ a.1 < n) ∧ 0 ≤ a.2.1 ∧ a.2.1 < n := by
  unfold fits at h
  simp at h
  omega
def brkOut (o : Option Nat) (S : MS) : Out := match o with
  | none => .nx S
  | some k => .rt (.fz (.int k)) S
theorem brk_loop (net row : FV) (r : List Int) (d : Option (List Int)) : ∀ (xs : List Arc) (k : Nat) (s3 s4 s5 s6 : Sl), Pl s3 → Pl s4 → Pl s5 → Pl s6 → Fits r.length xs →
    ∃ sl', loopF (bTup 2 (bCons (bName 3) (bCons (bTup 3 (bCons (bName 4) (bCons (bName 5) (bCons (bName 6) (bNil))))) (bNil)))) (sIf (mB (m2 gGt (m2 gIx (mVar 2) (mVar 5)) (m2 gPlus (m2 gIx (mVar 2) (mVar 4)) (mVar 6)))) (sRet (mVar 3)) (sNil)) (numd k (arcsV xs)) ⟨[.fz net, .fz row, .fz (.tup (intsV r)), s3, s4, s5, s6], d⟩ = brkOut (fb r k xs) ⟨sl', d⟩
  | [], k, s3, s4, s5, s6, p3, p4, p5, p6, _ => ⟨_, rfl⟩
  | a :: xs, k, s3, s4, s5, s6, p3, p4, p5, p6, hf => by
    obtain ⟨⟨a1, a2⟩, a3, a4⟩ := fits_at (hf a List.mem_cons_self)
    have step : ∀ X, loopF X (sIf (mB (m2 gGt (m2 gIx (mVar 2) (mVar 5)) (m2 gPlus (m2 gIx (mVar 2) (mVar 4)) (mVar 6)))) (sRet (mVar 3)) (sNil)) (numd (k + 1) (arcsV xs)) = loopF X (sIf (mB (m2 gGt (m2 gIx (mVar 2) (mVar 5)) (m2 gPlus (m2 gIx (mVar 2) (mVar 4)) (mVar 6)))) (sRet (mVar 3)) (sNil)) (numd (k + 1) (arcsV xs)) := fun _ => rfl
    obtain ⟨sl', e⟩ := brk_loop net row r d xs (k + 1) (.fz (.int k)) (.fz (.int a.1)) (.fz (.int a.2.1)) (.fz (.int a.2.2)) (pl_fz _) (pl_fz _) (pl_fz _) (pl_fz _) fun b hb => hf b (List.mem_cons_of_mem _ hb)
    unfold fb
    simp only [arcsV, List.map_cons, numd] at e ⊢
    rw [loopF_cons]
    by_cases hb : brk r a = true
    · refine ⟨[.fz net, .fz row, .fz (.tup (intsV r)), .fz (.int k), .fz (.int a.1), .fz (.int a.2.1), .fz (.int a.2.2)], ?_⟩
      rw [if_pos hb]
      unfold brk at hb
      have hb' := of_decide_eq_true hb
      simp [bTup, bCons, bNil, arcV, at_ok r _ a1 a2, at_ok r _ a3 a4, hb', brkOut]
    · refine ⟨sl', ?_⟩
      rw [if_neg hb, ← e]
      unfold brk at hb
      have hb' : ¬ (at_ r a.1 + a.2.2 < at_ r a.2.1) := fun z => hb (decide_eq_true z)
      simp [bTup, bCons, bNil, arcV, at_ok r _ a1 a2, at_ok r _ a3 a4, hb']
theorem broken_ok (n : Int) (xs : List Arc) (v : FV) (r : List Int) (h : Row v r) (hn : n = r.length) (hf : Fits n xs) (S : MS) : callM f_broken_arc 2 [.fz (netV n xs), .fz v] S = .ok (.fz (optV (fb r 0 xs))) S := by
  have e : ∀ d, f_broken_arc [.fz (netV n xs), .fz v] d = .ret (.fz (optV (fb r 0 xs))) d := fun d => by
    unfold f_broken_arc m_broken_arc
    rw [fnM_fin]
    subst hn
    obtain ⟨sl', el⟩ := brk_loop (netV r.length xs) v r d xs 0 .un .un .un .un pl_un pl_un pl_un pl_un hf
    simp [given_ok, call_wrow v r h _ (.inl rfl), el]
    cases fb r 0 xs <;> simp [brkOut, optV]
  simp [callM, lend, hasDr, hasAl, e]
theorem keeps_ok (n : Int) (xs : List Arc) (v : FV) (r : List Int) (h : Row v r) (hn : n = r.length) (hf : Fits n xs) (S : MS) : callM f_keeps 2 [.fz (netV n xs), .fz v] S = .ok (.fz (.bl (decide (fb r 0 xs = none)))) S := by
  have e : ∀ d, f_keeps [.fz (netV n xs), .fz v] d = .ret (.fz (.bl (decide (fb r 0 xs = none)))) d := fun d => by
    unfold f_keeps m_keeps
    rw [fnM_fin]
    simp [broken_ok n xs v r h hn hf]
    cases fb r 0 xs <;> simp [optV]
  simp [callM, lend, hasDr, hasAl, e]
end K07P
set_option Elab.async false
set_option linter.all false
set_option maxRecDepth 100000
set_option maxHeartbeats 2000000
namespace K07P
open TL K07
theorem lint_is (v : FV) (hc : ∀ c fs, v ≠ .obj c fs) (S : MS) : callM f_law_int 1 [.fz v] S = .ok (.fz (.bl (isW v))) S := by
  have e : ∀ d, f_law_int [.fz v] d = .ret (.fz (.bl (isW v))) d := fun d => by
    unfold f_law_int m_law_int
    rw [fnM_fin]
    cases v <;> first
      | (exfalso; exact hc _ _ rfl)
      | simp [tyF, tIn, isW]
  simp [callM, lend, hasDr, hasAl, e]
@[simp] theorem lint_int (i : Int) (S : MS) : callM f_law_int 1 [.fz (.int i)] S = .ok (.fz (.bl true)) S := lint_is _ (fun _ _ h => by cases h) S
@[simp] theorem lint_non (S : MS) : callM f_law_int 1 [.fz .non] S = .ok (.fz (.bl false)) S := lint_is _ (fun _ _ h => by cases h) S
theorem lints_loop (v sz : FV) (d : Option (List Int)) : ∀ (r : List Int) (s2 : Sl), Pl s2 → ∃ s2', loopF (bName 2) (sIf (mNot (mB (mFn f_law_int 1 [] (pCons toP (mVar 2) (pNil))))) (sRet (mC (.bl false))) (sNil)) (intsV r) ⟨[.fz v, .fz sz, s2], d⟩ = .nx ⟨[.fz v, .fz sz, s2'], d⟩
  | [], s2, _ => ⟨s2, rfl⟩
  | i :: r, s2, p => by
    obtain ⟨u, e⟩ := lints_loop v sz d r (.fz (.int i)) (pl_fz _)
    refine ⟨u, ?_⟩
    rw [← e]
    simp only [intsV, List.map_cons]
    rw [loopF_cons]
    simp
theorem lints_ok (r : List Int) (n : Int) (h : n = r.length) (S : MS) : callM f_law_ints 2 [.fz (.tup (intsV r)), .fz (.int n)] S = .ok (.fz (.bl true)) S := by
  have e : ∀ d, f_law_ints [.fz (.tup (intsV r)), .fz (.int n)] d = .ret (.fz (.bl true)) d := fun d => by
    unfold f_law_ints m_law_ints
    rw [fnM_fin]
    obtain ⟨u, el⟩ := lints_loop (.tup (intsV r)) (.int n) d r .un pl_un
    have l : ((intsV r).length : Int) = n := by simp [intsV, h]
    simp [tyF, tIn, l, el]
  simp [callM, lend, hasDr, hasAl, e]
theorem arcs_at (xs : List Arc) (k : Nat) (a : Arc) (h : xs[k]? = some a) : L2.atI (arcsV xs) (k : Int) = some (arcV a) := by
  rw [ix_nn, arcsV, List.getElem?_map, h]
  rfl
theorem row_pick (v : FV) (r : List Int) (h : Row v r) (i : Int) (h0 : 0 ≤ i) (h1 : i < r.length) (S : MS) : pick (.fz v) i S = .ok (.fz (.int (at_ r i))) S := by
  rcases h with rfl | rfl <;> simp [at_ok r i h0 h1]
theorem lfb_loop (xs : List Arc) (v : FV) (r : List Int) (h : Row v r) (hf : Fits r.length xs) (d : Option (List Int)) : ∀ (m k : Nat) (s2 : Sl), Pl s2 → k + m = xs.length →
    ∃ sl', loopF (bName 2) (sIf (mB (m2 gGt (m2 gIx (mVar 1) (m2 gIx (m2 gIx (mVar 0) (mVar 2)) (mC (.int 1)))) (m2 gPlus (m2 gIx (mVar 1) (m2 gIx (m2 gIx (mVar 0) (mVar 2)) (mC (.int 0)))) (m2 gIx (m2 gIx (mVar 0) (mVar 2)) (mC (.int 2)))))) (sRet (mVar 2)) (sNil)) (rng k m) ⟨[.fz (.lst (arcsV xs)), .fz v, s2], d⟩ = brkOut (fb r k (xs.drop k)) ⟨sl', d⟩
  | 0, k, s2, p, e => ⟨[.fz (.lst (arcsV xs)), .fz v, s2], by rw [List.drop_of_length_le (by omega)]; rfl⟩
  | m + 1, k, s2, p, e => by
    have hk : k < xs.length := by omega
    have ga : xs[k]? = some xs[k] := List.getElem?_eq_getElem hk
    obtain ⟨⟨a1, a2⟩, a3, a4⟩ := fits_at (hf xs[k] (List.getElem_mem hk))
    obtain ⟨sl', el⟩ := lfb_loop xs v r h hf d m (k + 1) (.fz (.int k)) (pl_fz _) (by omega)
    rw [List.drop_eq_getElem_cons hk, fb, rng_succ, loopF_cons]
    by_cases hb : brk r xs[k] = true
    · refine ⟨[.fz (.lst (arcsV xs)), .fz v, .fz (.int k)], ?_⟩
      rw [if_pos hb]
      have hb' := of_decide_eq_true hb
      simp [arcs_at xs k _ ga, arcV, row_pick v r h _ a1 a2, row_pick v r h _ a3 a4, hb', brkOut]
    · refine ⟨sl', ?_⟩
      rw [if_neg hb, ← el]
      have hb' : ¬ (at_ r xs[k].1 + xs[k].2.2 < at_ r xs[k].2.1) := fun z => hb (decide_eq_true z)
      simp [arcs_at xs k _ ga, arcV, row_pick v r h _ a1 a2, row_pick v r h _ a3 a4, hb']
theorem lfb_ok (xs : List Arc) (v : FV) (r : List Int) (h : Row v r) (hf : Fits r.length xs) (sm : small (xs.length : Int) = true) (S : MS) : callM f_law_first_broken 2 [.fz (.lst (arcsV xs)), .fz v] S = .ok (.fz (optV (fb r 0 xs))) S := by
  have e : ∀ d, f_law_first_broken [.fz (.lst (arcsV xs)), .fz v] d = .ret (.fz (optV (fb r 0 xs))) d := fun d => by
    unfold f_law_first_broken m_law_first_broken
    rw [fnM_fin]
    obtain ⟨sl', el⟩ := lfb_loop xs v r h hf d xs.length 0 .un pl_un (by omega)
    have l : (arcsV xs).length = xs.length := by simp [arcsV]
    simp only [List.drop_zero, Int.ofNat_zero, Int.natCast_zero] at el
    simp [l, sm, el]
    cases fb r 0 xs <;> simp [brkOut, optV]
  simp [callM, lend, hasDr, hasAl, e]
/-- the law's looks always agree -/
theorem looks_ok (n : Int) (xs : List Arc) (v : FV) (r : List Int) (h : Row v r) (hn : n = r.length) (hf : Fits n xs) (sm : small (xs.length : Int) = true) (S : MS) : callM f_law_looks 3 [.fz (netV n xs), .fz (.lst (arcsV xs)), .fz v] S = .ok (.fz (.bl true)) S := by
  have e : ∀ d, f_law_looks [.fz (netV n xs), .fz (.lst (arcsV xs)), .fz v] d = .ret (.fz (.bl true)) d := fun d => by
    unfold f_law_looks m_law_looks
    rw [fnM_fin]
    have hf' : Fits r.length xs := hn ▸ hf
    have e1 := fun S => lfb_ok xs v r h hf' sm S
    have e2 := fun S => broken_ok n xs (.lst (intsV r)) r (.inl rfl) hn hf S
    have e3 := fun S => keeps_ok n xs (.tup (intsV r)) r (.inr rfl) hn hf S
    rcases h with rfl | rfl
    · simp [e1, e2, e3]
      cases fb r 0 xs <;> simp [optV]
    · simp [e1, e2, e3]
      cases fb r 0 xs <;> simp [optV]
  simp [callM, lend, hasDr, hasAl, e]
end K07P
set_option Elab.async false
set_option linter.all false
set_option maxRecDepth 100000
set_option maxHeartbeats 2000000
namespace K07P
open TL K07
/-! ### the shortening rounds -/
def optI : Option Int → FV
  | none => .non
  | some i => .int i
def lenO (L : List (Option Int)) : List OT := L.map fun o => .fz (optI o)
def lnkO (K : List (Option Nat)) : List OT := K.map fun o => .fz (optV o)
theorem lenO_at (L : List (Option Int)) (i : Int) (h0 : 0 ≤ i) (h1 : i < L.length) : (lenO L)[i.toNat]? = some (.fz (optI (BF.gl L i))) := by
  have h : i.toNat < L.length := by omega
  unfold lenO BF.gl
  rw [List.getElem?_map, List.getElem?_eq_getElem h]
  rfl
theorem lnkO_at (L : List (Option Nat)) (i : Int) (h0 : 0 ≤ i) (h1 : i < L.length) : (lnkO L)[i.toNat]? = some (.fz (optV (BF.gk L i))) := by
  have h : i.toNat < L.length := by omega
  unfold lnkO BF.gk
  rw [List.getElem?_map, List.getElem?_eq_getElem h]
  rfl
theorem lenO_set (L : List (Option Int)) (i : Nat) (v : Int) : (lenO L).set i (.fz (.int v)) = lenO (L.set i (some v)) := by
  unfold lenO
  rw [List.map_set]
  rfl
theorem lnkO_set (L : List (Option Nat)) (i : Nat) (v : Nat) : (lnkO L).set i (.fz (.int v)) = lnkO (L.set i (some v)) := by
  unfold lnkO
  rw [List.map_set]
  rfl
@[simp] theorem lenO_len (L : List (Option Int)) : (lenO L).length = L.length := by simp [lenO]
@[simp] theorem lnkO_len (L : List (Option Nat)) : (lnkO L).length = L.length := by simp [lnkO]
def shS (net starts : FV) (d : Option (List Int)) (s : BF.St) (s5 s6 s7 s8 s9 : Sl) : MS := ⟨[.fz net, .fz starts, .own (lenO s.L), .own (lnkO s.K), .fz (optI s.f), s5, s6, s7, s8, s9], d⟩
theorem sh_step (net starts : FV) (d : Option (List Int)) (s : BF.St) (n : Int) (hL : s.L.length = n) (hK : s.K.length = n) (a : Arc) (ha : fits n a = true) (k : Nat) (s5 s6 s7 s8 s9 : Sl) (p5 : Pl s5) (p6 : Pl s6) (p7 : Pl s7) (p8 : Pl s8) (p9 : Pl s9) :
    ∃ S1, (bTup 2 (bCons (bName 6) (bCons (bTup 3 (bCons (bName 7) (bCons (bName 8) (bCons (bName 9) (bNil))))) (bNil)))) (.tup [.int k, arcV a]) (shS net starts d s s5 s6 s7 s8 s9) = some S1 ∧
      (m_shortened_b0 S1 = .nx (shS net starts d (BF.relax s (a, k)) s5 (.fz (.int k)) (.fz (.int a.1)) (.fz (.int a.2.1)) (.fz (.int a.2.2))) ∨ m_shortened_b0 S1 = .ct (shS net starts d (BF.relax s (a, k)) s5 (.fz (.int k)) (.fz (.int a.1)) (.fz (.int a.2.1)) (.fz (.int a.2.2)))) := by
  obtain ⟨⟨a1, a2⟩, a3, a4⟩ := fits_at ha
  obtain ⟨x, y, l⟩ := a
  simp only at a1 a2 a3 a4
  refine ⟨shS net starts d s s5 (.fz (.int k)) (.fz (.int x)) (.fz (.int y)) (.fz (.int l)), by simp [bTup, bCons, bNil, arcV, shS, p5.1, p6.1, p7.1, p8.1, p9.1], ?_⟩
  have rx := fun (sl : List Sl) (d : Option (List Int)) (h : sl[2]? = some (.own (lenO s.L))) => pick_own x 2 sl d _ _ h a1 (lenO_at s.L x a1 (by omega))
  have ry := fun (sl : List Sl) (d : Option (List Int)) (h : sl[2]? = some (.own (lenO s.L))) => pick_own y 2 sl d _ _ h a3 (lenO_at s.L y a3 (by omega))
  unfold BF.relax BF.falls
  simp only
  cases ex : BF.gl s.L x with
  | none =>
    rw [ex] at rx
    right
    simp [shS, rx, optI]
  | some lx =>
    rw [ex] at rx
    left
    cases ey : BF.gl s.L y with
    | none =>
      rw [ey] at ry
      simp [shS, rx, ry, optI, a3, hL, hK, a4, p5.2.2.1, lenO_set, lnkO_set, p5.1]
    | some ly =>
      rw [ey] at ry
      by_cases c : lx + l < ly
      · simp [shS, rx, ry, optI, a3, hL, hK, a4, p5.2.2.1, lenO_set, lnkO_set, p5.1, c]
      · simp [shS, rx, ry, optI, c]
theorem relax_len (s : BF.St) (p : Arc × Nat) : (BF.relax s p).L.length = s.L.length ∧ (BF.relax s p).K.length = s.K.length := by
  unfold BF.relax
  split <;> simp
theorem sh_inner (net starts : FV) (d : Option (List Int)) (n : Int) (s5 : Sl) (p5 : Pl s5) : ∀ (xs : List Arc) (k : Nat) (s : BF.St) (s6 s7 s8 s9 : Sl), Fits n xs → s.L.length = n → s.K.length = n → Pl s6 → Pl s7 → Pl s8 → Pl s9 →
    ∃ t6 t7 t8 t9, loopF (bTup 2 (bCons (bName 6) (bCons (bTup 3 (bCons (bName 7) (bCons (bName 8) (bCons (bName 9) (bNil))))) (bNil)))) m_shortened_b0 (numd k (arcsV xs)) (shS net starts d s s5 s6 s7 s8 s9) = .nx (shS net starts d ((xs.zipIdx k).foldl BF.relax s) s5 t6 t7 t8 t9) ∧ Pl t6 ∧ Pl t7 ∧ Pl t8 ∧ Pl t9
  | [], k, s, s6, s7, s8, s9, _, _, _, p6, p7, p8, p9 => ⟨s6, s7, s8, s9, rfl, p6, p7, p8, p9⟩
  | a :: xs, k, s, s6, s7, s8, s9, hf, hL, hK, p6, p7, p8, p9 => by
    obtain ⟨S1, e1, e2⟩ := sh_step net starts d s n hL hK a (hf a List.mem_cons_self) k s5 s6 s7 s8 s9 p5 p6 p7 p8 p9
    obtain ⟨r1, r2⟩ := relax_len s (a, k)
    obtain ⟨t6, t7, t8, t9, e3, q⟩ := sh_inner net starts d n s5 p5 xs (k + 1) (BF.relax s (a, k)) _ _ _ _ (fun b hb => hf b (List.mem_cons_of_mem _ hb)) (by rw [r1]; exact hL) (by rw [r2]; exact hK) (pl_fz (.int k)) (pl_fz (.int a.1)) (pl_fz (.int a.2.1)) (pl_fz (.int a.2.2))
    refine ⟨t6, t7, t8, t9, ?_, q⟩
    simp only [arcsV, List.map_cons, numd]
    rw [loopF_cons, e1]
    simp only
    rcases e2 with e2 | e2 <;> rw [e2] <;> exact e3
theorem foldl_len : ∀ (ps : List (Arc × Nat)) (s : BF.St), (ps.foldl BF.relax s).L.length = s.L.length ∧ (ps.foldl BF.relax s).K.length = s.K.length
  | [], s => ⟨rfl, rfl⟩
  | p :: ps, s => by
    obtain ⟨a, b⟩ := foldl_len ps (BF.relax s p)
    obtain ⟨c, d⟩ := relax_len s p
    exact ⟨a.trans c, b.trans d⟩
theorem round_len (xs : List Arc) (s : BF.St) : (BF.round xs s).L.length = s.L.length ∧ (BF.round xs s).K.length = s.K.length := foldl_len _ _
theorem rounds_len (xs : List Arc) : ∀ (m : Nat) (s : BF.St), (BF.rounds xs m s).L.length = s.L.length ∧ (BF.rounds xs m s).K.length = s.K.length
  | 0, s => ⟨rfl, rfl⟩
  | m + 1, s => by
    unfold BF.rounds
    simp only
    split
    · exact round_len xs s
    · obtain ⟨a, b⟩ := rounds_len xs m (BF.round xs s)
      obtain ⟨c, d⟩ := round_len xs s
      exact ⟨a.trans c, b.trans d⟩
theorem sh_outer (n : Int) (xs : List Arc) (hf : Fits n xs) (starts : FV) (d : Option (List Int)) : ∀ (m : Nat) (lo : Int) (s : BF.St) (s5 s6 s7 s8 s9 : Sl), s.L.length = n → s.K.length = n → Pl s5 → Pl s6 → Pl s7 → Pl s8 → Pl s9 →
    ∃ t5 t6 t7 t8 t9, loopF (bName 5) m_shortened_b1 (rng lo m) (shS (netV n xs) starts d s s5 s6 s7 s8 s9) = .nx (shS (netV n xs) starts d (BF.rounds xs m s) t5 t6 t7 t8 t9) ∧ Pl t5 ∧ Pl t6 ∧ Pl t7 ∧ Pl t8 ∧ Pl t9
  | 0, lo, s, s5, s6, s7, s8, s9, _, _, p5, p6, p7, p8, p9 => ⟨s5, s6, s7, s8, s9, rfl, p5, p6, p7, p8, p9⟩
  | m + 1, lo, s, s5, s6, s7, s8, s9, hL, hK, p5, p6, p7, p8, p9 => by
    obtain ⟨t6, t7, t8, t9, e3, q6, q7, q8, q9⟩ := sh_inner (netV n xs) starts d n (.fz (.int lo)) (pl_fz _) xs 0 { s with f := none } s6 s7 s8 s9 hf hL hK p6 p7 p8 p9
    have e4 : xs.zipIdx.foldl BF.relax { s with f := none } = BF.round xs s := rfl
    rw [e4] at e3
    obtain ⟨r1, r2⟩ := round_len xs s
    rw [rng_succ, loopF_cons]
    have eb : bName 5 (.int lo) (shS (netV n xs) starts d s s5 s6 s7 s8 s9) = some (shS (netV n xs) starts d s (.fz (.int lo)) s6 s7 s8 s9) := by
      simp [shS, p5.1, p6.1, p7.1, p8.1, p9.1]
    rw [eb]
    simp only
    have e5 : m_shortened_b1 (shS (netV n xs) starts d s (.fz (.int lo)) s6 s7 s8 s9) = if (BF.round xs s).f = none then .bk (shS (netV n xs) starts d (BF.round xs s) (.fz (.int lo)) t6 t7 t8 t9) else .nx (shS (netV n xs) starts d (BF.round xs s) (.fz (.int lo)) t6 t7 t8 t9) := by
      have e6 : (sSet 4 (mC .non)) (shS (netV n xs) starts d s (.fz (.int lo)) s6 s7 s8 s9) = .nx (shS (netV n xs) starts d { s with f := none } (.fz (.int lo)) s6 s7 s8 s9) := by
        simp [shS, p6.1, p7.1, p8.1, p9.1, optI]
      have e7 : (mI gEnum (aCons (mFld ix_arcs (mVar 0)) (aNil))) (shS (netV n xs) starts d { s with f := none } (.fz (.int lo)) s6 s7 s8 s9) = .ok (numd 0 (arcsV xs)) (shS (netV n xs) starts d { s with f := none } (.fz (.int lo)) s6 s7 s8 s9) := by
        simp [shS]
      rw [m_shortened_b1, sSeq_at, e6, seq_nx, sSeq_at, sFor_at, e7, thn_ok, e3, seq_nx]
      generalize BF.round xs s = z
      obtain ⟨L, K, f⟩ := z
      cases f <;> simp [shS, optI]
    rw [e5]
    unfold BF.rounds
    simp only
    by_cases c : (BF.round xs s).f = none
    · rw [if_pos c, if_pos c]
      exact ⟨_, t6, t7, t8, t9, rfl, pl_fz _, q6, q7, q8, q9⟩
    · rw [if_neg c, if_neg c]
      exact sh_outer n xs hf starts d m (lo + 1) (BF.round xs s) _ t6 t7 t8 t9 (by rw [r1]; exact hL) (by rw [r2]; exact hK) (pl_fz _) q6 q7 q8 q9
def stV (s : BF.St) : FV := .tup [.lst (s.L.map optI), .lst (s.K.map optV), optI s.f]
theorem frzs_len (L : List (Option Int)) : frzs (lenO L) = L.map optI := by
  have : lenO L = (L.map optI).map OT.fz := by simp [lenO]
  rw [this, frzs_map]
theorem frzs_lnk (L : List (Option Nat)) : frzs (lnkO L) = L.map optV := by
  have : lnkO L = (L.map optV).map OT.fz := by simp [lnkO]
  rw [this, frzs_map]
theorem shortened_ok (n : Nat) (xs : List Arc) (hf : Fits n xs) (L : List (Option Int)) (hL : L.length = n) (hn : n ≤ 16777216) (starts : FV) (hs : starts = .lst (L.map optI) ∨ starts = .tup (L.map optI)) (S : MS) :
    callM f_shortened 2 [.fz (netV n xs), .fz starts] S = .ok (.fz (stV (BF.shorten n xs L))) S := by
  have e : ∀ d, f_shortened [.fz (netV n xs), .fz starts] d = .ret (.fz (stV (BF.shorten n xs L))) d := fun d => by
    unfold f_shortened m_shortened
    rw [fnM_fin]
    obtain ⟨t5, t6, t7, t8, t9, e3, q5, q6, q7, q8, q9⟩ := sh_outer n xs hf starts d n 0 ⟨L, List.replicate n none, none⟩ .un .un .un .un .un (by simp [hL]) (by simp) pl_un pl_un pl_un pl_un pl_un
    have e4 : (sSet 2 (mCall gList (lCons (mVar 1) (lNil)))) ⟨[.fz (netV n xs), .fz starts, .un, .un, .un, .un, .un, .un, .un, .un], d⟩ = .nx ⟨[.fz (netV n xs), .fz starts, .own (lenO L), .un, .un, .un, .un, .un, .un, .un], d⟩ := by
      have lo : L.map (OT.fz ∘ optI) = lenO L := rfl
      rcases hs with rfl | rfl <;> simp [lo]
    have e5 : (sSet 3 (m2 gTimes (mLst (oCons (mC .non) (oNil))) (mFld ix_size (mVar 0)))) ⟨[.fz (netV n xs), .fz starts, .own (lenO L), .un, .un, .un, .un, .un, .un, .un], d⟩ = .nx ⟨[.fz (netV n xs), .fz starts, .own (lenO L), .own (lnkO (List.replicate n none)), .un, .un, .un, .un, .un, .un], d⟩ := by
      have lk : lnkO (List.replicate n none) = List.replicate n (OT.fz .non) := by simp [lnkO, optV]
      simp [line_of, gTimes_rep _ _ n _ rfl hn, lk]
    have e6 : (sSet 4 (mC .non)) ⟨[.fz (netV n xs), .fz starts, .own (lenO L), .own (lnkO (List.replicate n none)), .un, .un, .un, .un, .un, .un], d⟩ = .nx (shS (netV n xs) starts d ⟨L, List.replicate n none, none⟩ .un .un .un .un .un) := by
      simp [shS, optI]
    have sm : small (n : Int) = true := sm_of (by omega) (by omega)
    have e7 : (mI gRng1 (lCons (mFld ix_size (mVar 0)) (lNil))) (shS (netV n xs) starts d ⟨L, List.replicate n none, none⟩ .un .un .un .un .un) = .ok (rng 0 n) (shS (netV n xs) starts d ⟨L, List.replicate n none, none⟩ .un .un .un .un .un) := by
      simp [shS, sm]
    have e0 : [Sl.fz (netV n xs), .fz starts] ++ List.replicate (10 - [Sl.fz (netV n xs), .fz starts].length) .un = [.fz (netV n xs), .fz starts, .un, .un, .un, .un, .un, .un, .un, .un] := rfl
    rw [e0, sSeq_at, e4, seq_nx, sSeq_at, e5, seq_nx, sSeq_at, e6, seq_nx, sSeq_at, sFor_at, e7, thn_ok, e3, seq_nx]
    have e8 : BF.rounds xs n ⟨L, List.replicate n none, none⟩ = BF.shorten n xs L := rfl
    rw [e8]
    generalize BF.shorten n xs L = z
    simp [shS, frzs_len, frzs_lnk, stV, line_of]
  simp [callM, lend, hasDr, hasAl, e]
end K07P
set_option Elab.async false
set_option linter.all false
set_option maxRecDepth 100000
set_option maxHeartbeats 2000000
namespace K07P
open TL K07
theorem fitB {n : Nat} {xs : List Arc} (h : Fits n xs) : BF.Fit n xs := fun a ha => fits_at (h a ha)
theorem lk_at (K : List (Option Nat)) (x : Int) (m : Nat) (h0 : 0 ≤ x) (h : BF.gk K x = some m) : L2.atI (K.map optV) x = some (.int m) := by
  rw [ix_int _ _ h0, List.getElem?_map]
  unfold BF.gk at h
  cases e : K[x.toNat]? with
  | none => rw [e] at h; cases h
  | some o =>
    rw [e] at h
    simp only [Option.getD_some] at h
    rw [h]
    rfl
theorem nm_of {K : List (Option Nat)} {x : Int} {m : Nat} (h : BF.gk K x = some m) : BF.nm K x = m := by
  unfold BF.nm
  rw [h]
  rfl
theorem lr_loop1 (n : Nat) (xs : List Arc) (K : List (Option Nat)) (d : Option (List Int)) : ∀ (m : Nat) (lo x : Int) (s3 : Sl), Pl s3 → (∀ i, i < m → BF.Lk n xs K (BF.back xs K i x)) →
    ∃ t3, loopF (bName 3) m_link_ring_b0 (rng lo m) ⟨[.fz (netV n xs), .fz (.lst (K.map optV)), .fz (.int x), s3, .un, .un], d⟩ = .nx ⟨[.fz (netV n xs), .fz (.lst (K.map optV)), .fz (.int (BF.back xs K m x)), t3, .un, .un], d⟩ ∧ Pl t3
  | 0, lo, x, s3, p3, _ => ⟨s3, rfl, p3⟩
  | m + 1, lo, x, s3, p3, h => by
    obtain ⟨k, a, e1, e2, e3, x0, x1⟩ := h 0 (by omega)
    obtain ⟨t3, e, q⟩ := lr_loop1 n xs K d m (lo + 1) (BF.nxt xs K x) (.fz (.int lo)) (pl_fz _) fun i hi => h (i + 1) (by omega)
    refine ⟨t3, ?_, q⟩
    rw [rng_succ, loopF_cons]
    show _ = Out.nx ⟨[.fz (netV n xs), .fz (.lst (K.map optV)), .fz (.int (BF.back xs K m (BF.nxt xs K x))), t3, .un, .un], d⟩
    rw [← e]
    have e3' : a.1 = BF.nxt xs K x := e3
    simp [lk_at K x k x0 e1, arcs_at xs k a e2, arcV, e3', p3.1]
def ringO (r : List Nat) : List OT := r.map fun m : Nat => .fz (.int (m : Int))
theorem lr_loop2 (n : Nat) (xs : List Arc) (K : List (Option Nat)) (d : Option (List Int)) (first : Int) : ∀ (m : Nat) (lo x : Int) (acc : List Nat) (s3 : Sl), Pl s3 → acc.length + m ≤ 16777216 → (∀ i, i < m → BF.Lk n xs K (BF.back xs K i x)) →
    ∃ t3 y, loopF (bName 3) m_link_ring_b1 (rng lo m) ⟨[.fz (netV n xs), .fz (.lst (K.map optV)), .fz (.int x), s3, .fz (.int first), .own (ringO acc)], d⟩ = .nx ⟨[.fz (netV n xs), .fz (.lst (K.map optV)), .fz (.int y), t3, .fz (.int first), .own (ringO (acc ++ BF.ringFrom xs K first m x))], d⟩
  | 0, lo, x, acc, s3, p3, _, _ => ⟨s3, x, by simp [BF.ringFrom]⟩
  | m + 1, lo, x, acc, s3, p3, hl, h => by
    obtain ⟨k, a, e1, e2, e3, x0, x1⟩ := h 0 (by omega)
    have e3' : a.1 = BF.nxt xs K x := e3
    have hk : BF.nm K x = k := nm_of e1
    have ro : ringO acc ++ [OT.fz (.int k)] = ringO (acc ++ [k]) := by simp [ringO]
    have rl : (ringO acc).length = acc.length := by simp [ringO]
    unfold BF.ringFrom
    rw [hk]
    have st : loopF (bName 3) m_link_ring_b1 (rng lo (m + 1)) ⟨[.fz (netV n xs), .fz (.lst (K.map optV)), .fz (.int x), s3, .fz (.int first), .own (ringO acc)], d⟩ = if BF.nxt xs K x = first then .nx ⟨[.fz (netV n xs), .fz (.lst (K.map optV)), .fz (.int (BF.nxt xs K x)), .fz (.int lo), .fz (.int first), .own (ringO (acc ++ [k]))], d⟩ else loopF (bName 3) m_link_ring_b1 (rng (lo + 1) m) ⟨[.fz (netV n xs), .fz (.lst (K.map optV)), .fz (.int (BF.nxt xs K x)), .fz (.int lo), .fz (.int first), .own (ringO (acc ++ [k]))], d⟩ := by
      rw [rng_succ, loopF_cons]
      simp [lk_at K x k x0 e1, arcs_at xs k a e2, arcV, e3', p3.1, rl, line_of (show acc.length + 1 ≤ 16777216 by omega), ro]
    rw [st]
    by_cases c : BF.nxt xs K x = first
    · rw [if_pos c, if_pos c]
      exact ⟨_, _, rfl⟩
    · rw [if_neg c, if_neg c]
      obtain ⟨t3, y, e⟩ := lr_loop2 n xs K d first m (lo + 1) (BF.nxt xs K x) (acc ++ [k]) (.fz (.int lo)) (pl_fz _) (by simp; omega) fun i hi => h (i + 1) (by omega)
      refine ⟨t3, y, ?_⟩
      rw [e]
      simp
def ringV (r : List Nat) : FV := .tup (r.map fun m : Nat => .int (m : Int))
theorem link_ok (n : Nat) (xs : List Arc) (K : List (Option Nat)) (v : Int) (hn : n ≤ 16777216) (h1 : ∀ i, i < n → BF.Lk n xs K (BF.back xs K i v)) (h2 : ∀ i, i < n → BF.Lk n xs K (BF.back xs K i (BF.back xs K n v))) (S : MS) :
    callM f_link_ring 3 [.fz (netV n xs), .fz (.lst (K.map optV)), .fz (.int v)] S = .ok (.fz (ringV (BF.linkRing n xs K v))) S := by
  have e : ∀ d, f_link_ring [.fz (netV n xs), .fz (.lst (K.map optV)), .fz (.int v)] d = .ret (.fz (ringV (BF.linkRing n xs K v))) d := fun d => by
    unfold f_link_ring m_link_ring
    rw [fnM_fin]
    obtain ⟨t3, el, p3⟩ := lr_loop1 n xs K d n 0 v .un pl_un h1
    obtain ⟨u3, y, el2⟩ := lr_loop2 n xs K d (BF.back xs K n v) n 0 (BF.back xs K n v) [] t3 p3 (by simp; exact hn) h2
    have sm : small (n : Int) = true := sm_of (by omega) (by omega)
    have ln : lineOk 0 = true := rfl
    have r0 : ringO [] = [] := rfl
    have ro : ringO (BF.ringFrom xs K (BF.back xs K n v) n (BF.back xs K n v)) = ((BF.ringFrom xs K (BF.back xs K n v) n (BF.back xs K n v)).map fun m : Nat => FV.int (m : Int)).map OT.fz := by simp [ringO]
    rw [r0] at el2
    simp [sm, el, ln, p3.1, el2]
    rw [ro, items_own 5 _ d _ rfl]
    simp only
    rw [← List.map_reverse]
    simp only [er_ok]
    rw [gTuple_tmp]
    simp [ringV, BF.linkRing]
  simp [callM, lend, hasDr, hasAl, e]
def optR : Option (List Nat) → FV
  | none => .non
  | some r => ringV r
@[simp] theorem frzs_rep (n : Nat) (v : FV) : frzs (List.replicate n (OT.fz v)) = List.replicate n v := by
  have : List.replicate n (OT.fz v) = (List.replicate n v).map OT.fz := by simp
  rw [this, frzs_map]
theorem sh_zero (n : Nat) (xs : List Arc) (hf : Fits n xs) (hn : n ≤ 16777216) (S : MS) : callM f_shortened 2 [.fz (netV n xs), .fz (.lst (List.replicate n (.int 0)))] S = .ok (.fz (stV (BF.shorten n xs (List.replicate n (some 0))))) S :=
  shortened_ok n xs hf (List.replicate n (some 0)) (by simp) hn _ (.inl (by simp [optI])) S
theorem below_ok (n : Nat) (hn1 : 1 ≤ n) (hn : n ≤ 16777216) (xs : List Arc) (hf : Fits n xs) (S : MS) : callM f_ring_below 1 [.fz (netV n xs)] S = .ok (.fz (optR (BF.ringBelow n xs))) S := by
  have e : ∀ d, f_ring_below [.fz (netV n xs)] d = .ret (.fz (optR (BF.ringBelow n xs))) d := fun d => by
    unfold f_ring_below m_ring_below
    rw [fnM_fin]
    have sh := fun S => sh_zero n xs hf hn S
    obtain ⟨k, fr, I, ek⟩ := BF.shorten_ok (fitB hf) hn1 (List.replicate n (some 0)) (by simp)
    unfold BF.ringBelow
    cases ef : (BF.shorten n xs (List.replicate n (some 0))).f with
    | none => 
      simp [given_ok, line_of, gTimes_rep _ _ n _ rfl hn, sh, stV, ef, optI, optR]
    | some v =>
      have hk : k = n := by
        rcases ek with ek | ek
        · rw [ek] at ef; cases ef
        · exact ek
      subst hk
      obtain ⟨q, Lo⟩ := I.loop (fitB hf) hn1 ef
      have lk := fun S => link_ok k xs (BF.shorten k xs (List.replicate k (some 0))).K v hn (I.steps (fitB hf) ef) (fun i _ => Lo.lk i) S
      simp [given_ok, line_of, gTimes_rep _ _ k _ rfl hn, sh, stV, ef, optI, optR, lk]
  simp [callM, lend, hasDr, hasAl, e]
theorem ringless_none (n : Nat) (hn1 : 1 ≤ n) (hn : n ≤ 16777216) (xs : List Arc) (hf : Fits n xs) (h : BF.ringBelow n xs = none) (S : MS) : callM f_ringless 1 [.fz (netV n xs)] S = .ok (.fz .non) S := by
  have e : ∀ d, f_ringless [.fz (netV n xs)] d = .ret (.fz .non) d := fun d => by
    unfold f_ringless m_ringless
    rw [fnM_fin]
    simp [below_ok n hn1 hn xs hf, h, optR]
  simp [callM, lend, hasDr, hasAl, e]
theorem ringless_some (n : Nat) (hn1 : 1 ≤ n) (hn : n ≤ 16777216) (xs : List Arc) (hf : Fits n xs) (r : List Nat) (h : BF.ringBelow n xs = some r) (S : MS) : callM f_ringless 1 [.fz (netV n xs)] S = .err ⟨5, [ringV r]⟩ S := by
  have e : ∀ d, f_ringless [.fz (netV n xs)] d = .err ⟨5, [ringV r]⟩ d := fun d => by
    unfold f_ringless m_ringless
    rw [fnM_fin]
    simp [below_ok n hn1 hn xs hf, h, optR, ringV]
  simp [callM, lend, hasDr, hasAl, e]
theorem some_none (n : Nat) (hn1 : 1 ≤ n) (hn : n ≤ 16777216) (xs : List Arc) (hf : Fits n xs) (h : BF.ringBelow n xs = none) (S : MS) : callM f_some_row 1 [.fz (netV n xs)] S = .ok (.fz (.tup (intsV (BF.theRow n xs)))) S := by
  have e : ∀ d, f_some_row [.fz (netV n xs)] d = .ret (.fz (.tup (intsV (BF.theRow n xs)))) d := fun d => by
    unfold f_some_row m_some_row
    rw [fnM_fin]
    have sh := fun S => sh_zero n xs hf hn S
    obtain ⟨_, er, _⟩ := BF.theRow_ok (fitB hf) hn1
    have e2 : (BF.shorten n xs (List.replicate n (some 0))).L.map optI = intsV (BF.theRow n xs) := by
      rw [er]
      simp [intsV, optI]
    have rn : ∀ S, callM f_ringless 1 [.fz (netV n xs)] S = .ok (.fz .non) S := ringless_none n hn1 hn xs hf h
    simp [rn, line_of, gTimes_rep _ _ n _ rfl hn, sh, stV, e2]
  simp [callM, lend, hasDr, hasAl, e]
theorem some_some (n : Nat) (hn1 : 1 ≤ n) (hn : n ≤ 16777216) (xs : List Arc) (hf : Fits n xs) (r : List Nat) (h : BF.ringBelow n xs = some r) (S : MS) : callM f_some_row 1 [.fz (netV n xs)] S = .err ⟨5, [ringV r]⟩ S := by
  have e : ∀ d, f_some_row [.fz (netV n xs)] d = .err ⟨5, [ringV r]⟩ d := fun d => by
    unfold f_some_row m_some_row
    rw [fnM_fin]
    simp [ringless_some n hn1 hn xs hf r h]
  simp [callM, lend, hasDr, hasAl, e]
end K07P
set_option Elab.async false
set_option linter.all false
set_option maxRecDepth 100000
set_option maxHeartbeats 2000000
namespace K07P
open TL K07
/-! ### the law's own looks -/
theorem fb_none {r : List Int} : ∀ (xs : List Arc) (k : Nat), BF.Keep xs (BF.rowAt r) → fb r k xs = none
  | [], k, _ => rfl
  | a :: xs, k, h => by
    unfold fb brk
    have h1 : BF.rowAt r a.2.1 ≤ BF.rowAt r a.1 + a.2.2 := h a List.mem_cons_self
    have h2 : ¬ (at_ r a.1 + a.2.2 < at_ r a.2.1) := by
      show ¬ (BF.rowAt r a.1 + a.2.2 < BF.rowAt r a.2.1)
      omega
    rw [if_neg (by simp [h2])]
    exact fb_none xs (k + 1) fun b hb => h b (List.mem_cons_of_mem _ hb)
theorem handed_arcL (xs : List Arc) : Handed (xs.map arcL) xs := ⟨by simp, fun i t a h1 h2 => by
  rw [List.getElem?_map, h2] at h1
  cases h1
  exact .inr rfl⟩
theorem handed_arcV (xs : List Arc) : Handed (arcsV xs) xs := ⟨by simp [arcsV], fun i t a h1 h2 => by
  rw [arcsV, List.getElem?_map, h2] at h1
  cases h1
  exact .inl rfl⟩
def arcO (a : Arc) : OT := .own [.fz (.int a.1), .fz (.int a.2.1), .fz (.int a.2.2)]
theorem frzs_arcO : ∀ (xs : List Arc), frzs (xs.map arcO) = xs.map arcL
  | [] => rfl
  | a :: xs => by
    have := frzs_arcO xs
    simp only [List.map_cons, frzs, this]
    rfl
/-- copies of the arcs as lists -/
theorem lc_lists (xs : List Arc) (hl : xs.length ≤ 16777216) (g : M RV) (i : Nat) (vs : List Nat) (S : MS) (hg : ∀ a : Arc, ∃ S1, bName i (arcV a) S = some S1 ∧ g S1 = .ok (.tmp [.fz (.int a.1), .fz (.int a.2.1), .fz (.int a.2.2)]) S1 ∧ S1.wipe vs = S) : lcF (bName i) tYes' g vs (arcsV xs) [] S = .ok (xs.map arcO) S := by
  have := lcF_pure (b := bName i) (t := tYes') (m := g) (vs := vs) (S := S) (g := fun v => match v with
    | .tup us => .own (us.map OT.fz)
    | v => .fz v) (arcsV xs) [] (fun v hv => ?_) (by simp [arcsV]; exact hl)
  · rw [this]
    simp [arcsV, arcV, arcO]
  · obtain ⟨a, _, rfl⟩ := List.mem_map.mp hv
    obtain ⟨S1, e1, e2, e3⟩ := hg a
    unfold lcStep
    rw [e1]
    simp [e2, e3, arcV]
theorem hasrow_ok (n : Nat) (hn1 : 1 ≤ n) (hn : n ≤ 16777216) (xs : List Arc) (hl : xs.length ≤ 16777216) (hf : Fits n xs) (h : BF.ringBelow n xs = none) (S : MS) : callM f_law_has_row 2 [.fz (.int n), .fz (.lst (arcsV xs))] S = .ok (.fz (.bl true)) S := by
  have e : ∀ d, f_law_has_row [.fz (.int n), .fz (.lst (arcsV xs))] d = .ret (.fz (.bl true)) d := fun d => by
    unfold f_law_has_row m_law_has_row
    rw [fnM_fin]
    obtain ⟨rl, _, rk⟩ := BF.theRow_ok (fitB hf) hn1
    have hk := rk h
    have lc := lc_lists xs hl m_law_has_row_b0 4 [4] ⟨[.fz (.int n), .fz (.lst (arcsV xs)), .un, .un, .un], d⟩ fun a => ⟨⟨[.fz (.int n), .fz (.lst (arcsV xs)), .un, .un, .fz (arcV a)], d⟩, by simp, by simp [arcV], by simp⟩
    have sm : small (xs.length : Int) = true := sm_of (by omega) (by omega)
    have hf2 : Fits (BF.theRow n xs).length xs := by rw [rl]; exact hf
    have lf : ∀ S, callM f_law_first_broken 2 [.fz (.lst (arcsV xs)), .fz (.tup (intsV (BF.theRow n xs)))] S = .ok (.fz .non) S := fun S => by
      rw [lfb_ok xs _ (BF.theRow n xs) (.inr rfl) hf2 sm S, fb_none xs 0 hk]
      rfl
    have lk := fun S => looks_ok n xs (.tup (intsV (BF.theRow n xs))) (BF.theRow n xs) (.inr rfl) (by rw [rl]) hf sm S
    have mk := fun S => make_ok n (by omega) (xs.map arcL) xs (.lst (xs.map arcL)) (.inl rfl) (handed_arcL xs) hf hl S
    have bl := fun S => below_ok n hn1 hn xs hf S
    rw [h] at bl
    have sr := fun S => some_none n hn1 hn xs hf h S
    have li := fun S => lints_ok (BF.theRow n xs) n (by rw [rl]) S
    simp [lc, frzs_arcO, mk, bl, optR, sr, li, lf, lk]
  simp [callM, lend, hasDr, hasAl, e]
theorem rg_loop0 (xs : List Arc) (rv : FV) (d : Option (List Int)) : ∀ (r : List Nat) (s2 : Sl), Pl s2 → (∀ m ∈ r, m < xs.length) →
    ∃ t2, loopF (bName 2) m_law_ring_good_b0 (r.map fun m : Nat => .int (m : Int)) ⟨[.fz (.lst (arcsV xs)), .fz rv, s2, .un, .un, .un], d⟩ = .nx ⟨[.fz (.lst (arcsV xs)), .fz rv, t2, .un, .un, .un], d⟩ ∧ Pl t2
  | [], s2, p2, _ => ⟨s2, rfl, p2⟩
  | m :: r, s2, p2, h => by
    obtain ⟨t2, e, q⟩ := rg_loop0 xs rv d r (.fz (.int m)) (pl_fz _) fun k hk => h k (List.mem_cons_of_mem _ hk)
    refine ⟨t2, ?_, q⟩
    rw [← e]
    have hm := h m List.mem_cons_self
    have l : (arcsV xs).length = xs.length := by simp [arcsV]
    have h1 : ¬ ((m : Int) < 0) := by omega
    simp only [List.map_cons]
    rw [loopF_cons]
    simp [l, h1, hm, Nat.not_le.mpr hm]
theorem ar_at (xs : List Arc) (m : Nat) (h : m < xs.length) : xs[m]? = some (BF.ar xs m) := by
  unfold BF.ar
  rw [List.getD_eq_getElem?_getD, List.getElem?_eq_getElem h]
  rfl
theorem rg_loop1 (xs : List Arc) (rv : FV) (d : Option (List Int)) (y : Int) : ∀ (r : List Nat) (s2 : Sl) (here tot : Int) (met : List Int), Pl s2 → (∀ m ∈ r, m < xs.length) → BF.Chn xs here r y → (met ++ r.map fun m => (BF.ar xs m).2.1).Nodup → met.length + r.length ≤ 16777216 →
    ∃ t2 t4 t5, loopF (bName 2) m_law_ring_good_b1 (r.map fun m : Nat => .int (m : Int)) ⟨[.fz (.lst (arcsV xs)), .fz rv, s2, .fz (.int tot), .own ((met.map FV.int).map OT.fz), .fz (.int here)], d⟩ = .nx ⟨[.fz (.lst (arcsV xs)), .fz rv, t2, .fz (.int (tot + (r.map fun m => (BF.ar xs m).2.2).sum)), t4, t5], d⟩
  | [], s2, here, tot, met, p2, _, _, _, _ => ⟨s2, .own ((met.map FV.int).map OT.fz), .fz (.int here), by simp⟩
  | m :: r, s2, here, tot, met, p2, h, hc, hd, hl => by
    have hm := h m List.mem_cons_self
    have ea := arcs_at xs m _ (ar_at xs m hm)
    obtain ⟨c1, c2⟩ := hc
    have hd2 : (met ++ [(BF.ar xs m).2.1] ++ r.map fun m => (BF.ar xs m).2.1).Nodup := by simpa using hd
    have nin : (BF.ar xs m).2.1 ∉ met := by
      have := (List.nodup_append.mp hd2).1
      have := List.nodup_append.mp this
      intro hx
      exact this.2.2 _ hx _ (List.mem_singleton.mpr rfl) rfl
    obtain ⟨t2, t4, t5, e⟩ := rg_loop1 xs rv d y r (.fz (.int m)) (BF.ar xs m).2.1 (tot + (BF.ar xs m).2.2) (met ++ [(BF.ar xs m).2.1]) (pl_fz _) (fun k hk => h k (List.mem_cons_of_mem _ hk)) c2 hd2 (by simp at hl ⊢; omega)
    refine ⟨t2, t4, t5, ?_⟩
    have es : tot + ((m :: r).map fun m => (BF.ar xs m).2.2).sum = tot + (BF.ar xs m).2.2 + (r.map fun m => (BF.ar xs m).2.2).sum := by simp; omega
    rw [es, ← e]
    have gi := fun (sl : List Sl) (h : sl[4]? = some (.own ((met.map FV.int).map OT.fz))) => gIn_ints false (BF.ar xs m).2.1 4 sl d met h
    simp only [List.map_map] at gi
    have hlen : met.length + 1 ≤ 16777216 := by simp at hl; omega
    simp only [List.map_cons]
    rw [loopF_cons]
    simp [ea, arcV, c1, p2.1, gi, nin, line_of hlen]
theorem good_ok (xs : List Arc) (r : List Nat) (hl : xs.length ≤ 16777215) (g : BF.Good xs r) (S : MS) : callM f_law_ring_good 2 [.fz (.lst (arcsV xs)), .fz (ringV r)] S = .ok (.fz (.bl true)) S := by
  have e : ∀ d, f_law_ring_good [.fz (.lst (arcsV xs)), .fz (ringV r)] d = .ret (.fz (.bl true)) d := fun d => by
    unfold f_law_ring_good m_law_ring_good
    rw [fnM_fin]
    have ll : (arcsV xs).length = xs.length := by simp [arcsV]
    have g3 := g.len
    obtain ⟨t2, e0, p2⟩ := rg_loop0 xs (ringV r) d r .un pl_un g.lt
    cases em : r.getLast? with
    | none => exact absurd (List.getLast?_eq_none_iff.mp em) g.ne
    | some m =>
      have lr : r ≠ [] := g.ne
      have l1 : 1 ≤ r.length := by cases r with | nil => exact absurd rfl lr | cons _ _ => simp
      have hm : m < xs.length := g.lt m (List.mem_of_getLast? em)
      have ea := arcs_at xs m _ (ar_at xs m hm)
      have eL : L2.atI (r.map fun m : Nat => FV.int (m : Int)) ((r.length : Int) - 1) = some (.int (m : Int)) := by
        have e1 : (r.length : Int) - 1 = ((r.length - 1 : Nat) : Int) := by omega
        rw [e1, ix_nn, List.getElem?_map]
        rw [List.getLast?_eq_getElem?] at em
        rw [em]
        rfl
      obtain ⟨u2, u4, u5, e1⟩ := rg_loop1 xs (ringV r) d _ r t2 (BF.ar xs m).2.1 0 [] p2 g.lt (g.ch m em) (by simpa using g.nd) (by simp; omega)
      have n0 : ¬ ((r.length : Int) = 0) := by omega
      have n1 : ¬ ((xs.length : Int) < (r.length : Int)) := by omega
      have ng := g.neg
      simp only [List.map_nil, Int.zero_add] at e1
      simp only [ringV] at e0 e1 ⊢
      have li : lineOk 0 = true := rfl
      simp [tyF, tIn, ll, n0, n1, e0, eL, ea, arcV, p2.1, e1, li, ng, lr]
  simp [callM, lend, hasDr, hasAl, e]
end K07P
set_option Elab.async false
set_option linter.all false
set_option maxRecDepth 100000
set_option maxHeartbeats 2000000
namespace K07P
open TL K07
theorem naa_loop (n : Int) (xs : List Arc) (rv : FV) (d : Option (List Int)) : ∀ (r : List Nat) (k : Nat) (s2 s3 : Sl), Pl s2 → Pl s3 → (∀ m ∈ r, m < xs.length) →
    ∃ t2 t3, loopF (bTup 2 (bCons (bName 2) (bCons (bName 3) (bNil)))) m_no_arc_at_b0 (numd k (r.map fun m : Nat => .int (m : Int))) ⟨[.fz (netV n xs), .fz rv, s2, s3], d⟩ = .nx ⟨[.fz (netV n xs), .fz rv, t2, t3], d⟩ ∧ Pl t2 ∧ Pl t3
  | [], k, s2, s3, p2, p3, _ => ⟨s2, s3, rfl, p2, p3⟩
  | m :: r, k, s2, s3, p2, p3, h => by
    obtain ⟨t2, t3, e, q⟩ := naa_loop n xs rv d r (k + 1) (.fz (.int k)) (.fz (.int m)) (pl_fz _) (pl_fz _) fun k hk => h k (List.mem_cons_of_mem _ hk)
    refine ⟨t2, t3, ?_, q⟩
    rw [← e]
    have hm := h m List.mem_cons_self
    have l : (arcsV xs).length = xs.length := by simp [arcsV]
    have h1 : (0 : Int) ≤ m := by omega
    simp only [List.map_cons, numd]
    rw [loopF_cons]
    simp [call_whole _ _ _ (whole_int _), l, h1, hm, Nat.not_le.mpr hm]
theorem naa_ok (n : Int) (xs : List Arc) (r : List Nat) (h : ∀ m ∈ r, m < xs.length) (S : MS) : callM f_no_arc_at 2 [.fz (netV n xs), .fz (ringV r)] S = .ok (.fz .non) S := by
  have e : ∀ d, f_no_arc_at [.fz (netV n xs), .fz (ringV r)] d = .ret (.fz .non) d := fun d => by
    unfold f_no_arc_at m_no_arc_at
    rw [fnM_fin]
    obtain ⟨t2, t3, el, _⟩ := naa_loop n xs (ringV r) d r 0 .un .un pl_un pl_un h
    simp only [ringV] at el ⊢
    simp [given_ok, tyF, tIn, el]
  simp [callM, lend, hasDr, hasAl, e]
theorem nums_ok (n : Int) (xs : List Arc) (r : List Nat) (h : ∀ m ∈ r, m < xs.length) (S : MS) : callM f_arc_numbers 2 [.fz (netV n xs), .fz (ringV r)] S = .ok (.fz (ringV r)) S := by
  have e : ∀ d, f_arc_numbers [.fz (netV n xs), .fz (ringV r)] d = .ret (.fz (ringV r)) d := fun d => by
    unfold f_arc_numbers m_arc_numbers
    rw [fnM_fin]
    simp [naa_ok n xs r h, ringV]
    rw [← ringV, naa_ok n xs r h]
    simp [ringV]
  simp [callM, lend, hasDr, hasAl, e]
def slk (xs : List Arc) (row : List Int) (m : Nat) : Int := at_ row (BF.ar xs m).1 + (BF.ar xs m).2.2 - at_ row (BF.ar xs m).2.1
theorem ar_mem (xs : List Arc) (m : Nat) (h : m < xs.length) : BF.ar xs m ∈ xs := List.mem_of_getElem? (ar_at xs m h)
theorem slk_loop (n : Int) (xs : List Arc) (v rv : FV) (row : List Int) (hn : n = row.length) (hf : Fits n xs) (d : Option (List Int)) : ∀ (r : List Nat) (s5 s6 s7 s8 : Sl) (acc : List Int), Pl s5 → Pl s6 → Pl s7 → Pl s8 → (∀ m ∈ r, m < xs.length) → acc.length + r.length ≤ 16777216 →
    ∃ t5 t6 t7 t8, loopF (bName 5) m_slacks_b0 (r.map fun m : Nat => .int (m : Int)) ⟨[.fz (netV n xs), .fz v, .fz rv, .fz (.tup (intsV row)), .own ((acc.map FV.int).map OT.fz), s5, s6, s7, s8], d⟩ = .nx ⟨[.fz (netV n xs), .fz v, .fz rv, .fz (.tup (intsV row)), .own (((acc ++ r.map (slk xs row)).map FV.int).map OT.fz), t5, t6, t7, t8], d⟩
  | [], s5, s6, s7, s8, acc, p5, p6, p7, p8, _, _ => ⟨s5, s6, s7, s8, by simp⟩
  | m :: r, s5, s6, s7, s8, acc, p5, p6, p7, p8, h, hl => by
    have hm := h m List.mem_cons_self
    have ea := arcs_at xs m _ (ar_at xs m hm)
    obtain ⟨t5, t6, t7, t8, e⟩ := slk_loop n xs v rv row hn hf d r (.fz (.int m)) (.fz (.int (BF.ar xs m).1)) (.fz (.int (BF.ar xs m).2.1)) (.fz (.int (BF.ar xs m).2.2)) (acc ++ [slk xs row m]) (pl_fz _) (pl_fz _) (pl_fz _) (pl_fz _) (fun k hk => h k (List.mem_cons_of_mem _ hk)) (by simp at hl ⊢; omega)
    refine ⟨t5, t6, t7, t8, ?_⟩
    have es : acc ++ (m :: r).map (slk xs row) = (acc ++ [slk xs row m]) ++ r.map (slk xs row) := by simp
    rw [es, ← e]
    obtain ⟨⟨a1, a2⟩, a3, a4⟩ := fits_at (hf _ (ar_mem xs m hm))
    have hlen : acc.length + 1 ≤ 16777216 := by simp at hl; omega
    rw [hn] at a2 a4
    simp only [List.map_cons]
    rw [loopF_cons]
    simp [ea, arcV, p5.1, p6.1, p7.1, p8.1, at_ok row _ a1 a2, at_ok row _ a3 a4, line_of hlen, slk]
theorem slacks_ok (n : Int) (xs : List Arc) (v : FV) (row : List Int) (hr : Row v row) (hn : n = row.length) (hf : Fits n xs) (r : List Nat) (h : ∀ m ∈ r, m < xs.length) (hl : r.length ≤ 16777216) (S : MS) : callM f_slacks 3 [.fz (netV n xs), .fz v, .fz (ringV r)] S = .ok (.fz (.tup (intsV (r.map (slk xs row))))) S := by
  have e : ∀ d, f_slacks [.fz (netV n xs), .fz v, .fz (ringV r)] d = .ret (.fz (.tup (intsV (r.map (slk xs row))))) d := fun d => by
    unfold f_slacks m_slacks
    rw [fnM_fin]
    obtain ⟨t5, t6, t7, t8, el⟩ := slk_loop n xs v (ringV r) row hn hf d r .un .un .un .un [] pl_un pl_un pl_un pl_un h (by simp; exact hl)
    have li : lineOk 0 = true := rfl
    have na := fun S => nums_ok n xs r h S
    have wr := fun S => call_wrow v row hr (.int n) (.inl (by rw [hn])) S
    simp only [List.nil_append, List.map_nil] at el
    generalize hv : ringV r = rv at *
    have gt : ∀ (sl : List Sl) (h : sl[4]? = some (.own (((r.map (slk xs row)).map FV.int).map OT.fz))), gTuple [.pl 4 []] ⟨sl, d⟩ = .ok (.fz (.tup ((r.map (slk xs row)).map FV.int))) ⟨sl, d⟩ := fun sl h => gTuple_own 4 sl d _ h
    have ts : ∀ S, toSeq (.fz rv) S = .ok (r.map fun m : Nat => .int (m : Int)) S := fun S => by rw [← hv]; rfl
    simp only [sSeq_at, sExpr_at, mFn_at, pCons_at, pNil_at, mVar_at, sSet_at, mFld_at, sFor_at, mSeq_at, sRet_at, mCall_at, lCons_at, lNil_at, mLst_at, oNil_at]
    simp [given_ok, wr, li, na, ts, el]
    rw [List.map_map] at gt
    simp [gt, intsV]
  simp [callM, lend, hasDr, hasAl, e]
end K07P
set_option Elab.async false
set_option linter.all false
set_option maxRecDepth 100000
set_option maxHeartbeats 2000000
namespace K07P
open TL K07
theorem slk_sum (xs : List Arc) (row : List Int) : ∀ (r : List Nat) (x y : Int), BF.Chn xs x r y → (r.map (slk xs row)).sum = (r.map fun m => (BF.ar xs m).2.2).sum + at_ row x - at_ row y
  | [], x, y, h => by
    have e : x = y := h
    subst e
    simp
  | m :: r, x, y, h => by
    have := slk_sum xs row r _ y h.2
    have h1 := h.1
    simp only [List.map_cons, List.sum_cons, this, slk, h1]
    omega
theorem slk_good {xs : List Arc} {r : List Nat} (g : BF.Good xs r) (row : List Int) : (r.map (slk xs row)).sum = (r.map fun m => (BF.ar xs m).2.2).sum := by
  cases em : r.getLast? with
  | none => exact absurd (List.getLast?_eq_none_iff.mp em) g.ne
  | some m =>
    have := slk_sum xs row r _ _ (g.ch m em)
    omega
theorem hr_loop (n : Int) (xs : List Arc) (row : List Int) (hn : n = row.length) (hf : Fits n xs) (r : List Nat) (h : ∀ m ∈ r, m < xs.length) (d : Option (List Int)) (z3 z5 z6 : FV) : ∀ (m k : Nat) (s8 s10 s11 s12 : Sl), Pl s8 → Pl s10 → Pl s11 → Pl s12 → k + m = r.length →
    ∃ t8 t10 t11 t12, loopF (bName 8) m_law_has_ring_b0 (rng k m) ⟨[.fz (.int n), .fz (.lst (arcsV xs)), .fz (.lst (intsV row)), .fz z3, .fz (ringV r), .fz z5, .fz z6, .fz (.tup (intsV (r.map (slk xs row)))), s8, .un, s10, s11, s12, .un], d⟩ = .nx ⟨[.fz (.int n), .fz (.lst (arcsV xs)), .fz (.lst (intsV row)), .fz z3, .fz (ringV r), .fz z5, .fz z6, .fz (.tup (intsV (r.map (slk xs row)))), t8, .un, t10, t11, t12, .un], d⟩ ∧ Pl t8 ∧ Pl t10 ∧ Pl t11 ∧ Pl t12
  | 0, k, s8, s10, s11, s12, p8, p10, p11, p12, _ => ⟨s8, s10, s11, s12, rfl, p8, p10, p11, p12⟩
  | m + 1, k, s8, s10, s11, s12, p8, p10, p11, p12, hk => by
    have kl : k < r.length := by omega
    obtain ⟨q, hq⟩ : ∃ q, r[k]? = some q := ⟨_, List.getElem?_eq_getElem kl⟩
    have hm := h q (List.mem_of_getElem? hq)
    have ea := arcs_at xs q _ (ar_at xs q hm)
    obtain ⟨⟨a1, a2⟩, a3, a4⟩ := fits_at (hf _ (ar_mem xs q hm))
    rw [hn] at a2 a4
    obtain ⟨t8, t10, t11, t12, e, qq⟩ := hr_loop n xs row hn hf r h d z3 z5 z6 m (k + 1) (.fz (.int k)) (.fz (.int (BF.ar xs q).1)) (.fz (.int (BF.ar xs q).2.1)) (.fz (.int (BF.ar xs q).2.2)) (pl_fz _) (pl_fz _) (pl_fz _) (pl_fz _) (by omega)
    refine ⟨t8, t10, t11, t12, ?_, qq⟩
    rw [← e]
    have er : L2.atI (r.map fun m : Nat => FV.int (m : Int)) (k : Int) = some (.int (q : Int)) := by
      rw [ix_nn, List.getElem?_map, hq]
      rfl
    have et : L2.atI (intsV (r.map (slk xs row))) (k : Int) = some (.int (slk xs row q)) := by
      rw [ix_nn, intsV, List.getElem?_map, List.getElem?_map, hq]
      rfl
    rw [rng_succ, loopF_cons]
    simp [ringV, er, et, ea, arcV, p8.1, p10.1, p11.1, p12.1, at_ok row _ a1 a2, at_ok row _ a3 a4, slk]
theorem hasring_ok (n : Nat) (hn1 : 1 ≤ n) (hn : n ≤ 16777216) (xs : List Arc) (hl : xs.length ≤ 16777215) (hf : Fits n xs) (row : List Int) (hr : n = row.length) (r : List Nat) (h : BF.ringBelow n xs = some r) (S : MS) : callM f_law_has_ring 3 [.fz (.int n), .fz (.lst (arcsV xs)), .fz (.lst (intsV row))] S = .ok (.fz (.bl true)) S := by
  have e : ∀ d, f_law_has_ring [.fz (.int n), .fz (.lst (arcsV xs)), .fz (.lst (intsV row))] d = .ret (.fz (.bl true)) d := fun d => by
    unfold f_law_has_ring m_law_has_ring
    rw [fnM_fin]
    have g := BF.ring_good (fitB hf) hn1 h
    have hri : (n : Int) = row.length := by omega
    have mk := fun S => make_ok n (by omega) (arcsV xs) xs (.tup (arcsV xs)) (.inr rfl) (handed_arcV xs) hf (by omega) S
    have bl := fun S => below_ok n hn1 hn xs hf S
    rw [h] at bl
    have go := fun S => good_ok xs r hl g S
    have sr := fun S => some_some n hn1 hn xs hf r h S
    have glen := g.len
    have sk := fun S => slacks_ok n xs (.lst (intsV row)) row (.inl rfl) hri hf r g.lt (by omega) S
    have li := fun S => lints_ok (r.map (slk xs row)) r.length (by simp) S
    have sm : small (r.length : Int) = true := sm_of (by omega) (by omega)
    have sm2 : small (xs.length : Int) = true := sm_of (by omega) (by omega)
    have lk := fun S => looks_ok n xs (.lst (intsV row)) row (.inl rfl) hri hf sm2 S
    obtain ⟨t8, t10, t11, t12, el, p8, p10, p11, p12⟩ := hr_loop n xs row hri hf r g.lt d (netV n xs) (ringV r) (.bl true) r.length 0 .un .un .un .un pl_un pl_un pl_un pl_un (by omega)
    have lc : lcF (bName 13) tYes' m_law_has_ring_b1 [13] (r.map fun m : Nat => .int (m : Int)) [] ⟨[.fz (.int n), .fz (.lst (arcsV xs)), .fz (.lst (intsV row)), .fz (netV n xs), .fz (ringV r), .fz (ringV r), .fz (.bl true), .fz (.tup (intsV (r.map (slk xs row)))), t8, .un, t10, t11, t12, .un], d⟩ = .ok (((r.map fun m => (BF.ar xs m).2.2).map FV.int).map OT.fz) ⟨[.fz (.int n), .fz (.lst (arcsV xs)), .fz (.lst (intsV row)), .fz (netV n xs), .fz (ringV r), .fz (ringV r), .fz (.bl true), .fz (.tup (intsV (r.map (slk xs row)))), t8, .un, t10, t11, t12, .un], d⟩ := by
      rw [lcF_pure (g := fun v => match v with
        | .int i => .fz (.int (BF.ar xs i.toNat).2.2)
        | v => .fz v) _ [] (fun v hv => ?_) (by simp; omega)]
      · simp
      · obtain ⟨m, hm, rfl⟩ := List.mem_map.mp hv
        have ea := arcs_at xs m _ (ar_at xs m (g.lt m hm))
        unfold lcStep
        simp [ea, arcV, p8.1, p10.1, p11.1, p12.1, p8.2.1, p10.2.1, p11.2.1, p12.2.1]
    have su := fun S => gSum_tmp (r.map (slk xs row)) S
    have su2 := fun S => gSum_tmp (r.map fun m => (BF.ar xs m).2.2) S
    rw [slk_good g row] at su
    simp only [Int.ofNat_zero, Int.natCast_zero] at el
    simp only [ringV, optR, intsV, List.map_map] at *
    simp [mk, bl, go, sr, cat_HasRing, sk, li, sm, el, lk, p8.2.1, p10.2.1, p11.2.1, p12.2.1, lc, su, su2]
  simp [callM, lend, hasDr, hasAl, e]
end K07P
set_option linter.all false
namespace FW
open BF
abbrev Tab := List (List (Option Int))
def tg (T : Tab) (a b : Nat) : Option Int := (T.getD a []).getD b none
def ts (T : Tab) (a b : Nat) (v : Int) : Tab := T.set a ((T.getD a []).set b (some v))
structure Sq (n : Nat) (T : Tab) : Prop where
  l : T.length = n
  r : ∀ a, a < n → (T.getD a []).length = n
theorem Sq.ts {n T a b v} (h : Sq n T) (ha : a < n) : Sq n (ts T a b v) := ⟨by simp [FW.ts, h.l], fun c hc => by
  unfold FW.ts
  rw [List.getD_eq_getElem?_getD, List.getElem?_set]
  have hl := h.l
  by_cases e : a = c
  · subst e
    rw [if_pos rfl, if_pos (by omega)]
    simp
    have := h.r a ha
    rw [List.getD_eq_getElem?_getD] at this
    exact this
  · rw [if_neg e]
    have := h.r c hc
    rw [List.getD_eq_getElem?_getD] at this
    exact this⟩
theorem tg_ts {n T a b v} (h : Sq n T) (ha : a < n) (hb : b < n) (c d : Nat) : tg (ts T a b v) c d = if c = a ∧ d = b then some v else tg T c d := by
  have hl := h.l
  have hr := h.r a ha
  unfold tg ts
  simp only [List.getD_eq_getElem?_getD] at hr ⊢
  rw [List.getElem?_set]
  by_cases e : c = a
  · subst e
    rw [if_pos rfl, if_pos (by omega)]
    simp only [Option.getD_some, List.getElem?_set]
    by_cases e2 : d = b
    · subst e2
      rw [if_pos rfl, if_pos (by omega)]
      simp
    · rw [if_neg (fun z => e2 z.symm), if_neg (fun z => e2 z.2)]
  · rw [if_neg (fun z => e z.symm), if_neg (fun z => e z.1)]
def imp (T : Tab) (a b : Nat) (v : Int) : Tab := match tg T a b with
  | none => ts T a b v
  | some w => if v < w then ts T a b v else T
def minv (o : Option Int) (v : Int) : Int := match o with
  | none => v
  | some w => if v < w then v else w
theorem Sq.imp {n T a b v} (h : Sq n T) (ha : a < n) : Sq n (imp T a b v) := by
  unfold FW.imp
  split
  · exact h.ts ha
  · split
    · exact h.ts ha
    · exact h
theorem tg_imp {n T a b v} (h : Sq n T) (ha : a < n) (hb : b < n) (c d : Nat) : tg (imp T a b v) c d = if c = a ∧ d = b then some (minv (tg T a b) v) else tg T c d := by
  unfold imp minv
  cases e : tg T a b with
  | none => exact tg_ts h ha hb c d
  | some w =>
    simp only
    by_cases z : v < w
    · rw [if_pos z, if_pos z]
      exact tg_ts h ha hb c d
    · rw [if_neg z, if_neg z]
      by_cases q : c = a ∧ d = b
      · rw [if_pos q, q.1, q.2, e]
      · rw [if_neg q]
theorem minv_le (o : Option Int) (v : Int) : minv o v ≤ v := by
  unfold minv
  split
  · omega
  · split <;> omega
theorem minv_le2 (v w : Int) : minv (some w) v ≤ w := by
  unfold minv
  simp only
  split <;> omega
theorem minv_or (o : Option Int) (v : Int) : minv o v = v ∨ o = some (minv o v) := by
  unfold minv
  split
  · exact .inl rfl
  · split
    · exact .inl rfl
    · exact .inr rfl
/-- entries only fall -/
def Le (T' T : Tab) : Prop := ∀ a b v, tg T a b = some v → ∃ u, tg T' a b = some u ∧ u ≤ v
theorem Le.refl (T : Tab) : Le T T := fun a b v h => ⟨v, h, Int.le_refl _⟩
theorem Le.trans {T T' T'' : Tab} (h : Le T' T) (k : Le T'' T') : Le T'' T := fun a b v e => by
  obtain ⟨u, e1, h1⟩ := h a b v e
  obtain ⟨w, e2, h2⟩ := k a b u e1
  exact ⟨w, e2, by omega⟩
theorem Le.imp {n T a b v} (h : Sq n T) (ha : a < n) (hb : b < n) : Le (FW.imp T a b v) T := fun c d w e => by
  rw [tg_imp h ha hb]
  by_cases q : c = a ∧ d = b
  · rw [if_pos q]
    obtain ⟨rfl, rfl⟩ := q
    rw [e]
    exact ⟨_, rfl, minv_le2 _ _⟩
  · rw [if_neg q]
    exact ⟨w, e, Int.le_refl _⟩
/-- what rows say of the entries -/
def Snd (T : Tab) (p : Int → Int) : Prop := ∀ (a b : Nat) v, tg T a b = some v → p b ≤ p a + v
theorem Snd.imp {n T a b v p} (h : Sq n T) (ha : a < n) (hb : b < n) (s : Snd T p) (hv : p b ≤ p a + v) : Snd (FW.imp T a b v) p := fun c d w e => by
  rw [tg_imp h ha hb] at e
  by_cases q : c = a ∧ d = b
  · rw [if_pos q] at e
    obtain ⟨rfl, rfl⟩ := q
    cases e
    rcases minv_or (tg T c d) v with z | z
    · rw [z]; exact hv
    · exact s _ _ _ z
  · rw [if_neg q] at e
    exact s _ _ _ e
def step (c a : Nat) (T : Tab) (b : Nat) : Tab := match tg T a c, tg T c b with
  | some x, some y => imp T a b (x + y)
  | _, _ => T
theorem foldl_range {σ : Type} (F : σ → Nat → σ) (P : Nat → σ → Prop) : ∀ (n : Nat) (s : σ), P 0 s → (∀ k s, k < n → P k s → P (k + 1) (F s k)) → P n ((List.range n).foldl F s)
  | 0, s, h, _ => h
  | n + 1, s, h, st => by
    rw [List.range_succ, List.foldl_append]
    exact st n _ (by omega) (foldl_range F P n s h fun k s hk hp => st k s (by omega) hp)
theorem foldl_list {σ α : Type} (F : σ → α → σ) (P : List α → σ → Prop) : ∀ (xs ys : List α) (s : σ), P ys s → (∀ ys x s, P ys s → x ∈ xs → P (ys ++ [x]) (F s x)) → P (ys ++ xs) (xs.foldl F s)
  | [], ys, s, h, _ => by rw [List.append_nil]; exact h
  | x :: xs, ys, s, h, st => by
    have := foldl_list F P xs (ys ++ [x]) (F s x) (st ys x s h List.mem_cons_self) fun ys y s hp hy => st ys y s hp (List.mem_cons_of_mem _ hy)
    rw [List.append_assoc] at this
    exact this
/-- good things that every step keeps: square, below T0, said by the rows -/
structure Ok (n : Nat) (p : Int → Int) (T0 T : Tab) : Prop where
  sq : Sq n T
  le : Le T T0
  sn : Snd T0 p → Snd T p
theorem Ok.refl {n p T} (h : Sq n T) : Ok n p T T := ⟨h, Le.refl T, fun h => h⟩
theorem Ok.trans {n p T T' T''} (h : Ok n p T T') (k : Ok n p T' T'') : Ok n p T T'' := ⟨k.sq, h.le.trans k.le, fun q => k.sn (h.sn q)⟩
theorem Ok.step {n p T0 T c a b} (h : Ok n p T0 T) (ha : a < n) (hb : b < n) : Ok n p T0 (step c a T b) := by
  unfold FW.step
  split
  · rename_i x y e1 e2
    refine ⟨h.sq.imp ha, h.le.trans (Le.imp h.sq ha hb), fun q => ?_⟩
    have s := h.sn q
    have h1 := s _ _ _ e1
    have h2 := s _ _ _ e2
    exact s.imp h.sq ha hb (by omega)
  · exact h
def rowS (n c : Nat) (T : Tab) (a : Nat) : Tab := (List.range n).foldl (step c a) T
def stage (n : Nat) (T : Tab) (c : Nat) : Tab := (List.range n).foldl (rowS n c) T
def fw (n : Nat) (T : Tab) : Tab := (List.range n).foldl (stage n) T
theorem Ok.rowS {n p T0 T c a} (h : Ok n p T0 T) (ha : a < n) : Ok n p T0 (rowS n c T a) :=
  foldl_range (FW.step c a) (fun _ T => Ok n p T0 T) n T h fun k T hk q => q.step ha hk
theorem Ok.stage {n p T0 T c} (h : Ok n p T0 T) : Ok n p T0 (stage n T c) :=
  foldl_range (FW.rowS n c) (fun _ T => Ok n p T0 T) n T h fun k T hk q => q.rowS hk
theorem Ok.fw {n p T} (h : Sq n T) : Ok n p T (fw n T) :=
  foldl_range (FW.stage n) (fun _ T' => Ok n p T T') n T (Ok.refl h) fun k T hk q => q.stage
/-- by way of c -/
def via (T : Tab) (c a b : Nat) : Option Int := match tg T a c, tg T c b with
  | some x, some y => some (minv (tg T a b) (x + y))
  | _, _ => tg T a b
/-- a stage whose node has 0 on the diagonal -/
theorem stage_eq {n T0 c} (h0 : Sq n T0) (hc : c < n) (hz : tg T0 c c = some 0) : ∀ a b, a < n → b < n → tg (stage n T0 c) a b = via T0 c a b := by
  have col : ∀ a, via T0 c a c = tg T0 a c := fun a => by
    unfold via
    rw [hz]
    cases e : tg T0 a c with
    | none => rfl
    | some x => simp [minv]
  have row : ∀ b, via T0 c c b = tg T0 c b := fun b => by
    unfold via
    rw [hz]
    cases e : tg T0 c b with
    | none => rfl
    | some x => simp [minv]
  have := foldl_range (rowS n c) (fun k T => Sq n T ∧ ∀ a b, a < n → b < n → tg T a b = if a < k then via T0 c a b else tg T0 a b) n T0 ⟨h0, fun a b _ _ => by simp⟩ fun k T hk q => by
    have r := foldl_range (step c k) (fun j T => Sq n T ∧ ∀ a b, a < n → b < n → tg T a b = if a < k ∨ (a = k ∧ b < j) then via T0 c a b else tg T0 a b) n T ⟨q.1, fun a b ha hb => by rw [q.2 a b ha hb]; simp⟩ fun j T hj ⟨sq, q⟩ => by
      have e1 : tg T k c = tg T0 k c := by
        rw [q k c hk hc]
        split
        · exact col k
        · rfl
      have e2 : tg T c j = tg T0 c j := by
        rw [q c j hc hj]
        split
        · exact row j
        · rfl
      have e3 : tg T k j = tg T0 k j := by
        rw [q k j hk hj, if_neg (by omega)]
      unfold step
      rw [e1, e2]
      cases x1 : tg T0 k c with
      | none =>
        refine ⟨sq, fun a b ha hb => ?_⟩
        show tg T a b = _
        rw [q a b ha hb]
        by_cases z : a = k ∧ b = j
        · obtain ⟨rfl, rfl⟩ := z
          rw [if_neg (by omega), if_pos (by omega)]
          unfold via
          rw [x1]
        · have : (a < k ∨ (a = k ∧ b < j + 1)) ↔ (a < k ∨ (a = k ∧ b < j)) := by omega
          simp only [this]
      | some x =>
        cases x2 : tg T0 c j with
        | none =>
          refine ⟨sq, fun a b ha hb => ?_⟩
          show tg T a b = _
          rw [q a b ha hb]
          by_cases z : a = k ∧ b = j
          · obtain ⟨rfl, rfl⟩ := z
            rw [if_neg (by omega), if_pos (by omega)]
            unfold via
            rw [x1, x2]
          · have : (a < k ∨ (a = k ∧ b < j + 1)) ↔ (a < k ∨ (a = k ∧ b < j)) := by omega
            simp only [this]
        | some y =>
          refine ⟨sq.imp hk, fun a b ha hb => ?_⟩
          show tg (imp T k j (x + y)) a b = _
          rw [tg_imp sq hk hj]
          by_cases z : a = k ∧ b = j
          · obtain ⟨rfl, rfl⟩ := z
            rw [if_pos ⟨rfl, rfl⟩, if_pos (by omega), e3]
            unfold via
            rw [x1, x2]
          · rw [if_neg z, q a b ha hb]
            have : (a < k ∨ (a = k ∧ b < j + 1)) ↔ (a < k ∨ (a = k ∧ b < j)) := by omega
            simp only [this]
    refine ⟨r.1, fun a b ha hb => ?_⟩
    show tg ((List.range n).foldl (step c k) T) a b = _
    rw [r.2 a b ha hb]
    have : (a < k ∨ (a = k ∧ b < n)) ↔ a < k + 1 := by omega
    simp only [this]
  intro a b ha hb
  have := this.2 a b ha hb
  rw [if_pos ha] at this
  exact this
/-- the triangle of the nodes below k -/
def Tri (n k : Nat) (T : Tab) : Prop := ∀ a b m, a < n → b < n → m < k → ∀ x y, tg T a m = some x → tg T m b = some y → ∃ v, tg T a b = some v ∧ v ≤ x + y
theorem via_cases {T : Tab} {c a b : Nat} {v : Int} (h : via T c a b = some v) : tg T a b = some v ∨ ∃ x y, tg T a c = some x ∧ tg T c b = some y ∧ v = x + y := by
  unfold via at h
  split at h
  · rename_i x y e1 e2
    cases h
    rcases minv_or (tg T a b) (x + y) with z | z
    · exact .inr ⟨x, y, e1, e2, z⟩
    · exact .inl z
  · exact .inl h
theorem via_le {T : Tab} {c a b : Nat} {x y : Int} (e1 : tg T a c = some x) (e2 : tg T c b = some y) : ∃ v, via T c a b = some v ∧ v ≤ x + y := by
  unfold via
  rw [e1, e2]
  exact ⟨_, rfl, minv_le _ _⟩
theorem via_le2 {T : Tab} {c a b : Nat} {v : Int} (e : tg T a b = some v) : ∃ u, via T c a b = some u ∧ u ≤ v := by
  unfold via
  split
  · rw [e]
    exact ⟨_, rfl, minv_le2 _ _⟩
  · exact ⟨v, e, Int.le_refl _⟩
theorem Tri.stage {n k T} (h0 : Sq n T) (hk : k < n) (hz : tg T k k = some 0) (t : Tri n k T) : Tri n (k + 1) (stage n T k) := by
  intro a b m ha hb hm x y e1 e2
  have hmn : m < n := by omega
  rw [stage_eq h0 hk hz a m ha hmn] at e1
  rw [stage_eq h0 hk hz m b hmn hb] at e2
  rw [stage_eq h0 hk hz a b ha hb]
  by_cases c : m = k
  · subst c
    have col : via T m a m = tg T a m := by
      unfold via
      rw [hz]
      cases e : tg T a m with
      | none => rfl
      | some x => simp [minv]
    have row : via T m m b = tg T m b := by
      unfold via
      rw [hz]
      cases e : tg T m b with
      | none => rfl
      | some x => simp [minv]
    rw [col] at e1
    rw [row] at e2
    exact via_le e1 e2
  · have hmk : m < k := by omega
    rcases via_cases e1 with e1 | ⟨x1, x2, f1, f2, rfl⟩
    · rcases via_cases e2 with e2 | ⟨y1, y2, g1, g2, rfl⟩
      · obtain ⟨v, ev, hv⟩ := t a b m ha hb hmk x y e1 e2
        obtain ⟨u, eu, hu⟩ := via_le2 (c := k) ev
        exact ⟨u, eu, by omega⟩
      · obtain ⟨v, ev, hv⟩ := t a k m ha hk hmk x y1 e1 g1
        obtain ⟨u, eu, hu⟩ := via_le ev g2
        exact ⟨u, eu, by omega⟩
    · rcases via_cases e2 with e2 | ⟨y1, y2, g1, g2, rfl⟩
      · obtain ⟨v, ev, hv⟩ := t k b m hk hb hmk x2 y f2 e2
        obtain ⟨u, eu, hu⟩ := via_le f1 ev
        exact ⟨u, eu, by omega⟩
      · obtain ⟨v, ev, hv⟩ := t k k m hk hk hmk x2 y1 f2 g1
        rw [hz] at ev
        cases ev
        obtain ⟨u, eu, hu⟩ := via_le f1 g2
        exact ⟨u, eu, by omega⟩
/-- the whole -/
theorem fw_tri {n T} (h : Sq n T) (hd : ∀ a, a < n → ∃ x, tg T a a = some x ∧ x ≤ 0) (hz : ∀ a x, a < n → tg (fw n T) a a = some x → 0 ≤ x) : Tri n n (fw n T) := by
  -- a table that the whole lies below has zeros on the diagonal
  have zero : ∀ T', Ok n (fun _ => 0) T T' → Le (fw n T) T' → ∀ a, a < n → tg T' a a = some 0 := fun T' o l a ha => by
    obtain ⟨x, ex, hx⟩ := hd a ha
    obtain ⟨u, eu, hu⟩ := o.le a a x ex
    obtain ⟨w, ew, hw⟩ := l a a u eu
    have := hz a w ha ew
    rw [eu]
    congr 1
    omega
  have rest : ∀ m k T', m + k = n → Le ((List.range' k m).foldl (FW.stage n) T') T' ∨ ¬ Sq n T' := fun m => by
    induction m with
    | zero => exact fun k T' _ => .inl (Le.refl _)
    | succ m ih =>
      intro k T' e
      by_cases hs : Sq n T'
      · left
        rw [List.range'_succ, List.foldl_cons]
        have o : Ok n (fun _ => 0) T' (FW.stage n T' k) := (Ok.refl hs).stage
        rcases ih (k + 1) (FW.stage n T' k) (by omega) with l | l
        · exact o.le.trans l
        · exact absurd o.sq l
      · exact .inr hs
  have main : ∀ m k T', m + k = n → Ok n (fun _ => 0) T T' → Tri n k T' → (List.range' k m).foldl (FW.stage n) T' = fw n T → Tri n n (fw n T) := fun m => by
    induction m with
    | zero =>
      intro k T' e o t h
      have : k = n := by omega
      subst this
      rw [← h]
      exact t
    | succ m ih =>
      intro k T' e o t h
      have hk : k < n := by omega
      have l : Le (fw n T) T' := by
        rw [← h]
        rcases rest (m + 1) k T' e with l | l
        · exact l
        · exact absurd o.sq l
      have t' := t.stage o.sq hk (zero T' o l k hk)
      refine ih (k + 1) (FW.stage n T' k) (by omega) o.stage t' ?_
      rw [← h, List.range'_succ, List.foldl_cons]
  exact main n 0 T (by omega) (Ok.refl h) (fun a b m _ _ hm => by omega) (by rw [← List.range_eq_range']; rfl)
/-! ### the table of an arc list -/
def T0 (n : Nat) : Tab := List.replicate n (List.replicate n none)
def diag (n : Nat) (T : Tab) : Tab := (List.range n).foldl (fun T a => ts T a a 0) T
def arcsIn (xs : List Arc) (T : Tab) : Tab := xs.foldl (fun T a => imp T a.1.toNat a.2.1.toNat a.2.2) T
def dists (n : Nat) (xs : List Arc) : Tab := fw n (arcsIn xs (diag n (T0 n)))
theorem sq_T0 (n : Nat) : Sq n (T0 n) := ⟨by simp [T0], fun a ha => by simp [T0, List.getD_eq_getElem?_getD, ha]⟩
theorem tg_T0 (n a b : Nat) : tg (T0 n) a b = none := by
  unfold tg T0
  simp only [List.getD_eq_getElem?_getD, List.getElem?_replicate]
  split
  · simp only [Option.getD_some, List.getElem?_replicate]
    split <;> rfl
  · rfl
theorem diag_ok (n : Nat) : Sq n (diag n (T0 n)) ∧ ∀ a b, tg (diag n (T0 n)) a b = if a = b ∧ a < n then some 0 else none := by
  refine foldl_range (fun T a => ts T a a 0) (fun k T => Sq n T ∧ ∀ a b, tg T a b = if a = b ∧ a < k then some 0 else none) n (T0 n) ⟨sq_T0 n, fun a b => by rw [tg_T0]; simp⟩ fun k T hk ⟨s, q⟩ => ⟨s.ts hk, fun a b => ?_⟩
  rw [tg_ts s hk hk, q]
  by_cases e : a = k ∧ b = k
  · obtain ⟨rfl, rfl⟩ := e
    rw [if_pos ⟨rfl, rfl⟩, if_pos ⟨rfl, by omega⟩]
  · rw [if_neg e]
    have : (a = b ∧ a < k + 1) ↔ (a = b ∧ a < k) := by omega
    simp only [this]
structure Dok (n : Nat) (xs : List Arc) (T : Tab) : Prop where
  sq : Sq n T
  dg : ∀ a, a < n → ∃ x, tg T a a = some x ∧ x ≤ 0
  ac : ∀ c ∈ xs, ∃ v, tg T c.1.toNat c.2.1.toNat = some v ∧ v ≤ c.2.2
  sn : ∀ p, Keep xs p → Snd T p
  tr : (∀ a x, a < n → tg T a a = some x → 0 ≤ x) → Tri n n T
theorem arcsIn_ok {n : Nat} {xs : List Arc} (hf : Fit n xs) (T : Tab) (h : Sq n T) : Sq n (arcsIn xs T) ∧ Le (arcsIn xs T) T ∧ (∀ c ∈ xs, ∃ v, tg (arcsIn xs T) c.1.toNat c.2.1.toNat = some v ∧ v ≤ c.2.2) ∧ ∀ p, Keep xs p → Snd T p → Snd (arcsIn xs T) p := by
  have := foldl_list (fun T (a : Arc) => imp T a.1.toNat a.2.1.toNat a.2.2) (fun ys T' => Sq n T' ∧ Le T' T ∧ (∀ c ∈ ys, ∃ v, tg T' c.1.toNat c.2.1.toNat = some v ∧ v ≤ c.2.2) ∧ ∀ p, Keep xs p → Snd T p → Snd T' p) xs [] T ⟨h, Le.refl _, (fun c hc => by cases hc), fun p _ q => q⟩ fun ys a T' ⟨s, l, q, sn⟩ ha => by
    obtain ⟨⟨a0, a1⟩, b0, b1⟩ := hf a ha
    have ha1 : a.1.toNat < n := by omega
    have hb1 : a.2.1.toNat < n := by omega
    have il : Le (imp T' a.1.toNat a.2.1.toNat a.2.2) T' := Le.imp s ha1 hb1
    refine ⟨s.imp ha1, l.trans il, fun c hc => ?_, fun p kp sp => ?_⟩
    · rcases List.mem_append.mp hc with hc | hc
      · obtain ⟨v, e, le⟩ := q c hc
        obtain ⟨u, eu, hu⟩ := il _ _ v e
        exact ⟨u, eu, by omega⟩
      · have := List.mem_singleton.mp hc
        subst this
        rw [tg_imp s ha1 hb1, if_pos ⟨rfl, rfl⟩]
        exact ⟨_, rfl, minv_le _ _⟩
    · refine (sn p kp sp).imp s ha1 hb1 ?_
      have := kp a ha
      have e1 : ((a.1.toNat : Nat) : Int) = a.1 := by omega
      have e2 : ((a.2.1.toNat : Nat) : Int) = a.2.1 := by omega
      rw [e1, e2]
      exact this
  rw [List.nil_append] at this
  exact this
theorem dists_ok {n : Nat} {xs : List Arc} (hf : Fit n xs) : Dok n xs (dists n xs) := by
  obtain ⟨s1, d1⟩ := diag_ok n
  obtain ⟨s2, l2, q2, sn2⟩ := arcsIn_ok hf (diag n (T0 n)) s1
  have dg2 : ∀ a, a < n → ∃ x, tg (arcsIn xs (diag n (T0 n))) a a = some x ∧ x ≤ 0 := fun a ha => l2 a a 0 (by rw [d1, if_pos ⟨rfl, ha⟩])
  have o : ∀ p, Ok n p (arcsIn xs (diag n (T0 n))) (dists n xs) := fun p => Ok.fw s2
  refine ⟨(o fun _ => 0).sq, fun a ha => ?_, fun c hc => ?_, fun p kp => (o p).sn (sn2 p kp fun a b v e => ?_), fun hz => fw_tri s2 dg2 hz⟩
  · obtain ⟨x, ex, hx⟩ := dg2 a ha
    obtain ⟨u, eu, hu⟩ := (o fun _ => 0).le a a x ex
    exact ⟨u, eu, by omega⟩
  · obtain ⟨x, ex, hx⟩ := q2 c hc
    obtain ⟨u, eu, hu⟩ := (o fun _ => 0).le _ _ x ex
    exact ⟨u, eu, by omega⟩
  · rw [d1] at e
    split at e
    · rename_i z
      cases e
      rw [z.1]
      omega
    · cases e
/-- no diagonal entry below 0 -/
def NoNeg (n : Nat) (T : Tab) : Prop := ∀ a x, a < n → tg T a a = some x → 0 ≤ x
theorem Dok.chn {n xs T} (D : Dok n xs T) (hf : Fit n xs) (hz : NoNeg n T) : ∀ (r : List Nat) (x y : Int), r ≠ [] → (∀ m ∈ r, m < xs.length) → Chn xs x r y → ∃ v, tg T x.toNat y.toNat = some v ∧ v ≤ (r.map fun m => (ar xs m).2.2).sum
  | [], x, y, h, _, _ => absurd rfl h
  | [m], x, y, _, hl, c => by
    have hm := hl m List.mem_cons_self
    have hx : ar xs m ∈ xs := by
      unfold ar
      rw [List.getD_eq_getElem?_getD, List.getElem?_eq_getElem hm]
      exact List.getElem_mem hm
    obtain ⟨v, e, h⟩ := D.ac _ hx
    have c2 : (ar xs m).2.1 = y := c.2
    rw [c.1, c2] at e
    exact ⟨v, e, by simpa using h⟩
  | m :: k :: r, x, y, _, hl, c => by
    have hm := hl m List.mem_cons_self
    have hx : ar xs m ∈ xs := by
      unfold ar
      rw [List.getD_eq_getElem?_getD, List.getElem?_eq_getElem hm]
      exact List.getElem_mem hm
    obtain ⟨v, e, h⟩ := D.ac _ hx
    obtain ⟨u, e2, h2⟩ := D.chn hf hz (k :: r) _ y (by simp) (fun j hj => hl j (List.mem_cons_of_mem _ hj)) c.2
    obtain ⟨⟨a0, a1⟩, b0, b1⟩ := hf _ hx
    have hy : y.toNat < n := by
      -- the chain's end is the last arc's end
      have : ∀ (r : List Nat) (x : Int), r ≠ [] → (∀ m ∈ r, m < xs.length) → Chn xs x r y → y.toNat < n := fun r => by
        induction r with
        | nil => exact fun _ h => absurd rfl h
        | cons m r ih =>
          intro x _ hl c
          have hm := hl m List.mem_cons_self
          have hx : ar xs m ∈ xs := by
            unfold ar
            rw [List.getD_eq_getElem?_getD, List.getElem?_eq_getElem hm]
            exact List.getElem_mem hm
          obtain ⟨⟨a0, a1⟩, b0, b1⟩ := hf _ hx
          cases r with
          | nil =>
            have c2 : (ar xs m).2.1 = y := c.2
            omega
          | cons k r => exact ih _ (by simp) (fun j hj => hl j (List.mem_cons_of_mem _ hj)) c.2
      exact this (m :: k :: r) x (by simp) hl c
    obtain ⟨w, ew, hw⟩ := D.tr hz (ar xs m).1.toNat y.toNat (ar xs m).2.1.toNat (by omega) hy (by omega) v u e e2
    rw [c.1] at ew
    exact ⟨w, ew, by simp only [List.map_cons, List.sum_cons] at h2 ⊢; omega⟩
theorem Dok.iff {n xs T} (D : Dok n xs T) (hf : Fit n xs) (hn : 1 ≤ n) : NoNeg n T ↔ ringBelow n xs = none := by
  constructor
  · intro hz
    cases e : ringBelow n xs with
    | none => rfl
    | some r =>
      exfalso
      have g := ring_good hf hn e
      cases em : r.getLast? with
      | none => exact g.ne (List.getLast?_eq_none_iff.mp em)
      | some m =>
        obtain ⟨v, ev, hv⟩ := D.chn hf hz r _ _ g.ne g.lt (g.ch m em)
        have hm := g.lt m (List.mem_of_getLast? em)
        have hx : ar xs m ∈ xs := by
          unfold ar
          rw [List.getD_eq_getElem?_getD, List.getElem?_eq_getElem hm]
          exact List.getElem_mem hm
        obtain ⟨⟨a0, a1⟩, b0, b1⟩ := hf _ hx
        have := hz _ v (by omega) ev
        have := g.neg
        omega
  · intro h a x ha e
    have k := (theRow_ok hf hn).2.2 h
    have := D.sn _ k a a x e
    omega
end FW
set_option Elab.async false
set_option linter.all false
set_option maxRecDepth 100000
set_option maxHeartbeats 2000000
namespace TL
/-- a loop that turns a state over -/
theorem loopF_foldl {σ α : Type} {b : BT} {body : MSt} (it : α → FV) (enc : σ → MS → Prop) (F : σ → α → σ) (OK : σ → Prop) : ∀ (xs : List α) (s : σ) (S : MS), (∀ x ∈ xs, ∀ s S, OK s → enc s S → ∃ S1 S2, b (it x) S = some S1 ∧ (body S1 = .nx S2 ∨ body S1 = .ct S2) ∧ enc (F s x) S2 ∧ OK (F s x)) → OK s → enc s S → ∃ S', loopF b body (xs.map it) S = .nx S' ∧ enc (xs.foldl F s) S' ∧ OK (xs.foldl F s)
  | [], s, S, _, ho, he => ⟨S, rfl, he, ho⟩
  | x :: xs, s, S, st, ho, he => by
    obtain ⟨S1, S2, e1, e2, h1, h2⟩ := st x List.mem_cons_self s S ho he
    obtain ⟨S', e3, h3, h4⟩ := loopF_foldl it enc F OK xs (F s x) S2 (fun y hy => st y (List.mem_cons_of_mem _ hy)) h2 h1
    refine ⟨S', ?_, h3, h4⟩
    rw [List.map_cons, loopF_cons, e1]
    simp only
    rcases e2 with e2 | e2 <;> rw [e2] <;> exact e3
theorem rng0 (n : Nat) : rng 0 n = (List.range n).map fun i : Nat => .int (i : Int) := by
  unfold rng
  refine List.map_congr_left fun i _ => ?_
  congr 1
  omega
theorem map_const_range {β : Type} (n : Nat) (f : Nat → β) (v : β) (h : ∀ i, f i = v) : (List.range n).map f = List.replicate n v := by
  refine List.ext_getElem (by simp) fun i h1 h2 => ?_
  simp [h]
/-! ### tables of two levels -/
def tabO (T : List (List FV)) : List OT := T.map fun r => .own (r.map OT.fz)
theorem at_two (j k : Nat) (sl : List Sl) (d : Option (List Int)) (T : List (List FV)) (r : List FV) (h : sl[j]? = some (.own (tabO T))) (hr : T[k]? = some r) : (MS.mk sl d).at j [k] = some (.own (r.map OT.fz)) := by
  unfold MS.at MS.tree
  simp only [h]
  unfold OT.at
  have : (tabO T)[k]? = some (.own (r.map OT.fz)) := by
    unfold tabO
    rw [List.getElem?_map, hr]
    rfl
  rw [this]
  rfl
theorem pick_row (j : Nat) (i : Int) (sl : List Sl) (d : Option (List Int)) (T : List (List FV)) (r : List FV) (h : sl[j]? = some (.own (tabO T))) (h0 : 0 ≤ i) (hr : T[i.toNat]? = some r) : pick (.pl j []) i ⟨sl, d⟩ = .ok (.pl j [i.toNat]) ⟨sl, d⟩ := by
  have hl := (List.getElem?_eq_some_iff.mp hr).1
  have h1 : i < (tabO T).length := by simp [tabO]; omega
  have e : (tabO T)[i.toNat]? = some (.own (r.map OT.fz)) := by
    unfold tabO
    rw [List.getElem?_map, hr]
    rfl
  rw [pick_pl]
  simp only [at_nil, h, ixN_nn h0 h1, e]
  rfl
theorem pick_cell (j k : Nat) (i : Int) (sl : List Sl) (d : Option (List Int)) (T : List (List FV)) (r : List FV) (u : FV) (h : sl[j]? = some (.own (tabO T))) (hr : T[k]? = some r) (h0 : 0 ≤ i) (hu : r[i.toNat]? = some u) : pick (.pl j [k]) i ⟨sl, d⟩ = .ok (.fz u) ⟨sl, d⟩ := by
  have hl := (List.getElem?_eq_some_iff.mp hu).1
  have h1 : i < (r.map OT.fz).length := by simp; omega
  have e : (r.map OT.fz)[i.toNat]? = some (.fz u) := by rw [List.getElem?_map, hu]; rfl
  rw [pick_pl]
  simp only [at_two j k sl d T r h hr, ixN_nn h0 h1, e]
theorem set_cell (u : FV) (j k : Nat) (i : Int) (sl : List Sl) (d : Option (List Int)) (T : List (List FV)) (r : List FV) (h : sl[j]? = some (.own (tabO T))) (hr : T[k]? = some r) (h0 : 0 ≤ i) (h1 : i < r.length) : setAt (.fz u) (.pl j [k]) (.fz (.int i)) ⟨sl, d⟩ = .nx ⟨(sl.map (kill j [k])).set j (.own (tabO (T.set k (r.set i.toNat u)))), d⟩ := by
  have h2 : i < (r.map OT.fz).length := by simp; exact h1
  rw [setAt_pl]
  simp only [at_two j k sl d T r h hr, ixN_nn h0 h2]
  unfold MS.put MS.tree
  simp only [h]
  congr 4
  unfold OT.put
  have e : (tabO T)[k]? = some (.own (r.map OT.fz)) := by
    unfold tabO
    rw [List.getElem?_map, hr]
    rfl
  rw [e]
  simp only [OT.put, slOf, tabO, List.map_set]
/-- a table, frozen or not -/
theorem allFz_own (t : List OT) (ts : List OT) : allFz (.own t :: ts) = none := rfl
end TL
set_option Elab.async false
set_option linter.all false
set_option maxRecDepth 100000
set_option maxHeartbeats 2000000
namespace K07P
open TL K07
/-! ### the law's distances -/
def fvT (T : FW.Tab) : List (List FV) := T.map fun r => r.map optI
theorem fvT_row {n : Nat} {T : FW.Tab} (h : FW.Sq n T) (a : Nat) (ha : a < n) : (fvT T)[a]? = some ((T.getD a []).map optI) := by
  have hl : a < T.length := by rw [h.l]; exact ha
  unfold fvT
  rw [List.getElem?_map, List.getElem?_eq_getElem hl, List.getD_eq_getElem?_getD, List.getElem?_eq_getElem hl]
  rfl
theorem fvT_cell {n : Nat} {T : FW.Tab} (h : FW.Sq n T) (a b : Nat) (ha : a < n) (hb : b < n) : ((T.getD a []).map optI)[b]? = some (optI (FW.tg T a b)) := by
  have hl : b < (T.getD a []).length := by rw [h.r a ha]; exact hb
  unfold FW.tg
  rw [List.getElem?_map, List.getElem?_eq_getElem hl, List.getD_eq_getElem?_getD (l := T.getD a []), List.getElem?_eq_getElem hl]
  rfl
theorem fvT_set (T : FW.Tab) (a b : Nat) (v : Int) : (fvT T).set a (((T.getD a []).map optI).set b (.int v)) = fvT (FW.ts T a b v) := by
  unfold fvT FW.ts
  rw [List.map_set, List.map_set]
  rfl
theorem pr {n : Nat} {T : FW.Tab} (h : FW.Sq n T) (i : Int) (h0 : 0 ≤ i) (h1 : i < n) (sl : List Sl) (d : Option (List Int)) (hs : sl[2]? = some (.own (tabO (fvT T)))) : pick (.pl 2 []) i ⟨sl, d⟩ = .ok (.pl 2 [i.toNat]) ⟨sl, d⟩ := pick_row 2 i sl d _ _ hs h0 (fvT_row h _ (by omega))
theorem pc {n : Nat} {T : FW.Tab} (h : FW.Sq n T) (a : Nat) (i : Int) (ha : a < n) (h0 : 0 ≤ i) (h1 : i < n) (sl : List Sl) (d : Option (List Int)) (hs : sl[2]? = some (.own (tabO (fvT T)))) : pick (.pl 2 [a]) i ⟨sl, d⟩ = .ok (.fz (optI (FW.tg T a i.toNat))) ⟨sl, d⟩ := pick_cell 2 a i sl d _ _ _ hs (fvT_row h a ha) h0 (fvT_cell h a _ ha (by omega))
theorem sc {n : Nat} {T : FW.Tab} (h : FW.Sq n T) (a : Nat) (i : Int) (v : Int) (ha : a < n) (h0 : 0 ≤ i) (h1 : i < n) (sl : List Sl) (d : Option (List Int)) (hs : sl[2]? = some (.own (tabO (fvT T)))) : setAt (.fz (.int v)) (.pl 2 [a]) (.fz (.int i)) ⟨sl, d⟩ = .nx ⟨(sl.map (kill 2 [a])).set 2 (.own (tabO (fvT (FW.ts T a i.toNat v)))), d⟩ := by
  rw [set_cell (.int v) 2 a i sl d _ _ hs (fvT_row h a ha) h0 (by rw [List.length_map, h.r a ha]; exact h1), fvT_set]
abbrev dS (sz ar : FV) (T : FW.Tab) (d : Option (List Int)) (s3 s4 s5 s6 : Sl) : MS := ⟨[.fz sz, .fz ar, .own (tabO (fvT T)), s3, s4, s5, s6], d⟩
/-- if the cell is None or above, it is set -/
theorem imp_stmt {n : Nat} {T : FW.Tab} (h : FW.Sq n T) (sz ar : FV) (d : Option (List Int)) (a b : Int) (a0 : 0 ≤ a) (a1 : a < n) (b0 : 0 ≤ b) (b1 : b < n) (l : Int) (s6 : Sl) (p6 : Pl s6) :
    m_law_dists_b3 (dS sz ar T d (.fz (.int a)) (.fz (.int b)) (.fz (.int l)) s6) = .nx (dS sz ar (FW.imp T a.toNat b.toNat l) d (.fz (.int a)) (.fz (.int b)) (.fz (.int l)) s6) := by
  have r := fun sl hs => pr h a a0 a1 sl d hs
  have c := fun sl hs => pc h a.toNat b (by omega) b0 b1 sl d hs
  have s := fun sl hs => sc h a.toNat b l (by omega) b0 b1 sl d hs
  unfold FW.imp
  cases e : FW.tg T a.toNat b.toNat with
  | none =>
    rw [e] at c
    simp [dS, r, c, s, optI, p6.2.2.1]
  | some w =>
    rw [e] at c
    by_cases z : l < w <;> simp [dS, r, c, s, optI, p6.2.2.1, z]
def eS (sz ar : FV) (d : Option (List Int)) (T : FW.Tab) (S : MS) : Prop := ∃ s3 s4 s5 s6, Pl s3 ∧ Pl s4 ∧ Pl s5 ∧ Pl s6 ∧ S = dS sz ar T d s3 s4 s5 s6
def eC (sz ar : FV) (d : Option (List Int)) (c : Nat) (T : FW.Tab) (S : MS) : Prop := ∃ s3 s4 s5, Pl s3 ∧ Pl s4 ∧ Pl s5 ∧ S = dS sz ar T d s3 s4 s5 (.fz (.int c))
def eA (sz ar : FV) (d : Option (List Int)) (c a : Nat) (T : FW.Tab) (S : MS) : Prop := ∃ s4 s5, Pl s4 ∧ Pl s5 ∧ S = dS sz ar T d (.fz (.int a)) s4 s5 (.fz (.int c))
theorem sq_step {n c a b : Nat} {T : FW.Tab} (h : FW.Sq n T) (ha : a < n) : FW.Sq n (FW.step c a T b) := by
  unfold FW.step
  split
  · exact h.imp ha
  · exact h
theorem sq_row {n c a : Nat} {T : FW.Tab} (h : FW.Sq n T) (ha : a < n) : FW.Sq n (FW.rowS n c T a) := FW.foldl_range _ (fun _ T => FW.Sq n T) n T h fun _ _ _ q => sq_step q ha
theorem sq_stage {n c : Nat} {T : FW.Tab} (h : FW.Sq n T) : FW.Sq n (FW.stage n T c) := FW.foldl_range _ (fun _ T => FW.Sq n T) n T h fun _ _ hk q => sq_row q hk
theorem cell_step {n : Nat} {T : FW.Tab} (h : FW.Sq n T) (ar : FV) (d : Option (List Int)) (c a b : Nat) (hc : c < n) (ha : a < n) (hb : b < n) (s5 : Sl) (p5 : Pl s5) :
    ∃ s5', Pl s5' ∧ m_law_dists_b4 (dS (.int n) ar T d (.fz (.int a)) (.fz (.int b)) s5 (.fz (.int c))) = .nx (dS (.int n) ar (FW.step c a T b) d (.fz (.int a)) (.fz (.int b)) s5' (.fz (.int c))) := by
  have ra := fun sl hs => pr h (a : Int) (by omega) (by omega) sl d hs
  have rc := fun sl hs => pr h (c : Int) (by omega) (by omega) sl d hs
  have cac := fun sl hs => pc h a (c : Int) ha (by omega) (by omega) sl d hs
  have ccb := fun sl hs => pc h c (b : Int) hc (by omega) (by omega) sl d hs
  simp only [Int.toNat_natCast] at ra rc cac ccb
  unfold FW.step
  cases e1 : FW.tg T a c with
  | none =>
    rw [e1] at cac
    refine ⟨s5, p5, ?_⟩
    simp [dS, ra, rc, cac, optI]
  | some x =>
    rw [e1] at cac
    cases e2 : FW.tg T c b with
    | none =>
      rw [e2] at ccb
      refine ⟨s5, p5, ?_⟩
      simp [dS, ra, rc, cac, ccb, optI]
    | some y =>
      rw [e2] at ccb
      refine ⟨.fz (.int (x + y)), pl_fz _, ?_⟩
      have im := imp_stmt h (.int n) ar d (a : Int) (b : Int) (by omega) (by omega) (by omega) (by omega) (x + y) (.fz (.int c)) (pl_fz _)
      simp only [Int.toNat_natCast] at im
      rw [← im]
      simp [dS, ra, rc, cac, ccb, optI, p5.1]
theorem loop4 {n : Nat} (hn : n ≤ 16777216) (ar : FV) (d : Option (List Int)) (c a : Nat) (hc : c < n) (ha : a < n) (T : FW.Tab) (h : FW.Sq n T) (S : MS) (hS : eA (.int n) ar d c a T S) :
    ∃ S', m_law_dists_b5 S = .nx S' ∧ eA (.int n) ar d c a (FW.rowS n c T a) S' := by
  obtain ⟨S', e, q, _⟩ := loopF_foldl (b := bName 4) (body := m_law_dists_b4) (fun i : Nat => .int (i : Int)) (eA (.int n) ar d c a) (FW.step c a) (FW.Sq n) (List.range n) T S (fun b hb T S hq ⟨s4, s5, p4, p5, es⟩ => by
    have hb' := List.mem_range.mp hb
    obtain ⟨s5', p5', e⟩ := cell_step hq ar d c a b hc ha hb' s5 p5
    subst es
    exact ⟨_, _, by simp [dS, p4.1, p5.1], .inl e, ⟨_, s5', pl_fz _, p5', rfl⟩, sq_step hq ha⟩) h hS
  refine ⟨S', ?_, q⟩
  obtain ⟨s4, s5, p4, p5, es⟩ := hS
  subst es
  rw [← rng0] at e
  have sm : small (n : Int) = true := sm_of (by omega) (by omega)
  simp only [dS] at e
  simp [dS, sm, e]
theorem loop5 {n : Nat} (hn : n ≤ 16777216) (ar : FV) (d : Option (List Int)) (c : Nat) (hc : c < n) (T : FW.Tab) (h : FW.Sq n T) (S : MS) (hS : eC (.int n) ar d c T S) :
    ∃ S', m_law_dists_b6 S = .nx S' ∧ eC (.int n) ar d c (FW.stage n T c) S' := by
  obtain ⟨S', e, q, _⟩ := loopF_foldl (b := bName 3) (body := m_law_dists_b5) (fun i : Nat => .int (i : Int)) (eC (.int n) ar d c) (FW.rowS n c) (FW.Sq n) (List.range n) T S (fun a ha T S hq ⟨s3, s4, s5, p3, p4, p5, es⟩ => by
    have ha' := List.mem_range.mp ha
    obtain ⟨S2, e2, s4', s5', p4', p5', e3⟩ := loop4 hn ar d c a hc ha' T hq (dS (.int n) ar T d (.fz (.int a)) s4 s5 (.fz (.int c))) ⟨s4, s5, p4, p5, rfl⟩
    subst es
    exact ⟨_, _, by simp [dS, p3.1, p4.1, p5.1], .inl e2, ⟨_, s4', s5', pl_fz _, p4', p5', e3⟩, sq_row hq ha'⟩) h hS
  refine ⟨S', ?_, q⟩
  obtain ⟨s3, s4, s5, p3, p4, p5, es⟩ := hS
  subst es
  rw [← rng0] at e
  have sm : small (n : Int) = true := sm_of (by omega) (by omega)
  simp only [dS] at e
  simp [dS, sm, e]
theorem loop6 {n : Nat} (hn : n ≤ 16777216) (ar : FV) (d : Option (List Int)) (T : FW.Tab) (h : FW.Sq n T) (S : MS) (hS : eS (.int n) ar d T S) :
    ∃ S', loopF (bName 6) m_law_dists_b6 (rng 0 n) S = .nx S' ∧ eS (.int n) ar d (FW.fw n T) S' := by
  obtain ⟨S', e, q, _⟩ := loopF_foldl (b := bName 6) (body := m_law_dists_b6) (fun i : Nat => .int (i : Int)) (eS (.int n) ar d) (FW.stage n) (FW.Sq n) (List.range n) T S (fun c hc T S hq ⟨s3, s4, s5, s6, p3, p4, p5, p6, es⟩ => by
    have hc' := List.mem_range.mp hc
    obtain ⟨S2, e2, s3', s4', s5', p3', p4', p5', e3⟩ := loop5 hn ar d c hc' T hq (dS (.int n) ar T d s3 s4 s5 (.fz (.int c))) ⟨s3, s4, s5, p3, p4, p5, rfl⟩
    subst es
    exact ⟨_, _, by simp [dS, p3.1, p4.1, p5.1, p6.1], .inl e2, ⟨s3', s4', s5', _, p3', p4', p5', pl_fz _, e3⟩, sq_stage hq⟩) h hS
  exact ⟨S', by rw [rng0]; exact e, q⟩
theorem loop2 {n : Nat} (hn : n ≤ 16777216) (ar : FV) (d : Option (List Int)) (T : FW.Tab) (h : FW.Sq n T) (S : MS) (hS : eS (.int n) ar d T S) :
    ∃ S', loopF (bName 3) m_law_dists_b2 (rng 0 n) S = .nx S' ∧ eS (.int n) ar d (FW.diag n T) S' ∧ FW.Sq n (FW.diag n T) := by
  obtain ⟨S', e, q, q2⟩ := loopF_foldl (b := bName 3) (body := m_law_dists_b2) (fun i : Nat => .int (i : Int)) (eS (.int n) ar d) (fun T a => FW.ts T a a 0) (FW.Sq n) (List.range n) T S (fun a ha T S hq ⟨s3, s4, s5, s6, p3, p4, p5, p6, es⟩ => by
    have ha' := List.mem_range.mp ha
    subst es
    have ra := fun sl hs => pr hq (a : Int) (by omega) (by omega) sl d hs
    have sa := fun sl hs => sc hq a (a : Int) 0 ha' (by omega) (by omega) sl d hs
    simp only [Int.toNat_natCast] at ra sa
    exact ⟨dS (.int n) ar T d (.fz (.int a)) s4 s5 s6, dS (.int n) ar (FW.ts T a a 0) d (.fz (.int a)) s4 s5 s6, by simp [dS, p3.1, p4.1, p5.1, p6.1], .inl (by simp [dS, ra, sa, p4.2.2.1, p5.2.2.1, p6.2.2.1]), ⟨_, s4, s5, s6, pl_fz _, p4, p5, p6, rfl⟩, hq.ts ha'⟩) h hS
  exact ⟨S', by rw [rng0]; exact e, q, q2⟩
theorem loop3 {n : Nat} (xs : List Arc) (hf : Fits n xs) (ar : FV) (d : Option (List Int)) (T : FW.Tab) (h : FW.Sq n T) (S : MS) (hS : eS (.int n) ar d T S) :
    ∃ S', loopF (bTup 3 (bCons (bName 3) (bCons (bName 4) (bCons (bName 5) (bNil))))) m_law_dists_b3 (arcsV xs) S = .nx S' ∧ eS (.int n) ar d (FW.arcsIn xs T) S' ∧ FW.Sq n (FW.arcsIn xs T) := by
  exact loopF_foldl (b := bTup 3 (bCons (bName 3) (bCons (bName 4) (bCons (bName 5) (bNil))))) (body := m_law_dists_b3) arcV (eS (.int n) ar d) (fun T (a : Arc) => FW.imp T a.1.toNat a.2.1.toNat a.2.2) (FW.Sq n) xs T S (fun a ha T S hq ⟨s3, s4, s5, s6, p3, p4, p5, p6, es⟩ => by
    obtain ⟨⟨a1, a2⟩, a3, a4⟩ := fits_at (hf a ha)
    subst es
    exact ⟨dS (.int n) ar T d (.fz (.int a.1)) (.fz (.int a.2.1)) (.fz (.int a.2.2)) s6, _, by simp [dS, arcV, p3.1, p4.1, p5.1, p6.1], .inl (imp_stmt hq (.int n) ar d a.1 a.2.1 a1 a2 a3 a4 a.2.2 s6 p6), ⟨_, _, _, s6, pl_fz _, pl_fz _, pl_fz _, p6, rfl⟩, hq.imp (by omega)⟩) h hS
theorem tab0 (n : Nat) : tabO (fvT (FW.T0 n)) = List.replicate n (OT.own (List.replicate n (OT.fz .non))) := by
  simp [tabO, fvT, FW.T0, optI]
theorem dists_ok (n : Nat) (hn : n ≤ 16777216) (xs : List Arc) (hf : Fits n xs) (S : MS) : callM f_law_dists 2 [.fz (.int n), .fz (.lst (arcsV xs))] S = .ok (.tmp (tabO (fvT (FW.dists n xs)))) S := by
  have e : ∀ d, f_law_dists [.fz (.int n), .fz (.lst (arcsV xs))] d = .ret (.tmp (tabO (fvT (FW.dists n xs)))) d := fun d => by
    unfold f_law_dists m_law_dists
    rw [fnM_fin]
    have sm : small (n : Int) = true := sm_of (by omega) (by omega)
    have lc0 : ∀ sl : List Sl, sl = [.fz (.int n), .fz (.lst (arcsV xs)), .un, .un, .un, .un, .un] ∨ (∃ i : Int, sl = [.fz (.int n), .fz (.lst (arcsV xs)), .un, .fz (.int i), .un, .un, .un]) → lcF (bName 4) tYes' m_law_dists_b0 [4] (rng 0 n) [] ⟨sl, d⟩ = .ok (List.replicate n (OT.fz .non)) ⟨sl, d⟩ := fun sl hs => by
      rw [lcF_pure (g := fun v => .fz .non) _ [] (fun v hv => ?_) (by simp [rng]; omega)]
      · simp [rng]
        exact map_const_range n _ _ fun _ => rfl
      · unfold lcStep
        rcases hs with rfl | ⟨i, rfl⟩ <;> simp
    have lc1 : lcF (bName 3) tYes' m_law_dists_b1 [3] (rng 0 n) [] ⟨[.fz (.int n), .fz (.lst (arcsV xs)), .un, .un, .un, .un, .un], d⟩ = .ok (tabO (fvT (FW.T0 n))) ⟨[.fz (.int n), .fz (.lst (arcsV xs)), .un, .un, .un, .un, .un], d⟩ := by
      rw [lcF_pure (g := fun v => .own (List.replicate n (OT.fz .non))) _ [] (fun v hv => ?_) (by simp [rng]; omega)]
      · rw [tab0]
        simp [rng]
        exact map_const_range n _ _ fun _ => rfl
      · rw [rng0] at hv
        obtain ⟨i, _, rfl⟩ := List.mem_map.mp hv
        have l := lc0 [.fz (.int n), .fz (.lst (arcsV xs)), .un, .fz (.int i), .un, .un, .un] (.inr ⟨_, rfl⟩)
        unfold lcStep
        simp [sm, l]
    obtain ⟨S2, e2, q2, sq2⟩ := loop2 hn (.lst (arcsV xs)) d (FW.T0 n) (FW.sq_T0 n) (dS (.int n) (.lst (arcsV xs)) (FW.T0 n) d .un .un .un .un) ⟨_, _, _, _, pl_un, pl_un, pl_un, pl_un, rfl⟩
    obtain ⟨S3, e3, q3, sq3⟩ := loop3 xs hf (.lst (arcsV xs)) d _ sq2 S2 q2
    obtain ⟨S4, e4, s3, s4, s5, s6, p3, p4, p5, p6, es⟩ := loop6 hn (.lst (arcsV xs)) d _ sq3 S3 q3
    obtain ⟨t3, t4, t5, t6, r3, r4, r5, r6, et⟩ := q3
    obtain ⟨u3, u4, u5, u6, w3, w4, w5, w6, eu⟩ := q2
    subst et eu es
    have ed : FW.fw n (FW.arcsIn xs (FW.diag n (FW.T0 n))) = FW.dists n xs := rfl
    rw [ed] at e4
    simp only [dS] at e2 e3 e4
    simp [sm, lc1, e2, e3, e4]
    rfl
  simp [callM, lend, hasDr, hasAl, e]
end K07P
set_option Elab.async false
set_option linter.all false
set_option maxRecDepth 100000
set_option maxHeartbeats 2000000
namespace TL
theorem lcF_rel {b : BT} {t : M Bool} {m : M RV} {vs : List Nat} (P : List FV → List OT → MS → Prop) (step : ∀ v r acc S, P (v :: r) acc S → ∃ o S', lcStep b t m vs v S = .ok o S' ∧ P r (acc ++ [o]) S') : ∀ (its : List FV) (acc : List OT) (S : MS), P its acc S → acc.length + its.length ≤ 16777216 → ∃ ts S', lcF b t m vs its acc S = .ok ts S' ∧ P [] ts S'
  | [], acc, S, h, _ => ⟨acc, S, by rw [lcF], h⟩
  | v :: r, acc, S, h, hl => by
    simp only [List.length_cons] at hl
    obtain ⟨o, S1, e1, h1⟩ := step v r acc S h
    obtain ⟨ts, S', e2, h2⟩ := lcF_rel P step r (acc ++ [o]) S1 h1 (by simp; omega)
    exact ⟨ts, S', by rw [lcF_step e1 (by omega)]; exact e2, h2⟩
theorem pick_choice (vs : List FV) (i : Int) (h0 : 0 ≤ i) (h1 : i < vs.length) : ∃ v ∈ vs, ∀ S, pick (.tmp (vs.map OT.fz)) i S = .ok (.fz v) S := by
  have h : i.toNat < vs.length := by omega
  refine ⟨vs[i.toNat], List.getElem_mem h, fun S => ?_⟩
  rw [pick_tmp, ix_int _ _ h0, List.getElem?_map, List.getElem?_eq_getElem h]
  rfl
theorem pick_choiceI (ns : List Int) (i : Int) (h0 : 0 ≤ i) (h1 : i < ns.length) : ∃ n ∈ ns, ∀ S, pick (.tmp (ns.map fun n => OT.fz (.int n))) i S = .ok (.fz (.int n)) S := by
  have h : i.toNat < ns.length := by omega
  refine ⟨ns[i.toNat], List.getElem_mem h, fun S => ?_⟩
  rw [pick_tmp, ix_int _ _ h0, List.getElem?_map, List.getElem?_eq_getElem h]
  rfl
theorem gTimes_int (i j : Int) (S : MS) (h : i.natAbs ≤ 18446744073709551615 ∨ j.natAbs ≤ 18446744073709551615) : gTimes (.fz (.int i)) (.fz (.int j)) S = .ok (.fz (.int (i * j))) S := by
  have e : gTimes (.fz (.int i)) (.fz (.int j)) S = if Nat.ble i.natAbs 18446744073709551615 || Nat.ble j.natAbs 18446744073709551615 then .ok (.fz (.int (i * j))) S else .stuck := rfl
  rw [e, if_pos]
  rw [Bool.or_eq_true]
  exact h.imp Nat.ble_eq_true_of_le Nat.ble_eq_true_of_le
@[simp] theorem mNeg_at (m : M RV) (S : MS) : mNeg m S = (m S).bind fun v S' => gI (fun _ _ => true) (fun i _ => .int (-i)) v (.fz (.int 0)) S' := rfl
@[simp] theorem gAbs_at (i : Int) (S : MS) : gAbs [.fz (.int i)] S = .ok (.fz (.int (if i < 0 then -i else i))) S := rfl
@[simp] theorem toP_pl (j : Nat) (p : List Nat) (S : MS) : toP (.pl j p) S = (toF (.pl j p) S).bind fun u S2 => .ok (.fz u) S2 := rfl
/-! slices -/
@[simp] theorem mCut_at (m : M RV) (ml mh : MO) (S : MS) : mCut m ml mh S = (m S).bind fun v S1 => (ml S1).bind fun lo S2 => (mh S2).bind fun hi S3 => gCut v lo hi S3 := rfl
@[simp] theorem oNone_at (S : MS) : oNone S = .ok none S := rfl
@[simp] theorem oSome_at (m : M RV) (S : MS) : oSome m S = (m S).bind fun v S1 => match v with
  | .fz (.int i) => .ok (some i) S1
  | _ => .stuck := rfl
@[simp] theorem gCut_lst (us : List FV) (lo hi : Option Int) (S : MS) : gCut (.fz (.lst us)) lo hi S = .ok (.tmp ((cutF us lo hi).map OT.fz)) S := rfl
@[simp] theorem gCut_tup (us : List FV) (lo hi : Option Int) (S : MS) : gCut (.fz (.tup us)) lo hi S = .ok (.fz (.tup (cutF us lo hi))) S := rfl
theorem cut_take {α : Type} (xs : List α) (k : Nat) (h : k ≤ xs.length) : cutF xs none (some (k : Int)) = xs.take k := by
  unfold cutF
  have e1 : HT.sIx xs.length 0 none = 0 := rfl
  have e2 : HT.sIx xs.length xs.length (some (k : Int)) = k := by
    rw [HT.sIx_nat]
    omega
  rw [e1, e2]
  simp
theorem cut_drop {α : Type} (xs : List α) (k : Nat) (h : k ≤ xs.length) : cutF xs (some (k : Int)) none = xs.drop k := by
  unfold cutF
  have e1 : HT.sIx xs.length xs.length none = xs.length := rfl
  have e2 : HT.sIx xs.length 0 (some (k : Int)) = k := by
    rw [HT.sIx_nat]
    omega
  rw [e1, e2]
  rw [List.take_of_length_le (by simp)]
/-! lists added up -/
theorem gPlus_lst (a b : RV) (S : MS) (xs ys : List FV) (ha : items a S = some xs) (hb : items b S = some ys) (na : noScr a = true) (nb : noScr b = true) (nt : ∀ v, a ≠ .fz v ∨ (∃ us, v = .lst us)) (hl : xs.length + ys.length ≤ 16777216) : gPlus a b S = .ok (.tmp ((xs ++ ys).map OT.fz)) S := by
  have e : gPlus a b S = gCat a b S := by
    unfold gPlus
    split
    · rename_i i j
      rcases nt (.int i) with h | ⟨us, h⟩
      · exact absurd rfl h
      · cases h
    · rename_i i j
      rcases nt (.tup i) with h | ⟨us, h⟩
      · exact absurd rfl h
      · cases h
    · rename_i i j
      rcases nt (.str i) with h | ⟨us, h⟩
      · exact absurd rfl h
      · cases h
    · rfl
  rw [e]
  unfold gCat
  rw [ha, hb]
  simp only [na, nb, line_of hl, Bool.and_self, if_true]
@[simp] theorem items_tmp (us : List FV) (S : MS) : items (.tmp (us.map OT.fz)) S = some us := allFz_map us
@[simp] theorem items_fzl (us : List FV) (S : MS) : items (.fz (.lst us)) S = some us := rfl
theorem plus_ll (xs ys : List FV) (S : MS) (hl : xs.length + ys.length ≤ 16777216) : gPlus (.fz (.lst xs)) (.fz (.lst ys)) S = .ok (.tmp ((xs ++ ys).map OT.fz)) S :=
  gPlus_lst _ _ S xs ys rfl rfl rfl rfl (fun v => by
    by_cases h : v = .lst xs
    · exact .inr ⟨_, h⟩
    · exact .inl fun z => h (by cases z; rfl)) hl
theorem plus_lt (xs ys : List FV) (S : MS) (hl : xs.length + ys.length ≤ 16777216) : gPlus (.fz (.lst xs)) (.tmp (ys.map OT.fz)) S = .ok (.tmp ((xs ++ ys).map OT.fz)) S :=
  gPlus_lst _ _ S xs ys rfl (allFz_map ys) rfl rfl (fun v => by
    by_cases h : v = .lst xs
    · exact .inr ⟨_, h⟩
    · exact .inl fun z => h (by cases z; rfl)) hl
theorem plus_tt (xs ys : List FV) (S : MS) (hl : xs.length + ys.length ≤ 16777216) : gPlus (.tmp (xs.map OT.fz)) (.tmp (ys.map OT.fz)) S = .ok (.tmp ((xs ++ ys).map OT.fz)) S :=
  gPlus_lst _ _ S xs ys (allFz_map xs) (allFz_map ys) rfl rfl (fun v => .inl fun z => by cases z) hl
end TL
set_option Elab.async false
set_option linter.all false
set_option maxRecDepth 100000
set_option maxHeartbeats 2000000
namespace K07P
open TL K07
theorem frz_tab (T : List (List FV)) : frzs (tabO T) = T.map FV.lst := by
  unfold tabO
  induction T with
  | nil => rfl
  | cons r T ih =>
    simp only [List.map_cons, frzs, ih]
    simp [OT.frz]
/-- a diagonal entry below 0 -/
theorem ar_loop {n : Nat} {T : FW.Tab} (h : FW.Sq n T) (hd : ∀ a, a < n → ∃ x, FW.tg T a a = some x) (d : Option (List Int)) : ∀ (m k : Nat) (s1 : Sl), Pl s1 → k + m = n →
    (∃ t1, loopF (bName 1) m_law_any_ring_b0 (rng k m) ⟨[.fz (.lst ((fvT T).map FV.lst)), s1], d⟩ = .nx ⟨[.fz (.lst ((fvT T).map FV.lst)), t1], d⟩ ∧ ∀ a x, k ≤ a → a < n → FW.tg T a a = some x → 0 ≤ x) ∨
    (∃ t1, loopF (bName 1) m_law_any_ring_b0 (rng k m) ⟨[.fz (.lst ((fvT T).map FV.lst)), s1], d⟩ = .rt (.fz (.bl true)) ⟨[.fz (.lst ((fvT T).map FV.lst)), t1], d⟩ ∧ ∃ a x, a < n ∧ FW.tg T a a = some x ∧ x < 0)
  | 0, k, s1, p1, e => .inl ⟨s1, rfl, fun a x h1 h2 => by omega⟩
  | m + 1, k, s1, p1, e => by
    have hk : k < n := by omega
    obtain ⟨x, ex⟩ := hd k hk
    have e1 : L2.atI ((fvT T).map FV.lst) (k : Int) = some (.lst ((T.getD k []).map optI)) := by
      rw [ix_nn, List.getElem?_map, fvT_row h k hk]
      rfl
    have e2 : L2.atI ((T.getD k []).map optI) (k : Int) = some (.int x) := by
      rw [ix_nn, fvT_cell h k k hk hk, ex]
      rfl
    generalize (T.getD k []).map optI = r at e1 e2
    by_cases z : x < 0
    · refine .inr ⟨.fz (.int k), ?_, k, x, hk, ex, z⟩
      rw [rng_succ, loopF_cons]
      simp [e1, e2, z, p1.1]
    · have st : loopF (bName 1) m_law_any_ring_b0 (rng k (m + 1)) (MS.mk [.fz (.lst ((fvT T).map FV.lst)), s1] d) = loopF (bName 1) m_law_any_ring_b0 (rng ((k + 1 : Nat) : Int) m) ⟨[.fz (.lst ((fvT T).map FV.lst)), .fz (.int k)], d⟩ := by
        rw [rng_succ, loopF_cons]
        simp [e1, e2, z, p1.1]
      rw [st]
      rcases ar_loop h hd d m (k + 1) (.fz (.int k)) (pl_fz _) (by omega) with ⟨t1, e3, q⟩ | ⟨t1, e3, q⟩
      · refine .inl ⟨t1, e3, fun a y h1 h2 h3 => ?_⟩
        by_cases c : a = k
        · subst c
          rw [ex] at h3
          cases h3
          omega
        · exact q a y (by omega) h2 h3
      · exact .inr ⟨t1, e3, q⟩
theorem anyring_ok {n : Nat} (hn : n ≤ 16777216) {xs : List Arc} {T : FW.Tab} (D : FW.Dok n xs T) : ∃ r : Bool, (∀ S, callM f_law_any_ring 1 [.fz (.lst ((fvT T).map FV.lst))] S = .ok (.fz (.bl r)) S) ∧ (r = false ↔ FW.NoNeg n T) := by
  have hl : ((fvT T).map FV.lst).length = n := by simp [fvT, D.sq.l]
  have sm : small (n : Int) = true := sm_of (by omega) (by omega)
  have key := fun d => ar_loop D.sq (fun a ha => by obtain ⟨x, e, _⟩ := D.dg a ha; exact ⟨x, e⟩) d n 0 .un pl_un (by omega)
  by_cases hz : FW.NoNeg n T
  · refine ⟨false, fun S => ?_, by simp [hz]⟩
    have e : ∀ d, f_law_any_ring [.fz (.lst ((fvT T).map FV.lst))] d = .ret (.fz (.bl false)) d := fun d => by
      unfold f_law_any_ring m_law_any_ring
      rw [fnM_fin]
      rcases key d with ⟨t1, e3, q⟩ | ⟨t1, e3, a, x, h1, h2, h3⟩
      · simp only [Int.ofNat_zero, Int.natCast_zero] at e3
        simp only [List.length_map] at hl
        simp [hl, sm, e3]
      · have := hz a x h1 h2
        omega
    simp [callM, lend, hasDr, hasAl, e]
  · refine ⟨true, fun S => ?_, by simp [hz]⟩
    have e : ∀ d, f_law_any_ring [.fz (.lst ((fvT T).map FV.lst))] d = .ret (.fz (.bl true)) d := fun d => by
      unfold f_law_any_ring m_law_any_ring
      rw [fnM_fin]
      rcases key d with ⟨t1, e3, q⟩ | ⟨t1, e3, a, x, h1, h2, h3⟩
      · exact absurd (fun a x h1 h2 => q a x (by omega) h1 h2) hz
      · simp only [Int.ofNat_zero, Int.natCast_zero] at e3
        simp only [List.length_map] at hl
        simp [hl, sm, e3]
    simp [callM, lend, hasDr, hasAl, e]
/-! ### the law's own net -/
theorem row_ext (hs : List Int) (i : Int) (h0 : 0 ≤ i) (h1 : i < hs.length) : ((hs.map FV.int).map OT.fz)[i.toNat]? = some (.fz (.int (BF.rowAt hs i))) := by
  have h : i.toNat < hs.length := by omega
  unfold BF.rowAt
  rw [List.getElem?_map, List.getElem?_map, List.getElem?_eq_getElem h, List.getD_eq_getElem?_getD, List.getElem?_eq_getElem h]
  rfl
theorem hts_ok (n : Nat) (sc : Int) (sure : Bool) (ds : List Int) (hn : n ≤ 16777216) : ∃ (hs : List Int) (ds' : List Int), lcF (bName 10) tYes' m_law_net_b0 [10] (rng 0 n) [] ⟨[.dr, .fz (.bl sure), .fz (.int n), .fz (.int sc), .un, .un, .un, .un, .un, .un, .un], some ds⟩ = .ok ((hs.map FV.int).map OT.fz) ⟨[.dr, .fz (.bl sure), .fz (.int n), .fz (.int sc), .un, .un, .un, .un, .un, .un, .un], some ds'⟩ ∧ hs.length = n := by
  obtain ⟨ts, S', e, hs, ds', e1, e2, k, e3, e4⟩ := lcF_rel (b := bName 10) (t := tYes') (m := m_law_net_b0) (vs := [10]) (fun r acc S => ∃ (hs : List Int) (ds' : List Int), acc = (hs.map FV.int).map OT.fz ∧ S = ⟨[.dr, .fz (.bl sure), .fz (.int n), .fz (.int sc), .un, .un, .un, .un, .un, .un, .un], some ds'⟩ ∧ ∃ k : Nat, r = rng hs.length k ∧ hs.length + k = n) (fun v r acc S ⟨hs, ds', e1, e2, k, e3, e4⟩ => by
    cases k with
    | zero => cases e3
    | succ k =>
      rw [rng_succ] at e3
      cases e3
      subst e1 e2
      have hl : (hs.length : Int) ≤ 16777216 := by omega
      have t0 := tk_lo ds' (n := 13) (by decide)
      have t1 := tk_hi ds' (n := 13) (by decide)
      have g5 : ∀ S, gTimes (.fz (.int 5)) (.fz (.int hs.length)) S = .ok (.fz (.int (5 * hs.length))) S := fun S => gTimes_int _ _ S (.inl (by decide))
      have gs : ∀ S, gTimes (.fz (.int sc)) (.fz (.int ((tk ds' 13 + 5 * hs.length) % 13 - 6))) S = .ok (.fz (.int (sc * ((tk ds' 13 + 5 * hs.length) % 13 - 6)))) S := fun S => gTimes_int _ _ S (.inr (by omega))
      refine ⟨.fz (.int (sc * ((tk ds' 13 + 5 * hs.length) % 13 - 6))), ⟨[.dr, .fz (.bl sure), .fz (.int n), .fz (.int sc), .un, .un, .un, .un, .un, .un, .un], some ds'.dropLast⟩, ?_, hs ++ [sc * ((tk ds' 13 + 5 * hs.length) % 13 - 6)], _, by simp, rfl, k, by simp, by simp; omega⟩
      unfold lcStep
      simp [g5, gs]) (rng 0 n) [] _ ⟨[], ds, rfl, rfl, n, rfl, by simp⟩ (by simp [rng]; exact hn)
  cases k with
  | zero =>
    refine ⟨hs, ds', ?_, by omega⟩
    rw [e, e1, e2]
  | succ k => rw [rng_succ] at e3; cases e3
def netS (sure : Bool) (n : Nat) (sc : Int) (hs : List Int) (xs : List Arc) (ds : List Int) (s6 s7 s8 s9 : Sl) : MS := ⟨[.dr, .fz (.bl sure), .fz (.int n), .fz (.int sc), .own ((hs.map FV.int).map OT.fz), .own ((arcsV xs).map OT.fz), s6, s7, s8, s9, .un], some ds⟩
theorem arcs_loop (sure : Bool) (n : Nat) (hn : 1 ≤ n) (sc : Int) (hs : List Int) (hh : hs.length = n) : ∀ (m k : Nat) (xs : List Arc) (ds : List Int) (s6 s7 s8 s9 : Sl), Pl s6 → Pl s7 → Pl s8 → Pl s9 → Fits n xs → (sure = true → BF.Keep xs (BF.rowAt hs)) → xs.length + m ≤ 100 →
    ∃ xs' ds' t6 t7 t8 t9, loopF (bName 6) m_law_net_b1 (rng k m) (netS sure n sc hs xs ds s6 s7 s8 s9) = .nx (netS sure n sc hs xs' ds' t6 t7 t8 t9) ∧ Fits n xs' ∧ (sure = true → BF.Keep xs' (BF.rowAt hs)) ∧ xs'.length = xs.length + m
  | 0, k, xs, ds, s6, s7, s8, s9, p6, p7, p8, p9, hf, hk, hl => ⟨xs, ds, s6, s7, s8, s9, rfl, hf, hk, rfl⟩
  | m + 1, k, xs, ds, s6, s7, s8, s9, p6, p7, p8, p9, hf, hk, hl => by
    have n0 : (0 : Int) < n := by omega
    have n1 : ¬ (n : Int) = 0 := by omega
    have ne : ¬ n = 0 := by omega
    have n2 : 0 < n := hn
    obtain ⟨l, _, hp⟩ := pick_choiceI [1, -1, 2, 0, 3, -2, 5, 4] (tk ds.dropLast.dropLast 8) (tk_lo _ (by decide)) (tk_hi _ (by decide))
    simp only [List.map_cons, List.map_nil] at hp
    have lb : l.natAbs ≤ 18446744073709551615 := by
      rename_i hm
      simp at hm
      omega
    have gs : ∀ S, gTimes (.fz (.int sc)) (.fz (.int l)) S = .ok (.fz (.int (sc * l))) S := fun S => gTimes_int _ _ S (.inr lb)
    generalize ha : ((k : Int) + tk ds n) % n = a
    generalize hb : ((k : Int) + 1 + tk ds.dropLast n) % n = b
    have a0 : 0 ≤ a := by rw [← ha]; exact Int.emod_nonneg _ n1
    have a1 : a < n := by rw [← ha]; exact Int.emod_lt_of_pos _ n0
    have b0 : 0 ≤ b := by rw [← hb]; exact Int.emod_nonneg _ n1
    have b1 : b < n := by rw [← hb]; exact Int.emod_lt_of_pos _ n0
    generalize hL : (if sure = true then BF.rowAt hs b - BF.rowAt hs a + (if sc * l < 0 then -(sc * l) else sc * l) else sc * l) = L
    have pa := fun sl (h : sl[4]? = some (.own ((hs.map FV.int).map OT.fz))) => pick_own a 4 sl (some ds.dropLast.dropLast.dropLast) _ _ h a0 (row_ext hs a a0 (by omega))
    have pb := fun sl (h : sl[4]? = some (.own ((hs.map FV.int).map OT.fz))) => pick_own b 4 sl (some ds.dropLast.dropLast.dropLast) _ _ h b0 (row_ext hs b b0 (by omega))
    obtain ⟨xs', ds', t6, t7, t8, t9, e, q1, q2, q3⟩ := arcs_loop sure n hn sc hs hh m (k + 1) (xs ++ [(a, b, L)]) ds.dropLast.dropLast.dropLast (.fz (.int k)) (.fz (.int a)) (.fz (.int b)) (.fz (.int L)) (pl_fz _) (pl_fz _) (pl_fz _) (pl_fz _) (fun c hc => by
      rcases List.mem_append.mp hc with hc | hc
      · exact hf c hc
      · rw [List.mem_singleton.mp hc]
        simp [fits, a0, a1, b0, b1]) (fun hsu c hc => by
      rcases List.mem_append.mp hc with hc | hc
      · exact hk hsu c hc
      · rw [List.mem_singleton.mp hc]
        simp only
        rw [← hL, if_pos hsu]
        split <;> omega) (by simp; omega)
    refine ⟨xs', ds', t6, t7, t8, t9, ?_, q1, q2, by rw [q3]; simp; omega⟩
    rw [rng_succ, loopF_cons, ← e]
    have len : xs.length + 1 ≤ 16777216 := by omega
    have av : arcsV (xs ++ [(a, b, L)]) = arcsV xs ++ [.tup [.int a, .int b, .int L]] := by simp [arcsV, arcV]
    have lx : (arcsV xs).length = xs.length := by simp [arcsV]
    simp only [List.map_map] at pa pb
    cases sure with
    | true =>
      simp only [if_true] at hL
      simp [netS, p6.1, p7.1, p8.1, p9.1, n0, n2, ha, hb, hp, gs, pa, pb, line_of, lx, len, av, hL, p6.2.2.1, p7.2.2.1, p8.2.2.1, p9.2.2.1, gAddI]
    | false =>
      simp only [Bool.false_eq_true, if_false] at hL
      simp [netS, p6.1, p7.1, p8.1, p9.1, n0, n2, ha, hb, hp, gs, pa, pb, line_of, lx, len, av, hL, p6.2.2.1, p7.2.2.1, p8.2.2.1, p9.2.2.1, gAddI]
theorem net_ok (sure : Bool) (ds : List Int) : ∃ (n : Nat) (xs : List Arc) (hs : List Int) (ds' : List Int), f_law_net [.dr, .fz (.bl sure)] (some ds) = .ret (.tmp [.fz (.int n), .fz (.lst (arcsV xs)), .fz (.lst (intsV hs))]) (some ds') ∧ 1 ≤ n ∧ n ≤ 6 ∧ hs.length = n ∧ xs.length ≤ 12 ∧ Fits n xs ∧ (sure = true → BF.Keep xs (BF.rowAt hs)) := by
  obtain ⟨ni, hni, e1⟩ := pick_choiceI [3, 1, 4, 2, 5, 6, 3] (tk ds 7) (tk_lo _ (by decide)) (tk_hi _ (by decide))
  obtain ⟨sc, _, e2⟩ := pick_choiceI [1, 1, 10 ^ 12, 1, 10 ^ 24] (tk ds.dropLast 5) (tk_lo _ (by decide)) (tk_hi _ (by decide))
  obtain ⟨n, rfl⟩ : ∃ n : Nat, ni = n := ⟨ni.toNat, by simp at hni; omega⟩
  have hn1 : 1 ≤ n ∧ n ≤ 6 := by simp at hni; omega
  obtain ⟨hs, ds1, e3, hh⟩ := hts_ok n sc sure ds.dropLast.dropLast (by omega)
  obtain ⟨mi, hmi, e4⟩ := pick_choiceI [4, 6, 2, 9, 0, 12, 5] (tk ds1 7) (tk_lo _ (by decide)) (tk_hi _ (by decide))
  obtain ⟨m, rfl⟩ : ∃ m : Nat, mi = m := ⟨mi.toNat, by simp at hmi; omega⟩
  have hm1 : m ≤ 12 := by simp at hmi; omega
  obtain ⟨xs, ds2, t6, t7, t8, t9, e5, q1, q2, q3⟩ := arcs_loop sure n hn1.1 sc hs hh m 0 [] ds1.dropLast .un .un .un .un pl_un pl_un pl_un pl_un (fun a ha => by cases ha) (fun _ a ha => by cases ha) (by simp; omega)
  refine ⟨n, xs, hs, ds2, ?_, hn1.1, hn1.2, hh, by simp at q3; omega, q1, q2⟩
  unfold f_law_net m_law_net
  rw [fnM_fin]
  have sn : small (n : Int) = true := sm_of (by omega) (by omega)
  have sm : small (m : Int) = true := sm_of (by omega) (by omega)
  have li : lineOk 0 = true := rfl
  have l3 : lineOk 3 = true := rfl
  have l5 : lineOk 5 = true := rfl
  have l7 : lineOk 7 = true := rfl
  simp only [List.map_cons, List.map_nil] at e1 e2 e4
  simp only [netS, Int.ofNat_zero, Int.natCast_zero, arcsV, List.map_nil] at e5
  simp only [Int.reducePow] at e2
  have t1 := fun sl h => toO_own 4 sl (some ds2) ((hs.map FV.int).map OT.fz) h
  have t2 := fun sl h => toO_own 5 sl (some ds2) ((xs.map arcV).map OT.fz) h
  simp [-List.map_map, l3, l5, l7, e1, e2, sn, e3, li, e4, sm, e5, t1, t2]
  exact ⟨rfl, rfl⟩

end K07P
set_option Elab.async false
set_option linter.all false
set_option maxRecDepth 100000
set_option maxHeartbeats 2000000
namespace TL
@[simp] theorem mLenO_at (c : Nat) (fm : FM) (m : M RV) (S : MS) : mLenO c fm m S = (m S).bind (lenR c fm) := rfl
theorem lenR_at (c : Nat) (fm : FM) (fs : List FV) (S : MS) : lenR c fm (.fz (.obj c fs)) S = (callM fm 1 [.fz (.obj c fs)] S).bind asN := by
  show (if c = c then (callM fm 1 [.fz (.obj c fs)] S).bind asN else .stuck) = _
  rw [if_pos rfl]
@[simp] theorem gListO_at (c k : Nat) (c' : Nat) (fs : List FV) (S : MS) : gListO c k [.fz (.obj c' fs)] S = if c' = c then (match fs[k]? with
      | some (.tup us) => .ok (.tmp (us.map OT.fz)) S
      | _ => .stuck)
    else .stuck := rfl
@[simp] theorem toLent_pl (j : Nat) (p : List Nat) (S : MS) : toLent (.pl j p) S = .ok (.al j p) S := rfl
theorem gEq_at (ng : Bool) (a b : RV) (u v : FV) (S : MS) (ha : view a S = some u) (hb : view b S = some v) (h1 : u.dat 64 = true) (h2 : v.dat 64 = true) : gEq ng a b S = .ok (.fz (.bl (if ng then !u.eqv v else u.eqv v))) S := by
  unfold gEq
  rw [ha, hb]
  simp only [h1, h2, Bool.and_self, if_true]
/-- data that are equal to themselves -/
def FV.self : FV → Bool
  | .non => true
  | .bl _ => true
  | .int _ => true
  | .str _ => true
  | _ => false
theorem eqvs_flat : ∀ (xs : List FV), xs.all FV.self = true → eqvs xs xs = true
  | [], _ => rfl
  | x :: xs, h => by
    simp only [List.all_cons, Bool.and_eq_true] at h
    simp only [eqvs, eqvs_flat xs h.2, Bool.and_true]
    cases x <;> first | (cases h.1; done) | simp [FV.eqv]
end TL
namespace K07P
open TL K07
theorem arcV_dat (a : Arc) (n : Nat) : FV.dat (n + 2) (arcV a) = true := by simp [arcV, FV.dat]
theorem arcV_eqv (a : Arc) : FV.eqv (arcV a) (arcV a) = true := by simp [arcV, FV.eqv, eqvs]
theorem arcsV_dat (xs : List Arc) (n : Nat) : FV.dat (n + 3) (.lst (arcsV xs)) = true := by
  simp only [FV.dat, arcsV, List.all_map, List.all_eq_true]
  intro a _
  exact arcV_dat a n
theorem arcsV_eqv : ∀ (xs : List Arc), eqvs (arcsV xs) (arcsV xs) = true
  | [] => rfl
  | a :: xs => by
    have h := arcsV_eqv xs
    simp only [arcsV, List.map_cons] at h ⊢
    simp only [eqvs, arcV_eqv, h, Bool.and_self]
def arcR (a : Arc) : List FV := [.int a.1, .int a.2.1, .int a.2.2]
theorem arcO_tab (A : List Arc) : A.map arcO = tabO (A.map arcR) := by
  simp [tabO, arcO, arcR]
theorem frz_arcO (A : List Arc) : OT.frz (.own (A.map arcO)) = .lst (A.map arcL) := by
  have := frzs_arcO A
  simp only [OT.frz, this]
theorem nol_net (n : Int) (xs : List Arc) : nolsts [.int n, .tup (arcsV xs)] = true := by
  have h : ∀ ys : List Arc, nolsts (ys.map arcV) = true := fun ys => by
    induction ys with
    | nil => rfl
    | cons a ys ih => simp [nolsts, nolst, arcV, ih]
  simp [nolsts, nolst, arcsV, h]
theorem make_lent (n : Int) (hn : 1 ≤ n) (xs : List Arc) (hf : Fits n xs) (hl : xs.length ≤ 16777216) (sl : List Sl) (d : Option (List Int)) (j : Nat) (h : sl[j]? = some (.own (xs.map arcO))) :
    makeM f_Net__init 3 0 2 [.fz (.int n), .al j []] ⟨sl, d⟩ = .ok (.fz (netV n xs)) ⟨sl, d⟩ := by
  have e := init_ok n hn (xs.map arcL) xs (.lst (xs.map arcL)) (.inl rfl) (handed_arcL xs) hf hl
  have e2 : lend ⟨sl, d⟩ [.fz (.int n), .al j []] = some [.fz (.int n), .fz (.lst (xs.map arcL))] := by
    simp [lend, h, frz_arcO]
  have nl := nol_net n xs
  unfold makeM
  rw [e2]
  simp [hasDr, hasAl, e, netV, nl]
theorem kept1 (sz ar he nt : FV) (ds : List Int) (N : Nat) : ∀ (m k : Nat) (A : List Arc) (s6 s9 : Sl), Pl s6 → (s9 = .un ∨ ∃ q, s9 = .al 4 [q]) → k + m ≤ A.length →
    ∃ (A' : List Arc) (t6 t9 : Sl), loopF (bName 6) m_law_kept_b1 (rng k m) ⟨[.dr, .fz sz, .fz ar, .fz he, .own (tabO (A.map arcR)), .fz nt, s6, .un, .un, s9, .un, .un], some ds⟩ = .nx ⟨[.dr, .fz sz, .fz ar, .fz he, .own (tabO (A'.map arcR)), .fz nt, t6, .un, .un, t9, .un, .un], some ds⟩ ∧ Pl t6 ∧ (t9 = .un ∨ ∃ q, t9 = .al 4 [q])
  | 0, k, A, s6, s9, p6, p9, _ => ⟨A, s6, s9, rfl, p6, p9⟩
  | m + 1, k, A, s6, s9, p6, p9, hk => by
    have kl : k < A.length := by omega
    have hr : (A.map arcR)[k]? = some (arcR A[k]) := by
      rw [List.getElem?_map, List.getElem?_eq_getElem kl]
      rfl
    have r := fun sl hs => pick_row 4 (k : Int) sl (some ds) (A.map arcR) _ hs (by omega) hr
    have c := fun sl hs => pick_cell 4 k 2 sl (some ds) (A.map arcR) _ (.int A[k].2.2) hs hr (by decide) rfl
    have s := fun u sl hs => set_cell u 4 k 2 sl (some ds) (A.map arcR) _ hs hr (by decide) (by simp [arcR])
    have a2 := fun sl hs => at_two 4 k sl (some ds) (A.map arcR) _ hs hr
    simp only [Int.toNat_natCast] at r
    have e2 : (A.map arcR).set k ((arcR A[k]).set 2 (.int (A[k].2.2 - 7))) = (A.set k (A[k].1, A[k].2.1, A[k].2.2 - 7)).map arcR := by
      rw [List.map_set]
      rfl
    obtain ⟨A', t6, t9, e, q1, q2⟩ := kept1 sz ar he nt ds N m (k + 1) (A.set k (A[k].1, A[k].2.1, A[k].2.2 - 7)) (.fz (.int k)) (.al 4 [k]) (pl_fz _) (.inr ⟨_, rfl⟩) (by simp; omega)
    refine ⟨A', t6, t9, ?_, q1, q2⟩
    rw [rng_succ, loopF_cons]
    have d9 : ∀ i, i ≠ 4 → dropAl i s9 = s9 := fun i hi => by
      rcases p9 with rfl | ⟨q, rfl⟩
      · rfl
      · rw [drA_al, if_neg (by omega)]
    have b9 : ∀ sl : List Sl, sl[4]? = some (.own (tabO (A.map arcR))) → MS.bind ⟨sl, some ds⟩ 9 (.pl 4 [k]) = some (MS.set ⟨sl, some ds⟩ 9 (.al 4 [k])) := fun sl hs => by
      unfold MS.bind
      simp only
      rw [if_neg (by decide), a2 sl hs]
    have k9 : kill 4 [k] (.al 4 [k]) = .al 4 [k] := by
      unfold kill above
      simp [above]
    rw [← e]
    simp [-List.map_map, p6.1, d9, r, b9, a2, c, s, p6.2.2.1, k9]
    first | (rw [e2]; done) | (rw [e2, List.map_set]; done) | rw [List.map_set]
theorem kept2 (n : Nat) (xs : List Arc) (he : FV) (ts : List OT) (ds : List Int) (s9 : Sl) (p9 : s9 = .un ∨ ∃ q, s9 = .al 4 [q]) : ∀ (m k : Nat) (s6 : Sl), Pl s6 → k + m = xs.length →
    ∃ t6, loopF (bName 6) m_law_kept_b2 (rng k m) ⟨[.dr, .fz (.int n), .fz (.lst (arcsV xs)), .fz he, .own ts, .fz (netV n xs), s6, .un, .un, s9, .un, .un], some ds⟩ = .nx ⟨[.dr, .fz (.int n), .fz (.lst (arcsV xs)), .fz he, .own ts, .fz (netV n xs), t6, .un, .un, s9, .un, .un], some ds⟩ ∧ Pl t6
  | 0, k, s6, p6, _ => ⟨s6, rfl, p6⟩
  | m + 1, k, s6, p6, hk => by
    have kl : k < xs.length := by omega
    have ea := arcs_at xs k _ (List.getElem?_eq_getElem kl)
    obtain ⟨t6, e, q⟩ := kept2 n xs he ts ds s9 p9 m (k + 1) (.fz (.int k)) (pl_fz _) (by omega)
    refine ⟨t6, ?_, q⟩
    rw [rng_succ, loopF_cons, ← e]
    have d9 : ∀ i, i ≠ 4 → dropAl i s9 = s9 := fun i hi => by
      rcases p9 with rfl | ⟨q, rfl⟩
      · rfl
      · rw [drA_al, if_neg (by omega)]
    have li : ∀ S, callM f_law_ints 2 [.fz (arcV xs[k]), .fz (.int 3)] S = .ok (.fz (.bl true)) S := fun S => lints_ok [xs[k].1, xs[k].2.1, xs[k].2.2] 3 rfl S
    have dd := arcV_dat xs[k] 62
    have ee := arcV_eqv xs[k]
    generalize arcV xs[k] = w at *
    simp [p6.1, d9, ea, li, dd, ee]
end K07P
set_option Elab.async false
set_option linter.all false
set_option maxRecDepth 100000
set_option maxHeartbeats 2000000
namespace K07P
open TL K07
def Q4 (s : Sl) : Prop := s = .un ∨ ∃ q, s = .al 4 [q]
theorem Q4.d {s : Sl} (h : Q4 s) (i : Nat) (hi : i ≠ 4) : dropAl i s = s := by
  rcases h with rfl | ⟨q, rfl⟩
  · rfl
  · rw [drA_al, if_neg (by omega)]
theorem Q4.k {s : Sl} (h : Q4 s) (j : Nat) (p : List Nat) (hi : j ≠ 4) : kill j p s = s := by
  rcases h with rfl | ⟨q, rfl⟩
  · rfl
  · unfold kill
    simp only
    rw [if_neg (by omega)]
theorem Q4.t {s : Sl} (h : Q4 s) (j : Nat) (p : List Nat) (v : FV) (hi : j ≠ 4) : thaw j p v s = s := by
  rcases h with rfl | ⟨q, rfl⟩
  · rfl
  · unfold thaw
    simp only
    rw [if_neg (by omega), if_neg (by omega)]
theorem Q4.i {s : Sl} (h : Q4 s) : dropIn [11] s = s := by
  rcases h with rfl | ⟨q, rfl⟩
  · rfl
  · unfold dropIn
    simp
theorem kept_ok (n : Nat) (hn1 : 1 ≤ n) (hn : n ≤ 1000) (xs : List Arc) (hl : xs.length ≤ 1000) (hf : Fits n xs) (hs : List Int) (hh : hs.length = n) (ds : List Int) : ∃ ds', f_law_kept [.dr, .fz (.int n), .fz (.lst (arcsV xs)), .fz (.lst (intsV hs))] (some ds) = .ret (.fz (.bl true)) (some ds') := by
  have n0 : (0 : Int) < n := by omega
  obtain ⟨c, _, hc⟩ := pick_choiceI [2, -1, 9, 1, -(10 ^ 26), 0] (tk ds.dropLast 6) (tk_lo _ (by decide)) (tk_hi _ (by decide))
  simp only [List.map_cons, List.map_nil, Int.reducePow, Int.reduceNeg] at hc
  refine ⟨ds.dropLast.dropLast, ?_⟩
  unfold f_law_kept m_law_kept
  rw [fnM_fin]
  have lx : (arcsV xs).length = xs.length := by simp [arcsV]
  have sx : small (xs.length : Int) = true := sm_of (by omega) (by omega)
  have sn : small (n : Int) = true := sm_of (by omega) (by omega)
  have lc := lc_lists xs (by omega) m_law_kept_b0 10 [10] ⟨[.dr, .fz (.int n), .fz (.lst (arcsV xs)), .fz (.lst (intsV hs)), .un, .un, .un, .un, .un, .un, .un, .un], some ds⟩ fun a => ⟨⟨[.dr, .fz (.int n), .fz (.lst (arcsV xs)), .fz (.lst (intsV hs)), .un, .un, .un, .un, .un, .un, .fz (arcV a), .un], some ds⟩, by simp, by simp [arcV], by simp⟩
  have mk := fun sl (h : sl[4]? = some (.own (xs.map arcO))) => make_lent n (by omega) xs hf (by omega) sl (some ds) 4 h
  have ap : xs.map arcO ++ [.own [.fz (.int 0), .fz (.int 0), .fz (.int (-1))]] = tabO ((xs ++ [(0, 0, -1)]).map arcR) := by
    rw [← arcO_tab]
    simp [arcO]
  obtain ⟨A', t6, t9, e1, q6, q9⟩ := kept1 (.int n) (.lst (arcsV xs)) (.lst (intsV hs)) (netV n xs) ds n xs.length 0 (xs ++ [(0, 0, -1)]) .un .un pl_un (.inl rfl) (by simp)
  have q9' : Q4 t9 := q9
  obtain ⟨u6, e2, r6⟩ := kept2 n xs (.lst (intsV hs)) (tabO (A'.map arcR)) ds t9 q9 xs.length 0 t6 q6 (by omega)
  simp only [Int.ofNat_zero, Int.natCast_zero] at e1 e2
  have at0 := tk_lo ds n0
  have at1 := tk_hi ds n0
  generalize hat : tk ds (n : Int) = at' at at0 at1
  have pk := fun sl (h : sl[7]? = some (.own ((hs.map FV.int).map OT.fz))) => pick_own at' 7 sl (some ds.dropLast) _ _ h at0 (row_ext hs at' at0 (by omega))
  have pk2 := fun sl (h : sl[7]? = some (.own ((hs.map FV.int).map OT.fz))) => pick_own at' 7 sl (some ds.dropLast.dropLast) _ _ h at0 (row_ext hs at' at0 (by omega))
  have st : ((hs.map FV.int).map OT.fz).set at'.toNat (.fz (.int (BF.rowAt hs at' + c))) = ((hs.set at'.toNat (BF.rowAt hs at' + c)).map FV.int).map OT.fz := by
    rw [List.map_set, List.map_set]
  have lk1 := fun S => looks_ok n xs (.lst (intsV hs)) hs (.inl rfl) (by rw [hh]) hf sx S
  have lk2 := fun S => looks_ok n xs (.lst (intsV (hs.set at'.toNat (BF.rowAt hs at' + c)))) _ (.inl rfl) (by simp [hh]) hf sx S
  have lk3 := fun S => looks_ok n xs (.lst (intsV (List.replicate n 0))) (List.replicate n 0) (.inl rfl) (by simp) hf sx S
  have lcz : ∀ sl : List Sl, sl = [.dr, .fz (.int n), .fz (.lst (arcsV xs)), .fz (.lst (intsV hs)), .own (tabO (A'.map arcR)), .fz (netV n xs), u6, .fz (.lst (intsV (hs.set at'.toNat (BF.rowAt hs at' + c)))), .fz (.int at'), t9, .un, .un] → lcF (bName 11) tYes' m_law_kept_b3 [11] (rng 0 n) [] ⟨sl, some ds.dropLast.dropLast⟩ = .ok (List.replicate n (OT.fz (.int 0))) ⟨sl, some ds.dropLast.dropLast⟩ := fun sl hsl => by
    rw [lcF_pure (g := fun v => .fz (.int 0)) _ [] (fun v hv => ?_) (by simp [rng]; omega)]
    · simp [rng]
      exact map_const_range n _ _ fun _ => rfl
    · subst hsl
      unfold lcStep
      simp [r6.1, r6.2.1, q9'.d, q9'.i]
  have li : lineOk 0 = true := rfl
  have l3 : lineOk 3 = true := rfl
  have l6 : lineOk 6 = true := rfl
  have ll : lineOk (xs.length + 1) = true := line_of (by omega)
  have gl : gLen [.fz (.tup (arcsV xs))] = fun S => .ok (.fz (.int xs.length)) S := by
    funext S
    simp [lx]
  have nl : ∀ S, lenR 0 f_Net__len (.fz (netV n xs)) S = .ok (.fz (.int xs.length)) S := fun S => by
    have e : ∀ d, f_Net__len [.fz (netV n xs)] d = .ret (.fz (.int xs.length)) d := fun d => by
      unfold f_Net__len m_Net__len
      rw [fnM_fin]
      simp [lx]
    have e3 : lenR 0 f_Net__len (.fz (netV n xs)) S = (callM f_Net__len 1 [.fz (netV n xs)] S).bind asN := lenR_at _ _ _ _
    rw [e3]
    simp [callM, lend, hasDr, hasAl, e]
    have e4 : asN (.fz (.int xs.length)) S = if decide ((0 : Int) ≤ xs.length) && Nat.ble (xs.length : Int).natAbs 9223372036854775807 then .ok (.fz (.int xs.length)) S else .stuck := rfl
    rw [e4, if_pos]
    rw [Bool.and_eq_true]
    exact ⟨decide_eq_true (by omega), Nat.ble_eq_true_of_le (by omega)⟩
  have gl2 : ∀ S, gListO 0 1 [.fz (netV n xs)] S = .ok (.tmp ((arcsV xs).map OT.fz)) S := fun S => by
    simp [netV]
  have ge : ∀ S, gEq true (.tmp ((arcsV xs).map OT.fz)) (.fz (.lst (arcsV xs))) S = .ok (.fz (.bl false)) S := fun S => by
    rw [gEq_at true _ _ (.lst (arcsV xs)) (.lst (arcsV xs)) S (by show some (FV.lst (frzs _)) = _; rw [frzs_map]) rfl (arcsV_dat xs 61) (arcsV_dat xs 61)]
    simp [FV.eqv, arcsV_eqv]
  have to7 := fun sl h => toF_own 7 sl (some ds.dropLast.dropLast) (((hs.set at'.toNat (BF.rowAt hs at' + c)).map FV.int).map OT.fz) h
  generalize xs ++ [((0 : Int), (0 : Int), (-1 : Int))] = A0 at *
  have hn2 : 0 < n := hn1
  have hlt : at'.toNat < hs.length := by omega
  simp only [intsV, List.map_replicate] at *
  simp [-List.map_map, -List.map_set, lc, mk, li, l3, l6, ll, ap, lx, sx, e1, tyF, tIn, e2, nl, gl2, ge, hn2, hat, hc, q9'.d, q9'.k, q9'.t, q9'.i, r6.1, r6.2.1, r6.2.2.1, r6.2.2.2.2, pk2, at0, at1, pk, hh, st, lk1, lk2, lk3, sn, lcz]

end K07P
set_option Elab.async false
set_option linter.all false
set_option maxRecDepth 100000
set_option maxHeartbeats 2000000
namespace TL
theorem plus_pt (j : Nat) (sl : List Sl) (d : Option (List Int)) (xs ys : List FV) (h : sl[j]? = some (.own (xs.map OT.fz))) (hl : xs.length + ys.length ≤ 16777216) : gPlus (.pl j []) (.tmp (ys.map OT.fz)) ⟨sl, d⟩ = .ok (.tmp ((xs ++ ys).map OT.fz)) ⟨sl, d⟩ :=
  gPlus_lst _ _ _ xs ys (items_own j sl d xs h) (allFz_map ys) rfl rfl (fun v => .inl fun z => by cases z) hl
@[simp] theorem sRev_at (mo : M RV) (S : MS) : sRev mo S = (mo S).thn fun o S1 => match listAt o S1 with
  | some us => (match allFz us with
    | some vs => .nx (putAt o (vs.reverse.map OT.fz) S1)
    | none => .stuck)
  | none => .stuck := rfl
end TL
namespace K07P
open TL K07
def pth (hs : List Int) (k : Nat) : List Arc := (List.range k).map fun i : Nat => ((i : Int), (i : Int) + 1, BF.rowAt hs ((i : Int) + 1) - BF.rowAt hs i)
theorem pth_succ (hs : List Int) (k : Nat) : pth hs (k + 1) = pth hs k ++ [((k : Int), (k : Int) + 1, BF.rowAt hs ((k : Int) + 1) - BF.rowAt hs k)] := by
  unfold pth
  rw [List.range_succ, List.map_append]
  rfl
theorem pth_len (hs : List Int) (k : Nat) : (pth hs k).length = k := by simp [pth]
theorem long_loop (hs : List Int) (z1 z2 z3 : FV) (ds : List Int) : ∀ (m k : Nat) (s6 : Sl), Pl s6 → k + m + 1 = hs.length → hs.length ≤ 1000 →
    ∃ t6, loopF (bName 6) m_law_long_b1 (rng k m) ⟨[.dr, .fz z1, .fz z2, .fz z3, .own ((hs.map FV.int).map OT.fz), .own ((arcsV (pth hs k)).map OT.fz), s6, .un, .un, .un], some ds⟩ = .nx ⟨[.dr, .fz z1, .fz z2, .fz z3, .own ((hs.map FV.int).map OT.fz), .own ((arcsV (pth hs (k + m))).map OT.fz), t6, .un, .un, .un], some ds⟩ ∧ Pl t6
  | 0, k, s6, p6, _, _ => ⟨s6, rfl, p6⟩
  | m + 1, k, s6, p6, hk, hl => by
    obtain ⟨t6, e, q⟩ := long_loop hs z1 z2 z3 ds m (k + 1) (.fz (.int k)) (pl_fz _) (by omega) hl
    refine ⟨t6, ?_, q⟩
    have e1 : k + (m + 1) = k + 1 + m := by omega
    rw [e1, ← e, rng_succ, loopF_cons]
    have pa := fun sl h => pick_own (k : Int) 4 sl (some ds) ((hs.map FV.int).map OT.fz) _ h (by omega) (row_ext hs k (by omega) (by omega))
    have pb := fun sl h => pick_own ((k : Int) + 1) 4 sl (some ds) ((hs.map FV.int).map OT.fz) _ h (by omega) (row_ext hs (k + 1) (by omega) (by omega))
    have lx : (arcsV (pth hs k)).length = k := by simp [arcsV, pth_len]
    have ll : lineOk (k + 1) = true := line_of (by omega)
    have l3 : lineOk 3 = true := rfl
    have ap : (arcsV (pth hs k)).map OT.fz ++ [OT.fz (.tup [.int k, .int (k + 1), .int (BF.rowAt hs (k + 1) - BF.rowAt hs k)])] = (arcsV (pth hs (k + 1))).map OT.fz := by
      rw [pth_succ]
      simp [arcsV, arcV]
    simp only [Int.natCast_add, Int.natCast_one] at *
    simp [-List.map_map, p6.1, pa, pb, lx, ll, l3, p6.2.2.1, ap]
theorem long_keep (hs : List Int) (n : Nat) (hn : 1 ≤ n) : BF.Keep (pth hs (n - 1) ++ [((n : Int) - 1, 0, BF.rowAt hs 0 - BF.rowAt hs ((n : Int) - 1))]) (BF.rowAt hs) := fun a ha => by
  rcases List.mem_append.mp ha with ha | ha
  · obtain ⟨i, _, rfl⟩ := List.mem_map.mp ha
    simp only
    omega
  · rw [List.mem_singleton.mp ha]
    simp only
    omega
theorem long_fit (hs : List Int) (n : Nat) (hn : 2 ≤ n) (l : Int) : Fits n (pth hs (n - 1) ++ [((n : Int) - 1, 0, l)]) := fun a ha => by
  rcases List.mem_append.mp ha with ha | ha
  · obtain ⟨i, hi, rfl⟩ := List.mem_map.mp ha
    have := List.mem_range.mp hi
    simp [fits]
    omega
  · rw [List.mem_singleton.mp ha]
    simp [fits]
    omega
theorem long_bent (hs : List Int) (n : Nat) (hn : 2 ≤ n) : ¬ ∃ p, BF.Keep (pth hs (n - 1) ++ [((n : Int) - 1, 0, BF.rowAt hs 0 - BF.rowAt hs ((n : Int) - 1) - 1)]) p := fun ⟨p, h⟩ => by
  have st : ∀ k, k ≤ n - 1 → p k ≤ p 0 + (BF.rowAt hs k - BF.rowAt hs 0) := fun k => by
    induction k with
    | zero => intro _; simp
    | succ k ih =>
      intro hk
      have h1 := ih (by omega)
      have h2 := h ((k : Int), (k : Int) + 1, BF.rowAt hs ((k : Int) + 1) - BF.rowAt hs k) (List.mem_append_left _ (List.mem_map.mpr ⟨k, List.mem_range.mpr (by omega), rfl⟩))
      simp only at h2
      rw [Int.natCast_add, Int.natCast_one]
      omega
  have h1 := st (n - 1) (Nat.le_refl _)
  have h2 := h ((n : Int) - 1, 0, BF.rowAt hs 0 - BF.rowAt hs ((n : Int) - 1) - 1) (List.mem_append_right _ (List.mem_singleton.mpr rfl))
  have e : ((n - 1 : Nat) : Int) = (n : Int) - 1 := by omega
  rw [e] at h1
  simp only at h2
  omega
theorem keep_rev {xs : List Arc} {p : Int → Int} (h : BF.Keep xs p) : BF.Keep xs.reverse p := fun a ha => h a (List.mem_reverse.mp ha)
theorem fits_rev {n : Int} {xs : List Arc} (h : Fits n xs) : Fits n xs.reverse := fun a ha => h a (List.mem_reverse.mp ha)
/-- what the last two calls say -/
theorem long_end (hs : List Int) (n : Nat) (hn : 2 ≤ n) (hl : n ≤ 1000) (hh : hs.length = n) (rv : Bool) : ∀ S,
    callM f_law_has_row 2 [.fz (.int n), .fz (.lst (arcsV (if rv then (pth hs (n - 1) ++ [((n : Int) - 1, 0, BF.rowAt hs 0 - BF.rowAt hs ((n : Int) - 1))]).reverse else pth hs (n - 1) ++ [((n : Int) - 1, 0, BF.rowAt hs 0 - BF.rowAt hs ((n : Int) - 1))])))] S = .ok (.fz (.bl true)) S ∧
    callM f_law_has_ring 3 [.fz (.int n), .fz (.lst (arcsV (if rv then (pth hs (n - 1) ++ [((n : Int) - 1, 0, BF.rowAt hs 0 - BF.rowAt hs ((n : Int) - 1) - 1)]).reverse else pth hs (n - 1) ++ [((n : Int) - 1, 0, BF.rowAt hs 0 - BF.rowAt hs ((n : Int) - 1) - 1)]))), .fz (.lst (intsV hs))] S = .ok (.fz (.bl true)) S := by
  intro S
  have k1 := long_keep hs n (by omega)
  have f1 := long_fit hs n hn (BF.rowAt hs 0 - BF.rowAt hs ((n : Int) - 1))
  have f2 := long_fit hs n hn (BF.rowAt hs 0 - BF.rowAt hs ((n : Int) - 1) - 1)
  have b2 := long_bent hs n hn
  have len : ∀ l : Int, (pth hs (n - 1) ++ [((n : Int) - 1, 0, l)]).length = n := fun l => by simp [pth_len]; omega
  have some2 : ∀ ys : List Arc, Fits n ys → (¬ ∃ p, BF.Keep ys p) → ∃ r, BF.ringBelow n ys = some r := fun ys hf hb => by
    cases e : BF.ringBelow n ys with
    | none => exact absurd ((BF.none_iff (fitB hf) (by omega)).mp e) hb
    | some r => exact ⟨r, rfl⟩
  cases rv with
  | true =>
    obtain ⟨r, er⟩ := some2 _ (fits_rev f2) (fun ⟨p, hp⟩ => b2 ⟨p, by have := keep_rev hp; rw [List.reverse_reverse] at this; exact this⟩)
    exact ⟨hasrow_ok n (by omega) (by omega) _ (by rw [if_pos rfl, List.length_reverse, len]; omega) (by rw [if_pos rfl]; exact fits_rev f1) (by rw [if_pos rfl]; exact (keep_rev k1).none (fitB (fits_rev f1)) (by omega)) S, hasring_ok n (by omega) (by omega) _ (by rw [if_pos rfl, List.length_reverse, len]; omega) (by rw [if_pos rfl]; exact fits_rev f2) hs hh.symm r (by rw [if_pos rfl]; exact er) S⟩
  | false =>
    obtain ⟨r, er⟩ := some2 _ f2 b2
    have ff : ¬ (false = true) := by decide
    exact ⟨hasrow_ok n (by omega) (by omega) _ (by rw [if_neg ff, len]; omega) (by rw [if_neg ff]; exact f1) (by rw [if_neg ff]; exact k1.none (fitB f1) (by omega)) S, hasring_ok n (by omega) (by omega) _ (by rw [if_neg ff, len]; omega) (by rw [if_neg ff]; exact f2) hs hh.symm r (by rw [if_neg ff]; exact er) S⟩
theorem long_ok (ds : List Int) : ∃ ds', f_law_long [.dr] (some ds) = .ret (.fz (.bl true)) (some ds') := by
  have a0 := tk_lo ds (n := 31) (by decide)
  have a1 := tk_hi ds (n := 31) (by decide)
  have b0 := tk_lo ds.dropLast (n := 27) (by decide)
  have b1 := tk_hi ds.dropLast (n := 27) (by decide)
  obtain ⟨sc, _, hc⟩ := pick_choiceI [1, 10 ^ 20, 7] (tk ds.dropLast.dropLast 3) (tk_lo _ (by decide)) (tk_hi _ (by decide))
  simp only [List.map_cons, List.map_nil, Int.reducePow, Int.reduceNeg] at hc
  obtain ⟨n, en⟩ : ∃ n : Nat, 30 + tk ds 31 = n := ⟨(30 + tk ds 31).toNat, by omega⟩
  generalize em : 3 + tk ds.dropLast 27 = mk
  have hn : 30 ≤ n ∧ n ≤ 60 := by omega
  have hm : 3 ≤ mk ∧ mk ≤ 29 := by omega
  let hs : List Int := (List.range n).map fun i : Nat => sc * (((i : Int) * mk + i * i) % 31 - 15)
  have hh : hs.length = n := by simp [hs]
  have lc : lcF (bName 6) tYes' m_law_long_b0 [6] (rng 0 n) [] ⟨[.dr, .fz (.int n), .fz (.int mk), .fz (.int sc), .un, .un, .un, .un, .un, .un], some ds.dropLast.dropLast.dropLast⟩ = .ok ((hs.map FV.int).map OT.fz) ⟨[.dr, .fz (.int n), .fz (.int mk), .fz (.int sc), .un, .un, .un, .un, .un, .un], some ds.dropLast.dropLast.dropLast⟩ := by
    rw [lcF_pure (g := fun v => match v with
      | .int i => .fz (.int (sc * ((i * mk + i * i) % 31 - 15)))
      | v => .fz v) _ [] (fun v hv => ?_) (by simp [rng]; omega)]
    · rw [rng0]
      simp [hs]
    · rw [rng0] at hv
      obtain ⟨i, hi, rfl⟩ := List.mem_map.mp hv
      have hi := List.mem_range.mp hi
      have g1 : ∀ S, gTimes (.fz (.int i)) (.fz (.int mk)) S = .ok (.fz (.int (i * mk))) S := fun S => gTimes_int _ _ S (.inl (by omega))
      have g2 : ∀ S, gTimes (.fz (.int i)) (.fz (.int i)) S = .ok (.fz (.int (i * i))) S := fun S => gTimes_int _ _ S (.inl (by omega))
      have g3 : ∀ S, gTimes (.fz (.int sc)) (.fz (.int (((i : Int) * mk + i * i) % 31 - 15))) S = .ok (.fz (.int (sc * (((i : Int) * mk + i * i) % 31 - 15)))) S := fun S => gTimes_int _ _ S (.inr (by omega))
      unfold lcStep
      simp [g1, g2, g3]
  clear_value hs
  obtain ⟨t6, e1, p6⟩ := long_loop hs (.int n) (.int mk) (.int sc) ds.dropLast.dropLast.dropLast (n - 1) 0 .un pl_un (by omega) (by omega)
  have p0 : pth hs 0 = [] := rfl
  have av0 : arcsV [] = [] := rfl
  rw [p0, av0] at e1
  simp only [Nat.zero_add, List.map_nil, Int.natCast_zero, Int.ofNat_zero] at e1
  have nm1 : ((n : Int) - 1).toNat = n - 1 := by omega
  have sn : small (n : Int) = true := sm_of (by omega) (by omega)
  have sn1 : small ((n : Int) - 1) = true := sm_of (by omega) (by omega)
  have pa := fun sl h => pick_own (0 : Int) 4 sl (some ds.dropLast.dropLast.dropLast) ((hs.map FV.int).map OT.fz) _ h (by omega) (row_ext hs 0 (by omega) (by omega))
  have pb := fun sl h => pick_own ((n : Int) - 1) 4 sl (some ds.dropLast.dropLast.dropLast) ((hs.map FV.int).map OT.fz) _ h (by omega) (row_ext hs (n - 1) (by omega) (by omega))
  have lx : (arcsV (pth hs (n - 1))).length = n - 1 := by simp [arcsV, pth_len]
  have pl := fun (l : Int) sl h => plus_pt 5 sl (some ds.dropLast.dropLast.dropLast) (arcsV (pth hs (n - 1))) [.tup [.int ((n : Int) - 1), .int 0, .int l]] h (by simp [lx]; omega)
  have ap : ∀ l : Int, arcsV (pth hs (n - 1)) ++ [.tup [.int ((n : Int) - 1), .int 0, .int l]] = arcsV (pth hs (n - 1) ++ [((n : Int) - 1, 0, l)]) := fun l => by simp [arcsV, arcV]
  simp only [ap, List.map_cons, List.map_nil] at pl
  have rvs : ∀ xs : List Arc, (arcsV xs).reverse = arcsV xs.reverse := fun xs => by simp [arcsV]
  have li : lineOk 0 = true := rfl
  have l1 : lineOk 1 = true := rfl
  have l3 : lineOk 3 = true := rfl
  have le := long_end hs n (by omega) (by omega) hh
  refine ⟨ds.dropLast.dropLast.dropLast.dropLast, ?_⟩
  unfold f_law_long m_law_long
  rw [fnM_fin]
  by_cases hc2 : tk ds.dropLast.dropLast.dropLast 2 = 1
  · have q1 := fun S => (le true S).1
    have q2 := fun S => (le true S).2
    simp only [if_true, intsV] at q1 q2
    simp [-List.map_map, -List.map_reverse, -List.reverse_append, en, em, hc, l3, l1, li, sn, lc, sn1, nm1, e1, pa, pb, p6.1, pl, p6.2.2.1, p6.2.2.2.2, hc2, rvs, q1, q2]
  · have q1 := fun S => (le false S).1
    have q2 := fun S => (le false S).2
    simp only [Bool.false_eq_true, if_false, intsV] at q1 q2
    simp [-List.map_map, -List.map_reverse, -List.reverse_append, en, em, hc, l3, l1, li, sn, lc, sn1, nm1, e1, pa, pb, p6.1, pl, p6.2.2.1, p6.2.2.2.2, hc2, rvs, q1, q2]
end K07P
set_option linter.all false
namespace FW
open BF
def need (T : Tab) (p : Int → Int) (a : Nat) (c : Arc) : Int := match tg T a c.2.1.toNat with
  | some w => w - p c.1 - c.2.2
  | none => 0
def bnd (T : Tab) (p : Int → Int) (a : Nat) : List Arc → Int
  | [] => 0
  | c :: r => max (bnd T p a r) (need T p a c)
theorem bnd_le (T : Tab) (p : Int → Int) (a : Nat) : ∀ (xs : List Arc) (c : Arc), c ∈ xs → need T p a c ≤ bnd T p a xs
  | d :: xs, c, h => by
    unfold bnd
    rcases List.mem_cons.mp h with rfl | h
    · exact Int.le_max_right _ _
    · exact Int.le_trans (bnd_le T p a xs c h) (Int.le_max_left _ _)
/-- the row of least lengths from a, the others far above -/
def far (T : Tab) (p : Int → Int) (a : Nat) (xs : List Arc) (x : Int) : Int := match tg T a x.toNat with
  | some v => v
  | none => p x + bnd T p a xs
theorem diag0 {n xs T} (D : Dok n xs T) (hz : NoNeg n T) {a : Nat} (ha : a < n) : tg T a a = some 0 := by
  obtain ⟨x, e, h⟩ := D.dg a ha
  have := hz a x ha e
  rw [e]
  congr 1
  omega
theorem far_keep {n xs T p} (hf : Fit n xs) (D : Dok n xs T) (hp : Keep xs p) (hz : NoNeg n T) {a : Nat} (ha : a < n) : Keep xs (far T p a xs) := fun c hc => by
  obtain ⟨⟨a0, a1⟩, b0, b1⟩ := hf c hc
  obtain ⟨l, el, hl⟩ := D.ac c hc
  have hp' := hp c hc
  have hb := bnd_le T p a xs c hc
  unfold need at hb
  unfold far
  cases eu : tg T a c.1.toNat with
  | some x =>
    obtain ⟨w, ew, hw⟩ := D.tr hz a c.2.1.toNat c.1.toNat ha (by omega) (by omega) x l eu el
    rw [ew]
    simp only
    omega
  | none =>
    cases ev : tg T a c.2.1.toNat with
    | some w =>
      rw [ev] at hb
      simp only at hb ⊢
      omega
    | none =>
      simp only
      omega
theorem even_keep {n xs p} (hn : 1 ≤ n) (hf : Fit n xs) (hp : Keep xs p) {a b : Nat} (ha : a < n) {t : Int} (et : tg (dists n xs) a b = some t) (k : Nat) : ∃ q, Keep (xs.take k ++ [((b : Int), (a : Int), -t)] ++ xs.drop k) q := by
  have D := dists_ok hf
  have hz : NoNeg n (dists n xs) := (D.iff hf hn).mpr (hp.none hf hn)
  refine ⟨far (dists n xs) p a xs, fun c hc => ?_⟩
  have hk := far_keep hf D hp hz ha
  simp only [List.mem_append, List.mem_singleton] at hc
  rcases hc with (hc | hc) | hc
  · exact hk c (List.mem_of_mem_take hc)
  · subst hc
    unfold far
    simp only [Int.toNat_natCast, et, diag0 D hz ha]
    omega
  · exact hk c (List.mem_of_mem_drop hc)
theorem bent_no {n xs} (hf : Fit n xs) {a b : Nat} {t : Int} (et : tg (dists n xs) a b = some t) (k : Nat) (j : Int) (hj : 0 ≤ j) : ¬ ∃ q, Keep (xs.take k ++ [((b : Int), (a : Int), -t - 1 - j)] ++ xs.drop k) q := fun ⟨q, h⟩ => by
  have hx : Keep xs q := fun c hc => h c (by
    have : c ∈ xs.take k ++ xs.drop k := by rw [List.take_append_drop]; exact hc
    simp only [List.mem_append, List.mem_singleton] at this ⊢
    rcases this with h | h
    · exact .inl (.inl h)
    · exact .inr h)
  have h1 := (dists_ok hf).sn q hx a b t et
  have h2 := h ((b : Int), (a : Int), -t - 1 - j) (by simp)
  simp only at h2
  omega
end FW
set_option Elab.async false
set_option linter.all false
set_option maxRecDepth 100000
set_option maxHeartbeats 2000000
namespace TL
theorem gIn_flat (ng : Bool) (u : FV) (j : Nat) (sl : List Sl) (d : Option (List Int)) (vs : List FV) (h : sl[j]? = some (.own (vs.map OT.fz))) (hu : u.flat = true) (hv : vs.all FV.flat = true) : gIn ng (.fz u) (.pl j []) ⟨sl, d⟩ = .ok (.fz (.bl (if ng then !(vs.any fun v => v.eqv u) else vs.any fun v => v.eqv u))) ⟨sl, d⟩ := by
  have e2 : seqOf (.pl j []) ⟨sl, d⟩ = some vs := items_own j sl d _ h
  unfold gIn
  rw [e2]
  simp only [hu, hv]
  rfl
end TL
namespace K07P
open TL K07
theorem pl_own (ts : List OT) : Pl (.own ts) := ⟨fun _ => rfl, fun _ => rfl, fun _ _ => rfl, rfl, fun _ _ _ => rfl⟩
theorem pr' (j : Nat) {n : Nat} {T : FW.Tab} (h : FW.Sq n T) (i : Int) (h0 : 0 ≤ i) (h1 : i < n) (sl : List Sl) (d : Option (List Int)) (hs : sl[j]? = some (.own (tabO (fvT T)))) : pick (.pl j []) i ⟨sl, d⟩ = .ok (.pl j [i.toNat]) ⟨sl, d⟩ := pick_row j i sl d _ _ hs h0 (fvT_row h _ (by omega))
theorem pc' (j : Nat) {n : Nat} {T : FW.Tab} (h : FW.Sq n T) (a : Nat) (i : Int) (ha : a < n) (h0 : 0 ≤ i) (h1 : i < n) (sl : List Sl) (d : Option (List Int)) (hs : sl[j]? = some (.own (tabO (fvT T)))) : pick (.pl j [a]) i ⟨sl, d⟩ = .ok (.fz (optI (FW.tg T a i.toNat))) ⟨sl, d⟩ := pick_cell j a i sl d _ _ _ hs (fvT_row h a ha) h0 (fvT_cell h a _ ha (by omega))
theorem opt_flat (os : List (Option Int)) : (os.map optI).all FV.flat = true := by
  induction os with
  | nil => rfl
  | cons o os ih => cases o <;> simpa [optI, FV.flat] using ih
theorem opt_any (os : List (Option Int)) : ((os.map optI).any fun v => v.eqv .non) = os.any Option.isNone := by
  induction os with
  | nil => rfl
  | cons o os ih =>
    simp only [List.map_cons, List.any_cons, ih]
    cases o <;> simp [optI, FV.eqv]
theorem opt_ints (os : List (Option Int)) (h : os.any Option.isNone = false) : os.map optI = intsV (os.map fun o => o.getD 0) := by
  induction os with
  | nil => rfl
  | cons o os ih =>
    simp only [List.any_cons, Bool.or_eq_false_iff] at h
    have := ih h.2
    cases o with
    | none => cases h.1
    | some i => simp only [List.map_cons, this, intsV, optI, Option.getD_some]
theorem take_arcs (xs : List Arc) (k : Nat) : (arcsV xs).take k = arcsV (xs.take k) := by simp [arcsV, List.map_take]
theorem drop_arcs (xs : List Arc) (k : Nat) : (arcsV xs).drop k = arcsV (xs.drop k) := by simp [arcsV, List.map_drop]
theorem app_arcs (xs ys : List Arc) : arcsV xs ++ arcsV ys = arcsV (xs ++ ys) := by simp [arcsV]
theorem closed_ok (n : Nat) (hn1 : 1 ≤ n) (hn : n ≤ 1000) (xs : List Arc) (hl : xs.length ≤ 1000) (hf : Fits n xs) (hs : List Int) (hh : hs.length = n) (hk : BF.Keep xs (BF.rowAt hs)) (ds : List Int) : ∃ ds', f_law_closed [.dr, .fz (.int n), .fz (.lst (arcsV xs)), .fz (.lst (intsV hs))] (some ds) = .ret (.fz (.bl true)) (some ds') := by
  have hfB := fitB hf
  have D := FW.dists_ok hfB
  have hz : FW.NoNeg n (FW.dists n xs) := (D.iff hfB hn1).mpr (hk.none hfB hn1)
  have hn2 : 0 < n := hn1
  have n0 : (0 : Int) < n := by omega
  have n1 : ¬ (n : Int) = 0 := by omega
  have dk := fun S => dists_ok n (by omega) xs hf S
  generalize hT : FW.dists n xs = T at *
  have sn : small (n : Int) = true := sm_of (by omega) (by omega)
  have sx : small (xs.length : Int) = true := sm_of (by omega) (by omega)
  have lx : (arcsV xs).length = xs.length := by simp [arcsV]
  let f0 : List (Option Int) := (List.range n).map fun i => FW.tg T 0 i
  have f0l : f0.length = n := by simp [f0]
  have lc : lcF (bName 7) tYes' m_law_closed_b0 [7] (rng 0 n) [] ⟨[.dr, .fz (.int n), .fz (.lst (arcsV xs)), .fz (.lst (intsV hs)), .own (tabO (fvT T)), .un, .un, .un, .un, .un, .un], some ds⟩ = .ok ((f0.map optI).map OT.fz) ⟨[.dr, .fz (.int n), .fz (.lst (arcsV xs)), .fz (.lst (intsV hs)), .own (tabO (fvT T)), .un, .un, .un, .un, .un, .un], some ds⟩ := by
    rw [lcF_pure (g := fun v => match v with
      | .int i => .fz (optI (FW.tg T 0 i.toNat))
      | v => .fz v) _ [] (fun v hv => ?_) (by simp [rng]; omega)]
    · rw [rng0]
      simp [f0]
    · rw [rng0] at hv
      obtain ⟨i, hi, rfl⟩ := List.mem_map.mp hv
      have hi := List.mem_range.mp hi
      have r := fun sl h => pr' 4 D.sq 0 (by omega) (by omega) sl (some ds) h
      have c := fun sl h => pc' 4 D.sq 0 (i : Int) (by omega) (by omega) (by omega) sl (some ds) h
      simp only [Int.toNat_zero] at r
      unfold lcStep
      simp [r, c]
  clear_value f0
  -- a, b
  have a0 := tk_lo ds n0
  have a1 := tk_hi ds n0
  generalize ea : tk ds (n : Int) = a at *
  obtain ⟨a, rfl⟩ : ∃ k : Nat, a = k := ⟨a.toNat, by omega⟩
  have ha : a < n := by omega
  have b0 := Int.emod_nonneg ((a : Int) + 2 + tk ds.dropLast n) n1
  have b1 := Int.emod_lt_of_pos ((a : Int) + 2 + tk ds.dropLast n) n0
  generalize eb : ((a : Int) + 2 + tk ds.dropLast n) % n = b at *
  obtain ⟨b, rfl⟩ : ∃ k : Nat, b = k := ⟨b.toNat, by omega⟩
  have hb : b < n := by omega
  obtain ⟨b', t, hb', et, hif⟩ : ∃ (b' : Nat) (t : Int), b' < n ∧ FW.tg T a b' = some t ∧ (if FW.tg T a b = none then b' = a else b' = b) := by
    cases e : FW.tg T a b with
    | none => exact ⟨a, 0, ha, FW.diag0 D hz ha, by rw [if_pos rfl]⟩
    | some v => exact ⟨b, v, hb, e, by rw [if_neg (by simp)]⟩
  have c0 := tk_lo ds.dropLast.dropLast (n := (xs.length : Int) + 1) (by omega)
  have c1 := tk_hi ds.dropLast.dropLast (n := (xs.length : Int) + 1) (by omega)
  generalize ec : tk ds.dropLast.dropLast ((xs.length : Int) + 1) = c at *
  obtain ⟨c, rfl⟩ : ∃ k : Nat, c = k := ⟨c.toNat, by omega⟩
  have j0 := tk_lo ds.dropLast.dropLast.dropLast (n := 3) (by decide)
  generalize ej : tk ds.dropLast.dropLast.dropLast 3 = j at *
  -- the two nets
  have fit2 : ∀ l : Int, Fits n (xs.take c ++ [((b' : Int), (a : Int), l)] ++ xs.drop c) := fun l q hq => by
    simp only [List.mem_append, List.mem_singleton] at hq
    rcases hq with (hq | hq) | hq
    · exact hf q (List.mem_of_mem_take hq)
    · rw [hq]
      simp [fits]
      omega
    · exact hf q (List.mem_of_mem_drop hq)
  have len2 : ∀ l : Int, (xs.take c ++ [((b' : Int), (a : Int), l)] ++ xs.drop c).length = xs.length + 1 := fun l => by simp; omega
  have h1 := fun S => hasrow_ok n hn1 (by omega) xs (by omega) hf (hk.none hfB hn1) S
  have h2 : ∀ S, callM f_law_has_row 2 [.fz (.int n), .fz (.lst (arcsV (xs.take c ++ [((b' : Int), (a : Int), -t)] ++ xs.drop c)))] S = .ok (.fz (.bl true)) S := fun S => by
    obtain ⟨q, hq⟩ := FW.even_keep hn1 hfB hk ha (by rw [hT]; exact et) c
    exact hasrow_ok n hn1 (by omega) _ (by rw [len2]; omega) (fit2 _) (hq.none (fitB (fit2 _)) hn1) S
  have h3 : ∀ S, callM f_law_has_ring 3 [.fz (.int n), .fz (.lst (arcsV (xs.take c ++ [((b' : Int), (a : Int), -t - 1 - j)] ++ xs.drop c))), .fz (.lst (intsV hs))] S = .ok (.fz (.bl true)) S := fun S => by
    have nb := FW.bent_no hfB (by rw [hT]; exact et) c j j0
    cases e : BF.ringBelow n (xs.take c ++ [((b' : Int), (a : Int), -t - 1 - j)] ++ xs.drop c) with
    | none => exact absurd ((BF.none_iff (fitB (fit2 _)) hn1).mp e) nb
    | some r => exact hasring_ok n hn1 (by omega) _ (by rw [len2]; omega) (fit2 _) hs hh.symm r e S
  -- reading
  have ra := fun sl d h => pr' 4 D.sq (a : Int) (by omega) (by omega) sl d h
  have cb := fun sl d h => pc' 4 D.sq a (b : Int) ha (by omega) (by omega) sl d h
  have cb' := fun sl d h => pc' 4 D.sq a (b' : Int) ha (by omega) (by omega) sl d h
  simp only [Int.toNat_natCast] at ra cb cb'
  rw [et] at cb'
  have mk := fun S => make_ok n (by omega) (arcsV xs) xs (.lst (arcsV xs)) (.inl rfl) (handed_arcV xs) hf (by omega) S
  have gn := fun sl (h : sl[5]? = some (.own ((f0.map optI).map OT.fz))) => gIn_flat true .non 5 sl (some ds) (f0.map optI) h rfl (opt_flat f0)
  simp only [opt_any, if_true] at gn
  have ct : cutF (arcsV xs) none (some (c : Int)) = arcsV (xs.take c) := by rw [cut_take _ _ (by rw [lx]; omega), take_arcs]
  have cd : cutF (arcsV xs) (some (c : Int)) none = arcsV (xs.drop c) := by rw [cut_drop _ _ (by rw [lx]; omega), drop_arcs]
  have lt : ∀ k, (arcsV (xs.take k)).length ≤ 1000 := fun k => by simp [arcsV]; omega
  have ld : ∀ k, (arcsV (xs.drop k)).length ≤ 1000 := fun k => by simp [arcsV]; omega
  have p1 : ∀ (l : Int) S, gPlus (.tmp ((arcsV (xs.take c)).map OT.fz)) (.tmp [OT.fz (.tup [.int b', .int a, .int l])]) S = .ok (.tmp ((arcsV (xs.take c ++ [((b' : Int), (a : Int), l)])).map OT.fz)) S := fun l S => by
    have := plus_tt (arcsV (xs.take c)) (arcsV [((b' : Int), (a : Int), l)]) S (by have := lt c; simp [arcsV] at this ⊢; omega)
    rw [app_arcs] at this
    exact this
  have p2 : ∀ (l : Int) S, gPlus (.tmp ((arcsV (xs.take c ++ [((b' : Int), (a : Int), l)])).map OT.fz)) (.tmp ((arcsV (xs.drop c)).map OT.fz)) S = .ok (.tmp ((arcsV (xs.take c ++ [((b' : Int), (a : Int), l)] ++ xs.drop c)).map OT.fz)) S := fun l S => by
    have := plus_tt (arcsV (xs.take c ++ [((b' : Int), (a : Int), l)])) (arcsV (xs.drop c)) S (by have := lt c; have := ld c; simp [arcsV] at *; omega)
    rw [app_arcs] at this
    exact this
  have l1 : lineOk 1 = true := rfl
  have l3 : lineOk 3 = true := rfl
  have xp : 0 < xs.length + 1 := by omega
  have xi : (0 : Int) < (xs.length : Int) + 1 := by omega
  have st3 : ∃ s5, Pl s5 ∧ (sIf (mB (m2 (gIn true) (mC .non) (mVar 5))) (sIf (mNot (mB (mFn f_law_looks 3 [] (pCons toP (mMk f_Net__init 3 0 2 [] (pCons toP (mVar 1) (pCons toP (mVar 2) (pNil)))) (pCons toP (mVar 2) (pCons toP (mVar 5) (pNil))))))) (sRet (mC (.bl false))) (sNil)) (sNil)) ⟨[.dr, .fz (.int n), .fz (.lst (arcsV xs)), .fz (.lst (intsV hs)), .own (tabO (fvT T)), .own ((f0.map optI).map OT.fz), .un, .un, .un, .un, .un], some ds⟩ = .nx ⟨[.dr, .fz (.int n), .fz (.lst (arcsV xs)), .fz (.lst (intsV hs)), .own (tabO (fvT T)), s5, .un, .un, .un, .un, .un], some ds⟩ := by
    cases hnn : f0.any Option.isNone with
    | true =>
      rw [hnn] at gn
      refine ⟨.own ((f0.map optI).map OT.fz), pl_own _, ?_⟩
      simp [-List.map_map, gn]
    | false =>
      rw [hnn] at gn
      have oi := opt_ints f0 hnn
      have lk := fun S => looks_ok n xs (.lst (intsV (f0.map fun o => o.getD 0))) _ (.inl rfl) (by simp [f0l]) hf sx S
      rw [← oi] at lk
      refine ⟨.fz (.lst (f0.map optI)), pl_fz _, ?_⟩
      simp [-List.map_map, gn, mk, lk]
  obtain ⟨s5, p5, e3⟩ := st3
  refine ⟨ds.dropLast.dropLast.dropLast.dropLast, ?_⟩
  unfold f_law_closed m_law_closed
  rw [fnM_fin]
  have e1 : (sSet 4 (mFn f_law_dists 2 [] (pCons toP (mVar 1) (pCons toP (mVar 2) (pNil))))) ⟨[.dr, .fz (.int n), .fz (.lst (arcsV xs)), .fz (.lst (intsV hs)), .un, .un, .un, .un, .un, .un, .un], some ds⟩ = .nx ⟨[.dr, .fz (.int n), .fz (.lst (arcsV xs)), .fz (.lst (intsV hs)), .own (tabO (fvT T)), .un, .un, .un, .un, .un, .un], some ds⟩ := by
    simp [dk]
  have e2 : (sSet 5 (mLc [7] (mI gRng1 (lCons (mVar 1) (lNil))) (bName 7) (tYes') (m_law_closed_b0))) ⟨[.dr, .fz (.int n), .fz (.lst (arcsV xs)), .fz (.lst (intsV hs)), .own (tabO (fvT T)), .un, .un, .un, .un, .un, .un], some ds⟩ = .nx ⟨[.dr, .fz (.int n), .fz (.lst (arcsV xs)), .fz (.lst (intsV hs)), .own (tabO (fvT T)), .own ((f0.map optI).map OT.fz), .un, .un, .un, .un, .un], some ds⟩ := by
    simp [-List.map_map, sn, lc]
  have e0 : [Sl.dr, .fz (.int n), .fz (.lst (arcsV xs)), .fz (.lst (intsV hs))] ++ List.replicate (11 - [Sl.dr, .fz (.int n), .fz (.lst (arcsV xs)), .fz (.lst (intsV hs))].length) .un = [.dr, .fz (.int n), .fz (.lst (arcsV xs)), .fz (.lst (intsV hs)), .un, .un, .un, .un, .un, .un, .un] := rfl
  rw [e0, sSeq_at, e1, seq_nx, sSeq_at, e2, seq_nx, sSeq_at, e3, seq_nx]
  clear e1 e2 e3 lc gn
  have e7 : (sIf (mB (m2 (gIs false) (m2 gIx (m2 gIx (mVar 4) (mVar 6)) (mVar 7)) (mC .non))) (sSet 7 (mVar 6)) (sNil)) ⟨[.dr, .fz (.int n), .fz (.lst (arcsV xs)), .fz (.lst (intsV hs)), .own (tabO (fvT T)), s5, .fz (.int a), .fz (.int b), .un, .un, .un], some ds.dropLast.dropLast⟩ = .nx ⟨[.dr, .fz (.int n), .fz (.lst (arcsV xs)), .fz (.lst (intsV hs)), .own (tabO (fvT T)), s5, .fz (.int a), .fz (.int b'), .un, .un, .un], some ds.dropLast.dropLast⟩ := by
    cases e : FW.tg T a b with
    | none =>
      rw [e] at cb hif
      rw [if_pos rfl] at hif
      simp [ra, cb, optI, p5.1, hif]
    | some v =>
      rw [e] at cb hif
      rw [if_neg (by simp)] at hif
      simp [ra, cb, optI, p5.1, hif]
  rw [sSeq_at]
  have e6 : (sSet 6 (mFn f_law_take 2 [] (pCons toP (mVar 0) (pCons toP (mVar 1) (pNil))))) ⟨[.dr, .fz (.int n), .fz (.lst (arcsV xs)), .fz (.lst (intsV hs)), .own (tabO (fvT T)), s5, .un, .un, .un, .un, .un], some ds⟩ = .nx ⟨[.dr, .fz (.int n), .fz (.lst (arcsV xs)), .fz (.lst (intsV hs)), .own (tabO (fvT T)), s5, .fz (.int a), .un, .un, .un, .un], some ds.dropLast⟩ := by
    simp [hn2, ea, p5.1]
  rw [e6, seq_nx, sSeq_at]
  have e8 : (sSet 7 (m2 gMod (mCall gInt (lCons (m2 gPlus (m2 gPlus (mVar 6) (mC (.int 2))) (mFn f_law_take 2 [] (pCons toP (mVar 0) (pCons toP (mVar 1) (pNil))))) (lNil))) (mVar 1))) ⟨[.dr, .fz (.int n), .fz (.lst (arcsV xs)), .fz (.lst (intsV hs)), .own (tabO (fvT T)), s5, .fz (.int a), .un, .un, .un, .un], some ds.dropLast⟩ = .nx ⟨[.dr, .fz (.int n), .fz (.lst (arcsV xs)), .fz (.lst (intsV hs)), .own (tabO (fvT T)), s5, .fz (.int a), .fz (.int b), .un, .un, .un], some ds.dropLast.dropLast⟩ := by
    simp [hn2, p5.1, eb]
  rw [e8, seq_nx, sSeq_at, e7, seq_nx]
  simp only [optI] at cb'
  simp [-List.map_map, -List.append_assoc, xi, xp, lx, ec, ct, cd, ra, cb', p1, p2, l1, l3, p5.1, p5.2.1, p5.2.2.1, p5.2.2.2.2, ej, h1, h2, h3]
end K07P
set_option Elab.async false
set_option linter.all false
set_option maxRecDepth 100000
set_option maxHeartbeats 2000000
namespace TL
@[simp] theorem mDic_at (S : MS) : mDic S = .ok (.fz .dic) S := rfl
theorem pick_choiceO (ts : List OT) (i : Int) (h0 : 0 ≤ i) (h1 : i < ts.length) : ∃ t ∈ ts, ∀ S, pick (.tmp ts) i S = match t with
    | .fz u => .ok (.fz u) S
    | .own us => .ok (.tmp us) S := by
  have h : i.toNat < ts.length := by omega
  refine ⟨ts[i.toNat], List.getElem_mem h, fun S => ?_⟩
  rw [pick_tmp, ix_int _ _ h0, List.getElem?_eq_getElem h]
  cases ts[i.toNat] <;> rfl
end TL
namespace K07P
open TL K07
theorem wI (i : Int) (S : MS) : callM f_is_whole 1 [.fz (.int i)] S = .ok (.fz (.bl true)) S := call_whole _ _ S (whole_int i)
theorem wN (S : MS) : callM f_is_whole 1 [.fz .non] S = .ok (.fz (.bl false)) S := call_whole _ _ S (whole_is .non fun c fs h => by cases h)
theorem wB (b : Bool) (S : MS) : callM f_is_whole 1 [.fz (.bl b)] S = .ok (.fz (.bl false)) S := call_whole _ _ S (whole_is (.bl b) fun c fs h => by cases h)
theorem wS (s : PySem.Str) (S : MS) : callM f_is_whole 1 [.fz (.str s)] S = .ok (.fz (.bl false)) S := call_whole _ _ S (whole_is (.str s) fun c fs h => by cases h)
theorem wL (s : List FV) (S : MS) : callM f_is_whole 1 [.fz (.lst s)] S = .ok (.fz (.bl false)) S := call_whole _ _ S (whole_is (.lst s) fun c fs h => by cases h)
theorem size_bad (v : FV) (hv : v ∈ [FV.int 0, .int (-1), .bl true, .non, .str "2"]) (S : MS) : makeM f_Net__init 3 0 2 [.fz v, .fz .non] S = .err ⟨1, [.str "size"]⟩ S := by
  have e : ∀ d, f_Net__init [.fz v, .fz .non] d = .err ⟨1, [.str "size"]⟩ d := fun d => by
    unfold f_Net__init m_Net__init
    rw [fnI_fin]
    simp only [List.mem_cons, List.not_mem_nil, or_false] at hv
    rcases hv with rfl | rfl | rfl | rfl | rfl
    · simp [wI, wN, wB, wS, wL]
    · simp [wI, wN, wB, wS, wL]
    · simp [wI, wN, wB, wS, wL]
    · simp [wI, wN, wB, wS, wL]
    · simp [wI, wN, wB, wS, wL]
  simp [makeM, lend, hasDr, hasAl, e]
/-- no arcs -/
def badT (n : Int) : List FV := [.lst [.int 0, .int n, .int 1], .lst [.int (-1), .int 0, .int 1], .lst [.int 0, .int 0], .lst [.int 0, .int 0, .non], .lst [.bl true, .int 0, .int 1], .int 5, .lst [.int 0, .int 0, .int 1, .int 1], .lst [.int 0, .int 0, .str "1"]]
theorem triple_bad (n : Int) (hn : 1 ≤ n) (v : FV) (hv : v ∈ badT n) (S : MS) : callM f_is_triple 2 [.fz (.int n), .fz v] S = .ok (.fz (.bl false)) S := by
  have n0 : 0 < n := by omega
  have e : ∀ d, f_is_triple [.fz (.int n), .fz v] d = .ret (.fz (.bl false)) d := fun d => by
    unfold f_is_triple m_is_triple
    rw [fnM_fin]
    simp only [badT, List.mem_cons, List.not_mem_nil, or_false] at hv
    rcases hv with rfl | rfl | rfl | rfl | rfl | rfl | rfl | rfl
    · simp [tyF, tIn, loopF_cons, wI, wN, wB, wS, wL, n0]
    · simp [tyF, tIn, loopF_cons, wI, wN, wB, wS, wL, n0]
    · simp [tyF, tIn, loopF_cons, wI, wN, wB, wS, wL, n0]
    · simp [tyF, tIn, loopF_cons, wI, wN, wB, wS, wL, n0]
    · simp [tyF, tIn, loopF_cons, wI, wN, wB, wS, wL, n0]
    · simp [tyF, tIn, loopF_cons, wI, wN, wB, wS, wL, n0]
    · simp [tyF, tIn, loopF_cons, wI, wN, wB, wS, wL, n0]
    · simp [tyF, tIn, loopF_cons, wI, wN, wB, wS, wL, n0]
  simp [callM, lend, hasDr, hasAl, e]
theorem rows_bad_loop (n : Int) (hn : 1 ≤ n) (v : FV) (hv : v ∈ badT n) (arcs : FV) (rest : List FV) (d : Option (List Int)) : ∀ (xs : List Arc) (k : Nat) (s2 s3 : Sl), Pl s2 → Pl s3 → (∀ a ∈ xs, fits n a = true) →
    ∃ sl', loopF (bTup 2 (bCons (bName 2) (bCons (bName 3) bNil))) m_arc_rows_b0 (numd k (arcsV xs ++ v :: rest)) ⟨[.fz (.int n), .fz arcs, s2, s3], d⟩ = .err ⟨3, [.int ((k + xs.length : Nat) : Int)]⟩ ⟨sl', d⟩
  | [], k, s2, s3, p2, p3, _ => by
    refine ⟨[.fz (.int n), .fz arcs, .fz (.int k), .fz v], ?_⟩
    simp only [arcsV, List.map_nil, List.nil_append, numd]
    rw [loopF_cons]
    simp [triple_bad n hn v hv]
  | a :: xs, k, s2, s3, p2, p3, hf => by
    obtain ⟨sl', e⟩ := rows_bad_loop n hn v hv arcs rest d xs (k + 1) (.fz (.int k)) (.fz (arcV a)) (pl_fz _) (pl_fz _) fun b hb => hf b (List.mem_cons_of_mem _ hb)
    refine ⟨sl', ?_⟩
    have e1 : k + (a :: xs).length = k + 1 + xs.length := by simp; omega
    rw [e1, ← e]
    simp only [arcsV, List.map_cons, List.cons_append, numd]
    rw [loopF_cons]
    simp [call_triple n a (arcV a) (.inl rfl), hf a List.mem_cons_self]
theorem net_bad (n : Int) (hn : 1 ≤ n) (v : FV) (hv : v ∈ badT n) (xs : List Arc) (hf : Fits n xs) (rest : List FV) (S : MS) : makeM f_Net__init 3 0 2 [.fz (.int n), .fz (.lst (arcsV xs ++ v :: rest))] S = .err ⟨3, [.int (xs.length : Nat)]⟩ S := by
  have e : ∀ d, f_arc_rows [.fz (.int n), .fz (.lst (arcsV xs ++ v :: rest))] d = .err ⟨3, [.int (xs.length : Nat)]⟩ d := fun d => by
    unfold f_arc_rows m_arc_rows
    rw [fnM_fin]
    obtain ⟨sl', e⟩ := rows_bad_loop n hn v hv (.lst (arcsV xs ++ v :: rest)) rest d xs 0 .un .un pl_un pl_un hf
    rw [Nat.zero_add] at e
    generalize arcsV xs ++ v :: rest = w at *
    simp [tyF, tIn, e]
  have c : ∀ S, callM f_arc_rows 2 [.fz (.int n), .fz (.lst (arcsV xs ++ v :: rest))] S = .err ⟨3, [.int (xs.length : Nat)]⟩ S := fun S => by simp [callM, lend, hasDr, hasAl, e]
  have e2 : ∀ d, f_Net__init [.fz (.int n), .fz (.lst (arcsV xs ++ v :: rest))] d = .err ⟨3, [.int (xs.length : Nat)]⟩ d := fun d => by
    unfold f_Net__init m_Net__init
    rw [fnI_fin]
    have n1 : ¬ n < 1 := by omega
    simp [call_whole _ _ _ (whole_int _), n1, c]
  simp [makeM, lend, hasDr, hasAl, e2]
theorem net_no (n : Int) (hn : 1 ≤ n) (v : FV) (hv : v ∈ [FV.non, .int 5, .str "ab", .dic]) (S : MS) : makeM f_Net__init 3 0 2 [.fz (.int n), .fz v] S = .err ⟨3, [.int (-1)]⟩ S := by
  have e : ∀ d, f_arc_rows [.fz (.int n), .fz v] d = .err ⟨3, [.int (-1)]⟩ d := fun d => by
    unfold f_arc_rows m_arc_rows
    rw [fnM_fin]
    simp only [List.mem_cons, List.not_mem_nil, or_false] at hv
    rcases hv with rfl | rfl | rfl | rfl <;> simp [tyF, tIn]
  have c : ∀ S, callM f_arc_rows 2 [.fz (.int n), .fz v] S = .err ⟨3, [.int (-1)]⟩ S := fun S => by simp [callM, lend, hasDr, hasAl, e]
  have e2 : ∀ d, f_Net__init [.fz (.int n), .fz v] d = .err ⟨3, [.int (-1)]⟩ d := fun d => by
    unfold f_Net__init m_Net__init
    rw [fnI_fin]
    have n1 : ¬ n < 1 := by omega
    simp [call_whole _ _ _ (whole_int _), n1, c]
  simp [makeM, lend, hasDr, hasAl, e2]
open PySem PySem.Spec in
theorem str_dat (s : PySem.Str) (n : Nat) : FV.dat n (.str s) = PyData.strOk s := by cases n <;> rfl
open PySem PySem.Spec in
theorem sz_ok : PyData.strOk "size" = true := by decide +kernel
open PySem PySem.Spec in
theorem nt_ok : PyData.strOk "net" = true := by decide +kernel
theorem eqv_str (s : PySem.Str) : FV.eqv (.str s) (.str s) = true := by simp [FV.eqv]
def badO (n : Int) : List OT := [.own [.fz (.int 0), .fz (.int n), .fz (.int 1)], .own [.fz (.int (-1)), .fz (.int 0), .fz (.int 1)], .own [.fz (.int 0), .fz (.int 0)], .own [.fz (.int 0), .fz (.int 0), .fz .non], .own [.fz (.bl true), .fz (.int 0), .fz (.int 1)], .fz (.int 5), .own [.fz (.int 0), .fz (.int 0), .fz (.int 1), .fz (.int 1)], .own [.fz (.int 0), .fz (.int 0), .fz (.str "1")]]
def ofO : OT → RV
  | .fz u => .fz u
  | .own us => .tmp us
theorem refused_ok (n : Nat) (hn1 : 1 ≤ n) (hn : n ≤ 1000) (xs : List Arc) (hl : xs.length ≤ 1000) (hf : Fits n xs) (ds : List Int) : ∃ ds', f_law_refused [.dr, .fz (.int n), .fz (.lst (arcsV xs))] (some ds) = .ret (.fz (.bl true)) (some ds') := by
  obtain ⟨v1, m1, h1⟩ := pick_choice [FV.int 0, .int (-1), .bl true, .non, .str "2"] (tk ds 5) (tk_lo _ (by decide)) (tk_hi _ (by decide))
  obtain ⟨v2, m2, h2⟩ := pick_choiceO (badO n) (tk ds.dropLast 8) (tk_lo _ (by decide)) (tk_hi _ (by decide))
  have hni : (1 : Int) ≤ n := by omega
  have c0 := tk_lo ds.dropLast.dropLast (n := (xs.length : Int) + 1) (by omega)
  have c1 := tk_hi ds.dropLast.dropLast (n := (xs.length : Int) + 1) (by omega)
  generalize ec : tk ds.dropLast.dropLast ((xs.length : Int) + 1) = c at *
  obtain ⟨c, rfl⟩ : ∃ k : Nat, c = k := ⟨c.toNat, by omega⟩
  obtain ⟨v4, m4, h4⟩ := pick_choice [FV.non, .int 5, .str "ab", .dic] (tk ds.dropLast.dropLast.dropLast 4) (tk_lo _ (by decide)) (tk_hi _ (by decide))
  simp only [List.map_cons, List.map_nil] at h1 h4
  have q1 := fun S => size_bad v1 m1 S
  have q4 := fun S => net_no n hni v4 m4 S
  have mb : v2.frz ∈ badT n := by
    simp only [badO, List.mem_cons, List.not_mem_nil, or_false] at m2
    rcases m2 with rfl | rfl | rfl | rfl | rfl | rfl | rfl | rfl <;> simp [badT, OT.frz, frzs]
  have q3 := fun S => net_bad n hni v2.frz mb (xs.take c) (fun a ha => hf a (List.mem_of_mem_take ha)) (arcsV (xs.drop c) ++ [.int 7]) S
  have lt : (xs.take c).length = c := by simp; omega
  rw [lt] at q3
  have lx : (arcsV xs).length = xs.length := by simp [arcsV]
  have ct : cutF (arcsV xs) none (some (c : Int)) = arcsV (xs.take c) := by rw [cut_take _ _ (by rw [lx]; omega), take_arcs]
  have cd : cutF (arcsV xs) (some (c : Int)) none = arcsV (xs.drop c) := by rw [cut_drop _ _ (by rw [lx]; omega), drop_arcs]
  have la : ∀ k, (arcsV (xs.take k)).length ≤ 1000 := fun k => by simp [arcsV]; omega
  have lb : ∀ k, (arcsV (xs.drop k)).length ≤ 1000 := fun k => by simp [arcsV]; omega
  have p1 : ∀ S, gPlus (.tmp ((arcsV (xs.take c)).map OT.fz)) (.tmp [OT.fz v2.frz]) S = .ok (.tmp ((arcsV (xs.take c) ++ [v2.frz]).map OT.fz)) S := fun S => plus_tt (arcsV (xs.take c)) [v2.frz] S (by have := la c; simp; omega)
  have p2 : ∀ S, gPlus (.tmp ((arcsV (xs.take c) ++ [v2.frz]).map OT.fz)) (.tmp ((arcsV (xs.drop c)).map OT.fz)) S = .ok (.tmp ((arcsV (xs.take c) ++ v2.frz :: arcsV (xs.drop c)).map OT.fz)) S := fun S => by
    have := plus_tt (arcsV (xs.take c) ++ [v2.frz]) (arcsV (xs.drop c)) S (by have := la c; have := lb c; simp; omega)
    rw [List.append_assoc] at this
    exact this
  have p3 : ∀ S, gPlus (.tmp ((arcsV (xs.take c) ++ v2.frz :: arcsV (xs.drop c)).map OT.fz)) (.tmp [OT.fz (.int 7)]) S = .ok (.tmp ((arcsV (xs.take c) ++ v2.frz :: (arcsV (xs.drop c) ++ [.int 7])).map OT.fz)) S := fun S => by
    have := plus_tt (arcsV (xs.take c) ++ v2.frz :: arcsV (xs.drop c)) [.int 7] S (by have := la c; have := lb c; simp; omega)
    rw [List.append_assoc] at this
    exact this
  have l0 : lineOk 0 = true := rfl
  have l1 : lineOk 1 = true := rfl
  have l2 : lineOk 2 = true := rfl
  have l3 : lineOk 3 = true := rfl
  have l4 : lineOk 4 = true := rfl
  have l5 : lineOk 5 = true := rfl
  have l8 : lineOk 8 = true := rfl
  have xp : 0 < xs.length + 1 := by omega
  have xi : (0 : Int) < (xs.length : Int) + 1 := by omega
  have sz := (str_dat "size" 64).trans sz_ok
  refine ⟨ds.dropLast.dropLast.dropLast.dropLast, ?_⟩
  -- the bad value's slot
  have sl4 : ∃ s4 : Sl, (s4 = .fz v2.frz ∨ ∃ us, v2 = .own us ∧ s4 = .own us) ∧ ∀ sl : List Sl, sl.length = 9 → (sl.map (dropAl 4)) = sl → MS.bind ⟨sl, some ds.dropLast.dropLast⟩ 4 (ofO v2) = some ⟨sl.set 4 s4, some ds.dropLast.dropLast⟩ := by
    cases v2 with
    | fz u => exact ⟨.fz u, .inl rfl, fun sl _ h => by simp [ofO, h]⟩
    | own us => exact ⟨.own us, .inr ⟨us, rfl, rfl⟩, fun sl _ h => by simp [ofO, h]⟩
  obtain ⟨s4, hs4, hb4⟩ := sl4
  have h2' : ∀ S, pick (.tmp (badO n)) (tk ds.dropLast 8) S = .ok (ofO v2) S := fun S => by
    rw [h2]
    cases v2 <;> rfl
  simp only [badO] at h2'
  unfold f_law_refused m_law_refused
  rw [fnM_fin]
  generalize hw : arcsV (xs.take c) ++ v2.frz :: (arcsV (xs.drop c) ++ [.int 7]) = w at *
  rcases hs4 with rfl | ⟨us, rfl, rfl⟩
  · simp [-List.map_map, -List.map_append, l0, l1, l2, l3, l4, l5, l8, h1, q1, cat_BadNumber, sz, eqv_str, h2', hb4, xp, xi, lx, ec, ct, cd, p1, p2, p3, q3, cat_BadNet, h4, q4]
  · have to4 := fun sl d h => toO_own 4 sl d us h
    have ef : OT.frz (.own us) = .lst (frzs us) := rfl
    simp only [ef] at *
    simp [-List.map_map, -List.map_append, l0, l1, l2, l3, l4, l5, l8, h1, q1, cat_BadNumber, sz, eqv_str, h2', hb4, xp, xi, lx, ec, ct, cd, to4, p1, p2, p3, q3, cat_BadNet, h4, q4]
end K07P
set_option Elab.async false
set_option linter.all false
set_option maxRecDepth 100000
set_option maxHeartbeats 2000000
namespace K07P
open TL K07
/-- a row with a value at a place that is no integer -/
theorem wrow_bad_loop (v sz w : FV) (hw : ∀ S, callM f_is_whole 1 [.fz w] S = .ok (.fz (.bl false)) S) (rest : List FV) (d : Option (List Int)) : ∀ (r : List Int) (k : Nat) (s3 s4 : Sl), Pl s3 → Pl s4 →
    ∃ sl', loopF (bTup 2 (bCons (bName 3) (bCons (bName 4) (bNil)))) m_whole_row_b0 (numd k (intsV r ++ w :: rest)) ⟨[.fz v, .fz sz, .fz .non, s3, s4], d⟩ = .err ⟨2, [.int ((k + r.length : Nat) : Int)]⟩ ⟨sl', d⟩
  | [], k, s3, s4, p3, p4 => by
    refine ⟨[.fz v, .fz sz, .fz .non, .fz (.int k), .fz w], ?_⟩
    simp only [intsV, List.map_nil, List.nil_append, numd]
    rw [loopF_cons]
    simp [hw]
  | i :: r, k, s3, s4, p3, p4 => by
    obtain ⟨sl', e⟩ := wrow_bad_loop v sz w hw rest d r (k + 1) (.fz (.int k)) (.fz (.int i)) (pl_fz _) (pl_fz _)
    refine ⟨sl', ?_⟩
    have e1 : k + (i :: r).length = k + 1 + r.length := by simp; omega
    rw [e1, ← e]
    simp only [intsV, List.map_cons, List.cons_append, numd]
    rw [loopF_cons]
    simp [wI]
theorem wrow_bad (w : FV) (hw : ∀ S, callM f_is_whole 1 [.fz w] S = .ok (.fz (.bl false)) S) (r : List Int) (rest : List FV) (n : Int) (hn : (r.length : Int) + 1 + rest.length = n) (S : MS) : callM f_whole_row 3 [.fz (.lst (intsV r ++ w :: rest)), .fz (.int n), .fz .non] S = .err ⟨2, [.int (r.length : Nat)]⟩ S := by
  have e : ∀ d, f_whole_row [.fz (.lst (intsV r ++ w :: rest)), .fz (.int n), .fz .non] d = .err ⟨2, [.int (r.length : Nat)]⟩ d := fun d => by
    unfold f_whole_row m_whole_row
    rw [fnM_fin]
    obtain ⟨sl', e⟩ := wrow_bad_loop (.lst (intsV r ++ w :: rest)) (.int n) w hw rest d r 0 .un .un pl_un pl_un
    rw [Nat.zero_add] at e
    have l : ((intsV r ++ w :: rest).length : Int) = n := by simp [intsV]; omega
    generalize intsV r ++ w :: rest = z at *
    simp [tyF, tIn, e, l]
  simp [callM, lend, hasDr, hasAl, e]
theorem wrow_long (r : List Int) (n : Int) (hn : (r.length : Int) ≠ n) (S : MS) : callM f_whole_row 3 [.fz (.lst (intsV r)), .fz (.int n), .fz .non] S = .err ⟨2, [.int (-1)]⟩ S := by
  have e : ∀ d, f_whole_row [.fz (.lst (intsV r)), .fz (.int n), .fz .non] d = .err ⟨2, [.int (-1)]⟩ d := fun d => by
    unfold f_whole_row m_whole_row
    rw [fnM_fin]
    have l : (intsV r).length = r.length := by simp [intsV]
    simp [tyF, tIn, l, hn]
  simp [callM, lend, hasDr, hasAl, e]
theorem broken_bad (n : Int) (xs : List Arc) (w : FV) (hw : ∀ S, callM f_is_whole 1 [.fz w] S = .ok (.fz (.bl false)) S) (r : List Int) (rest : List FV) (hn : (r.length : Int) + 1 + rest.length = n) (S : MS) : callM f_broken_arc 2 [.fz (netV n xs), .fz (.lst (intsV r ++ w :: rest))] S = .err ⟨2, [.int (r.length : Nat)]⟩ S := by
  have e : ∀ d, f_broken_arc [.fz (netV n xs), .fz (.lst (intsV r ++ w :: rest))] d = .err ⟨2, [.int (r.length : Nat)]⟩ d := fun d => by
    unfold f_broken_arc m_broken_arc
    rw [fnM_fin]
    have wr := fun S => wrow_bad w hw r rest n hn S
    generalize intsV r ++ w :: rest = z at *
    simp [given_ok, wr]
  simp [callM, lend, hasDr, hasAl, e]
theorem slacks_bad (n : Int) (xs : List Arc) (w : FV) (hw : ∀ S, callM f_is_whole 1 [.fz w] S = .ok (.fz (.bl false)) S) (r : List Int) (rest : List FV) (hn : (r.length : Int) + 1 + rest.length = n) (x : FV) (S : MS) : callM f_slacks 3 [.fz (netV n xs), .fz (.lst (intsV r ++ w :: rest)), .fz x] S = .err ⟨2, [.int (r.length : Nat)]⟩ S := by
  have e : ∀ d, f_slacks [.fz (netV n xs), .fz (.lst (intsV r ++ w :: rest)), .fz x] d = .err ⟨2, [.int (r.length : Nat)]⟩ d := fun d => by
    unfold f_slacks m_slacks
    rw [fnM_fin]
    have wr := fun S => wrow_bad w hw r rest n hn S
    generalize intsV r ++ w :: rest = z at *
    simp [given_ok, wr]
  simp [callM, lend, hasDr, hasAl, e]
theorem keeps_long (n : Int) (xs : List Arc) (r : List Int) (hn : (r.length : Int) ≠ n) (S : MS) : callM f_keeps 2 [.fz (netV n xs), .fz (.lst (intsV r))] S = .err ⟨2, [.int (-1)]⟩ S := by
  have e : ∀ d, f_broken_arc [.fz (netV n xs), .fz (.lst (intsV r))] d = .err ⟨2, [.int (-1)]⟩ d := fun d => by
    unfold f_broken_arc m_broken_arc
    rw [fnM_fin]
    have wr := fun S => wrow_long r n hn S
    simp [given_ok, wr]
  have c : ∀ S, callM f_broken_arc 2 [.fz (netV n xs), .fz (.lst (intsV r))] S = .err ⟨2, [.int (-1)]⟩ S := fun S => by simp [callM, lend, hasDr, hasAl, e]
  have e2 : ∀ d, f_keeps [.fz (netV n xs), .fz (.lst (intsV r))] d = .err ⟨2, [.int (-1)]⟩ d := fun d => by
    unfold f_keeps m_keeps
    rw [fnM_fin]
    simp [c]
  simp [callM, lend, hasDr, hasAl, e2]
theorem below_bad (v : FV) (hv : v = .non ∨ v = .int 3 ∨ ∃ us, v = .lst us) (S : MS) : callM f_ring_below 1 [.fz v] S = .err ⟨1, [.str "net"]⟩ S := by
  have g : ∀ d, f_given_net [.fz v, .fz (.str "net")] d = .err ⟨1, [.str "net"]⟩ d := fun d => by
    unfold f_given_net m_given_net
    rw [fnM_fin]
    rcases hv with rfl | rfl | ⟨us, rfl⟩ <;> simp [tyF, is_Net]
  have c : ∀ S, callM f_given_net 2 [.fz v, .fz (.str "net")] S = .err ⟨1, [.str "net"]⟩ S := fun S => by simp [callM, lend, hasDr, hasAl, g]
  have e2 : ∀ d, f_ring_below [.fz v] d = .err ⟨1, [.str "net"]⟩ d := fun d => by
    unfold f_ring_below m_ring_below
    rw [fnM_fin]
    simp [c]
  simp [callM, lend, hasDr, hasAl, e2]
theorem frzs_set : ∀ (vs : List FV) (i : Nat) (t : OT), frzs ((vs.map OT.fz).set i t) = vs.set i t.frz
  | [], _, _ => rfl
  | v :: vs, 0, t => by simp [frzs]
  | v :: vs, i + 1, t => by
    have := frzs_set vs i t
    simp only [List.map_cons, List.set_cons_succ, frzs, this]
    rfl
theorem refused_rows_ok (n : Nat) (hn1 : 1 ≤ n) (hn : n ≤ 1000) (xs : List Arc) (hl : xs.length ≤ 1000) (hf : Fits n xs) (hs : List Int) (hh : hs.length = n) (ds : List Int) : ∃ ds', f_law_refused_rows [.dr, .fz (.int n), .fz (.lst (arcsV xs)), .fz (.lst (intsV hs))] (some ds) = .ret (.fz (.bl true)) (some ds') := by
  have n0 : (0 : Int) < n := by omega
  have hn2 : 0 < n := hn1
  have a0 := tk_lo ds n0
  have a1 := tk_hi ds n0
  generalize ea : tk ds (n : Int) = a at *
  obtain ⟨a, rfl⟩ : ∃ k : Nat, a = k := ⟨a.toNat, by omega⟩
  obtain ⟨t, mt, ht⟩ := pick_choiceO [.fz .non, .fz (.bl true), .fz (.str "0"), .own [.fz (.int 0)]] (tk ds.dropLast 4) (tk_lo _ (by decide)) (tk_hi _ (by decide))
  have ht' : ∀ S, pick (.tmp [.fz .non, .fz (.bl true), .fz (.str "0"), .own [.fz (.int 0)]]) (tk ds.dropLast 4) S = .ok (ofO t) S := fun S => by
    rw [ht]
    cases t <;> rfl
  obtain ⟨w, mw, hw⟩ := pick_choice [FV.non, .int 3, .lst (arcsV xs)] (tk ds.dropLast.dropLast 3) (tk_lo _ (by decide)) (tk_hi _ (by decide))
  simp only [List.map_cons, List.map_nil] at hw
  have hbw := fun S => below_bad w (by
    simp only [List.mem_cons, List.not_mem_nil, or_false] at mw
    rcases mw with rfl | rfl | rfl
    · exact .inl rfl
    · exact .inr (.inl rfl)
    · exact .inr (.inr ⟨_, rfl⟩)) S
  have tw : ∀ S, callM f_is_whole 1 [.fz t.frz] S = .ok (.fz (.bl false)) S := fun S => by
    simp only [List.mem_cons, List.not_mem_nil, or_false] at mt
    rcases mt with rfl | rfl | rfl | rfl
    · exact wN S
    · exact wB _ S
    · exact wS _ S
    · exact wL _ S
  have toO' : ∀ S, toO (ofO t) S = .ok t S := fun S => by cases t <;> rfl
  have odd : (intsV hs).set a t.frz = intsV (hs.take a) ++ t.frz :: intsV (hs.drop (a + 1)) := by
    rw [List.set_eq_take_append_cons_drop]
    rw [if_pos (by simp [intsV]; omega)]
    simp [intsV, List.map_take, List.map_drop]
  have lt : (hs.take a).length = a := by simp; omega
  have ln : ((hs.take a).length : Int) + 1 + (intsV (hs.drop (a + 1))).length = n := by simp [intsV]; omega
  have bb := fun S => broken_bad n xs t.frz tw (hs.take a) (intsV (hs.drop (a + 1))) ln S
  have sb := fun S => slacks_bad n xs t.frz tw (hs.take a) (intsV (hs.drop (a + 1))) ln .non S
  rw [lt] at bb sb
  rw [← odd] at bb sb
  have kl := fun S => keeps_long n xs (hs ++ [0]) (by simp; omega) S
  have kv : intsV (hs ++ [0]) = intsV hs ++ [.int 0] := by simp [intsV]
  rw [kv] at kl
  have pl := fun S => plus_lt (intsV hs) [.int 0] S (by simp [intsV]; omega)
  have mk := fun S => make_ok n (by omega) (arcsV xs) xs (.lst (arcsV xs)) (.inl rfl) (handed_arcV xs) hf (by omega) S
  have fz7 := frzs_set (intsV hs) a t
  have lih : (intsV hs).length = n := by simp [intsV, hh]
  have l1 : lineOk 1 = true := rfl
  have l3 : lineOk 3 = true := rfl
  have l4 : lineOk 4 = true := rfl
  have nt := (str_dat "net" 64).trans nt_ok
  have an : a < n := by omega
  simp only [List.map_cons, List.map_nil] at pl
  have to7 := fun sl d h => toF_own 7 sl d (((intsV hs).map OT.fz).set a t) h
  rw [fz7] at to7
  refine ⟨ds.dropLast.dropLast.dropLast, ?_⟩
  unfold f_law_refused_rows m_law_refused_rows
  rw [fnM_fin]
  generalize hg : (intsV hs).set a t.frz = g at *
  simp [-List.map_map, -List.map_append, -List.map_set, mk, l1, pl, kl, cat_BadRow, hn2, ea, l4, ht', toO', lih, an, to7, bb, sb, hw, hbw, cat_BadNumber, l3, nt, eqv_str]
end K07P
set_option Elab.async false
set_option linter.all false
set_option maxRecDepth 100000
set_option maxHeartbeats 2000000
namespace TL
@[simp] theorem pick_scr (ns : List Int) (i : Int) (S : MS) : pick (.scr ns) i S = match L2.atI ns i with
    | some n => .ok (.fz (.int n)) S
    | none => .stuck := rfl
@[simp] theorem gLen_scr (ns : List Int) (S : MS) : gLen [.scr ns] S = .ok (.fz (.int ns.length)) S := rfl
@[simp] theorem gMin_two (i j : Int) (S : MS) : gMin [.fz (.int i), .fz (.int j)] S = .ok (.fz (.int (min i j))) S := rfl
theorem finM_own (j : Nat) (sl : List Sl) (d : Option (List Int)) (ts : List OT) (h : sl[j]? = some (.own ts)) : finM (.rt (.pl j []) ⟨sl, d⟩) = .ret (.tmp ts) d := by
  have e : outV (.pl j []) ⟨sl, d⟩ = some (.tmp ts) := by
    unfold outV
    simp only [at_nil, h]
  show (match outV (.pl j []) ⟨sl, d⟩ with
    | some r => FR.ret r d
    | none => .stuck) = _
  rw [e]
theorem fvInts_map : ∀ (ds : List Int), FvInts ((ds.map FV.int).map OT.fz) = some ds
  | [] => rfl
  | d :: ds => by
    have := fvInts_map ds
    simp only [List.map_cons, FvInts, this]
/-- a call that draws -/
theorem call_dr (fm : FM) (n : Nat) (vs : List FV) (ds ds' : List Int) (v : FV) (h : fm (.dr :: vs.map Sl.fz) (some ds) = .ret (.fz v) (some ds')) (hl : vs.length + 1 = n) (sl : List Sl) : callM fm n (.dr :: vs.map Sl.fz) ⟨sl, some ds⟩ = .ok (.fz v) ⟨sl, some ds'⟩ := by
  have e : lend ⟨sl, some ds⟩ (.dr :: vs.map Sl.fz) = some (.dr :: vs.map Sl.fz) := by
    have := lend_fz vs ⟨sl, some ds⟩
    simp [lend, this]
  have ha : ∀ ws : List FV, hasAl (ws.map Sl.fz) = false := fun ws => by
    induction ws with
    | nil => rfl
    | cons w ws ih => simpa [hasAl] using ih
  unfold callM
  rw [e]
  simp [hasDr, hasAl, ha, h, hl]
theorem call_drT (fm : FM) (n : Nat) (vs : List FV) (ds ds' : List Int) (ts : List OT) (h : fm (.dr :: vs.map Sl.fz) (some ds) = .ret (.tmp ts) (some ds')) (hl : vs.length + 1 = n) (sl : List Sl) : callM fm n (.dr :: vs.map Sl.fz) ⟨sl, some ds⟩ = .ok (.tmp ts) ⟨sl, some ds'⟩ := by
  have e : lend ⟨sl, some ds⟩ (.dr :: vs.map Sl.fz) = some (.dr :: vs.map Sl.fz) := by
    have := lend_fz vs ⟨sl, some ds⟩
    simp [lend, this]
  have ha : ∀ ws : List FV, hasAl (ws.map Sl.fz) = false := fun ws => by
    induction ws with
    | nil => rfl
    | cons w ws ih => simpa [hasAl] using ih
  unfold callM
  rw [e]
  simp [hasDr, hasAl, ha, h, hl]
end TL
namespace K07P
open TL K07
def drS (ns ds : List Int) (s2 s3 s4 s5 : Sl) : MS := ⟨[.scr ns, .own ((ds.map FV.int).map OT.fz), s2, s3, s4, s5], none⟩
theorem dr_loop0 (ns : List Int) (s2 s5 : Sl) (p2 : Pl s2) (p5 : Pl s5) : ∀ (m : Nat) (k : Int) (ds : List Int) (c : Int) (s4 : Sl), Pl s4 → ds.length + m ≤ 16777216 →
    ∃ ds' c' t4, loopF (bName 4) m_law_draws_b0 (rng k m) (drS ns ds s2 (.fz (.int c)) s4 s5) = .nx (drS ns ds' s2 (.fz (.int c')) t4 s5) ∧ Pl t4 ∧ ds'.length ≤ ds.length + m
  | 0, k, ds, c, s4, p4, _ => ⟨ds, c, s4, rfl, p4, by omega⟩
  | m + 1, k, ds, c, s4, p4, hl => by
    by_cases hc : 0 < c
    · obtain ⟨ds', c', t4, e, q1, q2⟩ := dr_loop0 ns s2 s5 p2 p5 m (k + 1) (ds ++ [c % 30]) (c / 30) (.fz (.int k)) (pl_fz _) (by simp; omega)
      refine ⟨ds', c', t4, ?_, q1, by simp at q2; omega⟩
      rw [rng_succ, loopF_cons, ← e]
      have ll : lineOk (ds.length + 1) = true := line_of (by omega)
      simp [drS, p4.1, p2.1, p5.1, hc, p2.2.2.1, p5.2.2.1, ll]
    · obtain ⟨ds', c', t4, e, q1, q2⟩ := dr_loop0 ns s2 s5 p2 p5 m (k + 1) ds c (.fz (.int k)) (pl_fz _) (by omega)
      refine ⟨ds', c', t4, ?_, q1, by omega⟩
      rw [rng_succ, loopF_cons, ← e]
      simp [drS, p4.1, p2.1, p5.1, hc]
theorem dr_loop1 (ns : List Int) (a c : Int) (h0 : 0 ≤ a) (h1 : a ≤ 1000) : ∀ (m k : Nat) (ds : List Int) (x : Int) (s4 : Sl), Pl s4 → 0 ≤ x → x < 2147483648 → k + m ≤ 1000 → ds.length + m ≤ 16777216 →
    ∃ ds' x' t4, loopF (bName 4) m_law_draws_b1 (rng k m) (drS ns ds (.fz (.int a)) (.fz (.int c)) s4 (.fz (.int x))) = .nx (drS ns ds' (.fz (.int a)) (.fz (.int c)) t4 (.fz (.int x'))) ∧ Pl t4 ∧ ds'.length ≤ ds.length + m
  | 0, k, ds, x, s4, p4, _, _, _, _ => ⟨ds, x, s4, rfl, p4, by omega⟩
  | m + 1, k, ds, x, s4, p4, x0, x1, hk, hl => by
    have y0 : 0 ≤ (x * x + k * 433494437 + a + 11) % 2147483587 := Int.emod_nonneg _ (by decide)
    have y1 : (x * x + k * 433494437 + a + 11) % 2147483587 < 2147483587 := Int.emod_lt_of_pos _ (by decide)
    have g1 : ∀ S, gTimes (.fz (.int x)) (.fz (.int x)) S = .ok (.fz (.int (x * x))) S := fun S => gTimes_int _ _ S (.inl (by omega))
    have g2 : ∀ S, gTimes (.fz (.int k)) (.fz (.int 433494437)) S = .ok (.fz (.int (k * 433494437))) S := fun S => gTimes_int _ _ S (.inl (by omega))
    generalize ey : (x * x + k * 433494437 + a + 11) % 2147483587 = y at *
    obtain ⟨ds', x', t4, e, q1, q2⟩ := dr_loop1 ns a c h0 h1 m (k + 1) (ds ++ [y / 31]) y (.fz (.int k)) (pl_fz _) y0 (by omega) (by omega) (by simp; omega)
    refine ⟨ds', x', t4, ?_, q1, by simp at q2; omega⟩
    rw [rng_succ, loopF_cons, ← e]
    have ll : lineOk (ds.length + 1) = true := line_of (by omega)
    simp [drS, p4.1, g1, g2, ey, ll]
theorem dr_loop2 (ns : List Int) : ∀ (m k : Nat) (ds : List Int) (s2 s3 s4 s5 : Sl), Pl s2 → Pl s3 → Pl s4 → Pl s5 → k + m ≤ ns.length → k + m ≤ 100 → ds.length ≤ 40 * k →
    ∃ ds' t2 t3 t4 t5, loopF (bName 2) m_law_draws_b2 (rng k m) (drS ns ds s2 s3 s4 s5) = .nx (drS ns ds' t2 t3 t4 t5) ∧ ds'.length ≤ 40 * (k + m)
  | 0, k, ds, s2, s3, s4, s5, p2, p3, p4, p5, _, _, hl => ⟨ds, s2, s3, s4, s5, rfl, hl⟩
  | m + 1, k, ds, s2, s3, s4, s5, p2, p3, p4, p5, hk, h100, hl => by
    have kl : k < ns.length := by omega
    have ei : L2.atI ns (k : Int) = some ns[k] := by rw [ix_nn, List.getElem?_eq_getElem kl]
    generalize ns[k] = c0 at ei
    generalize ec : (if c0 < 0 then 3 - 2 * c0 else c0) = c
    have cn : 0 ≤ c := by
      rw [← ec]
      split <;> omega
    have g0 : ∀ S, gTimes (.fz (.int 2)) (.fz (.int c0)) S = .ok (.fz (.int (2 * c0))) S := fun S => gTimes_int _ _ S (.inl (by decide))
    have sm40 : small 40 = true := rfl
    have sm6 : small 6 = true := rfl
    by_cases hc : 10 ^ 18 ≤ c
    · obtain ⟨ds1, c1, t4, e1, q1, l1⟩ := dr_loop0 ns (.fz (.int k)) s5 (pl_fz _) p5 40 0 ds c s4 p4 (by omega)
      obtain ⟨ds', u2, u3, u4, u5, e, le⟩ := dr_loop2 ns m (k + 1) ds1 (.fz (.int k)) (.fz (.int c1)) t4 s5 (pl_fz _) (pl_fz _) q1 p5 (by omega) (by omega) (by omega)
      refine ⟨ds', u2, u3, u4, u5, ?_, by omega⟩
      rw [rng_succ, loopF_cons, ← e]
      simp only [Int.reducePow] at hc
      by_cases hneg : c0 < 0
      · rw [if_pos hneg] at ec
        simp only [drS] at e1
        simp [-List.map_map, drS, p2.1, p3.1, p4.1, p5.1, ei, hneg, g0, ec, hc, sm40, e1]
      · rw [if_neg hneg] at ec
        subst ec
        simp only [drS] at e1
        simp [-List.map_map, drS, p2.1, p3.1, p4.1, p5.1, ei, hneg, g0, hc, sm40, e1]
    · have y0 : 0 ≤ (c * 39916801 + k * 27644437 + 5) % 2147483629 := Int.emod_nonneg _ (by decide)
      have y1 : (c * 39916801 + k * 27644437 + 5) % 2147483629 < 2147483629 := Int.emod_lt_of_pos _ (by decide)
      have g1 : ∀ S, gTimes (.fz (.int c)) (.fz (.int 39916801)) S = .ok (.fz (.int (c * 39916801))) S := fun S => gTimes_int _ _ S (.inr (by decide))
      have g2 : ∀ S, gTimes (.fz (.int k)) (.fz (.int 27644437)) S = .ok (.fz (.int (k * 27644437))) S := fun S => gTimes_int _ _ S (.inl (by omega))
      generalize ey : (c * 39916801 + k * 27644437 + 5) % 2147483629 = y at *
      obtain ⟨ds1, x1, t4, e1, q1, l1⟩ := dr_loop1 ns (k : Int) c (by omega) (by omega) 6 0 ds y s4 p4 y0 (by omega) (by omega) (by omega)
      obtain ⟨ds', u2, u3, u4, u5, e, le⟩ := dr_loop2 ns m (k + 1) ds1 (.fz (.int k)) (.fz (.int c)) t4 (.fz (.int x1)) (pl_fz _) (pl_fz _) q1 (pl_fz _) (by omega) (by omega) (by omega)
      refine ⟨ds', u2, u3, u4, u5, ?_, by omega⟩
      rw [rng_succ, loopF_cons, ← e]
      simp only [Int.reducePow] at hc
      simp only [drS, Int.natCast_zero, Int.ofNat_zero] at e1
      by_cases hneg : c0 < 0
      · rw [if_pos hneg] at ec
        simp [-List.map_map, drS, p2.1, p3.1, p4.1, p5.1, ei, hneg, g0, ec, hc, sm6, g1, g2, ey, e1]
      · rw [if_neg hneg] at ec
        subst ec
        simp [-List.map_map, drS, p2.1, p3.1, p4.1, p5.1, ei, hneg, g0, hc, sm6, g1, g2, ey, e1]
theorem draws_ok (ns : List Int) (hn : ns.length ≤ 63) : ∃ ds : List Int, ∀ S, callM f_law_draws 1 [.scr ns] S = .ok (.tmp ((ds.map FV.int).map OT.fz)) S := by
  obtain ⟨ds, t2, t3, t4, t5, e, _⟩ := dr_loop2 ns ns.length 0 [] .un .un .un .un pl_un pl_un pl_un pl_un (by omega) (by omega) (by simp)
  refine ⟨ds.reverse, fun S => ?_⟩
  have e2 : f_law_draws [.scr ns] none = .ret (.tmp ((ds.reverse.map FV.int).map OT.fz)) none := by
    unfold f_law_draws m_law_draws
    rw [fnM_fin]
    have mn : min (ns.length : Int) 63 = ns.length := by omega
    have sm : small (ns.length : Int) = true := sm_of (by omega) (by omega)
    have l0 : lineOk 0 = true := rfl
    simp only [drS, Int.natCast_zero, Int.ofNat_zero, List.map_nil] at e
    simp [-List.map_map, -List.map_reverse, mn, sm, l0, e]
    rw [finM_own 1 _ none _ rfl]
    simp
  simp [callM, lend, hasDr, hasAl, e2]
end K07P
set_option Elab.async false
set_option linter.all false
set_option maxRecDepth 100000
set_option maxHeartbeats 2000000
namespace TL
@[simp] theorem sDraws_at (i : Nat) (m : M RV) (rest : MSt) (S : MS) : sDraws i m rest S = (m S).thn fun v S1 => match v, S1.dr with
  | .tmp ts, none => (match FvInts ts with
    | some ns => outDr (rest ⟨(S1.set i .dr).sl, some ns⟩)
    | none => .stuck)
  | _, _ => .stuck := rfl
@[simp] theorem outDr_fz (v : FV) (S : MS) : outDr (.rt (.fz v) S) = .rt (.fz v) S.noDr := rfl
@[simp] theorem frzs_nil : frzs [] = [] := rfl
@[simp] theorem frzs_cons (v : FV) (ts : List OT) : frzs (.fz v :: ts) = v :: frzs ts := rfl
end TL
namespace K07P
open TL K07
theorem plain : ∀ ns : List Int, ns.length ≤ 63 → ∃ d, f_law [.scr ns] none = .ret (.fz (.bl true)) d := by
  intro ns hn
  obtain ⟨ds, h0⟩ := draws_ok ns hn
  obtain ⟨n, xs, hs, d1, h1, n1, n6, hh, hx, hf, hk⟩ := net_ok true ds.dropLast
  have hk := hk rfl
  obtain ⟨d2, h2⟩ := kept_ok n n1 (by omega) xs (by omega) hf hs hh d1
  obtain ⟨d3, h3⟩ := closed_ok n n1 (by omega) xs (by omega) hf hs hh hk d2
  obtain ⟨d4, h4⟩ := refused_ok n n1 (by omega) xs (by omega) hf d3
  obtain ⟨d5, h5⟩ := refused_rows_ok n n1 (by omega) xs (by omega) hf hs hh d4
  have c1 := call_drT f_law_net 2 [.bl true] ds.dropLast d1 _ h1 rfl
  have c2 := call_dr f_law_kept 4 [.int n, .lst (arcsV xs), .lst (intsV hs)] d1 d2 _ h2 rfl
  have c3 := call_dr f_law_closed 4 [.int n, .lst (arcsV xs), .lst (intsV hs)] d2 d3 _ h3 rfl
  have c4 := call_dr f_law_refused 3 [.int n, .lst (arcsV xs)] d3 d4 _ h4 rfl
  have c5 := call_dr f_law_refused_rows 4 [.int n, .lst (arcsV xs), .lst (intsV hs)] d4 d5 _ h5 rfl
  simp only [List.map_cons, List.map_nil] at c1 c2 c3 c4 c5
  -- the end, from any draws
  have last : ∀ (d6 : List Int) (sl : List Sl), ∃ (m : Nat) (ys : List Arc) (gs : List Int) (d7 : List Int), callM f_law_net 2 [.dr, .fz (.bl false)] ⟨sl, some d6⟩ = .ok (.tmp [.fz (.int m), .fz (.lst (arcsV ys)), .fz (.lst (intsV gs))]) ⟨sl, some d7⟩ ∧ (∀ S, callM f_law_dists 2 [.fz (.int m), .fz (.lst (arcsV ys))] S = .ok (.tmp (tabO (fvT (FW.dists m ys)))) S) ∧ ∃ r : Bool, (∀ S, callM f_law_any_ring 1 [.fz (.lst ((fvT (FW.dists m ys)).map FV.lst))] S = .ok (.fz (.bl r)) S) ∧ if r = true then ∀ S, callM f_law_has_ring 3 [.fz (.int m), .fz (.lst (arcsV ys)), .fz (.lst (intsV gs))] S = .ok (.fz (.bl true)) S else ∀ S, callM f_law_has_row 2 [.fz (.int m), .fz (.lst (arcsV ys))] S = .ok (.fz (.bl true)) S := fun d6 sl => by
    obtain ⟨m, ys, gs, d7, h7, m1, m6, gh, gx, gf, _⟩ := net_ok false d6
    have c7 := call_drT f_law_net 2 [.bl false] d6 d7 _ h7 rfl
    simp only [List.map_cons, List.map_nil] at c7
    have D := FW.dists_ok (fitB gf)
    obtain ⟨r, a1, a2⟩ := anyring_ok (by omega) D
    refine ⟨m, ys, gs, d7, c7 sl, fun S => dists_ok m (by omega) ys gf S, r, a1, ?_⟩
    have iff := D.iff (fitB gf) m1
    cases e : BF.ringBelow m ys with
    | none =>
      have : r = false := a2.mpr (iff.mpr e)
      subst this
      rw [if_neg (by decide)]
      exact fun S => hasrow_ok m m1 (by omega) ys (by omega) gf e S
    | some q =>
      have : r = true := by
        cases r with
        | true => rfl
        | false =>
          have := iff.mp (a2.mp rfl)
          rw [this] at e
          cases e
      subst this
      rw [if_pos rfl]
      exact fun S => hasring_ok m m1 (by omega) ys (by omega) gf gs gh.symm q e S
  have long : ∃ d6, ∀ sl, callM f_law_long 1 [.dr] ⟨sl, some d5⟩ = .ok (.fz (.bl true)) ⟨sl, some d6⟩ := by
    obtain ⟨d6, h6⟩ := long_ok d5
    exact ⟨d6, call_dr f_law_long 1 [] d5 d6 _ h6 rfl⟩
  obtain ⟨d6, c6⟩ := long
  have f0 := fvInts_map ds
  refine ⟨none, ?_⟩
  unfold f_law m_law
  rw [fnM_fin]
  by_cases hl : tk ds 4 = 3
  · obtain ⟨m, ys, gs, d7, c7, c8, r, c9, c10⟩ := last d6 [.scr ns, .dr, .fz (.bl true), .fz (.int n), .fz (.lst (arcsV xs)), .fz (.lst (intsV hs)), .un, .un, .un]
    cases r with
    | true =>
      rw [if_pos rfl] at c10
      simp [-List.map_map, h0, f0, hl, c1, c2, c3, c4, c5, c6, c7, c8, frz_tab, c9, c10]
      rfl
    | false =>
      rw [if_neg (by decide)] at c10
      simp [-List.map_map, h0, f0, hl, c1, c2, c3, c4, c5, c6, c7, c8, frz_tab, c9, c10]
      rfl
  · obtain ⟨m, ys, gs, d7, c7, c8, r, c9, c10⟩ := last d5 [.scr ns, .dr, .fz (.bl false), .fz (.int n), .fz (.lst (arcsV xs)), .fz (.lst (intsV hs)), .un, .un, .un]
    have hb : (tk ds 4 == 3) = false := by simpa using hl
    cases r with
    | true =>
      rw [if_pos rfl] at c10
      simp [-List.map_map, h0, f0, hl, hb, c1, c2, c3, c4, c5, c6, c7, c8, frz_tab, c9, c10]
      rfl
    | false =>
      rw [if_neg (by decide)] at c10
      simp [-List.map_map, h0, f0, hl, hb, c1, c2, c3, c4, c5, c6, c7, c8, frz_tab, c9, c10]
      rfl
end K07P
theorem PySem.Challenge.cw_calmmornings_k07_row_or_ring_holds : PySem.Challenge.rw_calmmornings_k07_row_or_ring.Holds := by
  exact K07.holds K07P.plain
