import PyProof.Rows.All
import HandS.ForMost
import HandS.IsInst
import HandS.Zip
import HandS.Deep
import HandS.TupAny
import HandS.Style
import HandS.TupLe
import HandS.Comp
import HandS.Ends
import HandS.Text
import HandS.Codes
import PyProof.ListStr
import HandS.TupSets
import KE.KeyNested
import KE.SortData
import PyProof.TupleOfSeq
import HandS.SetFor
import HandS.RaiseMore
import HandS.Strs
import KE.DataCmp
import PyProof.SliceStr2
import Wide.All
import OpenK.AllK
import Wide.FinOn
import PySem.Challenge.RW_cubegrounds_k04_whole_dice_by_their_corn
section
set_option Elab.async false
set_option linter.all false
set_option maxRecDepth 100000
set_option maxHeartbeats 4000000
/-! PuA: plain data over the hand layer: what a value means (Is), what a frame's slots mean (Rel), the weakest readings. -/
namespace Pu
open PySem L2

/-! ### plain data -/
/-- plain data; `fz` is a list that is only read (the script) -/
inductive D where
  | non
  | bl (b : Bool)
  | int (i : Int)
  | str (s : List Nat)
  | tup (xs : List D)
  | lst (xs : List D)
  | fz (xs : List D)

abbrev Ads := Addr → Prop
abbrev Fr := PySem.W.Frag

/-- a tuple that is read: tracked, outside M, or of the written part -/
def TupM (K : Fr) (M : Ads) (H : Hp) (a : Addr) (xs : List V) : Prop := (¬ M a ∧ H a = some (.tup xs)) ∨ SqT K (fun _ => none) a xs
def LstM (M : Ads) (H : Hp) (a : Addr) (xs : List V) : Prop := ¬ M a ∧ H a = some (.lst xs)
def FzM (K : Fr) (M : Ads) (H : Hp) (a : Addr) (xs : List V) : Prop := (¬ M a ∧ Rd H a (.lst xs)) ∨ SqL K (fun _ => none) a xs

mutual
/-- v means d in H, and reaches nothing of M -/
inductive Is (K : Fr) (M : Ads) (H : Hp) : V → D → Prop
  | non : Is K M H .non .non
  | bl (b : Bool) : Is K M H (.bl b) (.bl b)
  | int (i : Int) : Is K M H (.int i) (.int i)
  | str (x : Str) : Is K M H (.str x) (.str x.cps.toList)
  | tup {a : Addr} {xs : List V} {ds : List D} : TupM K M H a xs → IsAll K M H xs ds → Is K M H (.ref a) (.tup ds)
  | lst {a : Addr} {xs : List V} {ds : List D} : LstM M H a xs → IsAll K M H xs ds → Is K M H (.ref a) (.lst ds)
  | fz {a : Addr} {xs : List V} {ds : List D} : FzM K M H a xs → IsAll K M H xs ds → Is K M H (.ref a) (.fz ds)
inductive IsAll (K : Fr) (M : Ads) (H : Hp) : List V → List D → Prop
  | nil : IsAll K M H [] []
  | cons {v : V} {vs : List V} {d : D} {ds : List D} : Is K M H v d → IsAll K M H vs ds → IsAll K M H (v :: vs) (d :: ds)
end

section
variable {K : Fr} {M M' : Ads} {H H' : Hp}
mutual
theorem Is.mono (ht : ∀ a xs, TupM K M H a xs → TupM K M' H' a xs) (hl : ∀ a xs, LstM M H a xs → LstM M' H' a xs) (hz : ∀ a xs, FzM K M H a xs → FzM K M' H' a xs) :
    ∀ {v : V} {d : D}, Is K M H v d → Is K M' H' v d
  | _, _, .non => .non
  | _, _, .bl b => .bl b
  | _, _, .int i => .int i
  | _, _, .str x => .str x
  | _, _, .tup h r => .tup (ht _ _ h) (IsAll.mono ht hl hz r)
  | _, _, .lst h r => .lst (hl _ _ h) (IsAll.mono ht hl hz r)
  | _, _, .fz h r => .fz (hz _ _ h) (IsAll.mono ht hl hz r)
theorem IsAll.mono (ht : ∀ a xs, TupM K M H a xs → TupM K M' H' a xs) (hl : ∀ a xs, LstM M H a xs → LstM M' H' a xs) (hz : ∀ a xs, FzM K M H a xs → FzM K M' H' a xs) :
    ∀ {vs : List V} {ds : List D}, IsAll K M H vs ds → IsAll K M' H' vs ds
  | _, _, .nil => .nil
  | _, _, .cons h r => .cons (Is.mono ht hl hz h) (IsAll.mono ht hl hz r)
end
/-- what is tracked outside M stays, and M shrinks or gains what was not tracked -/
structure Goes1 (M M' : Ads) (H H' : Hp) : Prop where
  st : ∀ a o, ¬ M a → H a = some o → H' a = some o
  av : ∀ a o, ¬ M a → H a = some o → ¬ M' a
theorem Is.go (g : Goes1 M M' H H') {v : V} {d : D} (h : Is K M H v d) : Is K M' H' v d := by
  refine Is.mono (fun a xs t => ?_) (fun a xs t => ?_) (fun a xs t => ?_) h
  · rcases t with ⟨n, e⟩ | t
    · exact .inl ⟨g.av a _ n e, g.st a _ n e⟩
    · exact .inr t
  · exact ⟨g.av a _ t.1 t.2, g.st a _ t.1 t.2⟩
  · rcases t with ⟨n, e | ⟨o, e⟩⟩ | t
    · exact .inl ⟨g.av a _ n e, .inl (g.st a _ n e)⟩
    · exact .inl ⟨g.av a _ n e, .inr ⟨o, g.st a _ n e⟩⟩
    · exact .inr t
theorem IsAll.go (g : Goes1 M M' H H') : ∀ {vs : List V} {ds : List D}, IsAll K M H vs ds → IsAll K M' H' vs ds
  | _, _, .nil => .nil
  | _, _, .cons h r => .cons (h.go g) (IsAll.go g r)
theorem IsAll.len : ∀ {vs : List V} {ds : List D}, IsAll K M H vs ds → vs.length = ds.length
  | _, _, .nil => rfl
  | _, _, .cons _ r => congrArg Nat.succ (IsAll.len r)
theorem IsAll.get : ∀ {vs : List V} {ds : List D} {i : Nat} {d : D}, IsAll K M H vs ds → ds[i]? = some d → ∃ v, vs[i]? = some v ∧ Is K M H v d
  | _, _, _, _, .nil, e => by simp at e
  | _, _, 0, _, .cons h _, e => by simp at e; subst e; exact ⟨_, rfl, h⟩
  | _, _, i + 1, _, .cons _ r, e => by
    obtain ⟨v, h1, h2⟩ := IsAll.get (i := i) r (by simpa using e)
    exact ⟨v, by simpa using h1, h2⟩
theorem IsAll.app : ∀ {vs us : List V} {ds es : List D}, IsAll K M H vs ds → IsAll K M H us es → IsAll K M H (vs ++ us) (ds ++ es)
  | _, _, _, _, .nil, s => s
  | _, _, _, _, .cons h r, s => .cons h (IsAll.app r s)
theorem IsAll.one {v : V} {d : D} (h : Is K M H v d) : IsAll K M H [v] [d] := .cons h .nil
theorem IsAll.take : ∀ {vs : List V} {ds : List D} (n : Nat), IsAll K M H vs ds → IsAll K M H (vs.take n) (ds.take n)
  | _, _, 0, _ => .nil
  | _, _, _ + 1, .nil => .nil
  | _, _, n + 1, .cons h r => .cons h (IsAll.take n r)
theorem IsAll.drop : ∀ {vs : List V} {ds : List D} (n : Nat), IsAll K M H vs ds → IsAll K M H (vs.drop n) (ds.drop n)
  | _, _, 0, r => r
  | _, _, _ + 1, .nil => .nil
  | _, _, n + 1, .cons _ r => IsAll.drop n r
theorem IsAll.set {v : V} {d : D} (q : Is K M H v d) : ∀ {vs : List V} {ds : List D} (i : Nat), IsAll K M H vs ds → IsAll K M H (vs.set i v) (ds.set i d)
  | _, _, _, .nil => .nil
  | _, _, 0, .cons _ r => .cons q r
  | _, _, i + 1, .cons h r => .cons h (IsAll.set q i r)
theorem IsAll.rev : ∀ {vs : List V} {ds : List D}, IsAll K M H vs ds → IsAll K M H vs.reverse ds.reverse
  | _, _, .nil => .nil
  | _, _, .cons h r => by
    rw [List.reverse_cons, List.reverse_cons]
    exact (IsAll.rev r).app (.one h)
theorem IsAll.mem : ∀ {vs : List V} {ds : List D} {v : V}, IsAll K M H vs ds → v ∈ vs → ∃ d ∈ ds, Is K M H v d
  | _, _, _, .nil, h => by simp at h
  | _, _, _, .cons h r, hm => by
    rcases List.mem_cons.mp hm with rfl | hm
    · exact ⟨_, List.mem_cons_self, h⟩
    · obtain ⟨d, h1, h2⟩ := IsAll.mem r hm
      exact ⟨d, List.mem_cons_of_mem _ h1, h2⟩
/-- the layer's own reading of a tuple, a list -/
theorem sqt_any {a : Addr} {xs : List V} (h : SqT K (fun _ => none) a xs) : SqT K H a xs := by
  rcases h with (h | ⟨o, h⟩) | h
  · cases h
  · cases h
  · exact .inr h
theorem sql_any {a : Addr} {xs : List V} (h : SqL K (fun _ => none) a xs) : SqL K H a xs := by
  rcases h with (h | ⟨o, h⟩) | h
  · cases h
  · cases h
  · exact .inr h
theorem TupM.sq {a : Addr} {xs : List V} (h : TupM K M H a xs) : SqT K H a xs := by
  rcases h with ⟨_, h⟩ | h
  · exact .inl (.inl h)
  · exact sqt_any h
theorem LstM.sq {a : Addr} {xs : List V} (h : LstM M H a xs) : SqL K H a xs := .inl (.inl h.2)
theorem FzM.sq {a : Addr} {xs : List V} (h : FzM K M H a xs) : SqL K H a xs := by
  rcases h with ⟨_, h⟩ | h
  · exact .inl h
  · exact sql_any h
end

/-! ### owned things, slots, a frame's meaning -/
/-- what a slot alone holds -/
inductive Ow where
  | lst (xs : List D)
def Ow.d : Ow → D
  | .lst xs => .lst xs
inductive Slot where
  | no
  | im (d : D)
  | ow (c : Bool × Ow)
abbrev G := List Slot
/-- an owned thing, and whether it was handed in -/
abbrev Oc := Bool × Ow
/-- an expression's end: plain data, a new thing that nobody else holds, or what slot i alone holds -/
inductive R where
  | im (d : D)
  | fr (c : Ow)
  | sl (i : Nat)

def OwnAt (K : Fr) (M : Ads) (H : Hp) (a : Addr) : Ow → Prop
  | .lst ds => ∃ xs, H a = some (.lst xs) ∧ IsAll K M H xs ds

structure Fx where
  pa : Nat → Addr
  N0 : Ads
  M0 : Ads
  H0 : Hp

/-- the addresses of owned slots; all that is to be left out -/
def Owd (al : Nat → Addr) (g : G) : Ads := fun a => ∃ (i : Nat) (c : Oc), g[i]? = some (Slot.ow c) ∧ a = al i
def Av (Mo : Ads) (al : Nat → Addr) (g : G) : Ads := fun a => Mo a ∨ Owd al g a
abbrev With (Mo : Ads) (p : Addr) : Ads := fun a => Mo a ∨ a = p

structure Rel (K : Fr) (F : Fx) (Mo : Ads) (al : Nat → Addr) (g : G) (σ : St) (H : Hp) : Prop where
  len : g.length = σ.length
  im : ∀ (i : Nat) (d : D), g[i]? = some (Slot.im d) → ∃ v, σ[i]? = some (some v) ∧ Is K (Av Mo al g) H v d
  ow : ∀ (i : Nat) (c : Oc), g[i]? = some (Slot.ow c) → σ[i]? = some (some (.ref (al i))) ∧ OwnAt K (Av Mo al g) H (al i) c.2 ∧ (F.H0 (al i) = none ∨ F.M0 (al i)) ∧ ¬ Mo (al i) ∧ (c.1 = true → al i = F.pa i) ∧ (c.1 = false → F.N0 (al i))
  inj : ∀ (i j : Nat) (c c' : Oc), g[i]? = some (Slot.ow c) → g[j]? = some (Slot.ow c') → al i = al j → i = j
  keep : ∀ a o, ¬ F.M0 a → F.H0 a = some o → H a = some o
  mo : ∀ a, Mo a → H a ≠ none
  m0 : ∀ a, F.M0 a → H a ≠ none
  n0 : ∀ a, H a = none → F.N0 a

def Sub (g' g : G) : Prop := ∀ (i : Nat) (c : Oc), g'[i]? = some (Slot.ow c) → ∃ c' : Oc, g[i]? = some (Slot.ow c')
structure Kp (S : Ads) (H H' : Hp) : Prop where
  st : ∀ a o, ¬ S a → H a = some o → H' a = some o
  gr : ∀ a, H a ≠ none → H' a ≠ none
theorem Sub.refl (g : G) : Sub g g := fun i c h => ⟨c, h⟩
theorem Sub.trans {g g1 g2 : G} (h : Sub g2 g1) (h' : Sub g1 g) : Sub g2 g := fun i c q => let ⟨c', q'⟩ := h i c q; h' i c' q'
theorem Kp.refl (S : Ads) (H : Hp) : Kp S H H := ⟨fun _ _ _ h => h, fun _ h => h⟩
theorem Kp.trans {S : Ads} {H H1 H2 : Hp} (h : Kp S H H1) (h' : Kp S H1 H2) : Kp S H H2 := ⟨fun a o n e => h'.st a o n (h.st a o n e), fun a e => h'.gr a (h.gr a e)⟩
theorem Kp.same {S : Ads} {H H' : Hp} (h : Same H H') : Kp S H H' := ⟨fun a o _ e => h a o e, fun a e z => e (h.free z)⟩
theorem Owd.sub {al : Nat → Addr} {g g' : G} (h : Sub g' g) {a : Addr} (o : Owd al g' a) : Owd al g a := by
  obtain ⟨i, c, h1, h2⟩ := o
  obtain ⟨c', h3⟩ := h i c h1
  exact ⟨i, c', h3, h2⟩
theorem Kp.upd {H : Hp} {p : Addr} {o : HO} : Kp (fun a => a = p) H (upd H p o) :=
  ⟨fun a x n e => by rw [upd_ne n]; exact e, fun a n => by
    by_cases z : a = p
    · rw [z, upd_same]; exact fun y => nomatch y
    · rw [upd_ne z]; exact n⟩
theorem Kp.sub {al : Nat → Addr} {g g' : G} (h : Sub g' g) {H H' : Hp} (k : Kp (Owd al g') H H') : Kp (Owd al g) H H' := ⟨fun a o n e => k.st a o (fun z => n (z.sub h)) e, k.gr⟩
theorem Av.sub {Mo : Ads} {al : Nat → Addr} {g g' : G} (h : Sub g' g) {a : Addr} (o : Av Mo al g' a) : Av Mo al g a := o.imp id fun z => z.sub h

section
variable {K : Fr} {F : Fx} {Mo : Ads} {al : Nat → Addr} {g g' : G} {σ : St} {H H' : Hp}
theorem Rel.trk (r : Rel K F Mo al g σ H) {a : Addr} (h : Av Mo al g a) : H a ≠ none := by
  rcases h with h | ⟨i, c, h1, rfl⟩
  · exact r.mo a h
  · obtain ⟨_, o, _⟩ := r.ow i c h1
    obtain ⟨b, c⟩ := c
    cases c with
    | lst ds =>
      obtain ⟨xs, e, _⟩ := o
      rw [e]
      exact fun z => nomatch z
/-- data stay along an expression -/
theorem go_of (s : Sub g' g) (k : Kp (Owd al g) H H') : Goes1 (Av Mo al g) (Av Mo al g') H H' :=
  ⟨fun a o n e => k.st a o (fun z => n (.inr z)) e, fun a o n _ z => n (z.sub s)⟩
theorem go_same {M : Ads} (s : Same H H') : Goes1 M M H H' := ⟨fun a o _ e => s a o e, fun a o n _ => n⟩
theorem OwnAt.go {M M' : Ads} {a : Addr} {c : Ow} (h : OwnAt K M H a c) (go : Goes1 M M' H H') (e : H' a = H a) : OwnAt K M' H' a c := by
  cases c with
  | lst ds =>
    obtain ⟨xs, e1, r⟩ := h
    exact ⟨xs, e.trans e1, r.go go⟩
theorem OwnAt.some {M : Ads} {a : Addr} {c : Ow} (h : OwnAt K M H a c) : ∃ o, H a = some o := by
  cases c with
  | lst ds =>
    obtain ⟨xs, e1, r⟩ := h
    exact ⟨_, e1⟩
theorem Rel.same (r : Rel K F Mo al g σ H) (s : Same H H') : Rel K F Mo al g σ H' := by
  refine ⟨r.len, fun i d h => ?_, fun i c h => ?_, r.inj, fun a o n e => s a o (r.keep a o n e), fun a h z => ?_, fun a h z => ?_, fun a z => r.n0 a (s.free z)⟩
  · obtain ⟨v, h1, h2⟩ := r.im i d h
    exact ⟨v, h1, h2.go (go_same s)⟩
  · obtain ⟨h1, h2, h3⟩ := r.ow i c h
    obtain ⟨o, e⟩ := h2.some
    exact ⟨h1, h2.go (go_same s) ((s _ _ e).trans e.symm), h3⟩
  · exact r.mo a h (s.free z)
  · exact r.m0 a h (s.free z)
/-- a new thing at p is left out by all -/
theorem Rel.fresh (r : Rel K F Mo al g σ H) (s : Same H H') {p : Addr} (hp : H p = none) (hp' : H' p ≠ none) : Rel K F (With Mo p) al g σ H' := by
  have ne : ∀ a o, H a = some o → a ≠ p := fun a o e z => by
    rw [z, hp] at e
    cases e
  have go : Goes1 (Av Mo al g) (Av (With Mo p) al g) H H' := ⟨fun a o _ e => s a o e, fun a o n e z => by
    rcases z with (z | z) | z
    · exact n (.inl z)
    · exact ne a o e z
    · exact n (.inr z)⟩
  refine ⟨r.len, fun i d h => ?_, fun i c h => ?_, r.inj, fun a o n e => s a o (r.keep a o n e), fun a h z => ?_, fun a h z => r.m0 a h (s.free z), fun a z => r.n0 a (s.free z)⟩
  · obtain ⟨v, h1, h2⟩ := r.im i d h
    exact ⟨v, h1, h2.go go⟩
  · obtain ⟨h1, h2, h3, h4⟩ := r.ow i c h
    obtain ⟨o, e⟩ := h2.some
    exact ⟨h1, h2.go go ((s _ _ e).trans e.symm), h3, fun z => z.elim h4.1 fun y => ne _ _ e y, h4.2⟩
  · rcases h with h | rfl
    · exact r.mo a h (s.free z)
    · exact hp' z
theorem av_with {p : Addr} {a : Addr} : Av (With Mo p) al g a ↔ Av Mo al g a ∨ a = p := by
  constructor
  · rintro ((h | h) | h)
    · exact .inl (.inl h)
    · exact .inr h
    · exact .inl (.inr h)
  · rintro ((h | h) | h)
    · exact .inl (.inl h)
    · exact .inr h
    · exact .inl (.inr h)
/-- what was left out is let in -/
theorem Rel.drop {Mo' : Ads} (r : Rel K F Mo al g σ H) (s : ∀ a, Mo' a → Mo a) : Rel K F Mo' al g σ H := by
  have go : Goes1 (Av Mo al g) (Av Mo' al g) H H := ⟨fun a o _ e => e, fun a o n _ z => n (z.imp (s a) id)⟩
  refine ⟨r.len, fun i d h => ?_, fun i c h => ?_, r.inj, r.keep, fun a h => r.mo a (s a h), r.m0, r.n0⟩
  · obtain ⟨v, h1, h2⟩ := r.im i d h
    exact ⟨v, h1, h2.go go⟩
  · obtain ⟨h1, h2, h3, h4⟩ := r.ow i c h
    exact ⟨h1, h2.go go rfl, h3, fun z => h4.1 (s _ z), h4.2⟩
theorem get_set_cases {α : Type} {l : List α} {i j : Nat} {x y : α} (h : (l.set i x)[j]? = some y) : (j = i ∧ y = x ∧ i < l.length) ∨ (j ≠ i ∧ l[j]? = some y) := by
  by_cases e : j = i
  · subst e
    by_cases hl : j < l.length
    · rw [List.getElem?_set_self hl] at h
      exact .inl ⟨rfl, (Option.some.inj h).symm, hl⟩
    · rw [List.getElem?_eq_none (by simpa using hl)] at h
      cases h
  · rw [List.getElem?_set_ne (Ne.symm e)] at h
    exact .inr ⟨e, h⟩
theorem sub_im {i : Nat} {d : D} : Sub (g.set i (Slot.im d)) g := fun j c h => by
  rcases get_set_cases h with ⟨_, q, _⟩ | ⟨_, q⟩
  · cases q
  · exact ⟨c, q⟩
theorem sub_no {i : Nat} : Sub (g.set i Slot.no) g := fun j c h => by
  rcases get_set_cases h with ⟨_, q, _⟩ | ⟨_, q⟩
  · cases q
  · exact ⟨c, q⟩
/-- what a slot alone held is now held by any -/
theorem OwnAt.is {M : Ads} {a : Addr} {c : Ow} (h : OwnAt K M H a c) (n : ¬ M a) : Is K M H (.ref a) c.d := by
  cases c with
  | lst ds =>
    obtain ⟨xs, e, r⟩ := h
    exact .lst ⟨n, e⟩ r
theorem Rel.freeze (r : Rel K F Mo al g σ H) {i : Nat} {c : Oc} (h : g[i]? = some (Slot.ow c)) :
    Rel K F Mo al (g.set i (Slot.im c.2.d)) σ H ∧ Is K (Av Mo al (g.set i (Slot.im c.2.d))) H (.ref (al i)) c.2.d := by
  have go : Goes1 (Av Mo al g) (Av Mo al (g.set i (Slot.im c.2.d))) H H := ⟨fun a o _ e => e, fun a o n _ z => n (z.sub sub_im)⟩
  obtain ⟨e1, e2, e3, e4⟩ := r.ow i c h
  have na : ¬ Av Mo al (g.set i (Slot.im c.2.d)) (al i) := by
    rintro (z | ⟨j, c', h1, h2⟩)
    · exact e4.1 z
    · rcases get_set_cases h1 with ⟨_, q, _⟩ | ⟨nj, q⟩
      · cases q
      · exact nj (r.inj j i c' c q h h2.symm)
  have is : Is K (Av Mo al (g.set i (Slot.im c.2.d))) H (.ref (al i)) c.2.d := (e2.go go rfl).is na
  refine ⟨⟨by rw [List.length_set]; exact r.len, fun j d hj => ?_, fun j c' hj => ?_, fun j k c1 c2 hj hk => ?_, r.keep, r.mo, r.m0, r.n0⟩, is⟩
  · rcases get_set_cases hj with ⟨rfl, q, _⟩ | ⟨nj, q⟩
    · cases q
      exact ⟨_, e1, is⟩
    · obtain ⟨v, h1, h2⟩ := r.im j d q
      exact ⟨v, h1, h2.go go⟩
  · rcases get_set_cases hj with ⟨rfl, q, _⟩ | ⟨nj, q⟩
    · cases q
    · obtain ⟨h1, h2, h3, h4⟩ := r.ow j c' q
      exact ⟨h1, h2.go go rfl, h3, h4⟩
  · rcases get_set_cases hj with ⟨_, q, _⟩ | ⟨_, q⟩
    · cases q
    · rcases get_set_cases hk with ⟨_, q', _⟩ | ⟨_, q'⟩
      · cases q'
      · exact r.inj j k c1 c2 q q'
/-- a slot's own thing is changed -/
theorem Rel.mut (r : Rel K F Mo al g σ H) {i : Nat} {c : Oc} {c' : Ow} (h : g[i]? = some (Slot.ow c)) (k : Kp (fun a => a = al i) H H') (own : OwnAt K (Av Mo al g) H' (al i) c') : Rel K F Mo al (g.set i (Slot.ow (c.1, c'))) σ H' := by
  have ave : ∀ a, Av Mo al (g.set i (Slot.ow (c.1, c'))) a → Av Mo al g a := by
    rintro a (z | ⟨j, d, h1, h2⟩)
    · exact .inl z
    · rcases get_set_cases h1 with ⟨rfl, _, _⟩ | ⟨_, q⟩
      · exact .inr ⟨j, c, h, h2⟩
      · exact .inr ⟨j, d, q, h2⟩
  have avi : Av Mo al g (al i) := .inr ⟨i, c, h, rfl⟩
  have go : Goes1 (Av Mo al g) (Av Mo al (g.set i (Slot.ow (c.1, c')))) H H' :=
    ⟨fun a o n e => k.st a o (fun z => n (z ▸ avi)) e, fun a o n _ z => n (ave a z)⟩
  have go' : Goes1 (Av Mo al g) (Av Mo al (g.set i (Slot.ow (c.1, c')))) H' H' := ⟨fun a o n e => e, fun a o n _ z => n (ave a z)⟩
  obtain ⟨e1, e2, e3, e4⟩ := r.ow i c h
  obtain ⟨oo, ho⟩ := own.some
  have nn : ∀ a, H a ≠ none → H' a ≠ none := k.gr
  refine ⟨by rw [List.length_set]; exact r.len, fun j d hj => ?_, fun j d hj => ?_, fun j l c1 c2 hj hk => ?_, fun a o n e => ?_, fun a hm => nn a (r.mo a hm), fun a hm => nn a (r.m0 a hm), fun a z => r.n0 a (by
    cases e : H a with
    | none => rfl
    | some o => exact (nn a (by rw [e]; exact fun y => nomatch y) z).elim)⟩
  · rcases get_set_cases hj with ⟨_, q, _⟩ | ⟨nj, q⟩
    · cases q
    · obtain ⟨v, h1, h2⟩ := r.im j d q
      exact ⟨v, h1, h2.go go⟩
  · rcases get_set_cases hj with ⟨rfl, q, _⟩ | ⟨nj, q⟩
    · cases q
      exact ⟨e1, own.go go' rfl, e3, e4⟩
    · obtain ⟨h1, h2, h3, h4⟩ := r.ow j d q
      obtain ⟨o2, eo2⟩ := h2.some
      exact ⟨h1, h2.go go ((k.st _ _ (fun z => nj (r.inj j i d c q h z)) eo2).trans eo2.symm), h3, h4⟩
  · have f : ∀ (j : Nat) (d : Oc), (g.set i (Slot.ow (c.1, c')))[j]? = some (Slot.ow d) → ∃ d', g[j]? = some (Slot.ow d') := fun j d hj => by
      rcases get_set_cases hj with ⟨rfl, _, _⟩ | ⟨_, q⟩
      · exact ⟨c, h⟩
      · exact ⟨d, q⟩
    obtain ⟨_, q1⟩ := f j _ hj
    obtain ⟨_, q2⟩ := f l _ hk
    exact r.inj j l _ _ q1 q2
  · by_cases z : a = al i
    · rcases e3 with q | q
      · rw [z, q] at e; cases e
      · rw [z] at n; exact (n q).elim
    · exact k.st a o z (r.keep a o n e)
/-- a slot is given plain data -/
theorem Rel.put (r : Rel K F Mo al g σ H) {i : Nat} {v : V} {d : D} (is : Is K (Av Mo al g) H v d) : Rel K F Mo al (g.set i (Slot.im d)) (σ.set i (some v)) H := by
  have go : Goes1 (Av Mo al g) (Av Mo al (g.set i (Slot.im d))) H H := ⟨fun a o _ e => e, fun a o n _ z => n (z.sub sub_im)⟩
  refine ⟨by rw [List.length_set, List.length_set]; exact r.len, fun j d' hj => ?_, fun j c hj => ?_, fun j l c1 c2 hj hk => ?_, r.keep, r.mo, r.m0, r.n0⟩
  · rcases get_set_cases hj with ⟨rfl, q, hl⟩ | ⟨nj, q⟩
    · cases q
      exact ⟨v, by rw [List.getElem?_set_self (by rw [← r.len]; exact hl)], is.go go⟩
    · obtain ⟨v', h1, h2⟩ := r.im j d' q
      exact ⟨v', by rw [List.getElem?_set_ne (Ne.symm nj)]; exact h1, h2.go go⟩
  · rcases get_set_cases hj with ⟨_, q, _⟩ | ⟨nj, q⟩
    · cases q
    · obtain ⟨h1, h2, h3, h4⟩ := r.ow j c q
      exact ⟨by rw [List.getElem?_set_ne (Ne.symm nj)]; exact h1, h2.go go rfl, h3, h4⟩
  · rcases get_set_cases hj with ⟨_, q, _⟩ | ⟨_, q⟩
    · cases q
    · rcases get_set_cases hk with ⟨_, q', _⟩ | ⟨_, q'⟩
      · cases q'
      · exact r.inj j l c1 c2 q q'
/-- a slot is forgotten -/
theorem Rel.wipe1 (r : Rel K F Mo al g σ H) (i : Nat) (σ' : St) (hl : σ'.length = σ.length) (hσ : ∀ j, j ≠ i → σ'[j]? = σ[j]?) : Rel K F Mo al (g.set i Slot.no) σ' H := by
  have go : Goes1 (Av Mo al g) (Av Mo al (g.set i Slot.no)) H H := ⟨fun a o _ e => e, fun a o n _ z => n (z.sub sub_no)⟩
  refine ⟨by rw [List.length_set, hl]; exact r.len, fun j d' hj => ?_, fun j c hj => ?_, fun j l c1 c2 hj hk => ?_, r.keep, r.mo, r.m0, r.n0⟩
  · rcases get_set_cases hj with ⟨rfl, q, _⟩ | ⟨nj, q⟩
    · cases q
    · obtain ⟨v', h1, h2⟩ := r.im j d' q
      exact ⟨v', by rw [hσ j nj]; exact h1, h2.go go⟩
  · rcases get_set_cases hj with ⟨_, q, _⟩ | ⟨nj, q⟩
    · cases q
    · obtain ⟨h1, h2, h3, h4⟩ := r.ow j c q
      exact ⟨by rw [hσ j nj]; exact h1, h2.go go rfl, h3, h4⟩
  · rcases get_set_cases hj with ⟨_, q, _⟩ | ⟨_, q⟩
    · cases q
    · rcases get_set_cases hk with ⟨_, q', _⟩ | ⟨_, q'⟩
      · cases q'
      · exact r.inj j l c1 c2 q q'
/-- a slot is given a new thing of its own -/
theorem Rel.putOw {p : Addr} (r : Rel K F (With Mo p) al g σ H) (hm : ¬ Mo p) (h0 : F.H0 p = none) (hn : F.N0 p) {i : Nat} {c : Ow} (own : OwnAt K (Av (With Mo p) al g) H p c) :
    Rel K F Mo (fun j => if j = i then p else al j) (g.set i (Slot.ow (false, c))) (σ.set i (some (.ref p))) H := by
  have np : ∀ (j : Nat) (d : Oc), g[j]? = some (Slot.ow d) → al j ≠ p := fun j d hj z => (r.ow j d hj).2.2.2.1 (.inr z)
  have ave : ∀ a, Av Mo (fun j => if j = i then p else al j) (g.set i (Slot.ow (false, c))) a → Av (With Mo p) al g a := by
    rintro a (z | ⟨j, d, h1, rfl⟩)
    · exact .inl (.inl z)
    · rcases get_set_cases h1 with ⟨rfl, _, _⟩ | ⟨nj, q⟩
      · simp only [↓reduceIte]
        exact .inl (.inr rfl)
      · simp only [if_neg nj]
        exact .inr ⟨j, d, q, rfl⟩
  have go : Goes1 (Av (With Mo p) al g) (Av Mo (fun j => if j = i then p else al j) (g.set i (Slot.ow (false, c)))) H H := ⟨fun a o n e => e, fun a o n _ z => n (ave a z)⟩
  refine ⟨by rw [List.length_set, List.length_set]; exact r.len, fun j d' hj => ?_, fun j d hj => ?_, fun j l c1 c2 hj hk => ?_, r.keep, fun a h => r.mo a (.inl h), r.m0, r.n0⟩
  · rcases get_set_cases hj with ⟨rfl, q, hl⟩ | ⟨nj, q⟩
    · cases q
    · obtain ⟨v', h1, h2⟩ := r.im j d' q
      exact ⟨v', by rw [List.getElem?_set_ne (Ne.symm nj)]; exact h1, h2.go go⟩
  · rcases get_set_cases hj with ⟨rfl, q, hl⟩ | ⟨nj, q⟩
    · cases q
      simp only [↓reduceIte]
      exact ⟨by rw [List.getElem?_set_self (by rw [← r.len]; exact hl)], own.go go rfl, .inl h0, hm, (fun z => nomatch z), fun _ => hn⟩
    · obtain ⟨h1, h2, h3, h4⟩ := r.ow j d q
      simp only [if_neg nj]
      exact ⟨by rw [List.getElem?_set_ne (Ne.symm nj)]; exact h1, h2.go go rfl, h3, fun z => h4.1 (.inl z), h4.2⟩
  · rcases get_set_cases hj with ⟨rfl, q, _⟩ | ⟨nj, q⟩ <;> rcases get_set_cases hk with ⟨rfl, q', _⟩ | ⟨nl, q'⟩
    · exact fun _ => rfl
    · simp only [↓reduceIte, if_neg nl]
      exact fun z => (np l _ q' z.symm).elim
    · simp only [↓reduceIte, if_neg nj]
      exact fun z => (np j _ q z).elim
    · simp only [if_neg nj, if_neg nl]
      exact r.inj j l c1 c2 q q'
/-- what is new stands behind the frame's beginning -/
theorem Rel.new (r : Rel K F Mo al g σ H) {p : Addr} (hp : H p = none) : ¬ Mo p ∧ F.H0 p = none ∧ F.N0 p ∧ ¬ Av Mo al g p := by
  refine ⟨fun z => r.mo p z hp, ?_, r.n0 p hp, fun z => r.trk z hp⟩
  cases e : F.H0 p with
  | none => rfl
  | some o =>
    by_cases m : F.M0 p
    · exact (r.m0 p m hp).elim
    · have := r.keep p o m e
      rw [hp] at this
      cases this
/-- the same, from here on: all that stands here and is not owned stays -/
def Fx.here (F : Fx) (al : Nat → Addr) (g : G) (H : Hp) : Fx := ⟨F.pa, F.N0, Owd al g, H⟩
theorem Rel.here (r : Rel K F Mo al g σ H) : Rel K (F.here al g H) Mo al g σ H := by
  refine ⟨r.len, r.im, fun i c h => ?_, r.inj, fun a o _ e => e, r.mo, (fun a h => r.trk (.inr h)), r.n0⟩
  obtain ⟨h1, h2, h3, h4⟩ := r.ow i c h
  exact ⟨h1, h2, .inr ⟨i, c, h, rfl⟩, h4⟩
theorem Rel.back {al' : Nat → Addr} {σ' : St} {Mo' : Ads} (r : Rel K F Mo al g σ H) (r' : Rel K (F.here al g H) Mo' al' g' σ' H') : Rel K F Mo' al' g' σ' H' := by
  have k : ∀ a o, ¬ Owd al g a → H a = some o → H' a = some o := r'.keep
  have k0 : ∀ a, Owd al g a → H' a ≠ none := r'.m0
  have nn : ∀ a, H a ≠ none → H' a ≠ none := fun a n z => by
    by_cases w : Owd al g a
    · exact k0 a w z
    · cases e : H a with
      | none => exact n e
      | some o => rw [k a o w e] at z; cases z
  refine ⟨r'.len, r'.im, fun i c h => ?_, r'.inj, fun a o n e => ?_, r'.mo, (fun a h => nn a (r.m0 a h)), r'.n0⟩
  · obtain ⟨h1, h2, h3, h4⟩ := r'.ow i c h
    refine ⟨h1, h2, ?_, h4⟩
    rcases h3 with h3 | ⟨j, d, hj, e⟩
    · exact .inl (r.new (show H (al' i) = none from h3)).2.1
    · rw [e]
      exact (r.ow j d hj).2.2.1
  · have e' := r.keep a o n e
    refine k a o ?_ e'
    rintro ⟨j, d, hj, rfl⟩
    rcases (r.ow j d hj).2.2.1 with z | z
    · rw [z] at e; cases e
    · exact n z
theorem Rel.kp {al' : Nat → Addr} {σ' : St} {Mo' : Ads} (r' : Rel K (F.here al g H) Mo' al' g' σ' H') : Kp (Owd al g) H H' := ⟨r'.keep, fun a n z => by
  by_cases w : Owd al g a
  · exact r'.m0 a w z
  · cases e : H a with
    | none => exact n e
    | some o =>
      have e' : H' a = some o := r'.keep a o w e
      rw [e'] at z; cases z⟩
end
end Pu
end

section
set_option Elab.async false
set_option linter.all false
set_option maxRecDepth 100000
set_option maxHeartbeats 4000000
/-! PuB: expressions: what they give, over plain data (SE), and that they give it. -/
namespace Pu
open PySem L2

/-! ### the weakest readings -/
abbrev WE (X : Cx) (e : Expr) : TE := fun σ H Q => ∀ (pins : List (Addr × Obj)) (s : Shared), Inv X pins σ H s → wpAny (model X.prog X.w) X.A (eval e X.env) (EP X pins σ Q) X.xe s
abbrev WA (X : Cx) (es : List Expr) : TA := fun σ H Q => ∀ (pos : Pos) (pins : List (Addr × Obj)) (s : Shared), Inv X pins σ H s → wpAny (model X.prog X.w) X.A (spliced (backTo pos (starEach es X.env))) (AP X pins σ Q) X.xe s
abbrev WT (X : Cx) (e : Expr) : TT := fun σ H Q => ∀ (pins : List (Addr × Obj)) (s : Shared), Inv X pins σ H s → wpAny (model X.prog X.w) X.A (isTrue e X.env (eval e X.env)) (TP X pins σ Q) X.xe s
abbrev WW (X : Cx) (e : Expr) : TT := fun σ H Q => ∀ (whole : Sem Value) (pins : List (Addr × Obj)) (s : Shared), Inv X pins σ H s → wpAny (model X.prog X.w) X.A (isTrue e X.env whole) (TP X pins σ Q) X.xe s
section
variable {X : Cx} {e : Expr} {es : List Expr} {σ : L2.St} {H : Hp}
theorem pe_w : PE X e (WE X e) := ⟨fun pins s _ _ _ I h => h pins s I⟩
theorem pa_w : PA X es (WA X es) := ⟨fun pos pins s _ _ _ I h => h pos pins s I⟩
theorem pt_w : PT X e (WT X e) := ⟨fun pins s _ _ _ I h => h pins s I⟩
theorem pw_w : PW X e (WW X e) := ⟨fun whole pins s _ _ _ I h => h whole pins s I⟩
theorem to_w {t : TE} (h : PE X e t) {Q : VK} (q : t σ H Q) : WE X e σ H Q := fun pins s I => h.run pins s σ H Q I q
theorem to_wa {t : TA} (h : PA X es t) {Q : List V → Hp → Prop} (q : t σ H Q) : WA X es σ H Q := fun pos pins s I => h.run pos pins s σ H Q I q
theorem to_wt {t : TT} (h : PT X e t) {Q : Bool → Hp → Prop} (q : t σ H Q) : WT X e σ H Q := fun pins s I => h.run pins s σ H Q I q
theorem to_ww {t : TT} (h : PW X e t) {Q : Bool → Hp → Prop} (q : t σ H Q) : WW X e σ H Q := fun whole pins s I => h.run whole pins s σ H Q I q
end

/-! ### argument lists without stars -/
def notStar : Expr → Bool
  | .Starred _ _ => false
  | _ => true
theorem star_cons {a : Expr} {es : List Expr} {env : Env} (h : notStar a = true) : starEach (a :: es) env = (false, eval a env) :: starEach es env := by
  cases a <;> first | rfl | cases h
theorem star_any {pos : Pos} {env : Env} : ∀ {es : List Expr}, es.all notStar = true → (backTo pos (starEach es env)).any (·.1) = false
  | [], _ => rfl
  | a :: es, h => by
    rw [List.all_cons, Bool.and_eq_true] at h
    rw [star_cons h.1]
    show (false || (backTo pos (starEach es env)).any (·.1)) = false
    rw [star_any h.2]
    rfl

/-! ### an expression's end -/
def Res (K : Fr) (F : Fx) (Mo : Ads) (al : Nat → Addr) (g' : G) (σ : L2.St) (H H' : Hp) (v : V) : R → Prop
  | .im d => Rel K F Mo al g' σ H' ∧ Is K (Av Mo al g') H' v d
  | .fr c => ∃ p, v = .ref p ∧ H p = none ∧ Rel K F (With Mo p) al g' σ H' ∧ OwnAt K (Av (With Mo p) al g') H' p c
  | .sl i => Rel K F Mo al g' σ H' ∧ σ[i]? = some (some v) ∧ ∃ c : Oc, g'[i]? = some (Slot.ow c)
abbrev EvE := G → Option (R × G)
structure SE (X : Cx) (e : Expr) (f : EvE) : Prop where
  run :
  ∀ (F : Fx) (Mo : Ads) (al : Nat → Addr) (g : G) (r : R) (g' : G) (σ : L2.St) (H : Hp) (Q : VK), f g = some (r, g') → Rel X.K F Mo al g σ H →
    (∀ v H', Sub g' g → Res X.K F Mo al g' σ H H' v r → Q v H') → WE X e σ H Q

section
variable {K : Fr} {F : Fx} {Mo : Ads} {al : Nat → Addr} {g g' g1 g2 : G} {σ : L2.St} {H H' H1 H2 : Hp} {v : V} {r : R} {X : Cx} {e : Expr} {f : EvE} {Q : VK}
theorem Res.back (R0 : Rel K F Mo al g σ H) (h : Res K (F.here al g H) Mo al g' σ H H' v r) : Res K F Mo al g' σ H H' v r ∧ Kp (Owd al g) H H' := by
  cases r with
  | im d => exact ⟨⟨R0.back h.1, h.2⟩, h.1.kp⟩
  | fr c =>
    obtain ⟨p, e, hp, R1, o⟩ := h
    exact ⟨⟨p, e, hp, R0.back R1, o⟩, R1.kp⟩
  | sl i => exact ⟨⟨R0.back h.1, h.2⟩, h.1.kp⟩
/-- .. with all that stays -/
theorem SE.go (h : SE X e f) (ef : f g = some (r, g')) (R0 : Rel X.K F Mo al g σ H) (q : ∀ v H', Sub g' g → Kp (Owd al g) H H' → Res X.K F Mo al g' σ H H' v r → Q v H') : WE X e σ H Q :=
  h.run (F.here al g H) Mo al g r g' σ H Q ef R0.here fun v H' s res => let ⟨a, b⟩ := Res.back R0 res; q v H' s b a
end

/-! ### operands: plain data, or a slot's own thing that is looked at -/
inductive Opd where
  | im (d : D)
  | sl (i : Nat)
def R.opd : R → Opd
  | .im d => .im d
  | .fr c => .im c.d
  | .sl i => .sl i
def Slot.look : Slot → Option D
  | .no => none
  | .im d => some d
  | .ow c => some c.2.d
def Opd.look (g : G) : Opd → Option D
  | .im d => some d
  | .sl i => (g[i]?).bind Slot.look
def OpV (K : Fr) (Mo : Ads) (al : Nat → Addr) (g : G) (σ : L2.St) (H : Hp) (v : V) : Opd → Prop
  | .im d => Is K (Av Mo al g) H v d
  | .sl i => σ[i]? = some (some v)
def toO (f : EvE) : G → Option (Opd × G) := fun g => (f g).map fun p => (p.1.opd, p.2)
/-- v is read as d just now -/
def Pk (K : Fr) (M : Ads) (H : Hp) (v : V) : D → Prop
  | .lst ds => ∃ a xs, v = .ref a ∧ H a = some (.lst xs) ∧ IsAll K M H xs ds
  | d => Is K M H v d
section
variable {K : Fr} {F : Fx} {Mo M : Ads} {al : Nat → Addr} {g g' g1 g2 : G} {σ : L2.St} {H H' H1 H2 : Hp} {v : V} {r : R} {X : Cx} {e : Expr} {f : EvE} {Q : VK} {o : Opd} {d : D}
theorem own_in {p : Addr} {c : Ow} (nm : ¬ Mo p) (R1 : Rel K F (With Mo p) al g σ H) (o : OwnAt K (Av (With Mo p) al g) H p c) : Rel K F Mo al g σ H ∧ Is K (Av Mo al g) H (.ref p) c.d := by
  refine ⟨R1.drop fun a h => .inl h, ?_⟩
  have o' : OwnAt K (Av Mo al g) H p c := o.go ⟨fun a x _ e => e, fun a x n _ z => n (z.imp .inl id)⟩ rfl
  refine o'.is ?_
  rintro (z | ⟨i, c', h1, h2⟩)
  · exact nm z
  · exact (R1.ow i c' h1).2.2.2.1 (.inr h2.symm)
theorem Res.opd (R0 : Rel K F Mo al g σ H) (h : Res K F Mo al g' σ H H' v r) : Rel K F Mo al g' σ H' ∧ OpV K Mo al g' σ H' v r.opd := by
  cases r with
  | im d => exact h
  | fr c =>
    obtain ⟨p, rfl, hp, R1, o⟩ := h
    exact own_in (R0.new hp).1 R1 o
  | sl i => exact ⟨h.1, h.2.1⟩
theorem SE.op (h : SE X e f) (ef : toO f g = some (o, g')) (R0 : Rel X.K F Mo al g σ H)
    (q : ∀ v H', Sub g' g → Kp (Owd al g) H H' → Rel X.K F Mo al g' σ H' → OpV X.K Mo al g' σ H' v o → Q v H') : WE X e σ H Q := by
  unfold toO at ef
  cases ee : f g with
  | none => rw [ee] at ef; cases ef
  | some p =>
    obtain ⟨r, g1⟩ := p
    rw [ee] at ef
    cases ef
    exact h.go ee R0 fun v H' s k res => let ⟨a, b⟩ := Res.opd R0 res; q v H' s k a b
theorem OpV.keep (h : OpV K Mo al g1 σ H1 v o) (s : Sub g2 g1) (k : Kp (Owd al g1) H1 H2) : OpV K Mo al g2 σ H2 v o := by
  cases o with
  | im d => exact Is.go (go_of s k) h
  | sl i => exact h
theorem Is.pk (h : Is K M H v d) : Pk K M H v d := by
  cases d with
  | lst ds =>
    cases h with
    | lst hl r => exact ⟨_, _, rfl, hl.2, r⟩
  | _ => exact h
theorem OwnAt.pk {a : Addr} {c : Ow} (h : OwnAt K M H a c) : Pk K M H (.ref a) c.d := by
  cases c with
  | lst ds =>
    obtain ⟨xs, e, r⟩ := h
    exact ⟨a, xs, rfl, e, r⟩
theorem OpV.pk (R0 : Rel K F Mo al g σ H) (h : OpV K Mo al g σ H v o) (l : o.look g = some d) : Pk K (Av Mo al g) H v d := by
  cases o with
  | im d' =>
    cases l
    exact Is.pk h
  | sl i =>
    have h : σ[i]? = some (some v) := h
    have l : (g[i]?).bind Slot.look = some d := l
    cases e : g[i]? with
    | none => rw [e] at l; cases l
    | some x =>
      rw [e] at l
      cases x with
      | no => cases l
      | im d' =>
        cases l
        obtain ⟨v', e1, is⟩ := R0.im i d e
        rw [h] at e1; cases e1
        exact is.pk
      | ow c =>
        cases l
        obtain ⟨e1, o, _⟩ := R0.ow i c e
        rw [h] at e1; cases e1
        exact o.pk
end

/-! ### a new value -/
def NewV (K : Fr) (M : Ads) (H H' : Hp) (v : V) : R → Prop
  | .im d => Same H H' ∧ Is K M H' v d
  | .fr c => Same H H' ∧ ∃ p, v = .ref p ∧ H p = none ∧ OwnAt K (With M p) H' p c
  | .sl _ => False
section
variable {K : Fr} {F : Fx} {Mo M : Ads} {al : Nat → Addr} {g g' g1 g2 : G} {σ : L2.St} {H H' H1 H2 : Hp} {v : V} {r : R} {X : Cx} {e a b : Expr} {f fa fb : EvE} {Q : VK} {o : Opd} {d : D}
theorem NewV.res (R0 : Rel K F Mo al g σ H1) (gr : ∀ a, H a ≠ none → H1 a ≠ none) (h : NewV K (Av Mo al g) H1 H' v r) : Res K F Mo al g σ H H' v r := by
  cases r with
  | im d => exact ⟨R0.same h.1, h.2⟩
  | fr c =>
    obtain ⟨s, p, rfl, hp, o⟩ := h
    have hpp : H p = none := by
      cases z : H p with
      | none => rfl
      | some x => exact (gr p (by rw [z]; exact fun y => nomatch y) hp).elim
    obtain ⟨x, hx⟩ := o.some
    exact ⟨p, rfl, hpp, R0.fresh s hp (by rw [hx]; exact fun y => nomatch y), o.go ⟨fun a x _ e => e, fun a x n _ z => n (av_with.mp z)⟩ rfl⟩
  | sl i => exact h.elim
/-- an operation on one value -/
abbrev R1 := V → Hp → VK → Prop
def Sound1 (K : Fr) (rr : R1) (d : D) (r : R) : Prop :=
  ∀ (M : Ads) (H : Hp) (x : V) (Q : VK), (∀ a, M a → H a ≠ none) → Pk K M H x d → (∀ v H', NewV K M H H' v r → Q v H') → rr x H Q
def Sound2 (K : Fr) (rr : R2) (d1 d2 : D) (r : R) : Prop :=
  ∀ (M : Ads) (H : Hp) (x y : V) (Q : VK), (∀ a, M a → H a ≠ none) → Pk K M H x d1 → Pk K M H y d2 → (∀ v H', NewV K M H H' v r → Q v H') → rr x y H Q
def ev1 (fa : EvE) (op : D → Option R) : EvE := fun g =>
  match toO fa g with
  | none => none
  | some (a, g1) => match a.look g1 with
    | none => none
    | some d => match op d with
      | none => none
      | some r => some (r, g1)
def ev2 (fa fb : EvE) (op : D → D → Option R) : EvE := fun g =>
  match toO fa g with
  | none => none
  | some (a, g1) => match toO fb g1 with
    | none => none
    | some (b, g2) => match a.look g2, b.look g2 with
      | some d1, some d2 => match op d1 d2 with
        | none => none
        | some r => some (r, g2)
      | _, _ => none
theorem se_one {op : D → Option R} (ha : SE X a fa) (hop : ∀ d r, op d = some r → ∃ rr : R1, PE X e (fun σ H Q => WE X a σ H fun x H1 => rr x H1 Q) ∧ Sound1 X.K rr d r) : SE X e (ev1 fa op) := by
  constructor
  intro F Mo al g r g' σ H Q ef R0 q
  unfold ev1 at ef
  split at ef
  · cases ef
  · rename_i a1 g1 ea
    split at ef
    · cases ef
    · rename_i d ed
      split at ef
      · cases ef
      · rename_i r1 eo
        cases ef
        obtain ⟨rr, pe, sd⟩ := hop d r eo
        refine to_w pe (ha.op ea R0 fun v H1 s k R1 ov => ?_)
        exact sd _ H1 v Q (fun a h => R1.trk h) (ov.pk R1 ed) fun u H' n => q u H' s (n.res R1 k.gr)
theorem se_two {op : D → D → Option R} (ha : SE X a fa) (hb : SE X b fb) (hop : ∀ d1 d2 r, op d1 d2 = some r → ∃ rr : R2, PE X e (tOp rr (WE X a) (WE X b)) ∧ Sound2 X.K rr d1 d2 r) : SE X e (ev2 fa fb op) := by
  constructor
  intro F Mo al g r g' σ H Q ef R0 q
  unfold ev2 at ef
  split at ef
  · cases ef
  · rename_i a1 g1 ea
    split at ef
    · cases ef
    · rename_i b1 g2 eb
      split at ef
      · rename_i d1 d2 e1 e2
        split at ef
        · cases ef
        · rename_i r1 eo
          cases ef
          obtain ⟨rr, pe, sd⟩ := hop d1 d2 r eo
          refine to_w pe (ha.op ea R0 fun v H1 s k R1 ov => ?_)
          refine hb.op eb R1 fun u H2 s2 k2 R2 ou => ?_
          exact sd _ H2 v u Q (fun a h => R2.trk h) ((ov.keep s2 k2).pk R2 e1) (ou.pk R2 e2) fun z H' n => q z H' (s2.trans s) (n.res R2 fun a h => k2.gr a (k.gr a h))
      · cases ef
/-- plain results -/
theorem NewV.flat {d : D} (h : Is K M H v d) : NewV K M H H v (.im d) := ⟨Same.refl H, h⟩
theorem same_new {p : Addr} {o : HO} (h : H p = none) : Same H (upd H p o) := fun b x e => by
  rw [upd_ne (ne_of_none e h)]
  exact e
theorem NewV.tup {p : Addr} {xs : List V} {ds : List D} (tr : ∀ a, M a → H a ≠ none) (hp : H p = none) (h : IsAll K M H xs ds) : NewV K M H (upd H p (.tup xs)) (.ref p) (.im (.tup ds)) :=
  ⟨same_new hp, .tup (.inl ⟨fun z => tr p z hp, upd_same⟩) (h.go (go_same (same_new hp)))⟩
theorem NewV.lst {p : Addr} {xs : List V} {ds : List D} (hp : H p = none) (h : IsAll K M H xs ds) : NewV K M H (upd H p (.lst xs)) (.ref p) (.fr (.lst ds)) :=
  ⟨same_new hp, p, rfl, hp, xs, upd_same, h.go ⟨fun a o _ e => same_new hp a o e, fun a o n e z => z.elim n fun y => by rw [y, hp] at e; cases e⟩⟩
end

/-! ### names and constants -/
def evName (i : Nat) : EvE := fun g => match g[i]? with
  | some (.im d) => some (.im d, g)
  | some (.ow _) => some (.sl i, g)
  | _ => none
def evC (d : D) : EvE := fun g => some (.im d, g)
section
variable {X : Cx} {e a b : Expr} {fa fb : EvE} {pos : Pos}
theorem se_name {i : Nat} (h : PE X e (tVar i)) : SE X e (evName i) := by
  constructor
  intro F Mo al g r g' σ H Q ef R0 q
  unfold evName at ef
  split at ef
  · rename_i d ed
    cases ef
    obtain ⟨v, e1, is⟩ := R0.im i d ed
    exact to_w h ⟨v, e1, q v H (Sub.refl g) ⟨R0, is⟩⟩
  · rename_i c ec
    cases ef
    obtain ⟨e1, o, _⟩ := R0.ow i c ec
    exact to_w h ⟨_, e1, q _ H (Sub.refl g) ⟨R0, e1, c, ec⟩⟩
  · cases ef
theorem se_con {v : V} {d : D} (h : PE X e (tC v)) (is : ∀ M H, Is X.K M H v d) : SE X e (evC d) := by
  constructor
  intro F Mo al g r g' σ H Q ef R0 q
  cases ef
  exact to_w h (q v H (Sub.refl g) ⟨R0, is _ _⟩)
theorem se_int {i : Int} {j} : SE X (.Constant (.int i) j pos) (evC (.int i)) := se_con pe_int fun _ _ => .int i
theorem se_bl {i : Bool} {j} : SE X (.Constant (.bool i) j pos) (evC (.bl i)) := se_con pe_bl fun _ _ => .bl i
theorem se_non {j} : SE X (.Constant .none j pos) (evC .non) := se_con pe_non fun _ _ => .non
theorem se_str {x : Str} {s : List Nat} {j} (h : x.cps.toList = s) : SE X (.Constant (.str x) j pos) (evC (.str s)) := se_con pe_str fun _ _ => h ▸ .str x
end
end Pu
end

section
set_option Elab.async false
set_option linter.all false
set_option maxRecDepth 100000
set_option maxHeartbeats 4000000
/-! PuC: operations on plain data, each with its rule. -/
namespace Pu
open PySem L2

/-! ### data as the library's own data, for == -/
mutual
def toP : D → PyData
  | .non => .none
  | .bl b => .bool b
  | .int i => .int i
  | .str s => .str ⟨s.toArray⟩
  | .tup xs => .tuple (toPs xs)
  | .lst xs => .list (toPs xs)
  | .fz xs => .list (toPs xs)
def toPs : List D → List PyData
  | [] => []
  | x :: xs => toP x :: toPs xs
end
section
variable {K : Fr} {M : Ads} {H : Hp}
mutual
theorem Is.dp : ∀ {v : V} {d : D}, Is K M H v d → Dp K H v (toP d)
  | _, _, .non => .non
  | _, _, .bl b => .bl b
  | _, _, .int i => .int i
  | _, _, .str x => by
    have e : (⟨x.cps.toList.toArray⟩ : Str) = x := by cases x; simp
    unfold toP
    rw [e]
    exact .str x
  | _, _, .tup h r => by unfold toP; exact .tup h.sq (IsAll.dp r)
  | _, _, .lst h r => by unfold toP; exact .lst h.sq (IsAll.dp r)
  | _, _, .fz h r => by unfold toP; exact .lst h.sq (IsAll.dp r)
theorem IsAll.dp : ∀ {vs : List V} {ds : List D}, IsAll K M H vs ds → DpAll K H vs (toPs ds)
  | _, _, .nil => by unfold toPs; exact .nil
  | _, _, .cons h r => by unfold toPs; exact .cons (Is.dp h) (IsAll.dp r)
end
theorem Pk.dp {v : V} {d : D} (h : Pk K M H v d) : Dp K H v (toP d) := by
  cases d with
  | lst ds =>
    obtain ⟨a, xs, rfl, e, r⟩ := h
    unfold toP
    exact .lst (.inl (.inl e)) r.dp
  | _ => exact Is.dp h
/-- what a read value is, by its data -/
theorem Pk.int {v : V} {i : Int} (h : Pk K M H v (.int i)) : v = .int i := by cases (show Is K M H v (.int i) from h); rfl
theorem Pk.bl {v : V} {i : Bool} (h : Pk K M H v (.bl i)) : v = .bl i := by cases (show Is K M H v (.bl i) from h); rfl
theorem Pk.non {v : V} (h : Pk K M H v .non) : v = .non := by cases (show Is K M H v .non from h); rfl
theorem Pk.str {v : V} {s : List Nat} (h : Pk K M H v (.str s)) : ∃ x : Str, v = .str x ∧ x.cps.toList = s := by cases (show Is K M H v (.str s) from h); exact ⟨_, rfl, rfl⟩
theorem Pk.tup {v : V} {ds : List D} (h : Pk K M H v (.tup ds)) : ∃ a xs, v = .ref a ∧ TupM K M H a xs ∧ IsAll K M H xs ds := by
  cases (show Is K M H v (.tup ds) from h) with
  | tup t r => exact ⟨_, _, rfl, t, r⟩
theorem Pk.lst {v : V} {ds : List D} (h : Pk K M H v (.lst ds)) : ∃ a xs, v = .ref a ∧ H a = some (.lst xs) ∧ IsAll K M H xs ds := h
theorem Pk.fz {v : V} {ds : List D} (h : Pk K M H v (.fz ds)) : ∃ a xs, v = .ref a ∧ FzM K M H a xs ∧ IsAll K M H xs ds := by
  cases (show Is K M H v (.fz ds) from h) with
  | fz t r => exact ⟨_, _, rfl, t, r⟩
theorem is_str (x : Str) {s : List Nat} (h : x.cps.toList = s) : Is K M H (.str x) (.str s) := h ▸ .str x
theorem str_app (x y : Str) : (x ++ y).cps.toList = x.cps.toList ++ y.cps.toList := by
  show (x.cps ++ y.cps).toList = _
  exact Array.toList_append
theorem str_len {x : Str} {s : List Nat} (h : x.cps.toList = s) : x.length = s.length := by
  rw [← h]
  show x.cps.size = _
  rw [Array.length_toList]
end

/-! ### the operations -/
def mulOk (i j : Int) : Bool := (decide (-(2 ^ 64) < i) && decide (i < 2 ^ 64)) || (decide (-(2 ^ 64) < j) && decide (j < 2 ^ 64))
def addD : D → D → Option R
  | .int i, .int j => some (.im (.int (i + j)))
  | .str s, .str t => if s.length + t.length ≤ sizeLine then some (.im (.str (s ++ t))) else none
  | .lst xs, .lst ys => if xs.length + ys.length ≤ sizeLine then some (.fr (.lst (xs ++ ys))) else none
  | .tup xs, .tup ys => if xs.length + ys.length ≤ sizeLine then some (.im (.tup (xs ++ ys))) else none
  | _, _ => none
def subD : D → D → Option R
  | .int i, .int j => some (.im (.int (i - j)))
  | _, _ => none
def mulD : D → D → Option R
  | .int i, .int j => if mulOk i j then some (.im (.int (i * j))) else none
  | .str s, .int k => if 2 ≤ k ∧ k ≤ 1000 ∧ 0 < s.length ∧ s.length ≤ 1000 then some (.im (.str (List.replicate k.toNat s).flatten)) else none
  | .lst xs, .int k => if -(2 ^ 63) ≤ k ∧ k < 2 ^ 63 ∧ xs.length * k.toNat ≤ sizeLine then some (.fr (.lst (List.replicate k.toNat xs).flatten)) else none
  | _, _ => none
def divD : D → D → Option R
  | .int i, .int j => if 0 < j ∧ j < 1073741824 then some (.im (.int (i / j))) else none
  | _, _ => none
def modD : D → D → Option R
  | .int i, .int j => if 0 < j then some (.im (.int (i % j))) else none
  | _, _ => none
def powD : D → D → Option R
  | .int i, .int j => if 0 ≤ j ∧ j ≤ 1000000 ∧ i.natAbs < 2 ^ 64 then some (.im (.int (i ^ j.toNat))) else none
  | _, _ => none
def negD : D → Option R
  | .int i => some (.im (.int (-i)))
  | _ => none
def intsOf : List D → Option (List Int)
  | [] => some []
  | .int i :: r => (intsOf r).map (i :: ·)
  | _ => none
def ltD : D → D → Option R
  | .int i, .int j => some (.im (.bl (decide (i < j))))
  | .str s, .str t => some (.im (.bl (decide (s < t))))
  | .tup xs, .tup ys => match intsOf xs, intsOf ys with
    | some ns, some ms => some (.im (.bl (HT.lexLt ns ms)))
    | _, _ => none
  | _, _ => none
def leD : D → D → Option R
  | .int i, .int j => some (.im (.bl (decide (i ≤ j))))
  | _, _ => none
def gtD : D → D → Option R
  | .int i, .int j => some (.im (.bl (decide (j < i))))
  | _, _ => none
def geD : D → D → Option R
  | .int i, .int j => some (.im (.bl (decide (j ≤ i))))
  | _, _ => none
def eqB (d e : D) : Bool := PyData.eqv (toP d) (toP e)
def okP (d : D) : Bool := SeqAt.shaped (toP d)
def eqD (d e : D) : Option R := if okP d && okP e then some (.im (.bl (eqB d e))) else none
def neD (d e : D) : Option R := if okP d && okP e then some (.im (.bl (!eqB d e))) else none
def inD : D → D → Option R
  | .str [c], .str s => some (.im (.bl (decide (c ∈ s))))
  | d, .lst ys => if okP d && okP (.lst ys) then some (.im (.bl (ys.any fun z => eqB z d))) else none
  | _, _ => none
def notInD : D → D → Option R
  | .str [c], .str s => some (.im (.bl (!decide (c ∈ s))))
  | d, .lst ys => if okP d && okP (.lst ys) then some (.im (.bl (!ys.any fun z => eqB z d))) else none
  | _, _ => none
def isNonD : D → Option R
  | .non => some (.im (.bl true))
  | _ => some (.im (.bl false))
def isBlD : D → D → Option R
  | .bl a, .bl b => some (.im (.bl (decide (a = b))))
  | _, _ => none
def lenD : D → Option R
  | .str s => if s.length ≤ sizeLine then some (.im (.int s.length)) else none
  | .tup xs => some (.im (.int xs.length))
  | .lst xs => some (.im (.int xs.length))
  | .fz xs => some (.im (.int xs.length))
  | _ => none
def idxD : D → D → Option R
  | .tup xs, .int i => (atI xs i).map .im
  | .lst xs, .int i => (atI xs i).map .im
  | .str s, .int i => if s.length ≤ sizeLine then (atI s i).map fun c => .im (.str [c]) else none
  | _, _ => none
def absD : D → Option R
  | .int i => some (.im (.int (if i < 0 then -i else i)))
  | _ => none
def intD : D → Option R
  | .int i => some (.im (.int i))
  | .bl k => some (.im (.int (if k then 1 else 0)))
  | _ => none
def listD : D → Option R
  | .tup xs => some (.fr (.lst xs))
  | .lst xs => some (.fr (.lst xs))
  | .fz xs => some (.fr (.lst xs))
  | _ => none
def tupleD : D → Option R
  | .tup xs => some (.im (.tup xs))
  | .lst xs => some (.im (.tup xs))
  | .fz xs => some (.im (.tup xs))
  | _ => none
def blsOf : List D → Option (List Bool)
  | [] => some []
  | .bl b :: r => (blsOf r).map (b :: ·)
  | _ => none
def allD : D → Option R
  | .lst xs => (blsOf xs).map fun bs => .im (.bl (bs.all id))
  | _ => none
def anyD : D → Option R
  | .lst xs => (blsOf xs).map fun bs => .im (.bl (bs.any id))
  | _ => none
def sumD : D → Option R
  | .lst xs => (intsOf xs).map fun ns => .im (.int ns.sum)
  | _ => none
inductive Ty where
  | str | int | bool | tuple | list
def Ty.nm : Ty → String
  | .str => "str"
  | .int => "int"
  | .bool => "bool"
  | .tuple => "tuple"
  | .list => "list"
def isiD (T : Ty) : D → Option R
  | .non => some (.im (.bl false))
  | .bl _ => some (.im (.bl (match T with | .bool => true | .int => true | _ => false)))
  | .int _ => some (.im (.bl (match T with | .int => true | _ => false)))
  | .str _ => some (.im (.bl (match T with | .str => true | _ => false)))
  | .tup _ => some (.im (.bl (match T with | .tuple => true | _ => false)))
  | .lst _ => some (.im (.bl (match T with | .list => true | _ => false)))
  | .fz _ => none

/-! ### their rules -/
section
variable {K : Fr} {M : Ads} {H : Hp}
theorem vals_of_intsOf : ∀ {ds : List D} {ns : List Int} {vs : List V}, intsOf ds = some ns → IsAll K M H vs ds → vs = ns.map V.int
  | [], ns, _, e, .nil => by cases e; rfl
  | .int i :: r, ns, _, e, .cons (v := v) h t => by
    unfold intsOf at e
    cases e1 : intsOf r with
    | none => rw [e1] at e; cases e
    | some ms =>
      rw [e1] at e
      cases e
      cases h
      rw [List.map_cons, vals_of_intsOf e1 t]
  | .non :: _, _, _, e, _ => by cases e
  | .bl _ :: _, _, _, e, _ => by cases e
  | .str _ :: _, _, _, e, _ => by cases e
  | .tup _ :: _, _, _, e, _ => by cases e
  | .lst _ :: _, _, _, e, _ => by cases e
  | .fz _ :: _, _, _, e, _ => by cases e
theorem vals_of_blsOf : ∀ {ds : List D} {ns : List Bool} {vs : List V}, blsOf ds = some ns → IsAll K M H vs ds → vs = ns.map V.bl
  | [], ns, _, e, .nil => by cases e; rfl
  | .bl i :: r, ns, _, e, .cons (v := v) h t => by
    unfold blsOf at e
    cases e1 : blsOf r with
    | none => rw [e1] at e; cases e
    | some ms =>
      rw [e1] at e
      cases e
      cases h
      rw [List.map_cons, vals_of_blsOf e1 t]
  | .non :: _, _, _, e, _ => by cases e
  | .int _ :: _, _, _, e, _ => by cases e
  | .str _ :: _, _, _, e, _ => by cases e
  | .tup _ :: _, _, _, e, _ => by cases e
  | .lst _ :: _, _, _, e, _ => by cases e
  | .fz _ :: _, _, _, e, _ => by cases e
theorem atI_all {vs : List V} {ds : List D} {i : Int} {d : D} (r : IsAll K M H vs ds) (h : atI ds i = some d) : ∃ v, atI vs i = some v ∧ Is K M H v d := by
  unfold atI at h ⊢
  rw [r.len]
  cases e : ixN ds.length i with
  | none => rw [e] at h; cases h
  | some j =>
    rw [e] at h
    exact r.get h
end
def OpOk (X : Cx) (f : Value → Value → Sem Value) (op : D → D → Option R) : Prop := ∀ d1 d2 r, op d1 d2 = some r → ∃ rr : R2, OpR X f rr ∧ Sound2 X.K rr d1 d2 r
section
variable {X : Cx} {e a b : Expr} {fa fb : EvE} {pos : Pos}
theorem se_bin {o : Operator} {op : D → D → Option R} (ho : OpOk X (binaryOp o) op) (ha : SE X a fa) (hb : SE X b fb) : SE X (.BinOp a o b pos) (ev2 fa fb op) :=
  se_two ha hb fun d1 d2 r h => let ⟨rr, h1, h2⟩ := ho d1 d2 r h; ⟨rr, pe_op h1 pe_w pe_w, h2⟩
theorem se_cmp {o : CmpOp} {op : D → D → Option R} (ho : OpOk X (compareOp o) op) (ha : SE X a fa) (hb : SE X b fb) (hm : behindInMarks o b = false := by first | exact nomark _ | rfl) : SE X (.Compare a [o] [b] pos) (ev2 fa fb op) :=
  se_two ha hb fun d1 d2 r h => let ⟨rr, h1, h2⟩ := ho d1 d2 r h; ⟨rr, pe_cmpR h1 pe_w pe_w hm, h2⟩
theorem add_ok : OpOk X (binaryOp .Add) addD := by
  intro d1 d2 r h
  unfold addD at h
  split at h
  · cases h
    refine ⟨_, op_add, fun M H x y Q tr hx hy q => ?_⟩
    exact ⟨_, _, hx.int, hy.int, q _ _ (.flat (.int _))⟩
  · split at h
    · rename_i hl
      cases h
      refine ⟨_, op_add_str, fun M H x y Q tr hx hy q => ?_⟩
      obtain ⟨x, rfl, ex⟩ := hx.str
      obtain ⟨y, rfl, ey⟩ := hy.str
      refine ⟨x, y, rfl, rfl, by rw [str_len ex, str_len ey]; exact hl, q _ _ (.flat (is_str _ ?_))⟩
      rw [str_app, ex, ey]
    · cases h
  · split at h
    · rename_i hl
      cases h
      refine ⟨_, op_cat, fun M H x y Q tr hx hy q => ?_⟩
      obtain ⟨a, xs, rfl, ea, ra⟩ := hx.lst
      obtain ⟨b, ys, rfl, eb, rb⟩ := hy.lst
      exact ⟨a, b, xs, ys, rfl, rfl, ea, eb, by rw [ra.len, rb.len]; exact hl, fun p hp => q _ _ (.lst hp (ra.app rb))⟩
    · cases h
  · split at h
    · rename_i hl
      cases h
      refine ⟨_, op_catA, fun M H x y Q tr hx hy q => ?_⟩
      obtain ⟨a, xs, rfl, ea, ra⟩ := hx.tup
      obtain ⟨b, ys, rfl, eb, rb⟩ := hy.tup
      refine ⟨a, b, xs, ys, rfl, rfl, ea.sq, eb.sq, by rw [ra.len, rb.len]; exact hl, fun z => ?_, fun _ z => ?_, fun _ _ p hp => q _ _ (.tup tr hp (ra.app rb))⟩
      · subst z
        cases ra
        exact q _ _ (.flat (.tup eb rb))
      · subst z
        cases rb
        rw [List.append_nil] at q
        exact q _ _ (.flat (.tup ea ra))
    · cases h
  · cases h
theorem sub_ok : OpOk X (binaryOp .Sub) subD := by
  intro d1 d2 r h
  unfold subD at h
  split at h
  · cases h
    exact ⟨_, op_sub, fun M H x y Q tr hx hy q => ⟨_, _, hx.int, hy.int, q _ _ (.flat (.int _))⟩⟩
  · cases h
theorem op_mul_str : OpR X (binaryOp .Mult) (fun x y H Q => ∃ (z : Str) (k : Int), x = .str z ∧ y = .int k ∧ 2 ≤ k ∧ k ≤ 1000 ∧ 0 < z.length ∧ z.length ≤ 1000 ∧ ∀ z' : Str, z'.cps.toList = (List.replicate k.toNat z.cps.toList).flatten → Q (.str z') H) := by
  intro pins s σ H x y v u Q I rx ry h
  obtain ⟨z, k, rfl, rfl, h1, h2, h3, h4, q⟩ := h
  obtain ⟨t, rfl⟩ := rx
  obtain ⟨t', rfl⟩ := ry
  have hn1 : ¬ k < 1 := by omega
  have hb1 : (k == 1 || z.length == 0) = false := by
    rw [Bool.or_eq_false_iff]
    exact ⟨by simpa using (show ¬ k = 1 by omega), by simpa using (show ¬ z.length = 0 by omega)⟩
  have hln : ((List.replicate k.toNat z.cps).foldl (· ++ ·) #[]).toList = (List.replicate k.toNat z.cps.toList).flatten := by
    have gen : ∀ (n : Nat) (acc : Array Nat), ((List.replicate n z.cps).foldl (· ++ ·) acc).toList = acc.toList ++ (List.replicate n z.cps.toList).flatten := by
      intro n
      induction n with
      | zero => intro acc; simp
      | succ n ih => intro acc; rw [List.replicate_succ, List.foldl_cons, ih, List.replicate_succ, List.flatten_cons, Array.toList_append, List.append_assoc]
    rw [gen]; simp
  have hsz : z.length * k.toNat ≤ 1000 * 1000 := Nat.mul_le_mul h4 (by omega)
  have htl : Builtin.Str.tooLong (z.length * k.toNat) = false := decide_eq_false (Nat.not_lt.mpr (Nat.le_trans hsz (by decide)))
  refine P.mul_str ?_ (fun _ _ => ?_) (fun _ _ => ?_) ?_
  · rw [Bool.or_eq_false_iff]
    exact ⟨decide_eq_false (by omega), decide_eq_false (by omega)⟩
  · have : (1000 : Int) ≤ (2 ^ 63 - 1) / k := by
      rw [Int.le_ediv_iff_mul_le (by omega)]
      omega
    omega
  · exact htl
  · rw [if_neg hn1, if_neg (by rw [hb1]; exact Bool.false_ne_true)]
    exact ⟨fits_reps htl, ⟨.str _, H, I.tok _, ⟨_, rfl⟩, q _ hln⟩⟩
theorem mul_ok : OpOk X (binaryOp .Mult) mulD := by
  intro d1 d2 r h
  unfold mulD at h
  split at h
  · split at h
    · rename_i i j hm
      cases h
      refine ⟨_, op_mul, fun M H x y Q tr hx hy q => ⟨_, _, hx.int, hy.int, ?_, q _ _ (.flat (.int _))⟩⟩
      unfold mulOk at hm
      rcases Bool.or_eq_true_iff.mp hm with z | z
      · have z := Bool.and_eq_true_iff.mp z
        exact .inl ⟨of_decide_eq_true z.1, of_decide_eq_true z.2⟩
      · have z := Bool.and_eq_true_iff.mp z
        exact .inr ⟨of_decide_eq_true z.1, of_decide_eq_true z.2⟩
    · cases h
  · split at h
    · rename_i hm
      cases h
      obtain ⟨h1, h2, h3, h4⟩ := hm
      refine ⟨_, op_mul_str, fun M H x y Q tr hx hy q => ?_⟩
      obtain ⟨x, rfl, ex⟩ := hx.str
      exact ⟨x, _, rfl, hy.int, h1, h2, by rw [str_len ex]; exact h3, by rw [str_len ex]; exact h4, fun z' ez => q _ _ (.flat (is_str z' (by rw [ez, ex])))⟩
    · cases h
  · split at h
    · rename_i hm
      cases h
      obtain ⟨h1, h2, h3⟩ := hm
      refine ⟨_, op_rep, fun M H x y Q tr hx hy q => ?_⟩
      obtain ⟨a, xs, rfl, ea, ra⟩ := hx.lst
      refine ⟨a, _, xs, rfl, hy.int, ea, h1, h2, by rw [ra.len]; exact h3, fun p hp => q _ _ (.lst hp ?_)⟩
      have gen : ∀ n : Nat, IsAll X.K M H (List.replicate n xs).flatten (List.replicate n ‹List D›).flatten := by
        intro n
        induction n with
        | zero => exact .nil
        | succ n ih =>
          rw [List.replicate_succ, List.replicate_succ, List.flatten_cons, List.flatten_cons]
          exact ra.app ih
      exact gen _
    · cases h
  · cases h
theorem div_ok : OpOk X (binaryOp .FloorDiv) divD := by
  intro d1 d2 r h
  unfold divD at h
  split at h
  · split at h
    · rename_i hm
      cases h
      exact ⟨_, op_fdiv, fun M H x y Q tr hx hy q => ⟨_, _, hx.int, hy.int, hm, q _ _ (.flat (.int _))⟩⟩
    · cases h
  · cases h
theorem mod_ok : OpOk X (binaryOp .Mod) modD := by
  intro d1 d2 r h
  unfold modD at h
  split at h
  · split at h
    · rename_i hm
      cases h
      exact ⟨_, op_mod, fun M H x y Q tr hx hy q => ⟨_, _, hx.int, hy.int, hm, q _ _ (.flat (.int _))⟩⟩
    · cases h
  · cases h
theorem pow_ok : OpOk X (binaryOp .Pow) powD := by
  intro d1 d2 r h
  unfold powD at h
  split at h
  · split at h
    · rename_i hm
      cases h
      exact ⟨_, op_pow, fun M H x y Q tr hx hy q => ⟨_, _, hx.int, hy.int, hm, q _ _ (.flat (.int _))⟩⟩
    · cases h
  · cases h
theorem lt_ok (hu : X.A.units < cLine) : OpOk X (compareOp .Lt) ltD := by
  intro d1 d2 r h
  unfold ltD at h
  split at h
  · cases h
    exact ⟨_, op_lt, fun M H x y Q tr hx hy q => ⟨_, _, hx.int, hy.int, q _ _ (.flat (.bl _))⟩⟩
  · cases h
    refine ⟨_, op_lt_str, fun M H x y Q tr hx hy q => ?_⟩
    obtain ⟨x, rfl, ex⟩ := hx.str
    obtain ⟨y, rfl, ey⟩ := hy.str
    subst ex ey
    exact ⟨x, y, rfl, rfl, q _ _ (.flat (.bl _))⟩
  · split at h
    · rename_i ns ms e1 e2
      cases h
      refine ⟨_, op_ltT hu, fun M H x y Q tr hx hy q => ?_⟩
      obtain ⟨a, xs, rfl, ea, ra⟩ := hx.tup
      obtain ⟨b, ys, rfl, eb, rb⟩ := hy.tup
      have v1 := vals_of_intsOf e1 ra
      have v2 := vals_of_intsOf e2 rb
      subst v1 v2
      exact ⟨a, b, ns, ms, rfl, rfl, ea.sq, eb.sq, q _ _ (.flat (.bl _))⟩
    · cases h
  · cases h
theorem le_ok : OpOk X (compareOp .LtE) leD := by
  intro d1 d2 r h
  unfold leD at h
  split at h
  · cases h
    exact ⟨_, op_le, fun M H x y Q tr hx hy q => ⟨_, _, hx.int, hy.int, q _ _ (.flat (.bl _))⟩⟩
  · cases h
theorem gt_ok : OpOk X (compareOp .Gt) gtD := by
  intro d1 d2 r h
  unfold gtD at h
  split at h
  · cases h
    exact ⟨_, op_gt, fun M H x y Q tr hx hy q => ⟨_, _, hx.int, hy.int, q _ _ (.flat (.bl _))⟩⟩
  · cases h
theorem ge_ok : OpOk X (compareOp .GtE) geD := by
  intro d1 d2 r h
  unfold geD at h
  split at h
  · cases h
    exact ⟨_, op_ge, fun M H x y Q tr hx hy q => ⟨_, _, hx.int, hy.int, q _ _ (.flat (.bl _))⟩⟩
  · cases h
theorem eq_ok (hu : X.A.units + 64 < cLine) : OpOk X (compareOp .Eq) eqD := by
  intro d1 d2 r h
  unfold eqD at h
  split at h
  · rename_i z
    have z := Bool.and_eq_true_iff.mp z
    cases h
    exact ⟨_, op_eqD hu, fun M H x y Q tr hx hy q => ⟨_, _, hx.dp, hy.dp, z.1, z.2, q _ _ (.flat (.bl _))⟩⟩
  · cases h
theorem ne_ok (hu : X.A.units + 64 < cLine) : OpOk X (compareOp .NotEq) neD := by
  intro d1 d2 r h
  unfold neD at h
  split at h
  · rename_i z
    have z := Bool.and_eq_true_iff.mp z
    cases h
    exact ⟨_, op_neD hu, fun M H x y Q tr hx hy q => ⟨_, _, hx.dp, hy.dp, z.1, z.2, q _ _ (.flat (.bl _))⟩⟩
  · cases h
theorem toPs_any {d : D} : ∀ ys : List D, ((toPs ys).any fun z => PyData.eqv z (toP d)) = ys.any fun z => eqB z d
  | [] => rfl
  | y :: r => by
    unfold toPs
    rw [List.any_cons, List.any_cons, toPs_any r]
    rfl
theorem one_sign {x : Str} {c : Nat} (h : x.cps.toList = [c]) : x = ⟨#[c]⟩ := by
  cases x with
  | mk cps =>
    have : cps = #[c] := Array.ext' h
    rw [this]
theorem in_ok (hu : X.A.units + 65 < cLine) : OpOk X (compareOp .In) inD := by
  intro d1 d2 r h
  unfold inD at h
  split at h
  · cases h
    refine ⟨_, op_in_sign, fun M H x y Q tr hx hy q => ?_⟩
    obtain ⟨x, rfl, ex⟩ := hx.str
    obtain ⟨y, rfl, ey⟩ := hy.str
    rw [one_sign ex]
    subst ey
    exact ⟨_, y, rfl, rfl, q _ _ (.flat (.bl _))⟩
  · split at h
    · rename_i ys z
      have z := Bool.and_eq_true_iff.mp z
      cases h
      refine ⟨_, op_inD hu, fun M H x y Q tr hx hy q => ?_⟩
      have hy' := hy.dp
      have z2 := z.2
      unfold okP at z2
      unfold toP at hy' z2
      refine ⟨_, _, hx.dp, hy', z.1, z2, ?_⟩
      rw [toPs_any]
      exact q _ _ (.flat (.bl _))
    · cases h
  · cases h
theorem notIn_ok (hu : X.A.units + 65 < cLine) : OpOk X (compareOp .NotIn) notInD := by
  intro d1 d2 r h
  unfold notInD at h
  split at h
  · cases h
    refine ⟨_, op_notIn_sign, fun M H x y Q tr hx hy q => ?_⟩
    obtain ⟨x, rfl, ex⟩ := hx.str
    obtain ⟨y, rfl, ey⟩ := hy.str
    rw [one_sign ex]
    subst ey
    exact ⟨_, y, rfl, rfl, q _ _ (.flat (.bl _))⟩
  · split at h
    · rename_i ys z
      have z := Bool.and_eq_true_iff.mp z
      cases h
      refine ⟨_, op_notInD hu, fun M H x y Q tr hx hy q => ?_⟩
      have hy' := hy.dp
      have z2 := z.2
      unfold okP at z2
      unfold toP at hy' z2
      refine ⟨_, _, hx.dp, hy', z.1, z2, ?_⟩
      rw [toPs_any]
      exact q _ _ (.flat (.bl _))
    · cases h
  · cases h
theorem isBl_ok : OpOk X (compareOp .Is) isBlD := by
  intro d1 d2 r h
  unfold isBlD at h
  split at h
  · cases h
    exact ⟨_, op_is_bl, fun M H x y Q tr hx hy q => ⟨_, _, hx.bl, hy.bl, q _ _ (.flat (.bl _))⟩⟩
  · cases h
/-- a is None: True and False of any plain data -/
def isND (d : D) (_ : D) : Option R := isNonD d
end
end Pu
end

section
set_option Elab.async false
set_option linter.all false
set_option maxRecDepth 100000
set_option maxHeartbeats 4000000
/-! PuD: subscripts, slices, calls of built-ins, tests, chains, displays. -/
namespace Pu
open PySem L2
section
variable {X : Cx} {e a b c : Expr} {fa fb fc : EvE} {pos : Pos}

/-! ### subscripts, one-place operations -/
theorem se_ix (ha : SE X a fa) (hb : SE X b fb) (hs : PlainIx b := by exact fun _ _ => rfl) : SE X (.Subscript a b pos) (ev2 fa fb idxD) := by
  refine se_two ha hb fun d1 d2 r h => ?_
  unfold idxD at h
  split at h
  · rename_i ds i
    cases ea : atI ds i with
    | none => rw [ea] at h; cases h
    | some d =>
      rw [ea] at h; cases h
      refine ⟨_, pe_ix ix_tup pe_w pe_w hs, fun M H x y Q tr hx hy q => ?_⟩
      obtain ⟨p, xs, rfl, t, ra⟩ := hx.tup
      obtain ⟨v, e1, is⟩ := atI_all ra ea
      exact ⟨p, xs, _, v, rfl, hy.int, t.sq, e1, q _ _ (.flat is)⟩
  · rename_i ds i
    cases ea : atI ds i with
    | none => rw [ea] at h; cases h
    | some d =>
      rw [ea] at h; cases h
      refine ⟨_, pe_ix ix_list pe_w pe_w hs, fun M H x y Q tr hx hy q => ?_⟩
      obtain ⟨p, xs, rfl, t, ra⟩ := hx.lst
      obtain ⟨v, e1, is⟩ := atI_all ra ea
      exact ⟨p, xs, _, v, rfl, hy.int, .of t, e1, q _ _ (.flat is)⟩
  · rename_i s i
    split at h
    · rename_i hl
      cases ea : atI s i with
      | none => rw [ea] at h; cases h
      | some d =>
        rw [ea] at h; cases h
        refine ⟨_, pe_ix ix_str pe_w pe_w hs, fun M H x y Q tr hx hy q => ?_⟩
        obtain ⟨z, rfl, ez⟩ := hx.str
        exact ⟨z, _, d, rfl, hy.int, by rw [str_len ez]; exact hl, by rw [ez]; exact ea, q _ _ (.flat (is_str _ rfl))⟩
    · cases h
  · cases h
theorem se_neg (ha : SE X a fa) : SE X (.UnaryOp .USub a pos) (ev1 fa negD) := by
  refine se_one ha fun d r h => ?_
  unfold negD at h
  split at h
  · cases h
    exact ⟨rU fun i => .int (-i), pe_un un_neg pe_w, fun M H x Q tr hx q => ⟨_, hx.int, q _ _ (.flat (.int _))⟩⟩
  · cases h
theorem pk_non_dec {M : Ads} {H : Hp} {x : V} {d : D} {r : R} (h : isNonD d = some r) (hx : Pk X.K M H x d) : r = .im (.bl (decide (x = .non))) := by
  unfold isNonD at h
  split at h
  · cases h
    rw [hx.non]
    rfl
  · cases h
    rename_i hn
    have : x ≠ .non := by
      intro z
      subst z
      cases d with
      | lst ds => obtain ⟨_, _, z, _⟩ := hx; cases z
      | non => exact hn rfl
      | _ => cases (show Is _ _ _ _ _ from hx)
    rw [decide_eq_false this]
theorem se_isN {j pos'} (ha : SE X a fa) : SE X (.Compare a [.Is] [.Constant .none j pos'] pos) (ev1 fa isNonD) := by
  refine se_one ha fun d r h => ⟨fun x H Q => Q (.bl (decide (x = .non))) H, pe_cmp (pc_isN pe_w), fun M H x Q tr hx q => ?_⟩
  have := pk_non_dec h hx
  subst this
  exact q _ _ (.flat (.bl _))
def notND (d : D) : Option R := match d with
  | .non => some (.im (.bl false))
  | _ => some (.im (.bl true))
theorem se_notN {j pos'} (ha : SE X a fa) : SE X (.Compare a [.IsNot] [.Constant .none j pos'] pos) (ev1 fa notND) := by
  refine se_one ha fun d r h => ⟨fun x H Q => Q (.bl (!decide (x = .non))) H, pe_cmp (pc_notN pe_w), fun M H x Q tr hx q => ?_⟩
  have h' : ∃ r', isNonD d = some r' := by unfold isNonD; split <;> exact ⟨_, rfl⟩
  obtain ⟨r', e⟩ := h'
  have := pk_non_dec e hx
  have e2 : r = .im (.bl (!decide (x = .non))) := by
    subst this
    unfold notND at h
    unfold isNonD at e
    split at h <;> simp_all
  subst e2
  exact q _ _ (.flat (.bl _))

/-! ### calls of built-ins -/
def CallOk1 (X : Cx) (f : Value) (op : D → Option R) : Prop := ∀ d r, op d = some r → ∃ rr : List V → Hp → VK → Prop, CallR X f rr ∧ Sound1 X.K (fun x H Q => rr [x] H Q) d r
def CallOk2 (X : Cx) (f : Value) (op : D → D → Option R) : Prop := ∀ d1 d2 r, op d1 d2 = some r → ∃ rr : List V → Hp → VK → Prop, CallR X f rr ∧ Sound2 X.K (fun x y H Q => rr [x, y] H Q) d1 d2 r
variable {x : Str} {p : Pos} {id T : String}
theorem se_callB {op : D → Option R} (hc : CallOk1 X (.builtin id) op) (hg : Gl X x) (hm : X.mg x = none) (hv : bootBuiltins x = some (.builtin id)) (ha : SE X a fa) (hn : x ≠ "__name__" := by decide) (hdb : (x == ("__debug__" : Str)) = false := by decide)
    (he : notStar a = true := by kernel_rfl) : SE X (.Call (.Name x p) [a] [] pos) (ev1 fa op) :=
  se_one ha fun d r h => let ⟨rr, h1, h2⟩ := hc d r h; ⟨_, pe_callB h1 hg hm hv (pa_cons pe_w pa_nil (star_cons he)) hn hdb (star_cons he) rfl, h2⟩
theorem se_callTy {op : D → Option R} (hc : CallOk1 X (.type T) op) (hg : Gl X x) (hm : X.mg x = none) (hv : bootBuiltins x = some (.type T)) (ha : SE X a fa) (hn : x ≠ "__name__" := by decide) (hdb : (x == ("__debug__" : Str)) = false := by decide)
    (he : notStar a = true := by kernel_rfl) : SE X (.Call (.Name x p) [a] [] pos) (ev1 fa op) :=
  se_one ha fun d r h => let ⟨rr, h1, h2⟩ := hc d r h; ⟨_, pe_callTy h1 hg hm hv (pa_cons pe_w pa_nil (star_cons he)) hn hdb (star_cons he) rfl, h2⟩
theorem se_callB2 {op : D → D → Option R} (hc : CallOk2 X (.builtin id) op) (hg : Gl X x) (hm : X.mg x = none) (hv : bootBuiltins x = some (.builtin id)) (ha : SE X a fa) (hb : SE X b fb) (hn : x ≠ "__name__" := by decide) (hdb : (x == ("__debug__" : Str)) = false := by decide)
    (he : notStar a = true := by kernel_rfl) (he2 : notStar b = true := by kernel_rfl) :
    SE X (.Call (.Name x p) [a, b] [] pos) (ev2 fa fb op) :=
  se_two ha hb fun d1 d2 r h => let ⟨rr, h1, h2⟩ := hc d1 d2 r h; ⟨_, pe_callB h1 hg hm hv (pa_cons pe_w (pa_cons pe_w pa_nil (star_cons he2)) (star_cons he)) hn hdb (star_cons he) (star_any (by rw [List.all_cons, he2]; rfl)), h2⟩
theorem len_ok : CallOk1 X (.builtin "len") lenD := by
  intro d r h
  unfold lenD at h
  split at h
  · split at h
    · rename_i hl
      cases h
      refine ⟨_, call_len_str, fun M H x Q tr hx q => ?_⟩
      obtain ⟨z, rfl, ez⟩ := hx.str
      refine ⟨z, rfl, by rw [str_len ez]; exact hl, ?_⟩
      rw [str_len ez]
      exact q _ _ (.flat (.int _))
    · cases h
  · cases h
    refine ⟨_, call_len_seq, fun M H x Q tr hx q => ?_⟩
    obtain ⟨p, xs, rfl, t, ra⟩ := hx.tup
    refine ⟨p, xs, rfl, .inr t.sq, ?_⟩
    rw [ra.len]
    exact q _ _ (.flat (.int _))
  · cases h
    refine ⟨_, call_len_seq, fun M H x Q tr hx q => ?_⟩
    obtain ⟨p, xs, rfl, t, ra⟩ := hx.lst
    refine ⟨p, xs, rfl, .inl (.of t), ?_⟩
    rw [ra.len]
    exact q _ _ (.flat (.int _))
  · cases h
    refine ⟨_, call_len_seq, fun M H x Q tr hx q => ?_⟩
    obtain ⟨p, xs, rfl, t, ra⟩ := hx.fz
    refine ⟨p, xs, rfl, .inl t.sq, ?_⟩
    rw [ra.len]
    exact q _ _ (.flat (.int _))
  · cases h
theorem abs_ok : CallOk1 X (.builtin "abs") absD := by
  intro d r h
  unfold absD at h
  split at h
  · cases h
    exact ⟨_, call_abs, fun M H x Q tr hx q => ⟨_, by rw [hx.int], q _ _ (.flat (.int _))⟩⟩
  · cases h
theorem int_ok : CallOk1 X (.type "int") intD := by
  intro d r h
  unfold intD at h
  split at h
  · cases h
    exact ⟨_, call_int1, fun M H x Q tr hx q => .inl ⟨_, by rw [hx.int], q _ _ (.flat (.int _))⟩⟩
  · cases h
    exact ⟨_, call_int1, fun M H x Q tr hx q => .inr ⟨_, by rw [hx.bl], q _ _ (.flat (.int _))⟩⟩
  · cases h
theorem list_ok : CallOk1 X (.type "list") listD := by
  intro d r h
  unfold listD at h
  split at h
  · cases h
    refine ⟨_, call_list_of, fun M H x Q tr hx q => ?_⟩
    obtain ⟨p, xs, rfl, t, ra⟩ := hx.tup
    exact ⟨p, xs, rfl, .inr t.sq, fun l hl => q _ _ (.lst hl ra)⟩
  · cases h
    refine ⟨_, call_list_of, fun M H x Q tr hx q => ?_⟩
    obtain ⟨p, xs, rfl, t, ra⟩ := hx.lst
    exact ⟨p, xs, rfl, .inl (.of t), fun l hl => q _ _ (.lst hl ra)⟩
  · cases h
    refine ⟨_, call_list_of, fun M H x Q tr hx q => ?_⟩
    obtain ⟨p, xs, rfl, t, ra⟩ := hx.fz
    exact ⟨p, xs, rfl, .inl t.sq, fun l hl => q _ _ (.lst hl ra)⟩
  · cases h
theorem tuple_ok : CallOk1 X (.type "tuple") tupleD := by
  intro d r h
  unfold tupleD at h
  split at h
  · cases h
    refine ⟨_, call_tuple_of, fun M H x Q tr hx q => ?_⟩
    obtain ⟨p, xs, rfl, t, ra⟩ := hx.tup
    exact ⟨p, xs, rfl, .inr ⟨t.sq, q _ _ (.flat (.tup t ra))⟩⟩
  · cases h
    refine ⟨_, call_tuple_of, fun M H x Q tr hx q => ?_⟩
    obtain ⟨p, xs, rfl, t, ra⟩ := hx.lst
    exact ⟨p, xs, rfl, .inl ⟨.of t, fun l hl => q _ _ (.tup tr hl ra)⟩⟩
  · cases h
    refine ⟨_, call_tuple_of, fun M H x Q tr hx q => ?_⟩
    obtain ⟨p, xs, rfl, t, ra⟩ := hx.fz
    exact ⟨p, xs, rfl, .inl ⟨t.sq, fun l hl => q _ _ (.tup tr hl ra)⟩⟩
  · cases h
theorem all_ok (hc : X.calm = true) : CallOk1 X (.builtin "all") allD := by
  intro d r h
  unfold allD at h
  split at h
  · rename_i xs
    cases eb : blsOf xs with
    | none => rw [eb] at h; cases h
    | some bs =>
      rw [eb] at h; cases h
      refine ⟨_, cr_all hc, fun M H x Q tr hx q => ?_⟩
      obtain ⟨p, vs, rfl, t, ra⟩ := hx.lst
      have := vals_of_blsOf eb ra
      subst this
      exact ⟨p, bs, rfl, .of t, q _ _ (.flat (.bl _))⟩
  · cases h
theorem any_ok (hc : X.calm = true) : CallOk1 X (.builtin "any") anyD := by
  intro d r h
  unfold anyD at h
  split at h
  · rename_i xs
    cases eb : blsOf xs with
    | none => rw [eb] at h; cases h
    | some bs =>
      rw [eb] at h; cases h
      refine ⟨_, cr_any hc, fun M H x Q tr hx q => ?_⟩
      obtain ⟨p, vs, rfl, t, ra⟩ := hx.lst
      have := vals_of_blsOf eb ra
      subst this
      exact ⟨p, bs, rfl, .of t, q _ _ (.flat (.bl _))⟩
  · cases h
theorem sum_ok (hc : X.calm = true) : CallOk1 X (.builtin "sum") sumD := by
  intro d r h
  unfold sumD at h
  split at h
  · rename_i xs
    cases eb : intsOf xs with
    | none => rw [eb] at h; cases h
    | some bs =>
      rw [eb] at h; cases h
      refine ⟨_, cr_sum hc, fun M H x Q tr hx q => ?_⟩
      obtain ⟨p, vs, rfl, t, ra⟩ := hx.lst
      have := vals_of_intsOf eb ra
      subst this
      exact ⟨p, bs, rfl, .of t, q _ _ (.flat (.int _))⟩
  · cases h
/-- isinstance(a, T) -/
theorem kit_all (T : Ty) : (kitB "NoneType" T.nm = some false) ∧ (kitB "bool" T.nm = some (match T with | .bool => true | .int => true | _ => false)) ∧ (kitB "int" T.nm = some (match T with | .int => true | _ => false)) ∧
    (kitB "str" T.nm = some (match T with | .str => true | _ => false)) ∧ (kitB "tuple" T.nm = some (match T with | .tuple => true | _ => false)) ∧ (kitB "list" T.nm = some (match T with | .list => true | _ => false)) := by
  cases T <;> decide +kernel
theorem isi_ok (T : Ty) {d : D} {r : R} (h : isiD T d = some r) : Sound1 X.K (fun x H Q => rIsi X.K [x, .ty T.nm] H Q) d r := by
  intro M H x Q tr hx q
  obtain ⟨k0, k1, k2, k3, k4, k5⟩ := kit_all T
  unfold isiD at h
  split at h
  · cases h
    exact ⟨_, _, _, _, _, rfl, .ty _, .base (by rw [hx.non]; exact .non), kit_ty k0, q _ _ (.flat (.bl _))⟩
  · cases h
    exact ⟨_, _, _, _, _, rfl, .ty _, .base (by rw [hx.bl]; exact .bl _), kit_ty k1, q _ _ (.flat (.bl _))⟩
  · cases h
    exact ⟨_, _, _, _, _, rfl, .ty _, .base (by rw [hx.int]; exact .int _), kit_ty k2, q _ _ (.flat (.bl _))⟩
  · cases h
    obtain ⟨z, rfl, ez⟩ := hx.str
    exact ⟨_, _, _, _, _, rfl, .ty _, .base (.str _), kit_ty k3, q _ _ (.flat (.bl _))⟩
  · cases h
    obtain ⟨p, xs, rfl, t, ra⟩ := hx.tup
    refine ⟨_, _, _, _, _, rfl, .ty _, ?_, kit_ty k4, q _ _ (.flat (.bl _))⟩
    rcases t with ⟨_, t⟩ | (t | ⟨o, t⟩) | ⟨o, its, n, t1, t2, _⟩
    · exact .base (.tup t)
    · cases t
    · cases t
    · exact .kTuple t1 t2
  · cases h
    obtain ⟨p, xs, rfl, t, ra⟩ := hx.lst
    exact ⟨_, _, _, _, _, rfl, .ty _, .base (.lst t), kit_ty k5, q _ _ (.flat (.bl _))⟩
  · cases h
theorem se_isi (T : Ty) {x2 : Str} {p2 : Pos} (hg : Gl X "isinstance") (hm : X.mg "isinstance" = none) (hg2 : Gl X x2) (hm2 : X.mg x2 = none) (hv2 : bootBuiltins x2 = some (.type T.nm)) (ha : SE X a fa)
    (hn2 : x2 ≠ "__name__" := by decide) (hdb2 : (x2 == ("__debug__" : Str)) = false := by decide) (he : notStar a = true := by kernel_rfl) :
    SE X (.Call (.Name "isinstance" p) [a, .Name x2 p2] [] pos) (ev1 fa (isiD T)) :=
  se_one ha fun d r h => ⟨fun x H Q => rIsi X.K [x, .ty T.nm] H Q, pe_callB call_isi hg hm (by decide +kernel) (pa_cons pe_w (pa_cons (pe_bltn (v := .ty T.nm) hg2 hm2 hv2 rfl hn2 hdb2) pa_nil) (star_cons he)) (by decide) (by decide) (star_cons he) rfl, isi_ok T h⟩
end

/-! ### tests -/
abbrev EvB := G → Option (Bool × G)
structure ST (X : Cx) (c : Expr) (f : EvB) : Prop where
  run :
  ∀ (F : Fx) (Mo : Ads) (al : Nat → Addr) (g : G) (k : Bool) (g' : G) (σ : L2.St) (H : Hp) (Q : Bool → Hp → Prop), f g = some (k, g') → Rel X.K F Mo al g σ H →
    (∀ H', Sub g' g → Rel X.K F Mo al g' σ H' → Q k H') → WT X c σ H Q
structure SW (X : Cx) (c : Expr) (f : EvB) : Prop where
  run :
  ∀ (F : Fx) (Mo : Ads) (al : Nat → Addr) (g : G) (k : Bool) (g' : G) (σ : L2.St) (H : Hp) (Q : Bool → Hp → Prop), f g = some (k, g') → Rel X.K F Mo al g σ H →
    (∀ H', Sub g' g → Rel X.K F Mo al g' σ H' → Q k H') → WW X c σ H Q
def evB (f : EvE) : EvB := fun g => match toO f g with
  | none => none
  | some (o, g') => match o.look g' with
    | some (.bl k) => some (k, g')
    | _ => none
def evNot (f : EvB) : EvB := fun g => match f g with
  | none => none
  | some (k, g') => some (!k, g')
def evAndB (f h : EvB) : EvB := fun g => match f g with
  | none => none
  | some (true, g') => h g'
  | some (false, g') => some (false, g')
def evOrB (f h : EvB) : EvB := fun g => match f g with
  | none => none
  | some (true, g') => some (true, g')
  | some (false, g') => h g'
section
variable {X : Cx} {e a b c : Expr} {fa fb fc : EvE} {ka kb : EvB} {rest : List Expr} {pos : Pos}
/-- an expression of a truth value, as it is read by a rule -/
theorem SE.bool (h : SE X e fa) {F : Fx} {Mo : Ads} {al : Nat → Addr} {g : G} {k : Bool} {g' : G} {σ : L2.St} {H : Hp} {Q : Bool → Hp → Prop} (ef : evB fa g = some (k, g')) (R0 : Rel X.K F Mo al g σ H)
    (q : ∀ H', Sub g' g → Rel X.K F Mo al g' σ H' → Q k H') : WE X e σ H fun x H1 => ∃ c, x = .bl c ∧ Q c H1 := by
  unfold evB at ef
  split at ef
  · cases ef
  · rename_i o g1 eo
    split at ef
    · rename_i k1 el
      cases ef
      refine h.op eo R0 fun v H' s _ R1 ov => ⟨k, (ov.pk R1 el).bl, q H' s R1⟩
    · cases ef
theorem st_val (h : SE X e fa) (he : ∀ whole, isTrue e X.env whole = (do let v ← whole; standAt e.pos; holding [v] (truthy v)) := by intro _; rfl) : ST X e (evB fa) := by
  constructor
  intro F Mo al g k g' σ H Q ef R0 q
  exact to_wt (pt_val pe_w he) (h.bool ef R0 q)
theorem st_not (h : ST X a ka) : ST X (.UnaryOp .Not a pos) (evNot ka) := by
  constructor
  intro F Mo al g k g' σ H Q ef R0 q
  unfold evNot at ef
  split at ef
  · cases ef
  · rename_i k1 g1 e1
    cases ef
    exact to_wt (pt_not pt_w) (h.run F Mo al g k1 g' σ H _ e1 R0 fun H' s R1 => q H' s R1)
theorem SW.pt (h : SW X e ka) : ST X e ka := by
  constructor
  intro F Mo al g k g' σ H Q ef R0 q
  exact to_wt pw_w.pt (h.run F Mo al g k g' σ H Q ef R0 q)
theorem sw_and1 (h : ST X a ka) : SW X (.BoolOp .And [a] pos) ka := by
  constructor
  intro F Mo al g k g' σ H Q ef R0 q
  exact to_ww (pw_and1 pt_w) (h.run F Mo al g k g' σ H Q ef R0 q)
theorem sw_or1 (h : ST X a ka) : SW X (.BoolOp .Or [a] pos) ka := by
  constructor
  intro F Mo al g k g' σ H Q ef R0 q
  exact to_ww (pw_or1 pt_w) (h.run F Mo al g k g' σ H Q ef R0 q)
theorem sw_and (h : ST X a ka) (hb : SW X (.BoolOp .And (b :: rest) pos) kb) : SW X (.BoolOp .And (a :: b :: rest) pos) (evAndB ka kb) := by
  constructor
  intro F Mo al g k g' σ H Q ef R0 q
  unfold evAndB at ef
  split at ef
  · cases ef
  · rename_i g1 e1
    refine to_ww (pw_and pt_w pw_w) (h.run F Mo al g true g1 σ H _ e1 R0 fun H' s R1 => iteT ?_)
    exact hb.run F Mo al g1 k g' σ H' Q ef R1 fun H2 s2 R2 => q H2 (s2.trans s) R2
  · rename_i g1 e1
    cases ef
    exact to_ww (pw_and pt_w pw_w) (h.run F Mo al g false g' σ H _ e1 R0 fun H' s R1 => iteF (q H' s R1))
theorem sw_or (h : ST X a ka) (hb : SW X (.BoolOp .Or (b :: rest) pos) kb) : SW X (.BoolOp .Or (a :: b :: rest) pos) (evOrB ka kb) := by
  constructor
  intro F Mo al g k g' σ H Q ef R0 q
  unfold evOrB at ef
  split at ef
  · cases ef
  · rename_i g1 e1
    cases ef
    exact to_ww (pw_or pt_w pw_w) (h.run F Mo al g true g' σ H _ e1 R0 fun H' s R1 => iteT (q H' s R1))
  · rename_i g1 e1
    refine to_ww (pw_or pt_w pw_w) (h.run F Mo al g false g1 σ H _ e1 R0 fun H' s R1 => iteF ?_)
    exact hb.run F Mo al g1 k g' σ H' Q ef R1 fun H2 s2 R2 => q H2 (s2.trans s) R2
/-- a test by the value that it would give -/
theorem st_two {op : D → D → Option R} (ha : SE X a fa) (hb : SE X b fb) (hop : ∀ d1 d2 r, op d1 d2 = some r → ∃ rr : R2, PT X e (tTest (tOp rr (WE X a) (WE X b))) ∧ Sound2 X.K rr d1 d2 r) : ST X e (evB (ev2 fa fb op)) := by
  constructor
  intro F Mo al g k g' σ H Q ef R0 q
  unfold evB toO at ef
  cases e0 : ev2 fa fb op g with
  | none => rw [e0] at ef; cases ef
  | some rg =>
    obtain ⟨r, g2⟩ := rg
    rw [e0] at ef
    unfold ev2 at e0
    split at e0
    · cases e0
    · rename_i a1 g1 ea
      split at e0
      · cases e0
      · rename_i b1 g3 eb
        split at e0
        · rename_i d1 d2 e1 e2
          split at e0
          · cases e0
          · rename_i r1 eo
            cases e0
            obtain ⟨rr, h1, h2⟩ := hop d1 d2 r eo
            refine to_wt h1 (ha.op ea R0 fun v H1 s1 k1 R1 ov => ?_)
            refine hb.op eb R1 fun u H2 s2 k2 R2 ou => ?_
            refine h2 _ H2 v u _ (fun a h => R2.trk h) ((ov.keep s2 k2).pk R2 e1) (ou.pk R2 e2) fun z H' n => ?_
            have res := n.res R2 (fun a h => h) (H := H2)
            obtain ⟨R3, ov3⟩ := Res.opd R2 res
            simp only [Option.map_some] at ef
            split at ef
            · rename_i k1 el
              cases ef
              exact ⟨k, (ov3.pk R3 el).bl, q H' (s2.trans s1) R3⟩
            · cases ef
        · cases e0
theorem st_one {op : D → Option R} (ha : SE X a fa) (hop : ∀ d r, op d = some r → ∃ rr : R1, PT X e (fun σ H Q => WE X a σ H fun x H1 => rr x H1 fun z H2 => ∃ k, z = .bl k ∧ Q k H2) ∧ Sound1 X.K rr d r) : ST X e (evB (ev1 fa op)) := by
  constructor
  intro F Mo al g k g' σ H Q ef R0 q
  unfold evB toO at ef
  cases e0 : ev1 fa op g with
  | none => rw [e0] at ef; cases ef
  | some rg =>
    obtain ⟨r, g2⟩ := rg
    rw [e0] at ef
    unfold ev1 at e0
    split at e0
    · cases e0
    · rename_i a1 g1 ea
      split at e0
      · cases e0
      · rename_i d1 e1
        split at e0
        · cases e0
        · rename_i r1 eo
          cases e0
          obtain ⟨rr, h1, h2⟩ := hop d1 r eo
          refine to_wt h1 (ha.op ea R0 fun v H1 s1 k1 R1 ov => ?_)
          refine h2 _ H1 v _ (fun a h => R1.trk h) (ov.pk R1 e1) fun z H' n => ?_
          have res := n.res R1 (fun a h => h) (H := H1)
          obtain ⟨R3, ov3⟩ := Res.opd R1 res
          simp only [Option.map_some] at ef
          split at ef
          · rename_i k1 el
            cases ef
            exact ⟨k, (ov3.pk R3 el).bl, q H' s1 R3⟩
          · cases ef
theorem st_cmp {o : CmpOp} {op : D → D → Option R} (ho : OpOk X (compareOp o) op) (ha : SE X a fa) (hb : SE X b fb) (hm : behindInMarks o b = false := by first | exact nomark _ | rfl) : ST X (.Compare a [o] [b] pos) (evB (ev2 fa fb op)) :=
  st_two ha hb fun d1 d2 r h => let ⟨rr, h1, h2⟩ := ho d1 d2 r h; ⟨rr, pt_cmpR h1 pe_w pe_w hm, h2⟩
theorem st_isN {j pos'} (ha : SE X a fa) : ST X (.Compare a [.Is] [.Constant .none j pos'] pos) (evB (ev1 fa isNonD)) := by
  refine st_one ha fun d r h => ⟨fun x H Q => Q (.bl (decide (x = .non))) H, pt_cmp (pc_isN pe_w), fun M H x Q tr hx q => ?_⟩
  have := pk_non_dec h hx
  subst this
  exact q _ _ (.flat (.bl _))
/-! ### chains: a op b op' c -/
def evCh (fa fb fc : EvE) (op op' : D → D → Option R) : EvE := fun g =>
  match toO fa g with
  | none => none
  | some (a, g1) => match toO fb g1 with
    | none => none
    | some (b, g2) => match a.look g2, b.look g2 with
      | some d1, some d2 => match op d1 d2 with
        | some (.im (.bl true)) => match toO fc g2 with
          | none => none
          | some (c, g3) => match b.look g3, c.look g3 with
            | some d2', some d3 => match op' d2' d3 with
              | some (.im (.bl k)) => some (.im (.bl k), g3)
              | _ => none
            | _, _ => none
        | some (.im (.bl false)) => some (.im (.bl false), g2)
        | _ => none
      | _, _ => none
/-- what a chain comes to -/
theorem chain_run {o o' : CmpOp} {op op' : D → D → Option R} (ho : OpOk X (compareOp o) op) (ho' : OpOk X (compareOp o') op') (ha : SE X a fa) (hb : SE X b fb) (hc : SE X c fc) {F : Fx} {Mo : Ads} {al : Nat → Addr} {g : G} {r : R} {g' : G} {σ : L2.St} {H : Hp} {Q : VK}
    (ef : evCh fa fb fc op op' g = some (r, g')) (R0 : Rel X.K F Mo al g σ H) (q : ∀ k H', r = .im (.bl k) → Sub g' g → Rel X.K F Mo al g' σ H' → Q (.bl k) H') :
    ∃ rr rr' : R2, OpR X (compareOp o) rr ∧ OpR X (compareOp o') rr' ∧ tChain rr rr' (WE X a) (WE X b) (WE X c) σ H Q := by
  unfold evCh at ef
  split at ef
  · cases ef
  · rename_i a1 g1 ea
    split at ef
    · cases ef
    · rename_i b1 g2 eb
      split at ef
      · rename_i d1 d2 e1 e2
        split at ef
        · rename_i eo
          split at ef
          · cases ef
          · rename_i c1 g3 ec
            split at ef
            · rename_i d2' d3 e3 e4
              split at ef
              · rename_i k eo'
                cases ef
                obtain ⟨rr, h1, h2⟩ := ho d1 d2 _ eo
                obtain ⟨rr', h1', h2'⟩ := ho' d2' d3 _ eo'
                refine ⟨rr, rr', h1, h1', ha.op ea R0 fun v H1 s1 k1 R1 ov => ?_⟩
                refine hb.op eb R1 fun u H2 s2 k2 R2 ou => ?_
                refine h2 _ H2 v u _ (fun a h => R2.trk h) ((ov.keep s2 k2).pk R2 e1) (ou.pk R2 e2) fun z H3 n => ?_
                obtain ⟨R3, ov3⟩ := Res.opd R2 (n.res R2 (fun a h => h) (H := H2))
                have ez : z = .bl true := (show Pk X.K _ _ z (.bl true) from (show Is X.K _ _ z (.bl true) from ov3).pk).bl
                refine ⟨true, ez, iteT ?_⟩
                have ou3 : OpV X.K Mo al g2 σ H3 u b1 := ou.keep (Sub.refl _) (.same n.1)
                refine hc.op ec R3 fun w H4 s4 k4 R4 ow => ?_
                refine h2' _ H4 u w _ (fun a h => R4.trk h) ((ou3.keep s4 k4).pk R4 e3) (ow.pk R4 e4) fun z2 H5 n2 => ?_
                obtain ⟨R5, ov5⟩ := Res.opd R4 (n2.res R4 (fun a h => h) (H := H4))
                have ez2 : z2 = .bl k := (show Pk X.K _ _ z2 (.bl k) from (show Is X.K _ _ z2 (.bl k) from ov5).pk).bl
                rw [ez2]
                exact q k H5 rfl (s4.trans (s2.trans s1)) R5
              · cases ef
            · cases ef
        · rename_i eo
          cases ef
          obtain ⟨rr, h1, h2⟩ := ho d1 d2 _ eo
          by_cases hne : ∃ rr' : R2, OpR X (compareOp o') rr'
          · obtain ⟨rr', h1'⟩ := hne
            refine ⟨rr, rr', h1, h1', ha.op ea R0 fun v H1 s1 k1 R1 ov => ?_⟩
            refine hb.op eb R1 fun u H2 s2 k2 R2 ou => ?_
            refine h2 _ H2 v u _ (fun a h => R2.trk h) ((ov.keep s2 k2).pk R2 e1) (ou.pk R2 e2) fun z H3 n => ?_
            obtain ⟨R3, ov3⟩ := Res.opd R2 (n.res R2 (fun a h => h) (H := H2))
            have ez : z = .bl false := (show Pk X.K _ _ z (.bl false) from (show Is X.K _ _ z (.bl false) from ov3).pk).bl
            exact ⟨false, ez, iteF (q false H3 rfl (s2.trans s1) R3)⟩
          · exact (hne ⟨fun _ _ _ _ => False, fun _ _ _ _ _ _ _ _ _ _ _ _ h => h.elim⟩).elim
        · cases ef
      · cases ef
theorem se_chain {o o' : CmpOp} {op op' : D → D → Option R} (ho : OpOk X (compareOp o) op) (ho' : OpOk X (compareOp o') op') (ha : SE X a fa) (hb : SE X b fb) (hc : SE X c fc) (hm : lastMarks [o, o'] [b, c] = false := by with_unfolding_all rfl) :
    SE X (.Compare a [o, o'] [b, c] pos) (evCh fa fb fc op op') := by
  constructor
  intro F Mo al g r g' σ H Q ef R0 q
  obtain ⟨rr, rr', h1, h2, t⟩ := chain_run (Q := Q) ho ho' ha hb hc ef R0 fun k H' er s R1 => q _ H' s (by rw [er]; exact ⟨R1, .bl k⟩)
  exact to_w (pe_chain h1 h2 pe_w pe_w pe_w hm) t
theorem st_chain {o o' : CmpOp} {op op' : D → D → Option R} (ho : OpOk X (compareOp o) op) (ho' : OpOk X (compareOp o') op') (ha : SE X a fa) (hb : SE X b fb) (hc : SE X c fc) (hm : lastMarks [o, o'] [b, c] = false := by with_unfolding_all rfl) :
    ST X (.Compare a [o, o'] [b, c] pos) (evB (evCh fa fb fc op op')) := by
  constructor
  intro F Mo al g k g' σ H Q ef R0 q
  unfold evB toO at ef
  cases e0 : evCh fa fb fc op op' g with
  | none => rw [e0] at ef; cases ef
  | some rg =>
    obtain ⟨r, g2⟩ := rg
    rw [e0] at ef
    obtain ⟨rr, rr', h1, h2, t⟩ := chain_run (Q := fun x H' => ∃ k, x = .bl k ∧ Q k H') ho ho' ha hb hc e0 R0 fun k1 H' er s R1 => by
      subst er
      cases ef
      exact ⟨k, rfl, q H' s R1⟩
    exact to_wt (pt_chain h1 h2 pe_w pe_w pe_w hm) t

/-! ### and, or, not, if as values -/
def evAnd (fa fb : EvE) : EvE := fun g => match evB fa g with
  | none => none
  | some (true, g') => fb g'
  | some (false, g') => some (.im (.bl false), g')
def evOr (fa fb : EvE) : EvE := fun g => match evB fa g with
  | none => none
  | some (true, g') => some (.im (.bl true), g')
  | some (false, g') => fb g'
def evNotV (fa : EvE) : EvE := fun g => match evB fa g with
  | none => none
  | some (k, g') => some (.im (.bl (!k)), g')
def evIf (ka : EvB) (fa fb : EvE) : EvE := fun g => match ka g with
  | none => none
  | some (true, g') => fa g'
  | some (false, g') => fb g'
/-- behind a step that keeps: the end of the second is the end of both -/
theorem Res.from {K : Fr} {F : Fx} {Mo : Ads} {al : Nat → Addr} {g' : G} {σ : L2.St} {H H1 H' : Hp} {v : V} {r : R} (gr : ∀ a, H a ≠ none → H1 a ≠ none) (h : Res K F Mo al g' σ H1 H' v r) : Res K F Mo al g' σ H H' v r := by
  cases r with
  | im d => exact h
  | fr c =>
    obtain ⟨p, e, hp, R1, o⟩ := h
    refine ⟨p, e, ?_, R1, o⟩
    cases z : H p with
    | none => rfl
    | some x => exact (gr p (by rw [z]; exact fun y => nomatch y) hp).elim
  | sl i => exact h
theorem ST.go (h : ST X e ka) {F : Fx} {Mo : Ads} {al : Nat → Addr} {g : G} {k : Bool} {g' : G} {σ : L2.St} {H : Hp} {Q : Bool → Hp → Prop} (ef : ka g = some (k, g')) (R0 : Rel X.K F Mo al g σ H)
    (q : ∀ H', Sub g' g → Kp (Owd al g) H H' → Rel X.K F Mo al g' σ H' → Q k H') : WT X e σ H Q :=
  h.run (F.here al g H) Mo al g k g' σ H Q ef R0.here fun H' s R1 => q H' s R1.kp (R0.back R1)
theorem SE.boolK (h : SE X e fa) {F : Fx} {Mo : Ads} {al : Nat → Addr} {g : G} {k : Bool} {g' : G} {σ : L2.St} {H : Hp} {Q : Bool → Hp → Prop} (ef : evB fa g = some (k, g')) (R0 : Rel X.K F Mo al g σ H)
    (q : ∀ H', Sub g' g → Kp (Owd al g) H H' → Rel X.K F Mo al g' σ H' → Q k H') : WE X e σ H fun x H1 => ∃ c, x = .bl c ∧ Q c H1 :=
  h.bool (F := F.here al g H) ef R0.here fun H' s R1 => q H' s R1.kp (R0.back R1)
theorem se_last {o} (h : SE X a fa) : SE X (.BoolOp o [a] pos) fa := by
  constructor
  intro F Mo al g r g' σ H Q ef R0 q
  exact to_w (pe_one pe_w) (h.run F Mo al g r g' σ H Q ef R0 q)
theorem wq {σ : L2.St} {H : Hp} {Q Q' : VK} (h : WE X e σ H Q) (i : ∀ v H', Q v H' → Q' v H') : WE X e σ H Q' := fun pins s I => PySem.wpAny_mono (h pins s I) (fun u s' ⟨v, H', a, b, c⟩ => ⟨v, H', a, b, i v H' c⟩) fun _ _ x => x
theorem se_and (ha : SE X a fa) (hb : SE X (.BoolOp .And (b :: rest) pos) fb) : SE X (.BoolOp .And (a :: b :: rest) pos) (evAnd fa fb) := by
  constructor
  intro F Mo al g r g' σ H Q ef R0 q
  unfold evAnd at ef
  split at ef
  · cases ef
  · rename_i g1 e1
    exact to_w (pe_and pe_w pe_w) (ha.boolK (Q := fun c H' => if c = true then WE X (.BoolOp .And (b :: rest) pos) σ H' Q else Q (.bl false) H') e1 R0 fun H' s k R1 => iteT (hb.go ef R1 fun v H2 s2 k2 res => q v H2 (s2.trans s) (res.from k.gr)))
  · rename_i g1 e1
    cases ef
    exact to_w (pe_and pe_w pe_w) (ha.boolK (Q := fun c H' => if c = true then WE X (.BoolOp .And (b :: rest) pos) σ H' Q else Q (.bl false) H') e1 R0 fun H' s k R1 => iteF (q _ H' s ⟨R1, .bl false⟩))
theorem se_or (ha : SE X a fa) (hb : SE X (.BoolOp .Or (b :: rest) pos) fb) : SE X (.BoolOp .Or (a :: b :: rest) pos) (evOr fa fb) := by
  constructor
  intro F Mo al g r g' σ H Q ef R0 q
  unfold evOr at ef
  split at ef
  · cases ef
  · rename_i g1 e1
    cases ef
    exact to_w (pe_or pe_w pe_w) (ha.boolK (Q := fun c H' => if c = true then Q (.bl true) H' else WE X (.BoolOp .Or (b :: rest) pos) σ H' Q) e1 R0 fun H' s k R1 => iteT (q _ H' s ⟨R1, .bl true⟩))
  · rename_i g1 e1
    exact to_w (pe_or pe_w pe_w) (ha.boolK (Q := fun c H' => if c = true then Q (.bl true) H' else WE X (.BoolOp .Or (b :: rest) pos) σ H' Q) e1 R0 fun H' s k R1 => iteF (hb.go ef R1 fun v H2 s2 k2 res => q v H2 (s2.trans s) (res.from k.gr)))
theorem se_notV (ha : SE X a fa) : SE X (.UnaryOp .Not a pos) (evNotV fa) := by
  constructor
  intro F Mo al g r g' σ H Q ef R0 q
  unfold evNotV at ef
  split at ef
  · cases ef
  · rename_i k g1 e1
    cases ef
    exact to_w (pe_not pe_w) (ha.boolK (Q := fun c H' => Q (.bl (!c)) H') e1 R0 fun H' s k R1 => q _ H' s ⟨R1, .bl _⟩)
theorem se_if (hc : ST X c ka) (ha : SE X a fa) (hb : SE X b fb) : SE X (.IfExp c a b pos) (evIf ka fa fb) := by
  constructor
  intro F Mo al g r g' σ H Q ef R0 q
  unfold evIf at ef
  split at ef
  · cases ef
  · rename_i g1 e1
    exact to_w (pe_ifExp pt_w pe_w pe_w) (hc.go e1 R0 fun H' s k R1 => iteT (ha.go ef R1 fun v H2 s2 k2 res => q v H2 (s2.trans s) (res.from k.gr)))
  · rename_i g1 e1
    exact to_w (pe_ifExp pt_w pe_w pe_w) (hc.go e1 R0 fun H' s k R1 => iteF (hb.go ef R1 fun v H2 s2 k2 res => q v H2 (s2.trans s) (res.from k.gr)))
end
end Pu
end

section
set_option Elab.async false
set_option linter.all false
set_option maxRecDepth 100000
set_option maxHeartbeats 4000000
/-! PuE: argument lists, displays, slices, what is walked, comprehensions. -/
namespace Pu
open PySem L2

/-! ### an expression's end as plain data -/
def settle : R × G → Option (D × G)
  | (.im d, g) => some (d, g)
  | (.fr c, g) => some (c.d, g)
  | (.sl i, g) => match g[i]? with
    | some (.ow c) => some (c.2.d, g.set i (.im c.2.d))
    | some (.im d) => some (d, g)
    | _ => none
def toD (f : EvE) : G → Option (D × G) := fun g => match f g with
  | none => none
  | some p => settle p
section
variable {K : Fr} {F : Fx} {Mo M : Ads} {al : Nat → Addr} {g g' g1 g2 : G} {σ : L2.St} {H H' H1 H2 : Hp} {v : V} {r : R} {X : Cx} {e a b : Expr} {f fa fb : EvE} {Q : VK} {o : Opd} {d : D} {pos : Pos}
theorem Res.settle (R0 : Rel K F Mo al g σ H) (h : Res K F Mo al g1 σ H H' v r) (s : settle (r, g1) = some (d, g2)) : Sub g2 g1 ∧ Rel K F Mo al g2 σ H' ∧ Is K (Av Mo al g2) H' v d := by
  cases r with
  | im d' => cases s; exact ⟨Sub.refl _, h⟩
  | fr c =>
    cases s
    obtain ⟨p, rfl, hp, R1, o⟩ := h
    exact ⟨Sub.refl _, own_in (R0.new hp).1 R1 o⟩
  | sl i =>
    obtain ⟨R1, ev, _⟩ := h
    have s : (match g1[i]? with
      | some (.ow c) => some (c.2.d, g1.set i (.im c.2.d))
      | some (.im d) => some (d, g1)
      | _ => none) = some (d, g2) := s
    split at s
    · rename_i c ec
      cases s
      obtain ⟨R2, is⟩ := R1.freeze ec
      obtain ⟨e1, _⟩ := R1.ow i c ec
      rw [ev] at e1
      cases e1
      exact ⟨sub_im, R2, is⟩
    · rename_i d' ed
      cases s
      obtain ⟨v', e1, is⟩ := R1.im i d ed
      rw [ev] at e1
      cases e1
      exact ⟨Sub.refl _, R1, is⟩
    · cases s
theorem SE.data (h : SE X e f) (ef : toD f g = some (d, g')) (R0 : Rel X.K F Mo al g σ H)
    (q : ∀ v H', Sub g' g → Kp (Owd al g) H H' → Rel X.K F Mo al g' σ H' → Is X.K (Av Mo al g') H' v d → Q v H') : WE X e σ H Q := by
  unfold toD at ef
  split at ef
  · cases ef
  · rename_i p ep
    obtain ⟨r, g1⟩ := p
    exact h.go ep R0 fun v H' s k res => let ⟨s2, R1, is⟩ := Res.settle R0 res ef; q v H' (s2.trans s) k R1 is

/-! ### argument lists, displays -/
abbrev EvA := G → Option (List D × G)
structure SA (X : Cx) (es : List Expr) (f : EvA) : Prop where
  run :
  ∀ (F : Fx) (Mo : Ads) (al : Nat → Addr) (g : G) (ds : List D) (g' : G) (σ : L2.St) (H : Hp) (Q : List V → Hp → Prop), f g = some (ds, g') → Rel X.K F Mo al g σ H →
    (∀ vs H', Sub g' g → Rel X.K F Mo al g' σ H' → IsAll X.K (Av Mo al g') H' vs ds → vs.length = es.length → Q vs H') → WA X es σ H Q
def evNil : EvA := fun g => some ([], g)
def evCons (fa : EvE) (fr : EvA) : EvA := fun g => match toD fa g with
  | none => none
  | some (d, g1) => match fr g1 with
    | none => none
    | some (ds, g2) => some (d :: ds, g2)
variable {es : List Expr} {fs : EvA}
theorem SA.go (h : SA X es fs) {ds : List D} (ef : fs g = some (ds, g')) (R0 : Rel X.K F Mo al g σ H) {Q : List V → Hp → Prop}
    (q : ∀ vs H', Sub g' g → Kp (Owd al g) H H' → Rel X.K F Mo al g' σ H' → IsAll X.K (Av Mo al g') H' vs ds → vs.length = es.length → Q vs H') : WA X es σ H Q :=
  h.run (F.here al g H) Mo al g ds g' σ H Q ef R0.here fun vs H' s R1 i l => q vs H' s R1.kp (R0.back R1) i l
theorem sa_nil : SA X [] evNil := by
  constructor
  intro F Mo al g ds g' σ H Q ef R0 q
  cases ef
  exact to_wa pa_nil (q [] H (Sub.refl _) R0 .nil rfl)
theorem sa_cons (ha : SE X a fa) (hr : SA X es fs) (hs : notStar a = true := by kernel_rfl) : SA X (a :: es) (evCons fa fs) := by
  constructor
  intro F Mo al g ds g' σ H Q ef R0 q
  unfold evCons at ef
  split at ef
  · cases ef
  · rename_i d g1 e1
    split at ef
    · cases ef
    · rename_i ds2 g2 e2
      cases ef
      refine to_wa (pa_cons pe_w pa_w (star_cons hs)) (ha.data e1 R0 fun v H1 s k R1 is => ?_)
      refine hr.go e2 R1 fun vs H2 s2 k2 R2 i2 l2 => ?_
      exact q (v :: vs) H2 (s2.trans s) R2 (.cons (is.go (go_of s2 k2)) i2) (congrArg Nat.succ l2)
def evTup (f : EvA) : EvE := fun g => match f g with
  | none => none
  | some (ds, g') => some (.im (.tup ds), g')
def evLst (f : EvA) : EvE := fun g => match f g with
  | none => none
  | some (ds, g') => some (.fr (.lst ds), g')
theorem small_line {n : Nat} (h : n ≤ 1000) : n ≤ sizeLine := Nat.le_of_lt (small1000 h)
theorem se_tup {x1} (n : Nat) (h : SA X es fs) (hl : es.length = n := by kernel_rfl) (hn : n ≤ 1000 := by decide) : SE X (.Tuple es x1 pos) (evTup fs) := by
  constructor
  intro F Mo al g r g' σ H Q ef R0 q
  unfold evTup at ef
  split at ef
  · cases ef
  · rename_i ds g1 e1
    cases ef
    refine to_w (pe_tup pa_w) (h.go e1 R0 fun vs H1 s k R1 is l => ⟨by rw [l, hl]; exact small_line hn, fun p hp => ?_⟩)
    have n := NewV.tup (M := Av Mo al g') (H := H1) (fun a z => R1.trk z) hp is
    exact q _ _ s (n.res R1 k.gr)
theorem se_lst (n : Nat) (h : SA X es fs) (hl : es.length = n := by kernel_rfl) (hn : n ≤ 1000 := by decide) : SE X (.List es pos) (evLst fs) := by
  constructor
  intro F Mo al g r g' σ H Q ef R0 q
  unfold evLst at ef
  split at ef
  · cases ef
  · rename_i ds g1 e1
    cases ef
    refine to_w (pe_lst pa_w) (h.go e1 R0 fun vs H1 s k R1 is l => ⟨by rw [l, hl]; exact small_line hn, fun p hp => ?_⟩)
    have n := NewV.lst (M := Av Mo al g') (H := H1) hp is
    exact q _ _ s (n.res R1 k.gr)

/-! ### slices -/
abbrev EvP := G → Option (Option Int × G)
abbrev WO (X : Cx) (e : Option Expr) : TO := fun σ H Q => ∀ (pins : List (Addr × Obj)) (s : Shared), Inv X pins σ H s →
  wpAny (model X.prog X.w) X.A (evalPart e X.env) (fun u s' => ∃ o H', Inv X pins σ H' s' ∧ IsPart u o ∧ Q o H') X.xe s
theorem po_w {e : Option Expr} : PO X e (WO X e) := ⟨fun pins s _ _ _ I h => h pins s I⟩
theorem to_wo {e : Option Expr} {t : TO} (h : PO X e t) {Q : Option Int → Hp → Prop} (q : t σ H Q) : WO X e σ H Q := fun pins s I => h.run pins s σ H Q I q
structure SPt (X : Cx) (e : Option Expr) (f : EvP) : Prop where
  run :
  ∀ (F : Fx) (Mo : Ads) (al : Nat → Addr) (g : G) (k : Option Int) (g' : G) (σ : L2.St) (H : Hp) (Q : Option Int → Hp → Prop), f g = some (k, g') → Rel X.K F Mo al g σ H →
    (∀ H', Sub g' g → Rel X.K F Mo al g' σ H' → Q k H') → WO X e σ H Q
def evNoP : EvP := fun g => some (none, g)
def evP (f : EvE) : EvP := fun g => match toO f g with
  | none => none
  | some (o, g') => match o.look g' with
    | some (.int i) => some (some i, g')
    | _ => none
theorem sp_no : SPt X none evNoP := by
  constructor
  intro F Mo al g k g' σ H Q ef R0 q
  cases ef
  exact to_wo po_none (q H (Sub.refl _) R0)
theorem sp_some (h : SE X e f) : SPt X (some e) (evP f) := by
  constructor
  intro F Mo al g k g' σ H Q ef R0 q
  unfold evP at ef
  split at ef
  · cases ef
  · rename_i o g1 eo
    split at ef
    · rename_i i el
      cases ef
      exact to_wo (po_some pe_w) (h.op eo R0 fun v H' s _ R1 ov => ⟨i, (ov.pk R1 el).int, q H' s R1⟩)
    · cases ef
def cutL {α : Type} (xs : List α) (lo hi : Option Int) : List α := (xs.drop (HT.sIx xs.length 0 lo)).take (HT.sIx xs.length xs.length hi - HT.sIx xs.length 0 lo)
def cutD (d : D) (lo hi : Option Int) : Option R := match d with
  | .tup xs => some (.im (.tup (cutL xs lo hi)))
  | .lst xs => some (.fr (.lst (cutL xs lo hi)))
  | .str s => if s.length ≤ sizeLine then some (.im (.str (cutL s lo hi))) else none
  | _ => none
def evSl (fa : EvE) (fl fh : EvP) : EvE := fun g => match toO fa g with
  | none => none
  | some (a, g1) => match fl g1 with
    | none => none
    | some (lo, g2) => match fh g2 with
      | none => none
      | some (hi, g3) => match a.look g3 with
        | none => none
        | some d => match cutD d lo hi with
          | none => none
          | some r => some (r, g3)
theorem cut_all {vs : List V} {ds : List D} (h : IsAll K M H vs ds) (lo hi : Option Int) : IsAll K M H (cutV vs lo hi) (cutL ds lo hi) := by
  unfold cutV cutL
  rw [h.len]
  exact (h.drop _).take _
theorem se_slice {lo hi : Option Expr} {fl fh : EvP} {p2 : Pos} (ha : SE X a fa) (hl : SPt X lo fl) (hh : SPt X hi fh) : SE X (.Subscript a (.Slice lo hi none p2) pos) (evSl fa fl fh) := by
  constructor
  intro F Mo al g r g' σ H Q ef R0 q
  unfold evSl at ef
  split at ef
  · cases ef
  · rename_i a1 g1 ea
    split at ef
    · cases ef
    · rename_i l1 g2 el
      split at ef
      · cases ef
      · rename_i h1 g3 eh
        split at ef
        · cases ef
        · rename_i d ed
          split at ef
          · cases ef
          · rename_i r1 ec
            cases ef
            have main : ∀ rr, SlR X rr → (∀ (M : Ads) (H : Hp) (x : V) (Q : VK), (∀ a, M a → H a ≠ none) → Pk X.K M H x d → (∀ v H', NewV X.K M H H' v r → Q v H') → rr x l1 h1 H Q) → WE X (.Subscript a (.Slice lo hi none p2) pos) σ H Q := by
              intro rr hr sd
              refine to_w (pe_slice hr pe_w po_w po_w) (ha.op ea R0 fun v H1 s k R1 ov => ?_)
              refine hl.run (F.here al g1 H1) Mo al g1 l1 g2 σ H1 _ el R1.here fun H2 s2 R2' => ?_
              have R2 := R1.back R2'
              refine hh.run (F.here al g2 H2) Mo al g2 h1 g' σ H2 _ eh R2.here fun H3 s3 R3' => ?_
              have R3 := R2.back R3'
              exact sd _ H3 v Q (fun a h => R3.trk h) (((ov.keep s2 R2'.kp).keep s3 R3'.kp).pk R3 ed) fun z H' n => q z H' (s3.trans (s2.trans s)) (n.res R3 fun a h => R3'.kp.gr a (R2'.kp.gr a (k.gr a h)))
            unfold cutD at ec
            split at ec
            · cases ec
              refine main _ sl_tupA fun M H x Q tr hx q => ?_
              obtain ⟨p, xs, rfl, t, ra⟩ := hx.tup
              refine ⟨p, xs, rfl, t.sq, fun hw => ?_, fun _ p2 hp => q _ _ (.tup tr hp (cut_all ra _ _))⟩
              have e : cutV xs l1 h1 = xs := by
                unfold cutV
                rw [hw.1, hw.2, List.drop_zero, Nat.sub_zero, List.take_length]
              have i2 := cut_all ra l1 h1
              rw [e] at i2
              exact q _ _ (.flat (.tup t i2))
            · cases ec
              refine main _ sl_list fun M H x Q tr hx q => ?_
              obtain ⟨p, xs, rfl, t, ra⟩ := hx.lst
              exact ⟨p, xs, rfl, .of t, fun p2 hp => q _ _ (.lst hp (cut_all ra _ _))⟩
            · split at ec
              · rename_i hl
                cases ec
                refine main _ sl_str fun M H x Q tr hx q => ?_
                obtain ⟨z, rfl, ez⟩ := hx.str
                refine ⟨z, rfl, by rw [str_len ez]; exact hl, q _ _ (.flat (is_str _ ?_))⟩
                unfold cutS cutL
                rw [str_len ez, ez]
              · cases ec
            · cases ec
end

/-! ### what is walked -/
abbrev WI (X : Cx) (tg iter : Expr) : TI := fun σ H Q => ∀ (pins : List (Addr × Obj)) (s : Shared), Inv X pins σ H s →
  wpAny (model X.prog X.w) X.A (eval iter X.env) (fun v s1 => wpAny (model X.prog X.w) X.A (pyIter v) (PIE X pins σ tg Q) X.xe s1) X.xe s
def Walks (K : Fr) (M : Ads) (J : It) (ds : List D) (H : Hp) : Prop :=
  ∀ (M' : Ads) (H2 : Hp), Goes1 M M' H H2 → (∀ a, M' a → H2 a ≠ none) → (∀ i, ds.length ≤ i → J.stop i H2) ∧
    ∀ i d, ds[i]? = some d → J.go i H2 ∧ ∀ x H3, J.yld i H2 x H3 → Same H2 H3 ∧ Is K M' H3 x d
structure SI (X : Cx) (tg iter : Expr) (f : EvA) : Prop where
  run :
  ∀ (F : Fx) (Mo : Ads) (al : Nat → Addr) (g : G) (ds : List D) (g' : G) (σ : L2.St) (H : Hp) (Q : It → Hp → Prop), f g = some (ds, g') → Rel X.K F Mo al g σ H →
    (∀ J H', Sub g' g → Rel X.K F Mo al g' σ H' → Walks X.K (Av Mo al g') J ds H' → ds.length ≤ sizeLine → Q J H') → WI X tg iter σ H Q
section
variable {K : Fr} {F : Fx} {Mo M : Ads} {al : Nat → Addr} {g g' g1 g2 : G} {σ : L2.St} {H H' H1 H2 : Hp} {v : V} {r : R} {X : Cx} {tg e a b : Expr} {f fa fb : EvE} {o : Opd} {d : D} {pos : Pos}
/-- behind an expression the heap is held -/
def Held (X : Cx) (H : Hp) : Prop := ∃ h : Heap, HOk X.prog X.w H h
theorem we_ok {Q : VK} (h : WE X e σ H fun v H' => Held X H' → Q v H') : WE X e σ H Q := fun pins s I =>
  PySem.wpAny_mono (h pins s I) (fun u s' ⟨v, H', a, b, c⟩ => ⟨v, H', a, b, c ⟨_, a.hok⟩⟩) fun _ _ x => x
theorem Held.lst {ad : Addr} {xs : List V} (h : Held X H) (e : H ad = some (.lst xs)) : xs.length ≤ sizeLine := let ⟨_, k⟩ := h; (k ad _ e).1
theorem Held.tup {ad : Addr} {xs : List V} (h : Held X H) (e : H ad = some (.tup xs)) : xs.length ≤ sizeLine := let ⟨_, k⟩ := h; (k ad _ e).1
theorem Held.tupM {ad : Addr} {xs : List V} (h : Held X H) (e : TupM X.K M H ad xs) : xs.length ≤ sizeLine := by
  rcases e with ⟨_, e⟩ | (e | ⟨o, e⟩) | ⟨o, its, n, _, _, _, hz, r⟩
  · exact h.tup e
  · cases e
  · cases e
  · rw [r.length, Array.length_toList]
    exact hz
theorem Held.fzM {ad : Addr} {xs : List V} (h : Held X H) (e : FzM X.K M H ad xs) : xs.length ≤ sizeLine := by
  rcases e with ⟨_, e | ⟨o, e⟩⟩ | (e | ⟨o, e⟩) | ⟨o, its, n, _, _, _, _, hz, r⟩
  · exact h.lst e
  · obtain ⟨_, k⟩ := h
    exact ((k ad _ e).2).1
  · cases e
  · cases e
  · rw [r.length, Array.length_toList]
    exact hz
theorem pi_w : PI X tg e (WI X tg e) := ⟨fun pins s _ _ _ I h => h pins s I⟩
theorem to_wi {t : TI} (h : PI X tg e t) {Q : It → Hp → Prop} (q : t σ H Q) : WI X tg e σ H Q := fun pins s I => h.run pins s σ H Q I q
def itemsD : D → Option (List D)
  | .lst xs => some xs
  | .fz xs => some xs
  | .tup xs => some xs
  | .str s => if s.length ≤ sizeLine then some (s.map fun c => .str [c]) else none
  | _ => none
def evIt (f : EvE) : EvA := fun g => match toD f g with
  | none => none
  | some (d, g') => match itemsD d with
    | none => none
    | some ds => some (ds, g')
theorem walks_l {ad : Addr} {xs : List V} {ds : List D} (ra : IsAll K M H xs ds) (st : ∀ M' H2, Goes1 M M' H H2 → SqL K H2 ad xs) : Walks K M (Itl K ad) ds H := by
  intro M' H2 go tr
  have s2 := st M' H2 go
  refine ⟨fun i hi => ⟨xs, s2, by rw [ra.len]; exact hi⟩, fun i d hd => ?_⟩
  obtain ⟨v, e1, is⟩ := ra.get hd
  refine ⟨⟨xs, v, s2, e1⟩, fun x H3 hy => ?_⟩
  obtain ⟨rfl, fy⟩ := hy
  have := fy xs s2
  rw [e1] at this
  cases this
  exact ⟨Same.refl _, is.go go⟩
theorem walks_t {ad : Addr} {xs : List V} {ds : List D} (ra : IsAll K M H xs ds) (st : ∀ M' H2, Goes1 M M' H H2 → SqT K H2 ad xs) : Walks K M (Itt K ad) ds H := by
  intro M' H2 go tr
  have s2 := st M' H2 go
  refine ⟨fun i hi => ⟨xs, s2, by rw [ra.len]; exact hi⟩, fun i d hd => ?_⟩
  obtain ⟨v, e1, is⟩ := ra.get hd
  refine ⟨⟨xs, v, s2, e1⟩, fun x H3 hy => ?_⟩
  obtain ⟨rfl, fy⟩ := hy
  have := fy xs s2
  rw [e1] at this
  cases this
  exact ⟨Same.refl _, is.go go⟩
theorem TupM.go {a : Addr} {xs : List V} {M' : Ads} (h : TupM K M H a xs) (g : Goes1 M M' H H2) : SqT K H2 a xs := by
  rcases h with ⟨n, e⟩ | h
  · exact .inl (.inl (g.st a _ n e))
  · exact sqt_any h
theorem LstM.go {a : Addr} {xs : List V} {M' : Ads} (h : LstM M H a xs) (g : Goes1 M M' H H2) : SqL K H2 a xs := .inl (.inl (g.st a _ h.1 h.2))
theorem FzM.go {a : Addr} {xs : List V} {M' : Ads} (h : FzM K M H a xs) (g : Goes1 M M' H H2) : SqL K H2 a xs := by
  rcases h with ⟨n, e | ⟨o, e⟩⟩ | h
  · exact .inl (.inl (g.st a _ n e))
  · exact .inl (.inr ⟨o, g.st a _ n e⟩)
  · exact sql_any h
theorem si_seq (h : SE X e f) : SI X tg e (evIt f) := by
  constructor
  intro F Mo al g ds g' σ H Q ef R0 q
  unfold evIt at ef
  split at ef
  · cases ef
  · rename_i d g1 ed
    split at ef
    · cases ef
    · rename_i ds1 ei
      cases ef
      unfold itemsD at ei
      split at ei
      · cases ei
        refine to_wi (pi_list pe_w) (we_ok (h.data ed R0 fun v H1 s k R1 is hh => ?_))
        cases is with
        | lst t ra => exact ⟨_, rfl, ⟨_, t.sq⟩, q _ _ s R1 (walks_l ra fun M' H2 go => t.go go) (by rw [← ra.len]; exact hh.lst t.2)⟩
      · cases ei
        refine to_wi (pi_list pe_w) (we_ok (h.data ed R0 fun v H1 s k R1 is hh => ?_))
        cases is with
        | fz t ra => exact ⟨_, rfl, ⟨_, t.sq⟩, q _ _ s R1 (walks_l ra fun M' H2 go => t.go go) (by rw [← ra.len]; exact hh.fzM t)⟩
      · cases ei
        refine to_wi (pi_tup pe_w) (we_ok (h.data ed R0 fun v H1 s k R1 is hh => ?_))
        cases is with
        | tup t ra => exact ⟨_, rfl, ⟨_, t.sq⟩, q _ _ s R1 (walks_t ra fun M' H2 go => t.go go) (by rw [← ra.len]; exact hh.tupM t)⟩
      · split at ei
        rotate_left
        · cases ei
        rename_i hsz
        cases ei
        refine to_wi (pi_str pe_w) (h.data ed R0 fun v H1 s k R1 is => ?_)
        cases is with
        | str x =>
          refine ⟨x, rfl, q _ _ s R1 ?_ (by rw [List.length_map]; exact hsz)⟩
          intro M' H2 go tr
          refine ⟨fun i hi => (show x.cps.size ≤ i by simpa using hi), fun i d hd => ?_⟩
          rw [List.getElem?_map] at hd
          cases ec : x.cps.toList[i]? with
          | none => rw [ec] at hd; cases hd
          | some c =>
            rw [ec] at hd
            cases hd
            have hi : i < x.cps.size := by
              have := (List.getElem?_eq_some_iff.mp ec).1
              simpa using this
            refine ⟨hi, fun y H3 hy => ?_⟩
            obtain ⟨rfl, c', ec', rfl⟩ := hy
            rw [Array.getElem?_toList] at ec
            rw [ec] at ec'
            cases ec'
            exact ⟨Same.refl _, is_str _ rfl⟩
      · cases ei
def evR1 (f : EvE) : EvA := fun g => match toO f g with
  | none => none
  | some (o, g') => match o.look g' with
    | some (.int n) => if -(2 ^ 62) ≤ n ∧ n ≤ sizeLine then some ((List.range n.toNat).map fun i => .int (i : Nat), g') else none
    | _ => none
theorem walks_r (lo : Int) (n : Nat) : Walks K M (Itr lo n) ((List.range n).map fun i => .int (lo + (i : Nat))) H := by
  intro M' H2 go tr
  refine ⟨fun i hi => (show n ≤ i by simpa using hi), fun i d hd => ?_⟩
  rw [List.getElem?_map] at hd
  cases ec : (List.range n)[i]? with
  | none => rw [ec] at hd; cases hd
  | some j =>
    rw [ec] at hd
    cases hd
    obtain ⟨h1, h2⟩ := List.getElem?_eq_some_iff.mp ec
    have hj : j = i := by rw [← h2]; simp
    subst hj
    refine ⟨(show j < n by simpa using h1), fun y H3 hy => ?_⟩
    obtain ⟨rfl, rfl⟩ := hy
    exact ⟨Same.refl _, .int _⟩
theorem si_range1 {p : Pos} (hg : Gl X "range") (hm : X.mg "range" = none) (h : SE X e f) (hs : starEach [e] X.env = [(false, eval e X.env)] := by rfl) : SI X tg (.Call (.Name "range" p) [e] [] pos) (evR1 f) := by
  constructor
  intro F Mo al g ds g' σ H Q ef R0 q
  unfold evR1 at ef
  split at ef
  · cases ef
  · rename_i o g1 eo
    split at ef
    · rename_i n el
      split at ef
      · rename_i hn
        cases ef
        refine to_wi (pi_range1 hg hm (pa_cons pe_w pa_nil hs) hs) (h.op eo R0 fun v H' s _ R1 ov => ⟨n, by rw [(ov.pk R1 el).int], hn.1, Int.lt_of_le_of_lt hn.2 (by decide), q _ _ s R1 ?_ (by rw [List.length_map, List.length_range]; omega)⟩)
        have := walks_r (K := X.K) (M := Av Mo al g') (H := H') 0 n.toNat
        simpa using this
      · cases ef
    · cases ef
def evR2 (fa fb : EvE) : EvA := fun g => match toO fa g with
  | none => none
  | some (a, g1) => match toO fb g1 with
    | none => none
    | some (b, g2) => match a.look g2, b.look g2 with
      | some (.int lo), some (.int hi) => if -(2 ^ 62) ≤ lo ∧ lo < 2 ^ 62 ∧ -(2 ^ 62) ≤ hi ∧ hi < 2 ^ 62 ∧ hi - lo ≤ sizeLine then some ((List.range (hi - lo).toNat).map fun i => .int (lo + (i : Nat)), g2) else none
      | _, _ => none
theorem si_range2 {p : Pos} (hg : Gl X "range") (hm : X.mg "range" = none) (ha : SE X a fa) (hb : SE X b fb) (hs : starEach [a, b] X.env = [(false, eval a X.env), (false, eval b X.env)] := by rfl) (hs2 : starEach [b] X.env = [(false, eval b X.env)] := by rfl) :
    SI X tg (.Call (.Name "range" p) [a, b] [] pos) (evR2 fa fb) := by
  constructor
  intro F Mo al g ds g' σ H Q ef R0 q
  unfold evR2 at ef
  split at ef
  · cases ef
  · rename_i a1 g1 ea
    split at ef
    · cases ef
    · rename_i b1 g2 eb
      split at ef
      · rename_i lo hi e1 e2
        split at ef
        · rename_i hn
          cases ef
          refine to_wi (pi_range2 hg hm (pa_cons pe_w (pa_cons pe_w pa_nil hs2) (by rw [hs, hs2])) hs hs2) (ha.op ea R0 fun v H1 s1 k1 R1 ov => ?_)
          refine hb.op eb R1 fun u H2 s2 k2 R2 ou => ?_
          exact ⟨lo, hi, by rw [((ov.keep s2 k2).pk R2 e1).int, (ou.pk R2 e2).int], ⟨hn.1, hn.2.1, hn.2.2.1, hn.2.2.2.1⟩, q _ _ (s2.trans s1) R2 (walks_r lo _) (by rw [List.length_map, List.length_range]; have := hn.2.2.2.2; omega)⟩
        · cases ef
      · cases ef
/-- zip of two lists, of two tuples -/
def zipD (xs ys : List D) : List D := (xs.zip ys).map fun p => .tup [p.1, p.2]
def evZip (fa fb : EvE) : EvA := fun g => match toD fa g with
  | none => none
  | some (a, g1) => match toD fb g1 with
    | none => none
    | some (b, g2) => match a, b with
      | .lst xs, .lst ys => some (zipD xs ys, g2)
      | .tup xs, .tup ys => some (zipD xs ys, g2)
      | _, _ => none
theorem zip_at {xs ys : List D} {i : Nat} {d : D} (h : (zipD xs ys)[i]? = some d) : ∃ x y, xs[i]? = some x ∧ ys[i]? = some y ∧ d = .tup [x, y] := by
  unfold zipD at h
  rw [List.getElem?_map] at h
  cases e : (xs.zip ys)[i]? with
  | none => rw [e] at h; cases h
  | some p =>
    rw [e] at h
    cases h
    rw [List.getElem?_zip_eq_some] at e
    exact ⟨p.1, p.2, e.1, e.2, rfl⟩
theorem zip_len (xs ys : List D) : (zipD xs ys).length = min xs.length ys.length := by
  unfold zipD
  rw [List.length_map, List.length_zip]
theorem si_zip {p tpos : Pos} {elts : List Expr} {kk : Nat} (hg : Gl X "zip") (hm : X.mg "zip" = none) (ha : SE X a fa) (hb : SE X b fb) (hs : starEach [a, b] X.env = (false, eval a X.env) :: starEach [b] X.env := by rfl)
    (hs2 : starEach [b] X.env = (false, eval b X.env) :: starEach [] X.env := by rfl) (hpl : (backTo pos (starEach [b] X.env)).any (·.1) = false := by rfl) : SI X (.Tuple elts kk tpos) (.Call (.Name "zip" p) [a, b] [] pos) (evZip fa fb) := by
  constructor
  intro F Mo al g ds g' σ H Q ef R0 q
  unfold evZip at ef
  split at ef
  · cases ef
  · rename_i a1 g1 ea
    split at ef
    · cases ef
    · rename_i b1 g2 eb
      split at ef
      · rename_i xs ys
        cases ef
        refine to_wi (RZ.pi_zipA hg hm (pa_cons pe_w (pa_cons pe_w pa_nil hs2) hs) hs hpl) (ha.data ea R0 fun v H1 s1 k1 R1 i1 => ?_)
        refine we_ok (hb.data eb R1 fun u H2 s2 k2 R2 i2 hh => ?_)
        have i1' := i1.go (go_of s2 k2)
        cases i1' with
        | lst t1 r1 =>
          cases i2 with
          | lst t2 r2 =>
            refine ⟨_, _, _, _, rfl, .inl ⟨t1.sq, t2.sq, q _ _ (s2.trans s1) R2 ?_ (by rw [zip_len, ← r1.len]; exact Nat.le_trans (Nat.min_le_left _ _) (hh.lst t1.2))⟩⟩
            intro M' H3 go tr
            have q1 := t1.go (K := X.K) go
            have q2 := t2.go (K := X.K) go
            refine ⟨fun i hi => ⟨_, _, q1, q2, ?_⟩, fun i d hd => ?_⟩
            · rw [zip_len] at hi
              rw [r1.len, r2.len]
              omega
            · obtain ⟨x, y, ex, ey, rfl⟩ := zip_at hd
              obtain ⟨vx, e1, is1⟩ := r1.get ex
              obtain ⟨vy, e2, is2⟩ := r2.get ey
              refine ⟨⟨_, _, vx, vy, q1, q2, e1, e2⟩, fun z H4 hy => ?_⟩
              obtain ⟨T, x', y', rfl, nT, rfl, f1, f2⟩ := hy
              have h1 := f1 _ q1
              have h2 := f2 _ q2
              rw [e1] at h1
              rw [e2] at h2
              cases h1
              cases h2
              have n := NewV.tup (K := X.K) tr nT (.cons (is1.go go) (.cons (is2.go go) .nil))
              exact n
      · rename_i xs ys
        cases ef
        refine to_wi (RZ.pi_zipA hg hm (pa_cons pe_w (pa_cons pe_w pa_nil hs2) hs) hs hpl) (ha.data ea R0 fun v H1 s1 k1 R1 i1 => ?_)
        refine we_ok (hb.data eb R1 fun u H2 s2 k2 R2 i2 hh => ?_)
        have i1' := i1.go (go_of s2 k2)
        cases i1' with
        | tup t1 r1 =>
          cases i2 with
          | tup t2 r2 =>
            refine ⟨_, _, _, _, rfl, .inr ⟨t1.sq, t2.sq, q _ _ (s2.trans s1) R2 ?_ (by rw [zip_len, ← r1.len]; exact Nat.le_trans (Nat.min_le_left _ _) (hh.tupM t1))⟩⟩
            intro M' H3 go tr
            have q1 := t1.go (K := X.K) go
            have q2 := t2.go (K := X.K) go
            refine ⟨fun i hi => ⟨_, _, q1, q2, ?_⟩, fun i d hd => ?_⟩
            · rw [zip_len] at hi
              rw [r1.len, r2.len]
              omega
            · obtain ⟨x, y, ex, ey, rfl⟩ := zip_at hd
              obtain ⟨vx, e1, is1⟩ := r1.get ex
              obtain ⟨vy, e2, is2⟩ := r2.get ey
              refine ⟨⟨_, _, vx, vy, q1, q2, e1, e2⟩, fun z H4 hy => ?_⟩
              obtain ⟨T, x', y', rfl, nT, rfl, f1, f2⟩ := hy
              have h1 := f1 _ q1
              have h2 := f2 _ q2
              rw [e1] at h1
              rw [e2] at h2
              cases h1
              cases h2
              exact NewV.tup (K := X.K) tr nT (.cons (is1.go go) (.cons (is2.go go) .nil))
      · cases ef
end
end Pu
end

section
set_option Elab.async false
set_option linter.all false
set_option maxRecDepth 100000
set_option maxHeartbeats 4000000
/-! PuF: targets, list comprehensions, calls of the text's own defs, methods of owned lists. -/
namespace Pu
open PySem L2

/-! ### targets -/
abbrev WG (X : Cx) (tg : Expr) : TG := fun v σ H Q => ∀ (pins : List (Addr × Obj)) (s : Shared) (u : Value), Inv X pins σ H s → RelV v u →
  wpAny (model X.prog X.w) X.A (assign tg X.env u) (fun _ s' => ∃ σ' H', Inv X pins σ' H' s' ∧ Q σ' H') X.xe s
abbrev WGs (X : Cx) (ts : List Expr) : TGs := fun vs σ H Q => ∀ (pins : List (Addr × Obj)) (s : Shared) (us : List Value), Inv X pins σ H s → Vals vs us →
  wpAny (model X.prog X.w) X.A (assignInOrder ((assignEach ts X.env).map (·.2)) us) (fun _ s' => ∃ σ' H', Inv X pins σ' H' s' ∧ Q σ' H') X.xe s
abbrev EvT := D → G → Option G
abbrev EvTs := List D → G → Option G
structure SG (X : Cx) (tg : Expr) (S : List Nat) (b : EvT) : Prop where
  run :
  ∀ (F : Fx) (Mo : Ads) (al : Nat → Addr) (g g' : G) (d : D) (v : V) (σ : L2.St) (H : Hp) (Q : L2.St → Hp → Prop), b d g = some g' → Rel X.K F Mo al g σ H → Is X.K (Av Mo al g) H v d →
    (∀ σ' : L2.St, (∀ j, j ∉ S → σ'[j]? = σ[j]?) → σ'.length = σ.length → Sub g' g → Rel X.K F Mo al g' σ' H → Q σ' H) → WG X tg v σ H Q
structure SGs (X : Cx) (ts : List Expr) (S : List Nat) (b : EvTs) : Prop where
  run :
  ∀ (F : Fx) (Mo : Ads) (al : Nat → Addr) (g g' : G) (ds : List D) (vs : List V) (σ : L2.St) (H : Hp) (Q : L2.St → Hp → Prop), b ds g = some g' → Rel X.K F Mo al g σ H → IsAll X.K (Av Mo al g) H vs ds →
    (∀ σ' : L2.St, (∀ j, j ∉ S → σ'[j]? = σ[j]?) → σ'.length = σ.length → Sub g' g → Rel X.K F Mo al g' σ' H → Q σ' H) → WGs X ts vs σ H Q
def btName (i : Nat) : EvT := fun d g => some (g.set i (.im d))
def btTup (b : EvTs) : EvT := fun d g => match d with
  | .tup ds => b ds g
  | _ => none
def btNil : EvTs := fun ds g => match ds with
  | [] => some g
  | _ => none
def btCons (b : EvT) (r : EvTs) : EvTs := fun ds g => match ds with
  | d :: ds => match b d g with
    | none => none
    | some g1 => r ds g1
  | [] => none
section
variable {X : Cx} {tg : Expr} {ts : List Expr} {S S' : List Nat} {b : EvT} {bs : EvTs} {pos : Pos}
theorem pg_w : PG X tg (WG X tg) := ⟨fun pins s _ _ _ u _ I r h => h pins s u I r⟩
theorem pgs_w : PGs X ts (WGs X ts) := ⟨fun pins s _ _ _ us _ I r h => h pins s us I r⟩
theorem to_wg {t : TG} (h : PG X tg t) {v : V} {σ : L2.St} {H : Hp} {Q : L2.St → Hp → Prop} (q : t v σ H Q) : WG X tg v σ H Q := fun pins s u I r => h.run pins s σ H v u Q I r q
theorem to_wgs {t : TGs} (h : PGs X ts t) {v : List V} {σ : L2.St} {H : Hp} {Q : L2.St → Hp → Prop} (q : t v σ H Q) : WGs X ts v σ H Q := fun pins s u I r => h.run pins s σ H v u Q I r q
theorem sg_name {i : Nat} (h : PG X tg (gName i)) : SG X tg [i] (btName i) := by
  constructor
  intro F Mo al g g' d v σ H Q e R0 is q
  cases e
  exact to_wg h (q _ (fun j hj => List.getElem?_set_ne (fun z => hj (by simp [z]))) (by rw [List.length_set]) sub_im (R0.put is))
theorem sgs_nil : SGs X [] [] btNil := by
  constructor
  intro F Mo al g g' ds vs σ H Q e R0 is q
  unfold btNil at e
  split at e
  · cases e
    cases is
    exact to_wgs pgs_nil ⟨rfl, q σ (fun _ _ => rfl) rfl (Sub.refl _) R0⟩
  · cases e
theorem sgs_cons (h1 : SG X tg S b) (h2 : SGs X ts S' bs) (hs : (assignEach (tg :: ts) X.env).map (·.2) = assign tg X.env :: (assignEach ts X.env).map (·.2) := by rfl) : SGs X (tg :: ts) (S ++ S') (btCons b bs) := by
  constructor
  intro F Mo al g g' ds vs σ H Q e R0 is q
  unfold btCons at e
  split at e
  · rename_i d ds
    split at e
    · cases e
    · rename_i g1 e1
      cases is with
      | cons i1 i2 =>
        refine to_wgs (pgs_cons pg_w pgs_w hs) ⟨_, _, rfl, h1.run F Mo al g g1 d _ σ H _ e1 R0 i1 fun σ1 a1 l1 s1 R1 => ?_⟩
        have go : Goes1 (Av Mo al g) (Av Mo al g1) H H := go_of s1 (Kp.refl _ _)
        refine h2.run F Mo al g1 g' ds _ σ1 H Q e R1 (i2.go go) fun σ2 a2 l2 s2 R2 => q σ2 (fun j hj => ?_) (l2.trans l1) (s2.trans s1) R2
        rw [a2 j fun z => hj (List.mem_append_right _ z), a1 j fun z => hj (List.mem_append_left _ z)]
  · cases e
theorem btCons_len (hl : SGs X ts S bs) : True := trivial
theorem bs_len {n : Nat} (b : EvT) (bs : EvTs) (h : ∀ ds g g', bs ds g = some g' → ds.length = n) : ∀ ds g g', btCons b bs ds g = some g' → ds.length = n + 1 := by
  intro ds g g' e
  unfold btCons at e
  split at e
  · rename_i d ds
    split at e
    · cases e
    · rename_i g1 e1
      rw [List.length_cons, h ds g1 g' e]
  · cases e
theorem bs_nil : ∀ ds g g', btNil ds g = some g' → ds.length = 0 := by
  intro ds g g' e
  unfold btNil at e
  split at e
  · rfl
  · cases e
theorem sg_tup {k : Nat} {n : Nat} (hc : X.calm = true) (h : SGs X ts S bs) (hl : ∀ ds g g', bs ds g = some g' → ds.length = n) (hn : (assignEach ts X.env).length = n := by rfl) (hst : (assignEach ts X.env).findIdx? (·.1) = none := by rfl) :
    SG X (.Tuple ts k pos) S (btTup bs) := by
  constructor
  intro F Mo al g g' d v σ H Q e R0 is q
  unfold btTup at e
  split at e
  · rename_i ds
    cases is with
    | tup t ra => exact to_wg (pg_tup hc pgs_w hn hst) ⟨_, _, rfl, t.sq, by rw [ra.len]; exact hl _ _ _ e, h.run F Mo al g g' ds _ σ H Q e R0 ra q⟩
  · cases e
end

/-! ### list comprehensions -/
def gw : List Nat → G → G
  | [], g => g
  | i :: r, g => (gw r g).set i .no
def grs : List Nat → G → G → G
  | [], g, _ => g
  | i :: r, g, g0 => (grs r g g0).set i ((g0[i]?).getD .no)
def runLc (b : EvT) (c : EvB) (f : EvE) (vs : List Nat) : List D → List D → G → Option (List D × G)
  | [], acc, g => some (acc, g)
  | d :: ds, acc, g => match b d g with
    | none => none
    | some g1 => match c g1 with
      | none => none
      | some (false, g2) => runLc b c f vs ds acc (gw vs g2)
      | some (true, g2) => match toD f g2 with
        | none => none
        | some (y, g3) => runLc b c f vs ds (acc ++ [y]) (gw vs g3)
def plainAt (g : G) (i : Nat) : Bool := match g[i]? with
  | some (.ow _) => false
  | _ => true
def evLc (fi : EvA) (b : EvT) (c : EvB) (f : EvE) (vs : List Nat) : EvE := fun g => match fi g with
  | none => none
  | some (items, g1) => if vs.all (plainAt g1) = true then match runLc b c f vs items [] (gw vs g1) with
      | none => none
      | some (acc, g2) => some (.fr (.lst acc), grs vs g2 g1)
    else none
def evTrue : EvB := fun g => some (true, g)
abbrev WTs (X : Cx) (ifs : List Expr) : TT := fun σ H Q => ∀ (pins : List (Addr × Obj)) (s : Shared), Inv X pins σ H s →
  wpAny (model X.prog X.w) X.A (forIn ifs true fun c r => if r = true then do let ok ← isTrue c X.env (eval c X.env); pure (ForInStep.yield ok) else pure (ForInStep.yield r)) (TP X pins σ Q) X.xe s
/-- the tests of a comprehension's clause -/
structure STs (X : Cx) (ifs : List Expr) (f : EvB) : Prop where
  run :
  ∀ (F : Fx) (Mo : Ads) (al : Nat → Addr) (g : G) (k : Bool) (g' : G) (σ : L2.St) (H : Hp) (Q : Bool → Hp → Prop), f g = some (k, g') → Rel X.K F Mo al g σ H →
    (∀ H', Sub g' g → Rel X.K F Mo al g' σ H' → Q k H') → WTs X ifs σ H Q
section
variable {X : Cx} {c : Expr} {ifs : List Expr} {kc : EvB}
theorem pts_w : PTs X ifs (WTs X ifs) := ⟨fun pins s _ _ _ I h => h pins s I⟩
theorem to_wts {t : TT} (h : PTs X ifs t) {σ : L2.St} {H : Hp} {Q : Bool → Hp → Prop} (q : t σ H Q) : WTs X ifs σ H Q := fun pins s I => h.run pins s σ H Q I q
theorem sts_nil : STs X [] evTrue := by
  constructor
  intro F Mo al g k g' σ H Q ef R0 q
  cases ef
  exact to_wts pts_nil (q H (Sub.refl _) R0)
theorem sts_one (h : ST X c kc) : STs X [c] kc := by
  constructor
  intro F Mo al g k g' σ H Q ef R0 q
  exact to_wts (pts_one pt_w) (h.run F Mo al g k g' σ H Q ef R0 q)
end
section
variable {K : Fr} {F : Fx} {Mo : Ads} {al : Nat → Addr} {g g' g0 : G} {σ : L2.St} {H : Hp}
theorem Rel.wipe (r : Rel K F Mo al g σ H) : ∀ vs : List Nat, Rel K F Mo al (gw vs g) (L2.wipe σ vs) H
  | [] => r
  | i :: vs => by
    show Rel K F Mo al ((gw vs g).set i .no) ((L2.wipe σ vs).set i none) H
    exact (Rel.wipe r vs).wipe1 i _ (by rw [List.length_set]) fun j hj => List.getElem?_set_ne (Ne.symm hj)
theorem gw_sub : ∀ vs : List Nat, Sub (gw vs g) g
  | [] => Sub.refl _
  | i :: vs => (sub_no (g := gw vs g)).trans (gw_sub vs)
theorem Rel.other {σ' : L2.St} (r : Rel K F Mo al g σ H) (hl : σ'.length = σ.length) (h : ∀ (i : Nat) (x : V), σ[i]? = some (some x) → σ'[i]? = some (some x)) : Rel K F Mo al g σ' H := by
  refine ⟨r.len.trans hl.symm, fun i d e => ?_, fun i c e => ?_, r.inj, r.keep, r.mo, r.m0, r.n0⟩
  · obtain ⟨v, e1, is⟩ := r.im i d e
    exact ⟨v, h _ _ e1, is⟩
  · obtain ⟨e1, e2⟩ := r.ow i c e
    exact ⟨h _ _ e1, e2⟩
theorem wipe_set {i : Nat} {x : Option V} : ∀ {vs : List Nat} {σ : L2.St}, i ∈ vs → L2.wipe (σ.set i x) vs = L2.wipe σ vs
  | [], _, h => by simp at h
  | j :: vs, σ, h => by
    show (L2.wipe (σ.set i x) vs).set j none = (L2.wipe σ vs).set j none
    by_cases hv : i ∈ vs
    · rw [wipe_set hv]
    · have hij : i = j := (List.mem_cons.mp h).resolve_right hv
      subst hij
      have gen : ∀ (vs : List Nat), i ∉ vs → L2.wipe (σ.set i x) vs = (L2.wipe σ vs).set i x := by
        intro vs
        induction vs with
        | nil => intro _; rfl
        | cons k r ih =>
          intro hk
          show (L2.wipe (σ.set i x) r).set k none = ((L2.wipe σ r).set k none).set i x
          rw [ih fun z => hk (List.mem_cons_of_mem _ z), List.set_comm _ _ (fun z : i = k => hk (by simp [z]))]
      rw [gen vs hv, List.set_set]
theorem wipe_ext : ∀ {vs : List Nat} {σ σ' : L2.St}, σ'.length = σ.length → (∀ j, j ∉ vs → σ'[j]? = σ[j]?) → L2.wipe σ' vs = L2.wipe σ vs := by
  intro vs σ σ' hl h
  apply List.ext_getElem?
  intro j
  by_cases hj : j ∈ vs
  · have no : ∀ (σ : L2.St) (vs : List Nat), j ∈ vs → (L2.wipe σ vs)[j]? = if j < σ.length then some none else none := by
      intro σ vs
      induction vs with
      | nil => intro h; simp at h
      | cons k r ih =>
        intro hm
        show ((L2.wipe σ r).set k none)[j]? = _
        by_cases e : j = k
        · subst e
          by_cases hlt : j < σ.length
          · rw [if_pos hlt, List.getElem?_set_self (by rw [wipe_length]; exact hlt)]
          · rw [if_neg hlt, List.getElem?_eq_none (by rw [List.length_set, wipe_length]; omega)]
        · rw [List.getElem?_set_ne (Ne.symm e)]
          exact ih ((List.mem_cons.mp hm).resolve_left e)
    rw [no σ' vs hj, no σ vs hj, hl]
  · rw [wipe_out hj, wipe_out hj, h j hj]
theorem wipe_idem {vs : List Nat} : L2.wipe (L2.wipe σ vs) vs = L2.wipe σ vs := wipe_ext (wipe_length _ _) fun j hj => wipe_out hj
/-- the slots of the block's names are as they were -/
theorem Rel.restore (R1 : Rel K F Mo al g σ H) {M0' : Ads} {H0 : Hp} (go : Goes1 M0' (Av Mo al g) H0 H) (h0 : ∀ (i : Nat) (d : D), g0[i]? = some (Slot.im d) → ∃ v, σ[i]? = some (some v) ∧ Is K M0' H0 v d) :
    ∀ vs : List Nat, (vs.all (plainAt g0) = true) → Rel K F Mo al (grs vs g g0) σ H ∧ Sub (grs vs g g0) g
  | [], _ => ⟨R1, Sub.refl _⟩
  | i :: vs, h => by
    rw [List.all_cons, Bool.and_eq_true] at h
    obtain ⟨R2, s2⟩ := Rel.restore R1 go h0 vs h.2
    have hp := h.1
    show Rel K F Mo al ((grs vs g g0).set i ((g0[i]?).getD .no)) σ H ∧ Sub ((grs vs g g0).set i ((g0[i]?).getD .no)) g
    unfold plainAt at hp
    cases e : g0[i]? with
    | none => exact ⟨R2.wipe1 i σ rfl fun _ _ => rfl, sub_no.trans s2⟩
    | some x =>
      cases x with
      | no => exact ⟨R2.wipe1 i σ rfl fun _ _ => rfl, sub_no.trans s2⟩
      | ow c => rw [e] at hp; cases hp
      | im d =>
        obtain ⟨v, e1, is⟩ := h0 i d e
        have go2 : Goes1 M0' (Av Mo al (grs vs g g0)) H0 H := ⟨go.st, fun a o n q z => go.av a o n q (z.sub s2)⟩
        have R3 := R2.put (i := i) (is.go go2)
        refine ⟨?_, sub_im.trans s2⟩
        have es : σ.set i (some v) = σ := by
          apply List.ext_getElem?
          intro j
          by_cases hj : j = i
          · subst hj
            rw [List.getElem?_set_self (List.getElem?_eq_some_iff.mp e1).1, e1]
          · rw [List.getElem?_set_ne (Ne.symm hj)]
        rw [es] at R3
        exact R3
end
theorem runLc_len {b : EvT} {c : EvB} {f : EvE} {vs : List Nat} : ∀ {ds acc : List D} {g : G} {r : List D × G}, runLc b c f vs ds acc g = some r → r.1.length ≤ acc.length + ds.length
  | [], acc, g, r, e => by
    unfold runLc at e
    cases e
    exact Nat.le_add_right _ _
  | d :: ds, acc, g, r, e => by
    unfold runLc at e
    split at e
    · cases e
    · split at e
      · cases e
      · have := runLc_len e
        rw [List.length_cons]
        omega
      · split at e
        · cases e
        · have := runLc_len e
          rw [List.length_append, List.length_cons, List.length_nil] at this
          rw [List.length_cons]
          omega
/-- what the reading of a list comprehension asks, by its run -/
theorem lc_run {X : Cx} {tg iter elt : Expr} {ifs : List Expr} {scope : Scope} {own : List (Str × Nat)} {S : List Nat} {fi : EvA} {b : EvT} {c : EvB} {f : EvE}
    (hi : SI X tg iter fi) (hS : ∀ i ∈ S, i ∈ own.map (·.2))
    (hg : ∀ (s : Shared) (H : Hp) (C : Addr) (cl : List (Str × Addr)) (fp : List Addr), SG (X.blk s H scope (compEnvC scope cl C X.env) fp) tg S b)
    (ht : ∀ (s : Shared) (H : Hp) (C : Addr) (cl : List (Str × Addr)) (fp : List Addr), STs (X.blk s H scope (compEnvC scope cl C X.env) fp) ifs c)
    (he : ∀ (s : Shared) (H : Hp) (C : Addr) (cl : List (Str × Addr)) (fp : List Addr), SE (X.blk s H scope (compEnvC scope cl C X.env) fp) elt f)
    {F : Fx} {Mo : Ads} {al : Nat → Addr} {g : G} {r : R} {g' : G} {σ : L2.St} {H : Hp} {Q : VK} (ef : evLc fi b c f (own.map (·.2)) g = some (r, g')) (R0 : Rel X.K F Mo al g σ H)
    (q : ∀ v H', Sub g' g → Res X.K F Mo al g' σ H H' v r → Q v H') :
    tLc (WI X tg iter) (fun v σ H Q => ∀ (s : Shared) (H0 : Hp) (C : Addr) (cl : List (Str × Addr)) (fp : List Addr), WG (X.blk s H0 scope (compEnvC scope cl C X.env) fp) tg v σ H Q)
      (fun σ H Q => ∀ (s : Shared) (H0 : Hp) (C : Addr) (cl : List (Str × Addr)) (fp : List Addr), WTs (X.blk s H0 scope (compEnvC scope cl C X.env) fp) ifs σ H Q)
      (fun σ H Q => ∀ (s : Shared) (H0 : Hp) (C : Addr) (cl : List (Str × Addr)) (fp : List Addr), WE (X.blk s H0 scope (compEnvC scope cl C X.env) fp) elt σ H Q) (own.map (·.2)) σ H Q := by
  have hl : ∀ vs, own.map (·.2) = vs → tLc (WI X tg iter) (fun v σ H Q => ∀ (s : Shared) (H0 : Hp) (C : Addr) (cl : List (Str × Addr)) (fp : List Addr), WG (X.blk s H0 scope (compEnvC scope cl C X.env) fp) tg v σ H Q)
      (fun σ H Q => ∀ (s : Shared) (H0 : Hp) (C : Addr) (cl : List (Str × Addr)) (fp : List Addr), WTs (X.blk s H0 scope (compEnvC scope cl C X.env) fp) ifs σ H Q)
      (fun σ H Q => ∀ (s : Shared) (H0 : Hp) (C : Addr) (cl : List (Str × Addr)) (fp : List Addr), WE (X.blk s H0 scope (compEnvC scope cl C X.env) fp) elt σ H Q) vs σ H Q := by
    intro vs evs
    rw [evs] at ef hS
    unfold evLc at ef
    split at ef
    · cases ef
    · rename_i items g1 ei
      split at ef
      · rename_i hpl
        split at ef
        · cases ef
        · rename_i accF g2 er
          cases ef
          refine hi.run (F.here al g H) Mo al g items g1 σ H _ ei R0.here fun J H1 s1 R1' wk hsz => ?_
          have R1 := R0.back R1'
          have k1 := R1'.kp
          intro Z hD
          have hDH : H Z = none := by
            cases z : H Z with
            | none => rfl
            | some x => exact (k1.gr Z (by rw [z]; exact fun y => nomatch y) hD).elim
          have RH : Rel X.K ((F.here al g1 H1)) (With Mo Z) al g1 σ (upd H1 Z (.lst [])) := (R1.here).fresh (same_new hD) hD (by rw [upd_same]; exact fun y => nomatch y)
          have Rw := RH.wipe vs
          refine ⟨fun i m Hc => i + m = items.length ∧ ∃ (acc : List D) (accV : List V) (gc : G), runLc b c f vs (items.drop i) acc gc = some (accF, g2) ∧ Hc Z = some (.lst accV) ∧
            IsAll X.K (Av (With Mo Z) al gc) Hc accV acc ∧ Rel X.K (F.here al g1 H1) (With Mo Z) al gc (L2.wipe σ vs) Hc ∧ Sub gc g1 ∧ acc.length ≤ i, ⟨items.length, by omega, [], [], gw vs g1, er, upd_same, .nil, Rw, gw_sub vs, Nat.le_refl _⟩, ?_⟩
          rintro i m Hc ⟨hm, acc, accV, gc, e, eD, ia, Rc, sc, hla⟩
          have go : Goes1 (Av Mo al g1) (Av (With Mo Z) al gc) H1 Hc := by
            refine ⟨fun a o n z => Rc.keep a o (fun y => n (.inr y)) z, fun a o n z y => ?_⟩
            rcases y with (y | y) | y
            · exact n (.inl y)
            · rw [y, hD] at z; cases z
            · exact n (.inr (y.sub sc))
          obtain ⟨wst, wgo⟩ := wk _ Hc go fun a z => Rc.trk z
          by_cases hi' : i < items.length
          · right
            obtain ⟨jg, jy⟩ := wgo i items[i] (List.getElem?_eq_getElem hi')
            refine ⟨jg, fun Hx => ∃ m', m' < m ∧ (i + 1 + m' = items.length ∧ ∃ (acc : List D) (accV : List V) (gc : G), runLc b c f vs (items.drop (i + 1)) acc gc = some (accF, g2) ∧ Hx Z = some (.lst accV) ∧
              IsAll X.K (Av (With Mo Z) al gc) Hx accV acc ∧ Rel X.K (F.here al g1 H1) (With Mo Z) al gc (L2.wipe σ vs) Hx ∧ Sub gc g1 ∧ acc.length ≤ i + 1), fun H' z => z, ?_⟩
            intro x H' hy
            obtain ⟨sm, isx⟩ := jy x H' hy
            rw [List.drop_eq_getElem_cons hi'] at e
            unfold runLc at e
            split at e
            · cases e
            · rename_i gb eb
              have RcH' := Rc.same sm
              intro s0 H0 C cl fp
              refine (hg s0 H0 C cl fp).run _ (With Mo Z) al gc gb _ x _ H' _ eb RcH' isx fun σ2 a2 l2 s2 R2 => ?_
              have hw : L2.wipe σ2 vs = L2.wipe σ vs := by
                rw [← wipe_idem (σ := σ) (vs := vs)]
                exact wipe_ext l2 fun j hj => a2 j fun z => hj (hS j z)
              refine ⟨hw, fun s0' H0' C' cl' fp' => ?_⟩
              split at e
              · cases e
              · rename_i g3 ec
                refine (ht s0' H0' C' cl' fp').run (((F.here al g1 H1)).here al gb H') (With Mo Z) al gb false g3 σ2 H' _ ec R2.here fun H3 s3 R3' => iteF ?_
                have R3 := R2.back R3'
                have k3 := R3'.kp
                have R3w := R3.wipe vs
                rw [hw] at R3w
                have goa : Goes1 (Av (With Mo Z) al gc) (Av (With Mo Z) al (gw vs g3)) Hc H3 := by
                  refine ⟨fun a o n z => k3.st a o (fun y => n (.inr (y.sub s2))) (sm a o z), fun a o n z y => n (y.sub ((gw_sub vs).trans (s3.trans s2)))⟩
                have eD3 : H3 Z = some (.lst accV) := k3.st Z _ (fun y => (by
                  obtain ⟨j, c', h1, h2⟩ := y
                  exact (R2.ow j c' h1).2.2.2.1 (.inr h2.symm))) (sm Z _ eD)
                exact ⟨m - 1, by omega, by omega, acc, accV, gw vs g3, e, eD3, ia.go goa, R3w, (gw_sub vs).trans (s3.trans (s2.trans sc)), by omega⟩
              · rename_i g3 ec
                refine (ht s0' H0' C' cl' fp').run (((F.here al g1 H1)).here al gb H') (With Mo Z) al gb true g3 σ2 H' _ ec R2.here fun H3 s3 R3' => iteT ?_
                have R3 := R2.back R3'
                have k3 := R3'.kp
                split at e
                · cases e
                · rename_i y g4 ey
                  intro s0'' H0'' C'' cl'' fp''
                  refine (he s0'' H0'' C'' cl'' fp'').data ey R3 fun w H4 s4 k4 R4 isw => ?_
                  have nD : ∀ {gx : G} {σx : L2.St} {Hx : Hp}, Rel X.K (F.here al g1 H1) (With Mo Z) al gx σx Hx → ¬ Owd al gx Z := fun Rx y => by
                    obtain ⟨j, c', h1, h2⟩ := y
                    exact (Rx.ow j c' h1).2.2.2.1 (.inr h2.symm)
                  have eD4 : H4 Z = some (.lst accV) := k4.st Z _ (nD R3) (k3.st Z _ (nD R2) (sm Z _ eD))
                  have lnv : accV.length < sizeLine := by
                    rw [ia.len]
                    omega
                  have ku : Kp (fun a => a = Z) H4 (upd H4 Z (.lst (accV ++ [w]))) := Kp.upd
                  have goa : Goes1 (Av (With Mo Z) al gc) (Av (With Mo Z) al (gw vs g4)) Hc (upd H4 Z (.lst (accV ++ [w]))) := by
                    refine ⟨fun a o n z => ku.st a o (fun y => n (.inl (.inr y))) (k4.st a o (fun y => n (.inr (y.sub (s3.trans s2)))) (k3.st a o (fun y => n (.inr (y.sub s2))) (sm a o z))), fun a o n z y => n (y.sub ((gw_sub vs).trans (s4.trans (s3.trans s2))))⟩
                  have gow : Goes1 (Av (With Mo Z) al g4) (Av (With Mo Z) al (gw vs g4)) H4 (upd H4 Z (.lst (accV ++ [w]))) :=
                    ⟨fun a o n z => ku.st a o (fun y => n (.inl (.inr y))) z, fun a o n z y => n (y.sub (gw_sub vs))⟩
                  have R5 : Rel X.K (F.here al g1 H1) (With Mo Z) al g4 σ2 (upd H4 Z (.lst (accV ++ [w]))) := by
                    have gg : Goes1 (Av (With Mo Z) al g4) (Av (With Mo Z) al g4) H4 (upd H4 Z (.lst (accV ++ [w]))) := ⟨fun a o n z => ku.st a o (fun y => n (.inl (.inr y))) z, fun a o n _ => n⟩
                    refine ⟨R4.len, fun j d hj => ?_, fun j c' hj => ?_, R4.inj, fun a o n z => ?_, fun a z => ku.gr a (R4.mo a z), fun a z => ku.gr a (R4.m0 a z), fun a z => R4.n0 a ?_⟩
                    · obtain ⟨v', e1, i1⟩ := R4.im j d hj
                      exact ⟨v', e1, i1.go gg⟩
                    · obtain ⟨e1, e2, e3⟩ := R4.ow j c' hj
                      obtain ⟨oo, eoo⟩ := e2.some
                      exact ⟨e1, e2.go gg ((ku.st _ _ (fun y => nD R4 ⟨j, c', hj, y.symm⟩) eoo).trans eoo.symm), e3⟩
                    · refine ku.st a o (fun y => ?_) (R4.keep a o n z)
                      rw [y] at z
                      have : H1 Z = some o := z
                      rw [hD] at this
                      cases this
                    · cases ez : H4 a with
                      | none => rfl
                      | some o => exact (ku.gr a (by rw [ez]; exact fun y => nomatch y) z).elim
                  have R5w := R5.wipe vs
                  rw [hw] at R5w
                  refine ⟨accV, eD4, lnv, m - 1, by omega, by omega, acc ++ [y], accV ++ [w], gw vs g4, e, upd_same, (ia.go goa).app (.one (isw.go gow)), R5w, (gw_sub vs).trans (s4.trans (s3.trans (s2.trans sc))), ?_⟩
                  rw [List.length_append, List.length_cons, List.length_nil]
                  omega
          · left
            refine ⟨wst i (by omega), ?_⟩
            rw [List.drop_eq_nil_of_le (by omega)] at e
            unfold runLc at e
            cases e
            -- the end: the new list, the slots as they were
            have Rb : Rel X.K F (With Mo Z) al g2 (L2.wipe σ vs) Hc := R1.back Rc
            have Rσ : Rel X.K F (With Mo Z) al g2 σ Hc := Rb.other (wipe_length σ vs).symm fun j x hx => (wipe_some hx).1
            obtain ⟨Rf, sf⟩ := Rσ.restore (g0 := g1) (M0' := Av Mo al g1) (H0 := H1) go (fun j d hj => R1.im j d hj) vs hpl
            refine q _ Hc (sf.trans (sc.trans s1)) ⟨Z, rfl, hDH, Rf, accV, eD, ia.go ⟨fun a o _ z => z, fun a o n _ z => n (z.sub sf)⟩⟩
      · cases ef
  exact hl _ rfl
section
variable {X : Cx} {tg iter elt : Expr} {ifs : List Expr} {scope : Scope} {own : List (Str × Nat)} {S : List Nat} {fi : EvA} {b : EvT} {c : EvB} {f : EvE} {pos : Pos}
theorem se_lc {vs : List Nat} (hc : X.calm = true) (hN : X.N.Nodup) (hi : SI X tg iter fi) (ok : BlkOk X.N X.env.scope scope own) (hS : ∀ i ∈ S, i ∈ own.map (·.2))
    (hg : ∀ (s : Shared) (H : Hp) (C : Addr) (cl : List (Str × Addr)) (fp : List Addr), SG (X.blk s H scope (compEnvC scope cl C X.env) fp) tg S b)
    (ht : ∀ (s : Shared) (H : Hp) (C : Addr) (cl : List (Str × Addr)) (fp : List Addr), STs (X.blk s H scope (compEnvC scope cl C X.env) fp) ifs c)
    (he : ∀ (s : Shared) (H : Hp) (C : Addr) (cl : List (Str × Addr)) (fp : List Addr), SE (X.blk s H scope (compEnvC scope cl C X.env) fp) elt f) (hv : own.map (·.2) = vs) (hs : ∀ x, foldedSetIterable iter X.env x = pure x := by intro _; rfl) :
    SE X (.ListComp elt [⟨tg, iter, ifs, 0⟩] scope pos) (evLc fi b c f vs) := by
  subst hv
  constructor
  intro F Mo al g r g' σ H Q ef R0 q
  exact to_w (pe_lc hc hN pi_w ok (fun s H C cl fp => ⟨fun pins s' σ H v u Q I r h => h s _ C cl fp pins s' u I r⟩) (fun s H C cl fp => ⟨fun pins s' σ H Q I h => h s _ C cl fp pins s' I⟩) (fun s H C cl fp => ⟨fun pins s' σ H Q I h => h s _ C cl fp pins s' I⟩) hs) (lc_run hi hS hg ht he ef R0 q)
end
end Pu
end

section
set_option Elab.async false
set_option linter.all false
set_option maxRecDepth 100000
set_option maxHeartbeats 4000000
/-! PuG: calls of the text's own defs, methods of owned lists, statements, loops, a def's promise. -/
namespace Pu
open PySem L2

/-! ### promises -/
/-- a def of n plain arguments: it hands back what sem says; nothing that stood is changed -/
def spF (K : Fr) (n : Nat) (sem : List D → Option R) : Sp := fun vs H Q _ => ∃ (M : Ads) (ds : List D) (r : R), sem ds = some r ∧ vs.length = n ∧ IsAll K M H vs ds ∧ (∀ a, M a → H a ≠ none) ∧ ∀ v H', NewV K M H H' v r → Q v H'
/-- .. whose first argument is a list of the caller's own that it may change -/
def NewC (K : Fr) (M : Ads) (a : Addr) (H H' : Hp) (v : V) (c' : Ow) : R → Prop
  | .im d => Kp (fun b => b = a) H H' ∧ OwnAt K (With M a) H' a c' ∧ Is K (With M a) H' v d
  | .fr c => Kp (fun b => b = a) H H' ∧ ∃ p, v = .ref p ∧ H p = none ∧ OwnAt K (With (With M a) p) H' a c' ∧ OwnAt K (With (With M a) p) H' p c
  | .sl _ => False
def spC (K : Fr) (n : Nat) (sem : Ow → List D → Option (R × Ow)) : Sp := fun vs H Q _ => ∃ (M : Ads) (a : Addr) (vs' : List V) (c c' : Ow) (ds : List D) (r : R), sem c ds = some (r, c') ∧ vs = .ref a :: vs' ∧ vs'.length = n ∧ ¬ M a ∧
  OwnAt K (With M a) H a c ∧ IsAll K (With M a) H vs' ds ∧ (∀ b, M b → H b ≠ none) ∧ ∀ v H', NewC K M a H H' v c' r → Q v H'
/-- the name x of the module is a def that keeps a promise -/
def DefAt (P : Program) (w : World) (K : Fr) (mg : Str → Option Value) (base : Heap) (k : Nat) (x : Str) (n : Nat) (sp : Sp) : Prop :=
  ∃ (f : Addr) (fd : FuncData) (ps : List Str), ps.length = n ∧ FnOk P w K mg base CX0 k f fd ps sp ∧ mg x = some (.ref f) ∧ PySem.W.keepIn K (.ref f) = true ∧ Binds K fd ps []
abbrev DefF (X : Cx) (k : Nat) (x : Str) (n : Nat) (sem : List D → Option R) : Prop := DefAt X.prog X.w X.K X.mg X.base k x n (spF X.K n sem)
abbrev DefC (X : Cx) (k : Nat) (x : Str) (n : Nat) (sem : Ow → List D → Option (R × Ow)) : Prop := DefAt X.prog X.w X.K X.mg X.base k x (n + 1) (spC X.K n sem)
def evCall (fs : EvA) (sem : List D → Option R) : EvE := fun g => match fs g with
  | none => none
  | some (ds, g1) => match sem ds with
    | none => none
    | some r => some (r, g1)
def evCallC (i : Nat) (fs : EvA) (sem : Ow → List D → Option (R × Ow)) : EvE := fun g => match g[i]? with
  | some (.ow _) => match fs g with
    | none => none
    | some (ds, g1) => match g1[i]? with
      | some (.ow (b, c)) => match sem c ds with
        | none => none
        | some (r, c') => some (r, g1.set i (.ow (b, c')))
      | _ => none
  | _ => none
section
variable {X : Cx} {e a : Expr} {es : List Expr} {fa : EvE} {fs : EvA} {k n : Nat} {x : Str} {p pos : Pos}
theorem se_call {sem : List D → Option R} (Df : DefF X k x n sem) (hr : Room k X.A) (hg : Gl X x) (ha : SA X (e :: es) fs) (hn : (e :: es).length = n := by rfl) (hdb : (x == ("__debug__" : Str)) = false := by decide)
    (he : notStar e = true := by kernel_rfl) (hpl : es.all notStar = true := by kernel_rfl) : SE X (.Call (.Name x p) (e :: es) [] pos) (evCall fs sem) := by
  obtain ⟨f, fd, ps, hl, Fk, hm, hk, hb⟩ := Df
  constructor
  intro F Mo al g r g' σ H Q ef R0 q
  unfold evCall at ef
  split at ef
  · cases ef
  · rename_i ds g1 e1
    split at ef
    · cases ef
    · rename_i r1 er
      cases ef
      refine to_w (pe_call Fk hr hg hm hk hb .nil pass0 pa_w hdb (star_cons he) (star_any hpl)) (ha.go e1 R0 fun vs H1 s k1 R1 is l => ?_)
      refine ⟨Av Mo al g', ds, r, er, by rw [List.append_nil, l, hn], by rw [List.append_nil]; exact is, fun a z => R1.trk z, fun v H' nv => q v H' s (nv.res R1 k1.gr)⟩
theorem se_call0 {sem : List D → Option R} (Df : DefF X k x 0 sem) (hr : Room k X.A) (hg : Gl X x) (hdb : (x == ("__debug__" : Str)) = false := by decide) : SE X (.Call (.Name x p) [] [] pos) (evCall evNil sem) := by
  obtain ⟨f, fd, ps, hl, Fk, hm, hk, hb⟩ := Df
  constructor
  intro F Mo al g r g' σ H Q ef R0 q
  unfold evCall evNil at ef
  split at ef
  · cases ef
  · rename_i ds g1 e1
    cases e1
    split at ef
    · cases ef
    · rename_i r1 er
      cases ef
      exact to_w (pe_call0 Fk hr hg hm hk hb .nil pass0 hdb) ⟨Av Mo al g, [], r, er, rfl, .nil, fun a z => R0.trk z, fun v H' nv => q v H' (Sub.refl _) (nv.res R0 fun a z => z)⟩
theorem se_callC {i : Nat} {sem : Ow → List D → Option (R × Ow)} (Df : DefC X k x n sem) (hr : Room k X.A) (hg : Gl X x) (hv : PE X a (tVar i)) (ha : SA X es fs) (hn : es.length = n := by rfl) (hdb : (x == ("__debug__" : Str)) = false := by decide)
    (he : notStar a = true := by kernel_rfl) (hpl : es.all notStar = true := by kernel_rfl) : SE X (.Call (.Name x p) (a :: es) [] pos) (evCallC i fs sem) := by
  obtain ⟨f, fd, ps, hl, Fk, hm, hk, hb⟩ := Df
  constructor
  intro F Mo al g r g' σ H Q ef R0 q
  unfold evCallC at ef
  split at ef
  · rename_i c0 e0
    split at ef
    · cases ef
    · rename_i ds g1 e1
      split at ef
      · rename_i b c ec
        split at ef
        · cases ef
        · rename_i r1 c' er
          cases ef
          obtain ⟨ev, _⟩ := R0.ow i c0 e0
          refine to_w (pe_call Fk hr hg hm hk hb .nil pass0 (pa_cons hv pa_w (star_cons he)) hdb (star_cons he) (star_any hpl)) ⟨_, ev, ha.go e1 R0 fun vs H1 s k1 R1 is l => ?_⟩
          obtain ⟨ev1, own1, _, nm1, _⟩ := R1.ow i (b, c) ec
          have av : ∀ a, Av Mo al g1 a → With (fun a => Av Mo al g1 a ∧ a ≠ al i) (al i) a := fun a z => by
            by_cases y : a = al i
            · exact .inr y
            · exact .inl ⟨z, y⟩
          have va : ∀ a, With (fun a => Av Mo al g1 a ∧ a ≠ al i) (al i) a → Av Mo al g1 a := fun a z => by
            rcases z with z | z
            · exact z.1
            · rw [z]; exact .inr ⟨i, (b, c), ec, rfl⟩
          have go1 : Goes1 (Av Mo al g1) (With (fun a => Av Mo al g1 a ∧ a ≠ al i) (al i)) H1 H1 := ⟨fun a o _ e => e, fun a o nn _ z => nn (va a z)⟩
          refine ⟨fun a => Av Mo al g1 a ∧ a ≠ al i, al i, vs, c, c', ds, r, er, by rw [List.append_nil], by rw [l, hn], fun z => z.2 rfl, own1.go go1 rfl, is.go go1, fun b z => R1.trk z.1, fun v H' nv => ?_⟩
          have s' : Sub (g1.set i (.ow (b, c'))) g := fun j c2 h => by
            rcases get_set_cases h with ⟨rfl, _, _⟩ | ⟨_, q⟩
            · exact s _ _ ec
            · exact s _ _ q
          have avs : ∀ a, Av Mo al (g1.set i (.ow (b, c'))) a → Av Mo al g1 a := by
            rintro a (z | ⟨j, d, h1, h2⟩)
            · exact .inl z
            · rcases get_set_cases h1 with ⟨rfl, _, _⟩ | ⟨_, q⟩
              · exact .inr ⟨_, _, ec, h2⟩
              · exact .inr ⟨j, d, q, h2⟩
          cases r with
          | sl j => exact (show False from nv).elim
          | im d =>
            obtain ⟨kk, o2, isd⟩ := nv
            have go2 : Goes1 (With (fun a => Av Mo al g1 a ∧ a ≠ al i) (al i)) (Av Mo al g1) H' H' := ⟨fun a o _ e => e, fun a o nn _ z => nn (av a z)⟩
            have R2 := R1.mut ec kk (o2.go go2 rfl)
            refine q v H' s' ⟨R2, isd.go ⟨fun a o _ e => e, fun a o nn _ z => nn (av a (avs a z))⟩⟩
          | fr c2 =>
            obtain ⟨kk, pp, rfl, hpp, o2, o3⟩ := nv
            have hpH : H pp = none := by
              cases z : H pp with
              | none => rfl
              | some y => exact (k1.gr pp (by rw [z]; exact fun y => nomatch y) hpp).elim
            obtain ⟨oo, eo⟩ := o3.some
            have R2 : Rel X.K F (With Mo pp) al g1 σ (upd H1 pp oo) := R1.fresh (same_new hpp) hpp (by rw [upd_same]; exact fun y => nomatch y)
            have npi : pp ≠ al i := fun z => by
              obtain ⟨ox, ex⟩ := own1.some
              rw [← z, hpp] at ex
              cases ex
            have kk2 : Kp (fun b => b = al i) (upd H1 pp oo) H' := ⟨fun a o nn e => by
              by_cases z : a = pp
              · subst z
                rw [upd_same] at e
                cases e
                exact eo
              · rw [upd_ne z] at e
                exact kk.st a o nn e, fun a nn => by
              by_cases z : a = pp
              · subst z
                rw [eo]
                exact fun y => nomatch y
              · rw [upd_ne z] at nn
                exact kk.gr a nn⟩
            have go2 : Goes1 (With (With (fun a => Av Mo al g1 a ∧ a ≠ al i) (al i)) pp) (Av (With Mo pp) al g1) H' H' := ⟨fun a o _ e => e, fun a o nn _ z => nn ((av_with.mp z).imp (av a) id)⟩
            have R3 := R2.mut ec kk2 (o2.go go2 rfl)
            have avs2 : ∀ a, Av (With Mo pp) al (g1.set i (.ow (b, c'))) a → Av (With Mo pp) al g1 a := fun a z => av_with.mpr ((av_with.mp z).imp (avs a) id)
            exact q _ H' s' ⟨pp, rfl, hpH, R3, o3.go ⟨fun a o _ e => e, fun a o nn _ z => nn ((av_with.mp (avs2 a z)).imp (av a) id)⟩ rfl⟩
      · cases ef
  · cases ef

/-! ### methods of an owned list -/
def evApp (i : Nat) (fa : EvE) : EvE := fun g => match g[i]? with
  | some (.ow (_, .lst _)) => match toD fa g with
    | none => none
    | some (d, g1) => match g1[i]? with
      | some (.ow (b, .lst xs)) => if xs.length < sizeLine then some (.im .non, g1.set i (.ow (b, .lst (xs ++ [d])))) else none
      | _ => none
  | _ => none
theorem set_sub {g : G} {i : Nat} {c c' : Oc} (h : g[i]? = some (.ow c)) : Sub (g.set i (.ow c')) g := fun j c2 q => by
  rcases get_set_cases q with ⟨rfl, _, _⟩ | ⟨_, q⟩
  · exact ⟨c, h⟩
  · exact ⟨c2, q⟩
theorem av_set {Mo : Ads} {al : Nat → Addr} {g : G} {i : Nat} {c c' : Oc} (h : g[i]? = some (.ow c)) : ∀ a, Av Mo al (g.set i (.ow c')) a → Av Mo al g a := fun a z => z.sub (set_sub h)
variable {apos cpos : Pos} {o : Expr}
theorem se_append {i : Nat} (h : PE X e (tBM X.K "list" rAppend (tVar i) (tCons (WE X a) tNil))) (ha : SE X a fa) : SE X e (evApp i fa) := by
  constructor
  intro F Mo al g r g' σ H Q ef R0 q
  unfold evApp at ef
  split at ef
  · rename_i b0 xs0 e0
    split at ef
    · cases ef
    · rename_i d g1 e1
      split at ef
      · rename_i b xs ec
        split at ef
        · rename_i hl
          cases ef
          obtain ⟨ev, ⟨vs0, ov0, _⟩, _⟩ := R0.ow i _ e0
          refine to_w h ⟨_, ev, .inl ⟨rfl, _, .of ov0⟩, ha.data e1 R0 fun v H1 s k1 R1 is => ?_⟩
          obtain ⟨ev1, ⟨vs1, ov1, ia1⟩, _⟩ := R1.ow i _ ec
          refine ⟨_, vs1, v, rfl, rfl, ov1, by rw [ia1.len]; exact hl, ?_⟩
          have kk : Kp (fun b => b = al i) H1 (upd H1 (al i) (.lst (vs1 ++ [v]))) := Kp.upd
          have gg : Goes1 (Av Mo al g1) (Av Mo al g1) H1 (upd H1 (al i) (.lst (vs1 ++ [v]))) := ⟨fun a o n z => kk.st a o (fun y => n (by rw [y]; exact .inr ⟨i, _, ec, rfl⟩)) z, fun a o n _ => n⟩
          have R2 := R1.mut (c' := .lst (xs ++ [d])) ec kk ⟨_, upd_same, (ia1.go gg).app (.one (is.go gg))⟩
          exact q _ _ ((set_sub ec).trans s) ⟨R2, .non⟩
        · cases ef
      · cases ef
  · cases ef
def evExt (i : Nat) (fa : EvE) : EvE := fun g => match g[i]? with
  | some (.ow (_, .lst _)) => match toD fa g with
    | some (.lst ys, g1) => match g1[i]? with
      | some (.ow (b, .lst xs)) => if xs.length + ys.length ≤ sizeLine then some (.im .non, g1.set i (.ow (b, .lst (xs ++ ys)))) else none
      | _ => none
    | _ => none
  | _ => none
theorem se_extend {i : Nat} (h : PE X e (tBM X.K "list" rExtend (tVar i) (tCons (WE X a) tNil))) (ha : SE X a fa) : SE X e (evExt i fa) := by
  constructor
  intro F Mo al g r g' σ H Q ef R0 q
  unfold evExt at ef
  split at ef
  · rename_i b0 xs0 e0
    split at ef
    · rename_i ys g1 e1
      split at ef
      · rename_i b xs ec
        split at ef
        · rename_i hl
          cases ef
          obtain ⟨ev, ⟨vs0, ov0, _⟩, _⟩ := R0.ow i _ e0
          refine to_w h ⟨_, ev, .inl ⟨rfl, _, .of ov0⟩, ha.data e1 R0 fun v H1 s k1 R1 is => ?_⟩
          obtain ⟨ev1, ⟨vs1, ov1, ia1⟩, _⟩ := R1.ow i _ ec
          cases is with
          | lst t ra =>
          rename_i pb ws
          refine ⟨_, _, vs1, ws, rfl, rfl, ov1, t.2, by rw [ia1.len, ra.len]; exact hl, ?_⟩
          have kk : Kp (fun b => b = al i) H1 (upd H1 (al i) (.lst (vs1 ++ ws))) := Kp.upd
          have gg : Goes1 (Av Mo al g1) (Av Mo al g1) H1 (upd H1 (al i) (.lst (vs1 ++ ws))) := ⟨fun a o n z => kk.st a o (fun y => n (by rw [y]; exact .inr ⟨i, _, ec, rfl⟩)) z, fun a o n _ => n⟩
          have R2 := R1.mut (c' := .lst (xs ++ ys)) ec kk ⟨_, upd_same, (ia1.go gg).app (ra.go gg)⟩
          exact q _ _ ((set_sub ec).trans s) ⟨R2, .non⟩
        · cases ef
      · cases ef
    · cases ef
  · cases ef
end

/-! ### statements -/
inductive Out where
  | nx
  | bk
  | ct
  | rt (r : R)
abbrev EvS := G → Option (Out × G)
def RetR (K : Fr) (F : Fx) (Mo : Ads) (al : Nat → Addr) (g' : G) (σ : L2.St) (v : V) (H' : Hp) : R → Prop
  | .im d => Rel K F Mo al g' σ H' ∧ Is K (Av Mo al g') H' v d
  | .fr c => ∃ p, v = .ref p ∧ F.N0 p ∧ ¬ Mo p ∧ Rel K F (With Mo p) al g' σ H' ∧ OwnAt K (Av (With Mo p) al g') H' p c
  | .sl _ => False
def Post (K : Fr) (F : Fx) (Mo : Ads) (E : Ends) (g' : G) : Out → Prop
  | .nx => ∀ al' σ' H', Rel K F Mo al' g' σ' H' → E.nx σ' H'
  | .bk => ∀ al' σ' H', Rel K F Mo al' g' σ' H' → E.bk σ' H'
  | .ct => ∀ al' σ' H', Rel K F Mo al' g' σ' H' → E.ct σ' H'
  | .rt r => ∀ al' σ' v H', RetR K F Mo al' g' σ' v H' r → E.rt v H'
abbrev WS (X : Cx) (st : Stmt) : TS := fun E σ H => ∀ (pins : List (Addr × Obj)) (s : Shared), Inv X pins σ H s → wpAny (model X.prog X.w) X.A (exec st X.env) (SP X pins E) X.xe s
abbrev WSs (X : Cx) (st : List Stmt) : TS := fun E σ H => ∀ (pins : List (Addr × Obj)) (s : Shared), Inv X pins σ H s → wpAny (model X.prog X.w) X.A (execs st X.env) (SP X pins E) X.xe s
structure SS (X : Cx) (st : Stmt) (f : EvS) : Prop where
  run :
  ∀ (F : Fx) (Mo : Ads) (al : Nat → Addr) (g : G) (o : Out) (g' : G) (σ : L2.St) (H : Hp) (E : Ends), f g = some (o, g') → Rel X.K F Mo al g σ H → Post X.K F Mo E g' o → WS X st E σ H
structure SSs (X : Cx) (st : List Stmt) (f : EvS) : Prop where
  run :
  ∀ (F : Fx) (Mo : Ads) (al : Nat → Addr) (g : G) (o : Out) (g' : G) (σ : L2.St) (H : Hp) (E : Ends), f g = some (o, g') → Rel X.K F Mo al g σ H → Post X.K F Mo E g' o → WSs X st E σ H
def evNext : EvS := fun g => some (.nx, g)
def evSeq (f h : EvS) : EvS := fun g => match f g with
  | none => none
  | some (.nx, g') => h g'
  | some (o, g') => some (o, g')
def evIfS (k : EvB) (f h : EvS) : EvS := fun g => match k g with
  | none => none
  | some (true, g') => f g'
  | some (false, g') => h g'
def evX (f : EvE) : EvS := fun g => match f g with
  | none => none
  | some (_, g') => some (.nx, g')
def evRet (f : EvE) : EvS := fun g => match f g with
  | none => none
  | some (.im d, g') => some (.rt (.im d), g')
  | some (.fr c, g') => some (.rt (.fr c), g')
  | some (.sl i, g') => match g'[i]? with
    | some (.ow (false, c)) => some (.rt (.fr c), g'.set i .no)
    | _ => none
def evSet (i : Nat) (f : EvE) : EvS := fun g => match f g with
  | none => none
  | some (.fr c, g') => some (.nx, g'.set i (.ow (false, c)))
  | some (r, g') => match settle (r, g') with
    | none => none
    | some (d, g2) => some (.nx, g2.set i (.im d))
section
variable {X : Cx} {st : Stmt} {sts : List Stmt} {e a b c : Expr} {f h : EvS} {fe fa fb : EvE} {kc : EvB} {pos : Pos}
theorem ps_ww : PS X st (WS X st) := ⟨fun pins s _ _ _ I h => h pins s I⟩
theorem pss_ww : PSs X sts (WSs X sts) := ⟨fun pins s _ _ _ I h => h pins s I⟩
theorem to_ws {t : TS} (h : PS X st t) {E : Ends} {σ : L2.St} {H : Hp} (q : t E σ H) : WS X st E σ H := fun pins s I => h.run pins s σ H E I q
theorem to_wss {t : TS} (h : PSs X sts t) {E : Ends} {σ : L2.St} {H : Hp} (q : t E σ H) : WSs X sts E σ H := fun pins s I => h.run pins s σ H E I q
theorem sss_nil : SSs X [] evNext := by
  constructor
  intro F Mo al g o g' σ H E ef R0 q
  cases ef
  exact to_wss pss_nil (q al σ H R0)
theorem sss_cons (h1 : SS X st f) (h2 : SSs X sts h) : SSs X (st :: sts) (evSeq f h) := by
  constructor
  intro F Mo al g o g' σ H E ef R0 q
  unfold evSeq at ef
  split at ef
  · cases ef
  · rename_i g1 e1
    exact to_wss (pss_cons ps_ww pss_ww) (h1.run F Mo al g .nx g1 σ H _ e1 R0 fun al' σ' H' R1 => h2.run F Mo al' g1 o g' σ' H' E ef R1 q)
  · rename_i o1 g1 hno e1
    cases ef
    refine to_wss (pss_cons ps_ww pss_ww) (h1.run F Mo al g o g' σ H _ e1 R0 ?_)
    cases o with
    | nx => exact (hno rfl).elim
    | bk => exact q
    | ct => exact q
    | rt r => exact q
theorem sss_one (h1 : SS X st f) : SSs X [st] f := by
  constructor
  intro F Mo al g o g' σ H E ef R0 q
  exact to_wss (pss_one ps_ww) (h1.run F Mo al g o g' σ H E ef R0 q)
theorem ss_if (hc : ST X c kc) (h1 : SSs X sts f) {sts2 : List Stmt} (h2 : SSs X sts2 h) : SS X (.If c sts sts2 pos) (evIfS kc f h) := by
  constructor
  intro F Mo al g o g' σ H E ef R0 q
  unfold evIfS at ef
  split at ef
  · cases ef
  · rename_i g1 e1
    exact to_ws (ps_if pt_w pss_ww pss_ww) (hc.run F Mo al g true g1 σ H _ e1 R0 fun H' s R1 => iteT (h1.run F Mo al g1 o g' σ H' E ef R1 q))
  · rename_i g1 e1
    exact to_ws (ps_if pt_w pss_ww pss_ww) (hc.run F Mo al g false g1 σ H _ e1 R0 fun H' s R1 => iteF (h2.run F Mo al g1 o g' σ H' E ef R1 q))
theorem ss_pass : SS X (.Pass pos) evNext := by
  constructor
  intro F Mo al g o g' σ H E ef R0 q
  cases ef
  exact to_ws ps_pass (q al σ H R0)
def evBk : EvS := fun g => some (.bk, g)
def evCt : EvS := fun g => some (.ct, g)
theorem ss_break : SS X (.Break pos) evBk := by
  constructor
  intro F Mo al g o g' σ H E ef R0 q
  cases ef
  exact to_ws ps_break (q al σ H R0)
theorem ss_continue : SS X (.Continue pos) evCt := by
  constructor
  intro F Mo al g o g' σ H E ef R0 q
  cases ef
  exact to_ws ps_continue (q al σ H R0)
theorem ss_doc {x j} {pos pos' : Pos} : SS X (.Expr (.Constant (.str x) j pos) pos') evNext := by
  constructor
  intro F Mo al g o g' σ H E ef R0 q
  cases ef
  exact to_ws ps_doc (q al σ H R0)
theorem ss_expr (he : SE X e fe) (hs : swapsWith e none pos.line X.env = pure false := by rfl) : SS X (.Expr e pos) (evX fe) := by
  constructor
  intro F Mo al g o g' σ H E ef R0 q
  unfold evX at ef
  split at ef
  · cases ef
  · rename_i r g1 e1
    cases ef
    refine to_ws (ps_expr pe_w hs) (he.run F Mo al g r g' σ H _ e1 R0 fun v H' s res => ?_)
    cases r with
    | im d => exact q al σ H' res.1
    | fr c =>
      obtain ⟨p, _, hp, R1, _⟩ := res
      exact q al σ H' (R1.drop fun a z => .inl z)
    | sl i => exact q al σ H' res.1
theorem ss_ret (he : SE X e fe) : SS X (.Return (some e) pos) (evRet fe) := by
  constructor
  intro F Mo al g o g' σ H E ef R0 q
  unfold evRet at ef
  split at ef
  · cases ef
  · rename_i d g1 e1
    cases ef
    exact to_ws (ps_ret pe_w) (he.run F Mo al g _ g' σ H _ e1 R0 fun v H' s res => q al σ v H' res)
  · rename_i c g1 e1
    cases ef
    refine to_ws (ps_ret pe_w) (he.run F Mo al g _ g' σ H _ e1 R0 fun v H' s res => ?_)
    obtain ⟨p, ev, hp, R1, own⟩ := res
    exact q al σ v H' ⟨p, ev, R0.n0 p hp, (R0.new hp).1, R1, own⟩
  · rename_i i g1 e1
    split at ef
    · rename_i c ec
      cases ef
      refine to_ws (ps_ret pe_w) (he.run F Mo al g _ g1 σ H _ e1 R0 fun v H' s res => ?_)
      obtain ⟨R1, ev, _⟩ := res
      obtain ⟨e2, own, _, nm, _, n0⟩ := R1.ow i (false, c) ec
      rw [ev] at e2
      cases e2
      refine q al σ _ H' ⟨al i, rfl, n0 rfl, nm, ?_, ?_⟩
      · have go : Goes1 (Av Mo al g1) (Av (With Mo (al i)) al (g1.set i .no)) H' H' := ⟨fun a o _ e => e, fun a o n _ z => by
          rcases z with (z | z) | z
          · exact n (.inl z)
          · exact n (z ▸ .inr ⟨i, _, ec, rfl⟩)
          · exact n (.inr (z.sub sub_no))⟩
        refine ⟨by rw [List.length_set]; exact R1.len, fun j d hj => ?_, fun j c2 hj => ?_, fun j l c1 c2 hj hk => ?_, R1.keep, fun a z => ?_, R1.m0, R1.n0⟩
        · rcases get_set_cases hj with ⟨_, qq, _⟩ | ⟨_, qq⟩
          · cases qq
          · obtain ⟨v', h1, h2⟩ := R1.im j d qq
            exact ⟨v', h1, h2.go go⟩
        · rcases get_set_cases hj with ⟨_, qq, _⟩ | ⟨nj, qq⟩
          · cases qq
          · obtain ⟨h1, h2, h3, h4⟩ := R1.ow j c2 qq
            exact ⟨h1, h2.go go rfl, h3, fun z => z.elim h4.1 fun y => nj (R1.inj j i _ _ qq ec y), h4.2⟩
        · rcases get_set_cases hj with ⟨_, qq, _⟩ | ⟨_, qq⟩
          · cases qq
          · rcases get_set_cases hk with ⟨_, qq', _⟩ | ⟨_, qq'⟩
            · cases qq'
            · exact R1.inj j l c1 c2 qq qq'
        · rcases z with z | rfl
          · exact R1.mo a z
          · obtain ⟨oo, eo⟩ := own.some
            rw [eo]
            exact fun y => nomatch y
      · refine own.go ⟨fun a o _ e => e, fun a o n _ z => ?_⟩ rfl
        rcases z with (z | z) | z
        · exact n (.inl z)
        · exact n (z ▸ .inr ⟨i, _, ec, rfl⟩)
        · exact n (.inr (z.sub sub_no))
    · cases ef
theorem ss_retN : SS X (.Return none pos) (fun g => some (.rt (.im .non), g)) := by
  constructor
  intro F Mo al g o g' σ H E ef R0 q
  cases ef
  exact to_ws ps_retN (q al σ .non H ⟨R0, .non⟩)
/-- a value is put into a slot -/
theorem set_run {i : Nat} {F : Fx} {Mo : Ads} {al : Nat → Addr} {g g1 g' : G} {o : Out} {r : R} {σ : L2.St} {H H' : Hp} {v : V} {E : Ends} (R0 : Rel X.K F Mo al g σ H) (res : Res X.K F Mo al g1 σ H H' v r)
    (ef : (match (some (r, g1) : Option (R × G)) with
      | none => none
      | some (.fr c, g') => some (.nx, g'.set i (.ow (false, c)))
      | some (r, g') => match settle (r, g') with
        | none => none
        | some (d, g2) => some (Out.nx, g2.set i (.im d))) = some (o, g')) (q : Post X.K F Mo E g' o) : E.nx (σ.set i (some v)) H' := by
  cases r with
  | fr c =>
    cases ef
    obtain ⟨p, rfl, hp, R1, own⟩ := res
    obtain ⟨n1, n2, n3, _⟩ := R0.new hp
    exact q _ _ H' (R1.putOw n1 n2 n3 own)
  | im d =>
    have ef : (match settle (.im d, g1) with
      | none => none
      | some (d, g2) => some (Out.nx, g2.set i (.im d))) = some (o, g') := ef
    split at ef
    · cases ef
    · rename_i d2 g2 es
      cases ef
      obtain ⟨s2, R1, is⟩ := Res.settle R0 res es
      exact q _ _ H' (R1.put is)
  | sl j =>
    have ef : (match settle (.sl j, g1) with
      | none => none
      | some (d, g2) => some (Out.nx, g2.set i (.im d))) = some (o, g') := ef
    split at ef
    · cases ef
    · rename_i d2 g2 es
      cases ef
      obtain ⟨s2, R1, is⟩ := Res.settle R0 res es
      exact q _ _ H' (R1.put is)
theorem ss_set {i : Nat} {x : Str} {pos' : Pos} (hN : X.N.Nodup) (hi : X.N[i]? = some x) (hx : Loc X.env.scope x) (he : SE X e fe) (hs : swapsWith e (some (.Name x pos')) pos.line X.env = pure false := by rfl)
    (hf : X.fn x = true ∨ X.env.scope.names.lookup x = some .local := by first | exact .inl rfl | exact .inr rfl | assumption) : SS X (.Assign [.Name x pos'] e pos) (evSet i fe) := by
  constructor
  intro F Mo al g o g' σ H E ef R0 q
  unfold evSet at ef
  cases e1 : fe g with
  | none => rw [e1] at ef; cases ef
  | some rg =>
    obtain ⟨r, g1⟩ := rg
    rw [e1] at ef
    exact to_ws (ps_set hN hi hx pe_w hs hf) (he.run F Mo al g r g1 σ H _ e1 R0 fun v H' s res => set_run R0 res ef q)
/-- name = [.. for ..] on one line, the name a local -/
theorem ss_setLc {vs : List Nat} {i : Nat} {y : Str} {py : Pos} {elt tg iter : Expr} {ifs : List Expr} {scope : Scope} {own : List (Str × Nat)} {spos : Pos} {S : List Nat} {fi : EvA} {bt : EvT} {kt : EvB} {fl : EvE} (hc : X.calm = true) (hN : X.N.Nodup) (hy : X.N[i]? = some y) (hyl : X.env.scope.names.lookup y = some .local)
    (hsw : swapsWith (.ListComp elt [⟨tg, iter, ifs, 0⟩] scope pos) (some (.Name y py)) spos.line X.env = pure true) (hi : SI X tg iter fi) (ok : BlkOk X.N X.env.scope scope own) (hS : ∀ i ∈ S, i ∈ own.map (·.2))
    (hg : ∀ (s : Shared) (H : Hp) (C : Addr) (cl : List (Str × Addr)) (fp : List Addr), SG (X.blk s H scope (compEnvC scope cl C X.env) fp) tg S bt)
    (ht : ∀ (s : Shared) (H : Hp) (C : Addr) (cl : List (Str × Addr)) (fp : List Addr), STs (X.blk s H scope (compEnvC scope cl C X.env) fp) ifs kt)
    (he : ∀ (s : Shared) (H : Hp) (C : Addr) (cl : List (Str × Addr)) (fp : List Addr), SE (X.blk s H scope (compEnvC scope cl C X.env) fp) elt fl) (hv : own.map (·.2) = vs) (hs : ∀ x, foldedSetIterable iter X.env x = pure x := by intro _; rfl) :
    SS X (.Assign [.Name y py] (.ListComp elt [⟨tg, iter, ifs, 0⟩] scope pos) spos) (evSet i (evLc fi bt kt fl vs)) := by
  subst hv
  constructor
  intro F Mo al g o g' σ H E ef R0 q
  unfold evSet at ef
  cases e1 : evLc fi bt kt fl (own.map (·.2)) g with
  | none => rw [e1] at ef; cases ef
  | some rg =>
    obtain ⟨r, g1⟩ := rg
    rw [e1] at ef
    refine to_ws (ps_setLc (g := fun v σ H Q => ∀ (s : Shared) (H0 : Hp) (C : Addr) (cl : List (Str × Addr)) (fp : List Addr), WG (X.blk s H0 scope (compEnvC scope cl C X.env) fp) tg v σ H Q)
      (tt := fun σ H Q => ∀ (s : Shared) (H0 : Hp) (C : Addr) (cl : List (Str × Addr)) (fp : List Addr), WTs (X.blk s H0 scope (compEnvC scope cl C X.env) fp) ifs σ H Q)
      (te := fun σ H Q => ∀ (s : Shared) (H0 : Hp) (C : Addr) (cl : List (Str × Addr)) (fp : List Addr), WE (X.blk s H0 scope (compEnvC scope cl C X.env) fp) elt σ H Q) hc hN hy hyl hsw pi_w ok (fun s H C cl fp => ⟨fun pins s' σ H v u Q I r h => h s _ C cl fp pins s' u I r⟩) (fun s H C cl fp => ⟨fun pins s' σ H Q I h => h s _ C cl fp pins s' I⟩) (fun s H C cl fp => ⟨fun pins s' σ H Q I h => h s _ C cl fp pins s' I⟩) hs) ?_
    exact lc_run hi hS hg ht he e1 R0 fun v H' s res => set_run R0 res ef q
end
end Pu
end

section
set_option Elab.async false
set_option linter.all false
set_option maxRecDepth 100000
set_option maxHeartbeats 4000000
/-! PuH: further statements, loops, a def's promise by its body. -/
namespace Pu
open PySem L2

/-! ### targets of an assignment, operators at a name, a list's place -/
def evAsg (b : EvT) (f : EvE) : EvS := fun g => match toD f g with
  | none => none
  | some (d, g1) => match b d g1 with
    | none => none
    | some g2 => some (.nx, g2)
def evAug (i : Nat) (f : EvE) (op : D → D → Option R) : EvS := fun g => match g[i]? with
  | some (.im d) => match toO f g with
    | none => none
    | some (o, g1) => match o.look g1, g1[i]? with
      | some d2, some (.im d1) => match op d1 d2 with
        | some (.im z) => some (.nx, g1.set i (.im z))
        | _ => none
      | _, _ => none
  | some (.ow (_, .lst _)) => match toD f g with
    | some (.lst ys, g1) => match g1[i]? with
      | some (.ow (b, .lst xs)) => if xs.length + ys.length ≤ sizeLine then some (.nx, g1.set i (.ow (b, .lst (xs ++ ys)))) else none
      | _ => none
    | _ => none
  | _ => none
def evSto (i : Nat) (fk fe : EvE) : EvS := fun g => match toD fe g with
  | none => none
  | some (d, g1) => match g1[i]? with
    | some (.ow _) => match toO fk g1 with
      | none => none
      | some (o, g2) => match o.look g2, g2[i]? with
        | some (.int k), some (.ow (b, .lst xs)) => match ixN xs.length k with
          | some j => some (.nx, g2.set i (.ow (b, .lst (xs.set j d))))
          | none => none
        | _, _ => none
    | _ => none
def addI : D → D → Option R
  | .int i, .int j => some (.im (.int (i + j)))
  | .str s, .str t => if s.length + t.length ≤ sizeLine then some (.im (.str (s ++ t))) else none
  | _, _ => none
section
variable {X : Cx} {tg e k : Expr} {S : List Nat} {b : EvT} {fe fk : EvE} {pos : Pos}
theorem ss_asg (he : SE X e fe) (hg : SG X tg S b) (hs : swapsWithSole [tg] e pos.line X.env = pure false := by rfl) (hw : swappedStores [tg] e X.env = pure none := by rfl) (h1 : (assignEach [tg] X.env).map (·.2) = [assign tg X.env] := by rfl) :
    SS X (.Assign [tg] e pos) (evAsg b fe) := by
  constructor
  intro F Mo al g o g' σ H E ef R0 q
  unfold evAsg at ef
  split at ef
  · cases ef
  · rename_i d g1 e1
    split at ef
    · cases ef
    · rename_i g2 e2
      cases ef
      exact to_ws (ps_asg pe_w pg_w hs hw h1) (he.data e1 R0 fun v H' s kk R1 is => hg.run F Mo al g1 g' d v σ H' E.nx e2 R1 is fun σ' _ _ _ R2 => q al σ' H' R2)
theorem addI_ok : OpOk X (inplaceOp .Add) addI := by
  intro d1 d2 r h
  unfold addI at h
  split at h
  · cases h
    exact ⟨_, iop_add, fun M H x y Q tr hx hy q => ⟨_, _, hx.int, hy.int, q _ _ (.flat (.int _))⟩⟩
  · split at h
    · rename_i hl
      cases h
      refine ⟨_, iop_add_str, fun M H x y Q tr hx hy q => ?_⟩
      obtain ⟨x, rfl, ex⟩ := hx.str
      obtain ⟨y, rfl, ey⟩ := hy.str
      refine ⟨x, y, rfl, rfl, by rw [str_len ex, str_len ey]; exact hl, q _ _ (.flat (is_str _ ?_))⟩
      rw [str_app, ex, ey]
    · cases h
  · cases h
theorem subI_ok : OpOk X (inplaceOp .Sub) subD := by
  intro d1 d2 r h
  unfold subD at h
  split at h
  · cases h
    exact ⟨_, iop_sub, fun M H x y Q tr hx hy q => ⟨_, _, hx.int, hy.int, q _ _ (.flat (.int _))⟩⟩
  · cases h
theorem ss_aug {i : Nat} {x : Str} {op : Operator} {opd : D → D → Option R} {pos' : Pos} (hN : X.N.Nodup) (hi : X.N[i]? = some x) (hx : Loc X.env.scope x) (he : SE X e fe) (ho : OpOk X (inplaceOp op) opd) (ha : op = .Add ∨ opd = (fun _ _ => none) ∨ ∀ ys d, opd (.lst ys) d = none)
    (hf : X.fn x = true ∨ X.env.scope.names.lookup x = some .local := by first | exact .inl rfl | exact .inr rfl | assumption) (hop : op = .Add := by rfl) : SS X (.AugAssign (.Name x pos') op e pos) (evAug i fe opd) := by
  subst hop
  constructor
  intro F Mo al g o g' σ H E ef R0 q
  unfold evAug at ef
  split at ef
  · rename_i d0 e0
    split at ef
    · cases ef
    · rename_i o1 g1 e1
      split at ef
      · rename_i d2 d1 el ei
        split at ef
        · rename_i z ez
          cases ef
          obtain ⟨v0, ev0, is0⟩ := R0.im i d0 e0
          obtain ⟨rr, h1, h2⟩ := ho d1 d2 _ ez
          refine to_ws (ps_aug hN hi hx pe_w h1 hf) ⟨v0, ev0, he.op e1 R0 fun v H1 s k1 R1 ov => ?_⟩
          obtain ⟨v1, ev1, is1⟩ := R1.im i d1 ei
          rw [ev0] at ev1
          cases ev1
          refine h2 _ H1 v0 v _ (fun a h => R1.trk h) is1.pk (ov.pk R1 el) fun w H' n => ?_
          have res := n.res R1 (fun a h => h) (H := H1)
          exact q al _ H' (res.1.put res.2)
        · cases ef
      · cases ef
  · rename_i b0 xs0 e0
    split at ef
    · rename_i ys g1 e1
      split at ef
      · rename_i b xs ec
        split at ef
        · rename_i hl
          cases ef
          obtain ⟨ev, ⟨vs0, ov0, _⟩, _⟩ := R0.ow i _ e0
          refine to_ws (ps_aug hN hi hx pe_w iop_ext hf) ⟨_, ev, he.data e1 R0 fun v H1 s k1 R1 is => ?_⟩
          obtain ⟨ev1, ⟨vs1, ov1, ia1⟩, _⟩ := R1.ow i _ ec
          cases is with
          | lst t ra =>
          rename_i pb ws
          refine ⟨_, _, vs1, ws, rfl, rfl, ov1, t.2, by rw [ia1.len, ra.len]; exact hl, ?_⟩
          have kk : Kp (fun b => b = al i) H1 (upd H1 (al i) (.lst (vs1 ++ ws))) := Kp.upd
          have gg : Goes1 (Av Mo al g1) (Av Mo al g1) H1 (upd H1 (al i) (.lst (vs1 ++ ws))) := ⟨fun a o n z => kk.st a o (fun y => n (by rw [y]; exact .inr ⟨i, _, ec, rfl⟩)) z, fun a o n _ => n⟩
          have R2 := R1.mut (c' := .lst (xs ++ ys)) ec kk ⟨_, upd_same, (ia1.go gg).app (ra.go gg)⟩
          have es : σ.set i (some (V.ref (al i))) = σ := by
            apply List.ext_getElem?
            intro j
            by_cases hj : j = i
            · subst hj
              rw [List.getElem?_set_self (List.getElem?_eq_some_iff.mp ev).1, ev]
            · rw [List.getElem?_set_ne (Ne.symm hj)]
          show E.nx (σ.set i (some (V.ref (al i)))) _
          rw [es]
          exact q al σ _ R2
        · cases ef
      · cases ef
    · cases ef
  · cases ef
theorem ss_sto {i : Nat} {on : Expr} {tpos : Pos} (hv : PE X on (tVar i)) (hk : SE X k fk) (he : SE X e fe) (ha : ∀ v, assign (.Subscript on k tpos) X.env v = (do
        let ov ← holding [v] (eval on X.env)
        let iv ← holding [v, ov] (eval k X.env)
        standAt tpos
        holding [v, ov, iv] (setItem ov iv v)
        release [v, ov, iv] []) := by intro _; rfl)
    (hs : swapsWithSole [.Subscript on k tpos] e pos.line X.env = pure false := by rfl) (hw : swappedStores [.Subscript on k tpos] e X.env = pure none := by rfl) (h1 : (assignEach [.Subscript on k tpos] X.env).map (·.2) = [assign (.Subscript on k tpos) X.env] := by rfl) :
    SS X (.Assign [.Subscript on k tpos] e pos) (evSto i fk fe) := by
  constructor
  intro F Mo al g o g' σ H E ef R0 q
  unfold evSto at ef
  split at ef
  · cases ef
  · rename_i d g1 e1
    split at ef
    · rename_i c0 e0
      split at ef
      · cases ef
      · rename_i o2 g2 e2
        split at ef
        · rename_i kk b xs el ec
          split at ef
          · rename_i j ej
            cases ef
            refine to_ws (ps_asg pe_w (pg_sub hv pe_w set_list ha) hs hw h1) (he.data e1 R0 fun v H1 s k1 R1 is => ?_)
            obtain ⟨ev, _⟩ := R1.ow i c0 e0
            refine ⟨_, ev, hk.op e2 R1 fun u H2 s2 k2 R2 ov => ?_⟩
            obtain ⟨ev2, ⟨vs2, ov2, ia2⟩, _⟩ := R2.ow i _ ec
            refine ⟨_, vs2, kk, j, rfl, (ov.pk R2 el).int, ov2, by rw [ia2.len]; exact ej, ?_⟩
            have kp : Kp (fun b => b = al i) H2 (upd H2 (al i) (.lst (vs2.set j v))) := Kp.upd
            have gg : Goes1 (Av Mo al g2) (Av Mo al g2) H2 (upd H2 (al i) (.lst (vs2.set j v))) := ⟨fun a o n z => kp.st a o (fun y => n (by rw [y]; exact .inr ⟨i, _, ec, rfl⟩)) z, fun a o n _ => n⟩
            have R3 := R2.mut (c' := .lst (xs.set j d)) ec kp ⟨_, upd_same, IsAll.set ((is.go (go_of s2 k2)).go gg) j (ia2.go gg)⟩
            exact q al σ _ R3
          · cases ef
        · cases ef
    · cases ef
end

/-! ### two names at once -/
def stlR : R × G → Option (R × G)
  | (.sl i, g) => match settle (.sl i, g) with
    | none => none
    | some (d, g') => some (.im d, g')
  | (r, g) => some (r, g)
def putR (i : Nat) (r : R) (g : G) : G := match r with
  | .im d => g.set i (.im d)
  | .fr c => g.set i (.ow (false, c))
  | .sl _ => g
def evPar (i j : Nat) (fa fb : EvE) : EvS := fun g => match fa g with
  | none => none
  | some p => match stlR p with
    | none => none
    | some (r1, g1) => match fb g1 with
      | none => none
      | some p2 => match stlR p2 with
        | none => none
        | some (r2, g2) => some (.nx, putR j r2 (putR i r1 g2))
section
variable {K : Fr} {F : Fx} {Mo M : Ads} {al : Nat → Addr} {g g' g1 g2 : G} {σ : L2.St} {H H' H1 H2 : Hp} {v : V} {r r' : R}
theorem Res.stl (R0 : Rel K F Mo al g σ H) (h : Res K F Mo al g1 σ H H' v r) (s : stlR (r, g1) = some (r', g2)) : Sub g2 g1 ∧ Res K F Mo al g2 σ H H' v r' ∧ ∀ i, r' ≠ .sl i := by
  cases r with
  | im d => cases s; exact ⟨Sub.refl _, h, fun i z => nomatch z⟩
  | fr c => cases s; exact ⟨Sub.refl _, h, fun i z => nomatch z⟩
  | sl i =>
    have s : (match Pu.settle (R.sl i, g1) with
      | none => none
      | some (d, g') => some (R.im d, g')) = some (r', g2) := s
    split at s
    · cases s
    · rename_i d g3 es
      cases s
      obtain ⟨a, b, c⟩ := Res.settle R0 h es
      exact ⟨a, ⟨b, c⟩, fun i z => nomatch z⟩
theorem av_putOw {p : Addr} {i : Nat} {c : Ow} : ∀ a, Av Mo (fun j => if j = i then p else al j) (g.set i (Slot.ow (false, c))) a → Av (With Mo p) al g a := by
  rintro a (z | ⟨j, d, h1, rfl⟩)
  · exact .inl (.inl z)
  · rcases get_set_cases h1 with ⟨rfl, _, _⟩ | ⟨nj, q⟩
    · simp only [↓reduceIte]
      exact .inl (.inr rfl)
    · simp only [if_neg nj]
      exact .inr ⟨j, d, q, rfl⟩
end
section
variable {X : Cx} {a b : Expr} {fa fb : EvE} {pos : Pos}
theorem ss_par {i j : Nat} {x y : Str} {px py pt : Pos} {kt k2 pt2} (hc : X.calm = true) (hN : X.N.Nodup) (hi : X.N[i]? = some x) (hj : X.N[j]? = some y) (hij : i ≠ j) (hx : X.env.scope.names.lookup x = some .local) (hy : X.env.scope.names.lookup y = some .local)
    (ha : SE X a fa) (hb : SE X b fb) (hw : swappedStores [.Tuple [.Name x px, .Name y py] kt pt] (.Tuple [a, b] k2 pt2) X.env = pure (some [x, y]))
    (hs : swapsWithSole [.Tuple [.Name x px, .Name y py] kt pt] (.Tuple [a, b] k2 pt2) pos.line X.env = pure false := by rfl)
    (he : starEach [a, b] X.env = (false, eval a X.env) :: starEach [b] X.env := by rfl) (he2 : starEach [b] X.env = (false, eval b X.env) :: starEach [] X.env := by rfl) :
    SS X (.Assign [.Tuple [.Name x px, .Name y py] kt pt] (.Tuple [a, b] k2 pt2) pos) (evPar i j fa fb) := by
  constructor
  intro F Mo al g o g' σ H E ef R0 q
  unfold evPar at ef
  split at ef
  · cases ef
  · rename_i p1 e1
    obtain ⟨r1, g1⟩ := p1
    split at ef
    · cases ef
    · rename_i r1' g1' e1'
      split at ef
      · cases ef
      · rename_i p2 e2
        obtain ⟨r2, g2⟩ := p2
        split at ef
        · cases ef
        · rename_i r2' g2' e2'
          cases ef
          refine to_ws (ps_par hc hN hi hj hij hx hy (pa_cons pe_w (pa_cons pe_w pa_nil he2) he) hw hs) (ha.go e1 R0 fun v H1 s1 k1 res1 => ?_)
          obtain ⟨t1, res1, n1⟩ := Res.stl R0 res1 e1'
          cases r1' with
          | sl z => exact (n1 z rfl).elim
          | im d1 =>
            obtain ⟨R1, is1⟩ := res1
            refine hb.go e2 R1 fun u H2 s2 k2 res2 => ?_
            obtain ⟨t2, res2, n2⟩ := Res.stl R1 res2 e2'
            refine ⟨v, u, rfl, ?_⟩
            have is1' := is1.go (go_of (t2.trans s2) (k2))
            cases r2' with
            | sl z => exact (n2 z rfl).elim
            | im d2 =>
              obtain ⟨R2, is2⟩ := res2
              have R3 := R2.put (i := i) is1'
              exact q al _ H2 (R3.put (is2.go ⟨fun a o _ e => e, fun a o n _ z => n (z.sub sub_im)⟩))
            | fr c2 =>
              obtain ⟨p, rfl, hp, R2, own⟩ := res2
              have is1'' : Is X.K (Av (With Mo p) al g2') H2 v d1 := is1.go ⟨fun a o n e => k2.st a o (fun z => n (.inr z)) e, fun a o n e z => by
                rcases av_with.mp z with z | z
                · exact n (z.sub (t2.trans s2))
                · rw [z, hp] at e; cases e⟩
              have R3 := R2.put (i := i) is1''
              obtain ⟨n1, n2, n3, _⟩ := R1.new hp
              exact q _ _ H2 (R3.putOw n1 n2 n3 (own.go ⟨fun a o _ e => e, fun a o n _ z => n (z.sub sub_im)⟩ rfl))
          | fr c1 =>
            obtain ⟨p, rfl, hp, R1, own⟩ := res1
            obtain ⟨m1, m2, m3, _⟩ := R0.new hp
            refine hb.go e2 R1 fun u H2 s2 k2 res2 => ?_
            obtain ⟨t2, res2, n2⟩ := Res.stl R1 res2 e2'
            refine ⟨_, u, rfl, ?_⟩
            have npd : ¬ Owd al g1' p := fun ⟨jj, cc, h1, h2⟩ => (R1.ow jj cc h1).2.2.2.1 (.inr h2.symm)
            obtain ⟨oo, eo⟩ := own.some
            have ep : H2 p = H1 p := (k2.st p oo npd eo).trans eo.symm
            cases r2' with
            | sl z => exact (n2 z rfl).elim
            | im d2 =>
              obtain ⟨R2, is2⟩ := res2
              have own' := own.go (go_of (t2.trans s2) k2) ep
              have R3 := R2.putOw (i := i) m1 m2 m3 own'
              exact q _ _ H2 (R3.put (is2.go ⟨fun a o _ e => e, fun a o n _ z => n (av_putOw a z)⟩))
            | fr c2 =>
              obtain ⟨p2, rfl, hp2, R2, own2⟩ := res2
              obtain ⟨l1, l2, l3, _⟩ := R1.new hp2
              have R3 := R2.putOw (i := j) l1 l2 l3 own2
              have own' : OwnAt X.K (Av (With Mo p) (fun jj => if jj = j then p2 else al jj) (g2'.set j (.ow (false, c2)))) H2 p c1 := by
                refine own.go ⟨fun a o n e => k2.st a o (fun z => n (.inr z)) e, fun a o n e z => ?_⟩ ep
                rcases av_with.mp (av_putOw a z) with z | z
                · exact n (z.sub (t2.trans s2))
                · rw [z, hp2] at e; cases e
              have R4 := R3.putOw (i := i) m1 m2 m3 own'
              rw [List.set_comm _ _ (Ne.symm hij), List.set_comm (l := σ) _ _ (Ne.symm hij)] at R4
              exact q _ _ H2 R4
end

/-! ### loops -/
def runFor (b : EvT) (body : EvS) : List D → G → Option (Out × G)
  | [], g => some (.nx, g)
  | d :: ds, g => match b d g with
    | none => none
    | some g1 => match body g1 with
      | none => none
      | some (.nx, g2) => runFor b body ds g2
      | some (.ct, g2) => runFor b body ds g2
      | some (.bk, g2) => some (.nx, g2)
      | some (.rt r, g2) => some (.rt r, g2)
def evFor (fi : EvA) (b : EvT) (body : EvS) : EvS := fun g => match fi g with
  | none => none
  | some (items, g1) => runFor b body items g1
def runW (k : EvB) (body : EvS) : Nat → G → Option (Out × G)
  | 0, _ => none
  | n + 1, g => match k g with
    | none => none
    | some (false, g1) => some (.nx, g1)
    | some (true, g1) => match body g1 with
      | none => none
      | some (.nx, g2) => runW k body n g2
      | some (.ct, g2) => runW k body n g2
      | some (.bk, g2) => some (.nx, g2)
      | some (.rt r, g2) => some (.rt r, g2)
section
variable {K : Fr} {F : Fx} {Mo : Ads} {al al' : Nat → Addr} {g g' : G} {σ σ' : L2.St} {H H' : Hp} {v : V} {r : R}
theorem RetR.back (R0 : Rel K F Mo al g σ H) (h : RetR K (F.here al g H) Mo al' g' σ' v H' r) : RetR K F Mo al' g' σ' v H' r := by
  cases r with
  | im d => exact ⟨R0.back h.1, h.2⟩
  | fr c =>
    obtain ⟨p, e, n0, nm, R1, own⟩ := h
    exact ⟨p, e, n0, nm, R0.back R1, own⟩
  | sl i => exact h
theorem go_here (R1 : Rel K (F.here al g H) Mo al' g' σ' H') : Goes1 (Av Mo al g) (Av Mo al' g') H H' := by
  refine ⟨fun a o n e => R1.keep a o (fun z => n (.inr z)) e, fun a o n e z => ?_⟩
  rcases z with z | ⟨j, c, h1, rfl⟩
  · exact n (.inl z)
  · rcases (R1.ow j c h1).2.2.1 with y | y
    · have y : H (al' j) = none := y
      rw [y] at e; cases e
    · exact n (.inr y)
end
section
variable {X : Cx} {tg iter c : Expr} {sts : List Stmt} {S : List Nat} {fi : EvA} {b : EvT} {kb : EvB} {fb : EvS} {pos : Pos}
theorem ss_for (hp : PassesOwn (model X.prog X.w) X.A X.env X.xe) (hc : X.calm = true) (hi : SI X tg iter fi) (hg : SG X tg S b) (hb : SSs X sts fb) (hs : ∀ x, foldedSetIterable iter X.env x = pure x := by intro _; rfl) : SS X (.For tg iter sts [] pos) (evFor fi b fb) := by
  constructor
  intro F Mo al g o g' σ H E ef R0 q
  unfold evFor at ef
  split at ef
  · cases ef
  · rename_i items g1 ei
    refine to_ws (ps_for hp hc pi_w pg_w pss_ww hs) (hi.run F Mo al g items g1 σ H _ ei R0 fun J H1 s1 R1 wk hsz => ?_)
    refine ⟨fun i m σc Hc => i + m = items.length ∧ ∃ (alc : Nat → Addr) (gc : G), runFor b fb (items.drop i) gc = some (o, g') ∧ Rel X.K (F.here al g1 H1) Mo alc gc σc Hc, ⟨items.length, by omega, al, g1, ef, R1.here⟩, ?_⟩
    rintro i m σc Hc ⟨hm, alc, gc, e, Rc⟩
    obtain ⟨wst, wgo⟩ := wk _ Hc (go_here Rc) fun a z => Rc.trk z
    by_cases hi' : i < items.length
    · right
      obtain ⟨jg, jy⟩ := wgo i items[i] (List.getElem?_eq_getElem hi')
      refine ⟨jg, fun σx Hx => ∃ m', m' < m ∧ (i + 1 + m' = items.length ∧ ∃ (alc : Nat → Addr) (gc : G), runFor b fb (items.drop (i + 1)) gc = some (o, g') ∧ Rel X.K (F.here al g1 H1) Mo alc gc σx Hx), fun σ' H' z => z, ?_⟩
      intro x H' hy
      obtain ⟨sm, isx⟩ := jy x H' hy
      rw [List.drop_eq_getElem_cons hi'] at e
      unfold runFor at e
      split at e
      · cases e
      · rename_i gb eb
        refine hg.run _ Mo alc gc gb _ x σc H' _ eb (Rc.same sm) isx fun σ2 a2 l2 s2 R2 => ?_
        split at e
        · cases e
        · rename_i g2 e2
          exact hb.run _ Mo alc gb .nx g2 σ2 H' _ e2 R2 fun al' σ' H'' R3 => ⟨m - 1, by omega, by omega, al', g2, e, R3⟩
        · rename_i g2 e2
          exact hb.run _ Mo alc gb .ct g2 σ2 H' _ e2 R2 fun al' σ' H'' R3 => ⟨m - 1, by omega, by omega, al', g2, e, R3⟩
        · rename_i g2 e2
          cases e
          exact hb.run _ Mo alc gb .bk g' σ2 H' _ e2 R2 fun al' σ' H'' R3 => q al' σ' H'' (R1.back R3)
        · rename_i r g2 e2
          cases e
          exact hb.run _ Mo alc gb (.rt r) g' σ2 H' _ e2 R2 fun al' σ' v H'' R3 => q al' σ' v H'' (RetR.back R1 R3)
    · left
      refine ⟨wst i (by omega), ?_⟩
      rw [List.drop_eq_nil_of_le (by omega)] at e
      cases e
      exact q alc σc Hc (R1.back Rc)
theorem ss_while (n : Nat) (hp : PassesOwn (model X.prog X.w) X.A X.env X.xe) (hc : ST X c kb) (hb : SSs X sts fb) : SS X (.While c sts [] pos) (runW kb fb n) := by
  constructor
  intro F Mo al g o g' σ H E ef R0 q
  refine to_ws (ps_while hp pt_w pss_ww) ⟨fun m σc Hc => ∃ (alc : Nat → Addr) (gc : G), runW kb fb m gc = some (o, g') ∧ Rel X.K F Mo alc gc σc Hc, ⟨n, al, g, ef, R0⟩, ?_⟩
  rintro m σc Hc ⟨alc, gc, e, Rc⟩
  cases m with
  | zero => cases e
  | succ m =>
    unfold runW at e
    split at e
    · cases e
    · rename_i g1 e1
      cases e
      exact hc.run F Mo alc gc false g' σc Hc _ e1 Rc fun H' s R1 => iteF (q alc σc H' R1)
    · rename_i g1 e1
      refine hc.run F Mo alc gc true g1 σc Hc _ e1 Rc fun H' s R1 => iteT ?_
      refine ⟨fun σx Hx => ∃ m', m' < m + 1 ∧ ∃ (alc : Nat → Addr) (gc : G), runW kb fb m' gc = some (o, g') ∧ Rel X.K F Mo alc gc σx Hx, fun σ' H' z => z, ?_⟩
      split at e
      · cases e
      · rename_i g2 e2
        exact hb.run F Mo alc g1 .nx g2 σc H' _ e2 R1 fun al' σ' H'' R3 => ⟨m, Nat.lt_succ_self m, al', g2, e, R3⟩
      · rename_i g2 e2
        exact hb.run F Mo alc g1 .ct g2 σc H' _ e2 R1 fun al' σ' H'' R3 => ⟨m, Nat.lt_succ_self m, al', g2, e, R3⟩
      · rename_i g2 e2
        cases e
        exact hb.run F Mo alc g1 .bk g' σc H' _ e2 R1 fun al' σ' H'' R3 => q al' σ' H'' R3
      · rename_i r g2 e2
        cases e
        exact hb.run F Mo alc g1 (.rt r) g' σc H' _ e2 R1 fun al' σ' v H'' R3 => q al' σ' v H'' R3
end

/-! ### a def -/
def runF (f : EvS) (n m : Nat) : List D → Option R := fun ds => if ds.length = n then (match f (ds.map Slot.im ++ List.replicate (m - n) Slot.no) with
    | some (.rt (.im d), _) => some (.im d)
    | some (.rt (.fr c), _) => some (.fr c)
    | some (.nx, _) => some (.im .non)
    | _ => none) else none
def slotAt (g : G) (i : Nat) : Option Slot := g[i]?
def runC (f : EvS) (n m : Nat) : Ow → List D → Option (R × Ow) := fun c ds => if ds.length = n then (match f (Slot.ow (true, c) :: (ds.map Slot.im ++ List.replicate (m - (n + 1)) Slot.no)) with
    | some (Out.rt (R.im d), g') => (match slotAt g' 0 with
      | some (Slot.ow (true, c')) => some (.im d, c')
      | _ => none)
    | some (Out.rt (R.fr c2), g') => (match slotAt g' 0 with
      | some (Slot.ow (true, c')) => some (.fr c2, c')
      | _ => none)
    | some (Out.nx, g') => (match slotAt g' 0 with
      | some (Slot.ow (true, c')) => some (.im .non, c')
      | _ => none)
    | _ => none) else none
section
variable {K : Fr} {M : Ads} {H : Hp}
theorem args_get {vs : List V} {ds : List D} (ia : IsAll K M H vs ds) {k : Nat} {i : Nat} {s : Slot} (h : (ds.map Slot.im ++ List.replicate k Slot.no)[i]? = some s) : (s = .no) ∨ ∃ d v, s = .im d ∧ vs[i]? = some v ∧ Is K M H v d := by
  by_cases hi : i < ds.length
  · rw [List.getElem?_append_left (by simpa using hi), List.getElem?_map] at h
    cases e : ds[i]? with
    | none => rw [e] at h; cases h
    | some d =>
      rw [e] at h
      cases h
      obtain ⟨v, h1, h2⟩ := ia.get e
      exact .inr ⟨d, v, rfl, h1, h2⟩
  · rw [List.getElem?_append_right (by simpa using hi)] at h
    have := List.mem_of_getElem? h
    exact .inl (List.eq_of_mem_replicate this)
end
section
variable {P : Program} {w : World} {K : Fr} {mg : Str → Option Value} {base : Heap} {x qual : Str} {st : Stmt} {f : Addr} {fd : FuncData} {N ps : List Str} {k : Nat} {fb : EvS}
/-- THE RULE for a def: its body's run is its promise -/
theorem def_ok (Fd : Fun K x qual st f fd) (S : FnScope N ps (defScope st))
    (hb : ∀ (cdv : Value) (A : Around) (outer : List Env) (s : Shared) (H : Hp) (E : XK), Room k (A.deeper (PyProof.Rows.envOfC qual (defScope st) s.heap.objs.size f cdv)) → SSs (cxOf CX0 P w K mg base N qual (defScope st) f cdv A outer s H E).nox (defBody st) fb) :
    FnOk P w K mg base CX0 (k + 1) f fd ps (spF K ps.length (runF fb ps.length N.length)) := by
  refine Fd.ok S (fun vs H Q E h => ?_) (fun cdv A outer s H vs Q E hr h => ?_)
  · obtain ⟨M, ds, r, _, hl, _⟩ := h
    exact hl
  · obtain ⟨M, ds, r, er, hl, ia, tr, q⟩ := h
    refine ⟨_, pss_ww, ?_⟩
    unfold runF at er
    split at er
    · rename_i hn
      have hlen : N.length - vs.length = N.length - ps.length := by rw [hl]
      have hN : ps.length ≤ N.length := by
        have := congrArg List.length S.pre
        rw [List.length_take] at this
        omega
      have R0 : Rel K ⟨fun _ => 0, fun a => H a = none, fun _ => False, H⟩ M (fun _ => 0) (ds.map Slot.im ++ List.replicate (N.length - ps.length) Slot.no) (L2.start N vs) H := by
        refine ⟨?_, fun i d h => ?_, fun i c h => ?_, fun i j c c' h _ _ => ?_, fun a o _ e => e, tr, fun a z => z.elim, fun a z => z⟩
        · unfold L2.start
          rw [List.length_append, List.length_append, List.length_map, List.length_map, List.length_replicate, List.length_replicate, ia.len, hn]
        · rcases args_get ia h with z | ⟨d', v, z, h1, h2⟩
          · cases z
          · cases z
            refine ⟨v, ?_, h2.go ⟨fun a o _ e => e, fun a o n _ z => ?_⟩⟩
            · unfold L2.start
              rw [List.getElem?_append_left (by rw [List.length_map]; exact (List.getElem?_eq_some_iff.mp h1).1), List.getElem?_map, h1]
              rfl
            · rcases z with z | ⟨j, c, hj, _⟩
              · exact n z
              · rcases args_get ia hj with y | ⟨_, _, y, _⟩ <;> cases y
        · rcases args_get ia h with y | ⟨_, _, y, _⟩ <;> cases y
        · rcases args_get ia h with y | ⟨_, _, y, _⟩ <;> cases y
      have sm : ∀ {al' g' σ' H'} {M' : Ads}, Rel K ⟨fun _ => 0, fun a => H a = none, fun _ => False, H⟩ M' al' g' σ' H' → Same H H' := fun R1 a o e => R1.keep a o (fun z => z) e
      have dn : ∀ {al' g' H'} {M' : Ads} {v : V} {d : D}, Is K (Av M' al' g') H' v d → Is K M' H' v d := fun i => i.go ⟨fun a o _ e => e, fun a o n _ z => n (.inl z)⟩
      split at er
      · rename_i d g' eb
        cases er
        refine (hb cdv A outer s H E hr).run _ M _ _ _ g' _ H _ eb R0 fun al' σ' v H' ret => ?_
        exact q v H' ⟨sm ret.1, dn ret.2⟩
      · rename_i c g' eb
        cases er
        refine (hb cdv A outer s H E hr).run _ M _ _ _ g' _ H _ eb R0 fun al' σ' v H' ret => ?_
        obtain ⟨p, ev, n0, nm, R1, own⟩ := ret
        exact q v H' ⟨sm R1, p, ev, n0, own.go ⟨fun a o _ e => e, fun a o n _ z => n (.inl z)⟩ rfl⟩
      · rename_i g' eb
        cases er
        refine (hb cdv A outer s H E hr).run _ M _ _ .nx g' _ H _ eb R0 fun al' σ' H' R1 => ?_
        exact q .non H' ⟨sm R1, .non⟩
      · cases er
    · cases er
theorem def_ok' {n m : Nat} (Fd : Fun K x qual st f fd) (S : FnScope N ps (defScope st)) (hn : ps.length = n) (hm : N.length = m)
    (hb : ∀ (cdv : Value) (A : Around) (outer : List Env) (s : Shared) (H : Hp) (E : XK), Room k (A.deeper (PyProof.Rows.envOfC qual (defScope st) s.heap.objs.size f cdv)) → SSs (cxOf CX0 P w K mg base N qual (defScope st) f cdv A outer s H E).nox (defBody st) fb) :
    FnOk P w K mg base CX0 (k + 1) f fd ps (spF K n (runF fb n m)) := by
  subst hn hm
  exact def_ok Fd S hb
/-- .. whose first argument is a list of the caller's own -/
theorem defC_ok {n : Nat} (Fd : Fun K x qual st f fd) (S : FnScope N ps (defScope st)) (hn1 : ps.length = n + 1)
    (hb : ∀ (cdv : Value) (A : Around) (outer : List Env) (s : Shared) (H : Hp) (E : XK), Room k (A.deeper (PyProof.Rows.envOfC qual (defScope st) s.heap.objs.size f cdv)) → SSs (cxOf CX0 P w K mg base N qual (defScope st) f cdv A outer s H E).nox (defBody st) fb) :
    FnOk P w K mg base CX0 (k + 1) f fd ps (spC K n (runC fb n N.length)) := by
  refine Fd.ok S (fun vs H Q E h => ?_) (fun cdv A outer s H vs Q E hr h => ?_)
  · obtain ⟨M, a, vs', c, c', ds, r, _, rfl, hl, _⟩ := h
    rw [List.length_cons, hl, hn1]
  · obtain ⟨M, a, vs', c, c', ds, r, er, rfl, hl, nM, own, ia, tr, q⟩ := h
    refine ⟨_, pss_ww, ?_⟩
    unfold runC at er
    split at er
    · rename_i hn
      have hN : ps.length ≤ N.length := by
        have := congrArg List.length S.pre
        rw [List.length_take] at this
        omega
      have gz : ∀ (i : Nat) (s : Slot), (Slot.ow (true, c) :: (ds.map Slot.im ++ List.replicate (N.length - (n + 1)) Slot.no))[i]? = some s → (i = 0 ∧ s = .ow (true, c)) ∨ (s = .no) ∨ ∃ d v, s = .im d ∧ i ≠ 0 ∧ vs'[i - 1]? = some v ∧ Is K (With M a) H v d := by
        intro i s h
        cases i with
        | zero =>
          rw [List.getElem?_cons_zero] at h
          exact .inl ⟨rfl, (Option.some.inj h).symm⟩
        | succ i =>
          rw [List.getElem?_cons_succ] at h
          rcases args_get ia h with z | ⟨d, v, z, h1, h2⟩
          · exact .inr (.inl z)
          · exact .inr (.inr ⟨d, v, z, Nat.succ_ne_zero _, h1, h2⟩)
      have avw : ∀ b, Av M (fun _ => a) (Slot.ow (true, c) :: (ds.map Slot.im ++ List.replicate (N.length - (n + 1)) Slot.no)) b → With M a b := by
        rintro b (z | ⟨j, c2, _, h2⟩)
        · exact .inl z
        · exact .inr h2
      have go0 : Goes1 (With M a) (Av M (fun _ => a) (Slot.ow (true, c) :: (ds.map Slot.im ++ List.replicate (N.length - (n + 1)) Slot.no))) H H := ⟨fun a o _ e => e, fun b o nn _ z => nn (avw b z)⟩
      obtain ⟨oo, eo⟩ := own.some
      have R0 : Rel K ⟨fun _ => a, fun b => H b = none, fun b => b = a, H⟩ M (fun _ => a) (Slot.ow (true, c) :: (ds.map Slot.im ++ List.replicate (N.length - (n + 1)) Slot.no)) (L2.start N (.ref a :: vs')) H := by
        refine ⟨?_, fun i d h => ?_, fun i c2 h => ?_, fun i j c1 c2 h h' _ => ?_, fun a o _ e => e, tr, fun b z => ?_, fun b z => z⟩
        · unfold L2.start
          rw [List.length_cons, List.length_append, List.length_append, List.length_map, List.length_map, List.length_replicate, List.length_replicate, List.length_cons, hn, hl]
          omega
        · rcases gz i _ h with ⟨_, z⟩ | z | ⟨d', v, z, i0, h1, h2⟩
          · cases z
          · cases z
          · cases z
            refine ⟨v, ?_, h2.go go0⟩
            obtain ⟨i, rfl⟩ : ∃ j, i = j + 1 := ⟨i - 1, by omega⟩
            unfold L2.start
            rw [List.map_cons, List.cons_append, List.getElem?_cons_succ, List.getElem?_append_left (by rw [List.length_map]; exact (List.getElem?_eq_some_iff.mp h1).1), List.getElem?_map]
            rw [Nat.add_sub_cancel] at h1
            rw [h1]
            rfl
        · rcases gz i _ h with ⟨rfl, z⟩ | z | ⟨d', v, z, _⟩
          · cases z
            exact ⟨rfl, own.go go0 rfl, .inr rfl, nM, fun _ => rfl, fun z => nomatch z⟩
          · cases z
          · cases z
        · rcases gz i _ h with ⟨rfl, z⟩ | z | ⟨d', v, z, _⟩
          · rcases gz j _ h' with ⟨rfl, z⟩ | z | ⟨d', v, z, _⟩
            · rfl
            · cases z
            · cases z
          · cases z
          · cases z
        · show H b ≠ none
          rw [z, eo]
          exact fun y => nomatch y
      have kp : ∀ {al' g' σ' H'} {M' : Ads}, Rel K ⟨fun _ => a, fun b => H b = none, fun b => b = a, H⟩ M' al' g' σ' H' → Kp (fun b => b = a) H H' := fun R1 => ⟨fun b o nb e => R1.keep b o nb e, fun b nb z => by
        by_cases y : b = a
        · exact R1.m0 b y z
        · cases e : H b with
          | none => exact nb e
          | some o =>
            have e' := R1.keep b o y e
            rw [e'] at z; cases z⟩
      have fin : ∀ {al' σ' g' H'} {M' : Ads} {c' : Ow}, Rel K ⟨fun _ => a, fun b => H b = none, fun b => b = a, H⟩ M' al' g' σ' H' → g'[0]? = some (Slot.ow (true, c')) → (∀ b, With M' a b → Av M' al' g' b) ∧ OwnAt K (With M' a) H' a c' := by
        intro al' σ' g' H' M' c' R1 e0
        obtain ⟨_, o1, _, _, pa, _⟩ := R1.ow 0 _ e0
        have ea : al' 0 = a := pa rfl
        rw [ea] at o1
        have aw : ∀ b, With M' a b → Av M' al' g' b := fun b z => by
          rcases z with z | z
          · exact .inl z
          · exact .inr ⟨0, _, e0, by rw [ea]; exact z⟩
        exact ⟨aw, o1.go ⟨fun a o _ e => e, fun b o nn _ z => nn (aw b z)⟩ rfl⟩
      split at er
      · rename_i d g' eb
        split at er
        · rename_i c2 e0
          cases er
          refine (hb cdv A outer s H E hr).run _ M _ _ _ g' _ H _ eb R0 fun al' σ' v H' ret => ?_
          obtain ⟨aw, o1⟩ := fin ret.1 e0
          exact q v H' ⟨kp ret.1, o1, ret.2.go ⟨fun a o _ e => e, fun b o nn _ z => nn (aw b z)⟩⟩
        · cases er
      · rename_i c3 g' eb
        split at er
        · rename_i c2 e0
          cases er
          refine (hb cdv A outer s H E hr).run _ M _ _ _ g' _ H _ eb R0 fun al' σ' v H' ret => ?_
          obtain ⟨p, ev, n0, nm, R1, own2⟩ := ret
          obtain ⟨aw, o1⟩ := fin R1 e0
          have sw : ∀ b, With (With M a) p b → With (With M p) a b := fun b z => by
            rcases z with (z | z) | z
            · exact .inl (.inl z)
            · exact .inr z
            · exact .inl (.inr z)
          exact q v H' ⟨kp R1, p, ev, n0, o1.go ⟨fun a o _ e => e, fun b o nn _ z => nn (sw b z)⟩ rfl, own2.go ⟨fun a o _ e => e, fun b o nn _ z => nn (aw b (sw b z))⟩ rfl⟩
        · cases er
      · rename_i g' eb
        split at er
        · rename_i c2 e0
          cases er
          refine (hb cdv A outer s H E hr).run _ M _ _ .nx g' _ H _ eb R0 fun al' σ' H' R1 => ?_
          obtain ⟨aw, o1⟩ := fin R1 e0
          exact q .non H' ⟨kp R1, o1, .non⟩
        · cases er
      · cases er
    · cases er
theorem defC_ok' {n m : Nat} (Fd : Fun K x qual st f fd) (S : FnScope N ps (defScope st)) (hn1 : ps.length = n + 1) (hm : N.length = m)
    (hb : ∀ (cdv : Value) (A : Around) (outer : List Env) (s : Shared) (H : Hp) (E : XK), Room k (A.deeper (PyProof.Rows.envOfC qual (defScope st) s.heap.objs.size f cdv)) → SSs (cxOf CX0 P w K mg base N qual (defScope st) f cdv A outer s H E).nox (defBody st) fb) :
    FnOk P w K mg base CX0 (k + 1) f fd ps (spC K n (runC fb n m)) := by
  subst hm
  exact defC_ok Fd S hn1 hb
end
end Pu
end

section
set_option Elab.async false
set_option linter.all false
set_option maxRecDepth 100000
set_option maxHeartbeats 4000000
/-! PuI: what is never come to; the law's own promise. -/
namespace Pu
open PySem L2
section
variable {X : Cx} {e : Expr} {st : Stmt}
theorem se_none : SE X e (fun _ => none) := by
  constructor
  intro F Mo al g r g' σ H Q ef
  exact nomatch ef
theorem st_none : ST X e (fun _ => none) := by
  constructor
  intro F Mo al g r g' σ H Q ef
  exact nomatch ef
theorem ss_none : SS X st (fun _ => none) := by
  constructor
  intro F Mo al g r g' σ H Q ef
  exact nomatch ef
theorem se_tup0 {k : Nat} {pos : Pos} : SE X (.Tuple [] k pos) (evC (.tup [])) := by
  constructor
  intro F Mo al g r g' σ H Q ef R0 q
  cases ef
  refine to_w (pe_tup pa_nil) ⟨Nat.zero_le _, fun p hp => ?_⟩
  have n := NewV.tup (K := X.K) (M := Av Mo al g) (H := H) (fun a z => R0.trk z) hp .nil
  exact q _ _ (Sub.refl _) (n.res R0 fun a z => z)
end
theorem isAll_ints {K : Fr} {M : Ads} {H : Hp} : ∀ ns : List Int, IsAll K M H (ns.map V.int) (ns.map D.int)
  | [] => .nil
  | n :: ns => .cons (.int n) (isAll_ints ns)
/-- the law's promise at the script -/
theorem law_sp {K : Fr} {H : Hp} {a : Addr} {ns : List Int} {F : List D → Option R} {E : XK} (hl : ns.length ≤ 63) (hS : SqL K H a (ns.map V.int)) (ht : F [.fz (ns.map D.int)] = some (.im (.bl true))) : spF K 1 F [.ref a] H (fun v _ => v = .bl true) E := by
  refine ⟨fun _ => False, [.fz (ns.map D.int)], _, ht, rfl, .cons (.fz ?_ (isAll_ints ns)) .nil, fun a z => z.elim, fun v H' n => ?_⟩
  · rcases hS with h | h
    · exact .inl ⟨fun z => z, h⟩
    · exact .inr (.inr h)
  · cases n.2
    rfl
end Pu
end

section
set_option Elab.async false
set_option linter.all false
set_option maxRecDepth 100000
/-! Pu, layer J: t[::-1], sep.join(texts) -/
namespace Pu
open PySem L2 PySem.Spec PyProof.Rows

section
variable {prog : Program} {w : World} {A : Around} {E : Value → Shared → Prop} {s : Shared}
theorem back_adjust (n : Nat) : Builtin.Slice.sliceAdjust none none (-1) (n : Int) = ((n : Int) - 1, -1) := rfl
theorem back_places (n : Nat) : Builtin.Slice.slicePlaces ((n : Int) - 1) (-1) (-1) = n := by
  unfold Builtin.Slice.slicePlaces
  rw [if_neg (by decide)]
  split
  · rw [show ((n : Int) - 1 - -1 - 1) / (- -1) = (n : Int) - 1 by rw [show (- -1 : Int) = 1 from rfl, Int.ediv_one]; omega]
    omega
  · omega
theorem back_pick (xs : Array Value) : ((List.range xs.size).filterMap fun (k : Nat) => xs[(((xs.size : Int) - 1) + (k : Int) * -1).toNat]?).toArray = xs.toList.reverse.toArray := by
  have e : (List.range xs.size).map (fun (k : Nat) => (((xs.size : Int) - 1) + (k : Int) * -1).toNat) = (List.range xs.size).map fun k => xs.size - 1 - k :=
    List.map_congr_left fun k hk => by
      have := List.mem_range.mp hk
      omega
  rw [show (fun (k : Nat) => xs[(((xs.size : Int) - 1) + (k : Int) * -1).toNat]?) = (xs[·]?) ∘ fun (k : Nat) => (((xs.size : Int) - 1) + (k : Int) * -1).toNat from rfl, ← List.filterMap_map, e, PySem.W.krv_range, List.filterMap_reverse, PySem.W.krv_all]
/-- what t[::-1] asks of its slice -/
theorem back_applied {sl : Addr} {vl vu vk : Value} {n : Nat} {Q : Int × Int × Nat → Shared → Prop} (hs : s.heap.IsSliceOf sl vl vu vk) (pl : IsPart vl none) (pu : IsPart vu none) (pk : IsPart vk (some (-1)))
    (h : Q ((n : Int) - 1, -1, n) s) : wpAny (model prog w) A (Builtin.Slice.sliceApplied (.ref sl) (pure (n : Int))) Q E s := by
  obtain ⟨o, ho, _, hd⟩ := id hs
  unfold Builtin.Slice.sliceApplied Builtin.Slice.sliceFields
  refine wpAny_bind (wpAny_bind (wpAny_field ho hd (x := vl) rfl (wpAny_bind (wpAny_field ho hd (x := vu) rfl (wpAny_bind (wpAny_field ho hd (x := vk) rfl (wpAny_pure (HT.slicePart_ pk |> fun z => wpAny_bind (z ?_)))))))))
  show wpAny _ _ (if ((-1 : Int) == 0) = true then _ else _) _ _ s
  rw [if_neg (by decide)]
  refine wpAny_bind (HT.slicePart_ pl (wpAny_bind (HT.slicePart_ pu (wpAny_bind (wpAny_pure ?_)))))
  show wpAny _ _ (pure ((n : Int) - 1, (-1 : Int), Builtin.Slice.slicePlaces ((n : Int) - 1) (-1) (-1))) _ _ s
  rw [back_places]
  exact wpAny_pure h
theorem back_item {t sl : Addr} {items : Array Value} {vl vu vk : Value} {Q : Value → Shared → Prop} (ht : IsTup s.heap t items) (hs : s.heap.IsSliceOf sl vl vu vk) (pl : IsPart vl none) (pu : IsPart vu none) (pk : IsPart vk (some (-1)))
    (hz : items.size ≤ sizeLine) (h : Q (.ref s.heap.objs.size) { s with heap := s.heap.push { cls := .type "tuple", data := .seq items.toList.reverse.toArray } }) : wpAny (model prog w) A (getItem (.ref t) (.ref sl)) Q E s := by
  have fits : sizeOk (.seq items.toList.reverse.toArray) := show items.toList.reverse.toArray.size ≤ sizeLine by simpa using hz
  have hT : s.TypeIs (.ref sl) "slice" := let ⟨o, a, b, _⟩ := id hs; ⟨o, a, b⟩
  unfold getItem
  refine wpAny_holding (wpAny_bind (wpAny_sequenceKey ht.typeIs (by decide) (wpAny_bind (wpAny_callSpecial?_slot (name := Str.ofString "__getitem__") ht.typeIs slot_tuple_getitem
    (wpAny_call_entry slot_tuple_getitem ht.typeIs entry_tuple_getitem ?_ (args_tuple_getitem _ _))))))
  show wpAny _ _ (Builtin.Tuple.tupleItemsOf (.ref t) >>= _) _ _ s
  refine wpAny_bind (tupleItemsOf_ ht (wpAny_bind (wpAny_typeOf hT ?_)))
  rw [if_pos (by decide)]
  refine wpAny_bind (back_applied hs pl pu pk ?_)
  have no : ¬ (((items.size : Int) - 1 == 0 && (-1 : Int) == 1 && items.size == items.size) = true) := by
    rw [show ((-1 : Int) == 1) = false from rfl, Bool.and_false, Bool.false_and]
    exact fun z => nomatch z
  show wpAny _ _ (if ((items.size : Int) - 1 == 0 && (-1 : Int) == 1 && items.size == items.size) = true then _ else _) _ _ s
  rw [if_neg no, back_pick]
  exact wpAny_bind (m := Builtin.Tuple.tupleExact _) (wpAny_newObj_type (wpAny_pure ⟨_, rfl, wpAny_pure h⟩) fits)
end

section
variable {X : Cx} {a : Expr} {fa : EvE} {pos : Pos}
/-- t[::-1] -/
def rBack (K : PySem.W.Frag) : R1 := fun x H Q => ∃ a xs, x = .ref a ∧ SqT K H a xs ∧ ∀ p, H p = none → Q (.ref p) (upd H p (.tup xs.reverse))
theorem pe_backT {k : Nat} {p1 p2 p3 : Pos} {te : TE} (he : PE X a te) : PE X (.Subscript a (.Slice none none (some (.UnaryOp .USub (.Constant (.int 1) k p1) p2)) p3) pos) (fun σ H Q => te σ H fun x H1 => rBack X.K x H1 Q) := by
  constructor
  intro pins s σ H Q I h
  refine Subscript_ (thn (he.run pins s σ H _ I h) ?_)
  rintro v s1 ⟨_, H1, I1, r1, b, xs, rfl, hx, q⟩
  cases r1
  have st : PO X (some (.UnaryOp .USub (.Constant (.int 1) k p1) p2)) (tPart (tUn (rU fun i => .int (-i)) (tC (.int 1)))) := po_some (pe_un un_neg pe_int)
  refine wpAny_Slice (thn (po_none.run pins s1 σ H1 (fun o H2 => o = none ∧ H2 = H1) I1 ⟨rfl, rfl⟩) ?_)
  rintro vl s2 ⟨_, _, I2, pl, rfl, rfl⟩
  refine thn (po_none.run pins s2 σ _ (fun o H2 => o = none ∧ H2 = _) I2 ⟨rfl, rfl⟩) ?_
  rintro vu s3 ⟨_, _, I3, pu, rfl, rfl⟩
  refine thn (st.run pins s3 σ _ (fun o H2 => o = some (-1) ∧ H2 = _) I3 ⟨1, rfl, -1, rfl, rfl, rfl⟩) ?_
  rintro vk s4 ⟨_, _, I4, pk, rfl, rfl⟩
  have I5 := I4.kept (t' := s4.toks) (h' := s4.heap.push { cls := .type "slice", data := .fields #[vl, vu, vk] }) fun b ob q => Heap.get?_push_of_some _ q
  obtain ⟨its, r, ht, hz⟩ := I5.tuple hx
  have hlen := r.length
  show wpAny (model X.prog X.w) X.A (subscriptTail a (.Slice none none (some (.UnaryOp .USub (.Constant (.int 1) k p1) p2)) p3) (.ref b) (.ref s4.heap.objs.size)) (EP X pins σ Q) X.xe { s4 with heap := s4.heap.push { cls := .type "slice", data := .fields #[vl, vu, vk] } }
  refine tail_any (ops := [.ref b, .ref s4.heap.objs.size]) ht.typeIs slot_tuple_getitem.lookup (back_item ht (Heap.IsSliceOf.new _ vl vu vk) pl pu pk (by rw [List.size_toArray]; omega) ?_) (by with_unfolding_all rfl)
  exact ⟨.ref _, _, I5.laid (t' := s4.toks) (o := .tup xs.reverse) (fun b ob q => Heap.get?_push_of_some _ q) (Nat.le_refl _) ⟨by rw [List.length_reverse]; exact hz, _, r.reverse, IsTup.new _ _⟩, rfl, q _ (I5.hok.fresh (Nat.le_refl _))⟩
def revD : D → Option R
  | .tup xs => some (.im (.tup xs.reverse))
  | .lst xs => some (.fr (.lst xs.reverse))
  | _ => none
theorem se_rev {k : Nat} {p1 p2 p3 : Pos} (ha : SE X a fa) : SE X (.Subscript a (.Slice none none (some (.UnaryOp .USub (.Constant (.int 1) k p1) p2)) p3) pos) (ev1 fa revD) := by
  refine se_one ha fun d r h => ?_
  unfold revD at h
  split at h
  · cases h
    refine ⟨rBack X.K, pe_backT pe_w, fun M H x Q tr hx q => ?_⟩
    obtain ⟨p, xs, rfl, t, ra⟩ := hx.tup
    exact ⟨p, xs, rfl, t.sq, fun p2 hp => q _ _ (.tup tr hp ra.rev)⟩
  · cases h
    refine ⟨fun x H Q => ∃ a xs, x = .ref a ∧ SqL X.K H a xs ∧ ∀ p, H p = none → Q (.ref p) (upd H p (.lst xs.reverse)), pe_revL pe_w, fun M H x Q tr hx q => ?_⟩
    obtain ⟨p, xs, rfl, t, ra⟩ := hx.lst
    exact ⟨p, xs, rfl, .of t, fun p2 hp => q _ _ (.lst hp ra.rev)⟩
  · cases h

/-! ### sep.join(texts) -/
def strsOf : List D → Option (List (List Nat))
  | [] => some []
  | .str s :: r => (strsOf r).map (s :: ·)
  | _ => none
theorem vals_of_strsOf {K : Fr} {M : Ads} {H : Hp} : ∀ {ds : List D} {ss : List (List Nat)} {vs : List V}, strsOf ds = some ss → IsAll K M H vs ds → ∃ ys : List Str, vs = ys.map V.str ∧ ys.map (·.cps.toList) = ss
  | [], ss, vs, h, r => by
    cases r
    cases h
    exact ⟨[], rfl, rfl⟩
  | d :: ds, ss, vs, h, r => by
    cases r with
    | cons r1 r2 =>
      unfold strsOf at h
      split at h
      · rename_i e
        cases e
      · rename_i s' ds' e
        cases e
        cases e2 : strsOf ds with
        | none => rw [e2] at h; cases h
        | some ss' =>
          rw [e2] at h
          cases h
          obtain ⟨ys, rfl, rfl⟩ := vals_of_strsOf e2 r2
          cases r1
          rename_i z
          exact ⟨z :: ys, rfl, rfl⟩
      · cases h
def joinD (sep : List Nat) (d : D) : Option R := match (match d with | .tup xs => some xs | .lst xs => some xs | _ => none) with
  | none => none
  | some xs => match strsOf xs with
    | none => none
    | some ss => if (ss.map List.length).sum + ss.length * sep.length ≤ 16777216 then some (.im (.str (TL.joinL sep ss))) else none
theorem join_cps (x : Str) (ys : List Str) : (Txt.join x ys).cps.toList = TL.joinL x.cps.toList (ys.map (·.cps.toList)) := by
  have e := SX.join_S x.cps.toList (ys.map (·.cps.toList))
  have e2 : (ys.map (·.cps.toList)).map SX.S = ys := by
    rw [List.map_map]
    exact (List.map_congr_left fun y _ => SX.S_tl y).trans (List.map_id _)
  rw [e2, SX.S_tl] at e
  rw [e]
theorem join_lens (ys : List Str) : ys.map (·.length) = (ys.map (·.cps.toList)).map List.length := by
  rw [List.map_map]
  exact List.map_congr_left fun y _ => str_len rfl
theorem se_join {x : Str} {s : List Nat} {j : Nat} {p0 apos : Pos} (hx : x.cps.toList = s)
    (hj : ∀ {te : TE}, PE X a te → PE X (.Call (.Attribute (.Constant (.str x) j p0) "join" apos) [a] [] pos) (tM1 (fun x xs H Q => ∃ a p, ∃ ys : List Str, x = .str a ∧ xs = [.ref p] ∧ (SqL X.K H p (ys.map V.str) ∨ SqT X.K H p (ys.map V.str)) ∧
      (ys.map (·.length)).sum + ys.length * a.length ≤ 16777216 ∧ Q (.str (Txt.join a ys)) H) (tC (.str x)) te))
    (ha : SE X a fa) : SE X (.Call (.Attribute (.Constant (.str x) j p0) "join" apos) [a] [] pos) (ev1 fa (joinD s)) := by
  refine se_one ha fun d r h => ?_
  have main : ∀ (xs : List D) (ss : List (List Nat)), (d = .tup xs ∨ d = .lst xs) → strsOf xs = some ss → (ss.map List.length).sum + ss.length * s.length ≤ 16777216 → r = .im (.str (TL.joinL s ss)) →
      ∃ rr : R1, PE X (.Call (.Attribute (.Constant (.str x) j p0) "join" apos) [a] [] pos) (fun σ H Q => WE X a σ H fun x H1 => rr x H1 Q) ∧ Sound1 X.K rr d r := by
    intro xs ss hd es hs er
    subst er
    refine ⟨fun v H Q => ∃ p, ∃ ys : List Str, v = .ref p ∧ (SqL X.K H p (ys.map V.str) ∨ SqT X.K H p (ys.map V.str)) ∧ ys.map (·.cps.toList) = ss ∧ Q (.str (Txt.join x ys)) H, ⟨fun pins sh σ H Q I h => ?_⟩, fun M H v Q tr hv q => ?_⟩
    · refine (hj pe_w).run pins sh σ H Q I ⟨⟨x, rfl⟩, wq h ?_⟩
      rintro v H' ⟨p, ys, rfl, hq, e, q⟩
      refine ⟨x, p, ys, rfl, rfl, hq, ?_, q⟩
      rw [join_lens, e, ← List.length_map (as := ys) (f := fun y : Str => y.cps.toList), e, str_len hx]
      exact hs
    · have key : ∀ (p : Addr) (us : List V), IsAll X.K M H us xs → (∀ ys : List Str, us = ys.map V.str → SqL X.K H p (ys.map V.str) ∨ SqT X.K H p (ys.map V.str)) → v = .ref p →
          ∃ p, ∃ ys : List Str, v = .ref p ∧ (SqL X.K H p (ys.map V.str) ∨ SqT X.K H p (ys.map V.str)) ∧ ys.map (·.cps.toList) = ss ∧ Q (.str (Txt.join x ys)) H := fun p us ra sq ev => by
        obtain ⟨ys, ey, e⟩ := vals_of_strsOf es ra
        exact ⟨p, ys, ev, sq ys ey, e, q _ _ (.flat (is_str _ (by rw [join_cps, hx, e])))⟩
      rcases hd with rfl | rfl
      · obtain ⟨p, us, e, t, ra⟩ := hv.tup
        exact key p us ra (fun ys ey => .inr (ey ▸ t.sq)) e
      · obtain ⟨p, us, e, t, ra⟩ := hv.lst
        exact key p us ra (fun ys ey => .inl (.of (ey ▸ t))) e
  unfold joinD at h
  split at h
  · cases h
  · rename_i xs ex
    split at h
    · cases h
    · rename_i ss es
      split at h
      · rename_i hs
        refine main xs ss ?_ es hs (Option.some.inj h).symm
        split at ex
        · cases ex; exact .inl rfl
        · cases ex; exact .inr rfl
        · cases ex
      · cases h
/-! ### list of a text -/
theorem vals_map : ∀ {xs : List V} {us : List Value}, xs.length = us.length → (∀ (i : Nat) (v : Value), us[i]? = some v → ∃ x, xs[i]? = some x ∧ RelV x v) → Vals xs us
  | [], [], _, _ => .nil
  | x :: xs, u :: us, h, k => .cons (by obtain ⟨y, e, r⟩ := k 0 u rfl; cases e; exact r) (vals_map (Nat.succ.inj h) fun i v e => k (i + 1) v e)
  | [], _ :: _, h, _ => nomatch h
  | _ :: _, [], h, _ => nomatch h
theorem call_signs (hc : X.calm = true) : CallR X (.type "list") (fun xs H Q => ∃ x : Str, xs = [.str x] ∧ x.length ≤ sizeLine ∧ ∀ l, H l = none → Q (.ref l) (upd H l (.lst (x.cps.toList.map fun c => V.str ⟨#[c]⟩)))) := by
  intro pins s σ H xs us Q I r h
  obtain ⟨x, rfl, hz, q⟩ := h
  obtain ⟨u, rfl, t, rfl⟩ := vals1 r
  refine call_list_str (hn := hz) (I.ok.hd hc) x t fun h' tk acc c kp e ok => ?_
  have len : acc.size = x.cps.toList.length := ok.1
  have rr : Vals (x.cps.toList.map fun c => V.str ⟨#[c]⟩) acc.toList := by
    refine vals_map (by rw [List.length_map]; exact len.symm) fun i v hv => ?_
    obtain ⟨c, u, e1, rfl⟩ := ok.2 i v (by rw [← Array.getElem?_toList]; exact hv)
    exact ⟨V.str ⟨#[c]⟩, by rw [List.getElem?_map, Array.getElem?_toList, e1]; rfl, ⟨u, rfl⟩⟩
  exact ⟨.ref s.heap.objs.size, _, I.laid (t' := tk) kp (Nat.le_refl _) (show ObjOk X.prog X.w _ h' _ (.lst _) from ⟨by rw [List.length_map]; exact hz, acc.toList, c, rr, e⟩), rfl, q _ (I.hok.fresh (Nat.le_refl _))⟩
theorem lst_sign {K : Fr} {M : Ads} {H : Hp} : ∀ cs : List Nat, IsAll K M H (cs.map fun c => V.str ⟨#[c]⟩) (cs.map fun c => D.str [c])
  | [] => .nil
  | c :: cs => .cons (.str ⟨#[c]⟩) (lst_sign cs)
def listSD : D → Option R
  | .str s => if s.length ≤ sizeLine then some (.fr (.lst (s.map fun c => .str [c]))) else none
  | d => listD d
theorem listS_ok (hc : X.calm = true) : CallOk1 X (.type "list") listSD := by
  intro d r h
  unfold listSD at h
  split at h
  · split at h
    · rename_i hl
      cases h
      refine ⟨_, call_signs hc, fun M H x Q tr hx q => ?_⟩
      obtain ⟨z, rfl, ez⟩ := hx.str
      refine ⟨z, rfl, by rw [str_len ez]; exact hl, fun l hp => ?_⟩
      rw [ez]
      exact q _ _ (.lst hp (lst_sign _))
    · cases h
  · exact list_ok _ _ h
end
end Pu
end

section
set_option Elab.async false
set_option linter.all false
set_option maxRecDepth 100000
/-! PuT: a set's table of any size; its search, its growing. Keys nested as deep as one likes. -/
namespace PuT
open PySem L2 PySem.Spec PyProof.Rows

/-! ### i -> 5 i + 1 goes round all of 2 ^ n -/
def S : Nat → Nat
  | 0 => 0
  | k + 1 => S k * 5 + 1
theorem S_add (a : Nat) : ∀ b, S (a + b) = 5 ^ b * S a + S b
  | 0 => by simp [S]
  | b + 1 => by
    have := S_add a b
    show S (a + b) * 5 + 1 = 5 ^ (b + 1) * S a + (S b * 5 + 1)
    rw [this, Nat.pow_succ, Nat.add_mul, Nat.mul_right_comm]
    omega
theorem S_pow : ∀ k, 4 * S k + 1 = 5 ^ k
  | 0 => rfl
  | k + 1 => by
    have := S_pow k
    show 4 * (S k * 5 + 1) + 1 = 5 ^ (k + 1)
    rw [Nat.pow_succ, ← this]
    omega
/-- the round's length is told exactly -/
theorem S_two : ∀ n, ∃ q, S (2 ^ n) = 2 ^ n * (2 * q + 1)
  | 0 => ⟨0, rfl⟩
  | n + 1 => by
    obtain ⟨q, e⟩ := S_two n
    have h := S_add (2 ^ n) (2 ^ n)
    rw [← Nat.two_mul, Nat.mul_comm 2, ← Nat.pow_succ, ← S_pow, e] at h
    refine ⟨q * (2 * (2 ^ n * (2 * q + 1)) + 1) + 2 ^ n * (2 * q + 1), ?_⟩
    rw [h, Nat.pow_succ]
    generalize hz : 2 ^ n * (2 * q + 1) = z
    have e2 : 2 * (q * (2 * z + 1) + z) + 1 = (2 * q + 1) * (2 * z + 1) := by
      rw [Nat.add_mul, Nat.one_mul, Nat.mul_add, Nat.mul_assoc]
      omega
    have e3 : 2 ^ n * 2 * ((2 * q + 1) * (2 * z + 1)) = 2 * (z * (2 * z + 1)) := by rw [← hz, Nat.mul_comm (2 ^ n) 2, Nat.mul_assoc, Nat.mul_assoc]
    rw [e2, e3, Nat.mul_add z, Nat.mul_left_comm z 2 z, Nat.add_mul, Nat.mul_assoc 4]
    omega
theorem S_round (n k : Nat) : S (2 ^ n + k) % 2 ^ n = S k % 2 ^ n := by
  obtain ⟨q, e⟩ := S_two n
  rw [S_add, e, show 5 ^ k * (2 ^ n * (2 * q + 1)) = 2 ^ n * (5 ^ k * (2 * q + 1)) by rw [Nat.mul_left_comm], Nat.mul_add_mod]
theorem S_all : ∀ n j, j < 2 ^ n → ∃ b, b < 2 ^ n ∧ S b % 2 ^ n = j
  | 0, j, h => ⟨0, Nat.one_pos, by
    have : j = 0 := by omega
    rw [this]; rfl⟩
  | n + 1, j, h => by
    have h2 : 2 ^ (n + 1) = 2 ^ n * 2 := Nat.pow_succ ..
    obtain ⟨b, hb, e⟩ := S_all n (j % 2 ^ n) (Nat.mod_lt _ (Nat.two_pow_pos n))
    obtain ⟨q, eq⟩ := S_two n
    have ep : 5 ^ b * (2 * q + 1) % 2 = 1 := by
      rw [← S_pow, Nat.mul_mod]
      have a1 : (4 * S b + 1) % 2 = 1 := by omega
      have a2 : (2 * q + 1) % 2 = 1 := by omega
      rw [a1, a2]
    have far : S (2 ^ n + b) = 2 ^ n * (5 ^ b * (2 * q + 1)) + S b := by rw [S_add, eq, Nat.mul_left_comm]
    have cut : ∀ x, x % 2 ^ (n + 1) = x % 2 ^ n + 2 ^ n * (x / 2 ^ n % 2) := fun x => by rw [h2, Nat.mod_mul]
    have hj : j = j % 2 ^ n + 2 ^ n * (j / 2 ^ n) := by rw [Nat.mod_add_div]
    have hjd : j / 2 ^ n < 2 := Nat.div_lt_of_lt_mul (by omega)
    by_cases c : S b / 2 ^ n % 2 = j / 2 ^ n
    · exact ⟨b, by omega, by rw [cut, e, c]; exact hj.symm⟩
    · refine ⟨2 ^ n + b, by omega, ?_⟩
      rw [cut, S_round, e, far, Nat.mul_add_div (Nat.two_pow_pos n), Nat.add_mod, ep]
      have d : (1 + S b / 2 ^ n % 2) % 2 = j / 2 ^ n := by
        have u := Nat.mod_lt (S b / 2 ^ n) Nat.two_pos
        generalize S b / 2 ^ n % 2 = x at c u ⊢
        generalize j / 2 ^ n = y at c hjd ⊢
        omega
      rw [d]
      exact hj.symm
theorem lcg_S (m : Nat) : ∀ k, lcgN m k = S k % (m + 1)
  | 0 => (Nat.zero_mod _).symm
  | k + 1 => by
    show (lcgN m k * 5 + 1) % (m + 1) = (S k * 5 + 1) % (m + 1)
    rw [lcg_S m k, Nat.add_mod, Nat.mul_mod, Nat.mod_mod, ← Nat.mul_mod, ← Nat.add_mod]
/-- the masks that come -/
def Pm (m : Nat) : Prop := ∃ n, 3 ≤ n ∧ m + 1 = 2 ^ n
theorem Pm.odd {m : Nat} (h : Pm m) : m % 2 = 1 := by
  obtain ⟨n, h3, e⟩ := h
  obtain ⟨k, rfl⟩ : ∃ k, n = k + 1 := ⟨n - 1, by omega⟩
  rw [Nat.pow_succ] at e
  omega
theorem around {m : Nat} (hm : Pm m) {i j : Nat} (hi : i ≤ m) (hj : j ≤ m) : ∃ k, k ≤ m ∧ lcgI m i k = j := by
  obtain ⟨n, _, e⟩ := hm
  obtain ⟨a, ha, ea⟩ := S_all n i (by omega)
  obtain ⟨b, hb, eb⟩ := S_all n j (by omega)
  have ei : lcgN m a = i := by rw [lcg_S, e]; exact ea
  rcases Nat.lt_or_ge b a with c | c
  · exact ⟨2 ^ n + b - a, by omega, by rw [← ei, lcgN_add, show a + (2 ^ n + b - a) = 2 ^ n + b by omega, lcg_S, e, S_round, eb]⟩
  · exact ⟨b - a, by omega, by rw [← ei, lcgN_add, show a + (b - a) = b by omega, lcg_S, e, eb]⟩
theorem meet_run {m : Nat} (hm : Pm m) (h : Int) {j : Nat} (hj : j ≤ m) : ∃ n, n ≤ m + 12 ∧ runI m (SetTable.bits h) n = j := by
  obtain ⟨k, hk, e⟩ := around hm (runI_le m (SetTable.bits h) 12) hj
  exact ⟨12 + k, by omega, (runI_tail (bits_lt h) k).trans e⟩
theorem meet {m : Nat} (hm : Pm m) (h : Int) {j : Nat} (hj : j ≤ m) : ∃ k, k < 10 * SetTable.turns m ∧ way m h k = j := by
  obtain ⟨n, hn, e⟩ := meet_run hm h hj
  obtain ⟨k, hk, e2⟩ := run_nth m (SetTable.bits h) n
  exact ⟨k, by unfold SetTable.turns; omega, by unfold way; rw [e2]; exact e⟩
theorem way_in (m : Nat) (h : Int) (k : Nat) : way m h k ≤ m := by
  have hi : SetTable.bits h % (m + 1) ≤ m := Nat.le_of_lt_succ (Nat.mod_lt _ (Nat.succ_pos _))
  have q := nth_in (m := m) k (runAt m (SetTable.bits h % (m + 1)) (SetTable.bits h)) (by have := runEnd_bd hi; show SetTable.bits h % (m + 1) + (SetTable.runEnd m (SetTable.bits h % (m + 1)) - SetTable.bits h % (m + 1)) ≤ m; omega)
  exact Nat.le_trans (Nat.le_add_right _ _) q
/-- of a way that meets a slot left out, the first such -/
theorem first_out {m : Nat} {h : Int} {F : Nat → Prop} {b : Nat} (hb : F (way m h b)) : ∃ K, K ≤ b ∧ F (way m h K) ∧ ∀ k, k < K → ¬ F (way m h k) :=
  st_least (p := fun k => F (way m h k)) b hb

/-! ### what is laid -/
/-- each hash's slot is found on its way, no free slot before it -/
def Rch (m : Nat) (P : List (Int × Nat)) : Prop := ∀ h j, (h, j) ∈ P → ∃ K, way m h K = j ∧ ∀ k, k < K → way m h k ∈ P.map (·.2)
theorem Rch.ext {m : Nat} {P P' : List (Int × Nat)} (r : Rch m P) (e : ∀ q, q ∈ P' ↔ q ∈ P) : Rch m P' := fun h j hq => by
  obtain ⟨K, a, b⟩ := r h j ((e _).1 hq)
  refine ⟨K, a, fun k hk => ?_⟩
  obtain ⟨q, hq', eq⟩ := List.mem_map.mp (b k hk)
  exact List.mem_map.mpr ⟨q, (e q).2 hq', eq⟩
theorem Rch.cons {m : Nat} {P : List (Int × Nat)} (r : Rch m P) {h : Int} {K : Nat} (hb : ∀ k, k < K → way m h k ∈ P.map (·.2)) : Rch m ((h, way m h K) :: P) := fun h' j hq => by
  rcases List.mem_cons.mp hq with e | hq
  · cases e
    exact ⟨K, rfl, fun k hk => List.mem_cons_of_mem _ (hb k hk)⟩
  · obtain ⟨K', a, b⟩ := r h' j hq
    exact ⟨K', a, fun k hk => List.mem_cons_of_mem _ (b k hk)⟩
structure Tb (t : SetTable) (hs : List Int) : Prop where
  ris : Ris t.place.toList
  dm : t.dummies = #[]
  sz : t.place.toList.length = hs.length
  pm : Pm t.mask
  bd : ∀ x ∈ t.place.toList, x ≤ t.mask
  rch : Rch t.mask (hs.zip t.place.toList)
theorem zip_snd {hs : List Int} {ps : List Nat} (h : ps.length = hs.length) : (hs.zip ps).map (·.2) = ps := List.map_snd_zip (by omega)
/-- the first free slot on a hash's way -/
theorem Tb.free {t : SetTable} {hs : List Int} (T : Tb t hs) (hl : hs.length ≤ t.mask) (h : Int) : ∃ K, K < 10 * SetTable.turns t.mask ∧ way t.mask h K ∉ t.place.toList ∧ ∀ k, k < K → way t.mask h k ∈ t.place.toList := by
  obtain ⟨j, hj, hn⟩ := st_missing t.place.toList (t.mask + 1) (by rw [T.sz]; omega)
  obtain ⟨b, hb, e⟩ := meet T.pm h (Nat.le_of_lt_succ hj)
  obtain ⟨K, h1, h2, h3⟩ := first_out (F := fun x => x ∉ t.place.toList) (b := b) (e ▸ hn)
  exact ⟨K, Nat.lt_of_le_of_lt h1 hb, h2, fun k hk => Classical.not_not.mp (h3 k hk)⟩
/-- what has the hash stands before its way's first free slot -/
theorem Tb.ahead {t : SetTable} {hs : List Int} (T : Tb t hs) {h : Int} {K i j : Nat} (hK : way t.mask h K ∉ t.place.toList) (hi : hs[i]? = some h) (hj : t.place.toList[i]? = some j) : ∃ k, k < K ∧ way t.mask h k = j := by
  obtain ⟨k, e, b⟩ := T.rch h j (List.mem_iff_getElem?.mpr ⟨i, by rw [List.getElem?_zip_eq_some]; exact ⟨hi, hj⟩⟩)
  rw [zip_snd T.sz] at b
  refine ⟨k, Nat.lt_of_not_le fun c => hK ?_, e⟩
  rcases Nat.lt_or_eq_of_le c with c | rfl
  · exact b K c
  · exact e ▸ List.mem_of_getElem? hj
theorem zip_ins {α β : Type} : ∀ (p : Nat) (l : List α) (r : List β) (x : α) (y : β), p ≤ l.length → p ≤ r.length → (l.take p ++ x :: l.drop p).zip (r.take p ++ y :: r.drop p) = (l.zip r).take p ++ (x, y) :: (l.zip r).drop p
  | 0, l, r, x, y, _, _ => rfl
  | p + 1, a :: l, b :: r, x, y, h1, h2 => congrArg ((a, b) :: ·) (zip_ins p l r x y (Nat.le_of_succ_le_succ h1) (Nat.le_of_succ_le_succ h2))
  | p + 1, [], _, _, _, h1, _ => absurd h1 (by simp)
  | p + 1, _ :: _, [], _, _, _, h2 => absurd h2 (by simp)
/-- one more is put on its first free slot -/
theorem Tb.put {t : SetTable} {hs : List Int} (T : Tb t hs) {h : Int} {K : Nat} (hK : way t.mask h K ∉ t.place.toList) (hb : ∀ k, k < K → way t.mask h k ∈ t.place.toList) {p : Nat} (hp : p = SetTable.below t.place (way t.mask h K)) :
    p ≤ hs.length ∧ Tb (t.put (way t.mask h K)).1 (hs.take p ++ h :: hs.drop p) := by
  have c := (below_cut T.ris (way t.mask h K)).1
  rw [← hp, ← Array.length_toList] at c
  have c' : p ≤ hs.length := T.sz ▸ c
  have pl := put_place t (way t.mask h K)
  rw [← hp] at pl
  refine ⟨c', ⟨?_, put_dm T.dm _, ?_, T.pm, ?_, ?_⟩⟩
  · exact ris_insert T.ris fun e => hK (List.mem_of_getElem? (by rw [Array.getElem?_toList]; exact e))
  · rw [pl, len_ins _ c, len_ins _ c', T.sz]
  · intro x hx
    rw [pl] at hx
    exact (mem_ins.1 hx).elim (fun e => by rw [e]; exact way_in _ _ _) (T.bd x)
  · rw [pl, zip_ins p _ _ _ _ c' c]
    refine Rch.ext (T.rch.cons (h := h) (K := K) (by rw [zip_snd T.sz]; exact hb)) fun q => ?_
    rw [mem_ins, List.mem_cons]

/-! ### laid anew -/
theorem free_at {m : Nat} (hm : Pm m) (ow : Array (Option Nat)) (h : Int) {j : Nat} (hj : j ≤ m) (hf : oAt ow j = none) :
    ∃ K, SetTable.layClean.free m ow (SetTable.turns m) (SetTable.bits h % (m + 1)) (SetTable.bits h) = some (way m h K) ∧ oAt ow (way m h K) = none ∧ ∀ k, k < K → ¬ oAt ow (way m h k) = none := by
  obtain ⟨n, hn, e⟩ := meet_run hm h hj
  have e2 : way m h (off m (SetTable.bits h % (m + 1)) (SetTable.bits h) n) = j := by unfold way; rw [nth_off, itL_run]; exact e
  obtain ⟨K, k1, k2, k3⟩ := first_out (F := fun x => oAt ow x = none) (e2.symm ▸ hf)
  refine ⟨K, free_spec m ow _ n _ _ K (by unfold SetTable.turns; omega) k1 (fun k hk => ?_) (by rw [show oAt ow _ = none from k2]; rfl), k2, k3⟩
  cases z : oAt ow (nth m (runAt m (SetTable.bits h % (m + 1)) (SetTable.bits h)) k).j with
  | none => exact absurd z (k3 k hk)
  | some _ => rfl
structure Lw (m : Nat) (done : List Int) (ps : List Nat) (ow : Array (Option Nat)) : Prop where
  sz : ow.size = m + 1
  ln : ps.length = done.length
  own : ∀ j, j ≤ m → ∀ k, oAt ow j = some k ↔ ps[k]? = some j
  bd : ∀ j ∈ ps, j ≤ m
  rch : Rch m (done.zip ps)
theorem Lw.taken {m : Nat} {done : List Int} {ps : List Nat} {ow : Array (Option Nat)} (W : Lw m done ps ow) {j : Nat} (hj : j ≤ m) : oAt ow j = none ↔ j ∉ ps := by
  constructor
  · intro e hm
    obtain ⟨k, hk⟩ := List.mem_iff_getElem?.mp hm
    rw [(W.own j hj k).2 hk] at e
    cases e
  · intro n
    cases e : oAt ow j with
    | none => rfl
    | some k => exact absurd (List.mem_of_getElem? ((W.own j hj k).1 e)) n
theorem Lw.step {m : Nat} (hm : Pm m) {done : List Int} {ps : List Nat} {ow : Array (Option Nat)} (W : Lw m done ps ow) (hl : done.length ≤ m) (h : Int) :
    ∃ j, SetTable.layClean.free m ow (SetTable.turns m) (SetTable.bits h % (m + 1)) (SetTable.bits h) = some j ∧ Lw m (done ++ [h]) (ps ++ [j]) (ow.setIfInBounds j (some done.length)) := by
  obtain ⟨j0, h0, n0⟩ := st_missing ps (m + 1) (by rw [W.ln]; omega)
  obtain ⟨K, e1, e2, e3⟩ := free_at hm ow h (Nat.le_of_lt_succ h0) ((W.taken (Nat.le_of_lt_succ h0)).2 n0)
  have hw := way_in m h K
  have nw := (W.taken hw).1 e2
  refine ⟨way m h K, e1, ⟨by rw [Array.size_setIfInBounds, W.sz], by simp [W.ln], fun j hj k => ?_, fun j hj => ?_, ?_⟩⟩
  · rw [List.getElem?_append, W.ln]
    by_cases c : j = way m h K
    · rw [c, oAt_set_self _ (by rw [W.sz]; omega)]
      constructor
      · intro e
        cases e
        rw [if_neg (Nat.lt_irrefl _), Nat.sub_self]
        rfl
      · intro e
        split at e
        · exact absurd (List.mem_of_getElem? e) nw
        · rename_i nk
          obtain ⟨i, q⟩ : ∃ i, k - done.length = i := ⟨_, rfl⟩
          rw [q] at e
          cases i with
          | zero => rw [show k = done.length by omega]
          | succ i => cases e
    · rw [oAt_set_ne _ c, W.own j hj k]
      split
      · exact Iff.rfl
      · rename_i nk
        constructor
        · intro e
          have := (List.getElem?_eq_some_iff.mp e).1
          rw [W.ln] at this
          exact absurd this nk
        · intro e
          exact absurd (List.mem_singleton.mp (List.mem_of_getElem? e)) c
  · rcases List.mem_append.mp hj with hj | hj
    · exact W.bd j hj
    · exact List.mem_singleton.mp hj ▸ hw
  · rw [List.zip_append (by rw [W.ln])]
    refine Rch.ext (W.rch.cons (h := h) (K := K) fun k hk => ?_) fun q => ?_
    · rw [zip_snd W.ln]
      exact Classical.not_not.mp fun c => e3 k hk ((W.taken (way_in _ _ _)).2 c)
    · rw [List.mem_append, List.mem_cons, Or.comm]
      exact or_congr (by rw [show [h].zip [way m h K] = [(h, way m h K)] from rfl, List.mem_singleton]) Iff.rfl
theorem Lw.all {m : Nat} (hm : Pm m) : ∀ (rest done : List Int) (ps : List Nat) (ow : Array (Option Nat)), Lw m done ps ow → done.length + rest.length ≤ m →
    ∃ ow' ps', rest.foldl (stepF m) (some (ow, done.length)) = some (ow', (done ++ rest).length) ∧ Lw m (done ++ rest) ps' ow'
  | [], done, ps, ow, W, _ => ⟨ow, ps, by rw [List.append_nil]; rfl, by rw [List.append_nil]; exact W⟩
  | h :: rest, done, ps, ow, W, hl => by
    simp only [List.length_cons] at hl
    obtain ⟨j, e, W'⟩ := W.step hm (by omega) h
    obtain ⟨ow', ps', f, W2⟩ := Lw.all hm rest (done ++ [h]) _ _ W' (by simp only [List.length_append, List.length_singleton]; omega)
    simp only [List.append_assoc, List.singleton_append] at f W2
    refine ⟨ow', ps', ?_, W2⟩
    rw [List.foldl_cons, stepF_some e, ← f, List.length_append, List.length_singleton]
theorem lay_clean {m : Nat} (hm : Pm m) {hs : Array Int} (hn : hs.size ≤ m) : ∃ ow ps, SetTable.layClean m hs = some ow ∧ Lw m hs.toList ps ow := by
  have W0 : Lw m [] [] (Array.replicate (m + 1) none) := by
    refine ⟨by simp, rfl, fun j hj k => ?_, (fun _ z => nomatch z), fun _ _ z => nomatch z⟩
    rw [oAt_init hj]
    exact ⟨(fun z => nomatch z), fun z => nomatch z⟩
  obtain ⟨ow, ps, f, W⟩ := Lw.all hm hs.toList [] [] _ W0 (by rw [Array.length_toList]; exact Nat.le_trans (Nat.le_of_eq (Nat.zero_add _)) hn)
  refine ⟨ow, ps, ?_, W⟩
  rw [layClean_eq]
  exact (congrArg (Option.map (·.1)) f).trans rfl
theorem relay {t : SetTable} {hs : Array Int} {wanted M : Nat} (hw : SetTable.sizeAbove wanted - 1 = M) (hM : Pm M) (hn : hs.size ≤ M) :
    ∃ t' order, t.relaid hs wanted = some (t', order) ∧ order.toList.Perm (List.range hs.size) ∧ Tb t' (order.toList.map fun i => hs.getD i 0) ∧ t'.mask = M ∧ t'.led = t.led ∧ t'.plain = t.plain := by
  obtain ⟨ow, ps, e, W⟩ := lay_clean hM hn
  have ml : ∀ j k, (j, k) ∈ liveOf M ow ↔ ps[k]? = some j := fun j k => by
    rw [mem_live W.sz]
    constructor
    · intro z
      exact (W.own j z.1 k).1 z.2
    · intro z
      have b := W.bd j (List.mem_of_getElem? z)
      exact ⟨b, (W.own j b k).2 z⟩
  have ris := ris_live (fun j => ow.getD j none) (List.range (M + 1)) List.pairwise_lt_range
  have r1 : Ris ((liveOf M ow).map (·.1)) := ris.1
  have nd : ((liveOf M ow).map (·.1)).Nodup := by
    have r2 := r1
    unfold Ris at r2
    exact r2.imp fun z => Nat.ne_of_lt z
  have lps : ps.length = hs.size := W.ln
  have len : (liveOf M ow).length = hs.size := by
    have a := nat_nodup_len ((liveOf M ow).map (·.1)) ps nd fun x hx => by
      obtain ⟨⟨j, k⟩, hq, rfl⟩ := List.mem_map.mp hx
      exact List.mem_of_getElem? ((ml j k).1 hq)
    have b := nat_nodup_len (List.range hs.size) ((liveOf M ow).map (·.2)) List.nodup_range fun k hk => by
      have hk' : k < ps.length := by rw [lps]; exact List.mem_range.mp hk
      exact List.mem_map.mpr ⟨(ps[k], k), (ml _ _).2 (List.getElem?_eq_getElem hk'), rfl⟩
    simp only [List.length_map, List.length_range] at a b
    omega
  refine ⟨tabOf t M ow, ((liveOf M ow).map (·.2)).toArray, by rw [relaid_eq, hw, e]; rfl, ?_, ⟨r1, rfl, ?_, hM, fun x hx => ?_, ?_⟩, rfl, rfl, rfl⟩
  · refine perm_range hs.size _ (by rw [List.length_map]; exact len) fun k hk => ?_
    exact List.mem_map.mpr ⟨(ps[k]'(by omega), k), (ml _ _).2 (List.getElem?_eq_getElem (by omega)), rfl⟩
  · show ((liveOf M ow).map (·.1)).length = (((liveOf M ow).map (·.2)).map _).length
    simp only [List.length_map]
  · obtain ⟨⟨j, k⟩, hq, rfl⟩ := List.mem_map.mp (show x ∈ (liveOf M ow).map (·.1) from hx)
    exact W.bd j (List.mem_of_getElem? ((ml j k).1 hq))
  · show Rch M ((((liveOf M ow).map (·.2)).map fun i => hs.getD i 0).zip ((liveOf M ow).map (·.1)))
    rw [List.map_map, List.zip_map']
    refine W.rch.ext fun q => ?_
    obtain ⟨h, j⟩ := q
    have hget : ∀ k, k < hs.size → hs.toList[k]? = some (hs.getD k 0) := fun k hk => by
      rw [Array.getElem?_toList, Array.getD_eq_getD_getElem?, Array.getElem?_eq_getElem hk]
      rfl
    rw [List.mem_map, List.mem_iff_getElem?]
    constructor
    · rintro ⟨⟨j', k⟩, hq, eq⟩
      have hp := (ml j' k).1 hq
      have hk : k < hs.size := by rw [← lps]; exact (List.getElem?_eq_some_iff.mp hp).1
      cases eq
      exact ⟨k, by rw [List.getElem?_zip_eq_some]; exact ⟨hget k hk, hp⟩⟩
    · rintro ⟨k, hz⟩
      rw [List.getElem?_zip_eq_some] at hz
      have hk : k < hs.size := by rw [← lps]; exact (List.getElem?_eq_some_iff.mp hz.2).1
      have := hget k hk
      rw [hz.1] at this
      exact ⟨(j, k), (ml j k).2 hz.2, by rw [show h = hs.getD k 0 from Option.some.inj this]; rfl⟩
end PuT
end

section
set_option Elab.async false
set_option linter.all false
set_option maxRecDepth 100000
/-! PuT2: sets of tuples (nested keys) of any number: the search, adding, set(xs). -/
namespace PuT
open PySem L2 PySem.Spec PyProof.Rows
section
variable {P : Program} {w : World} {A : Around} {E : Value → Shared → Prop} {s : Shared}
theorem part_of {h : Heap} : ∀ {ks : List NestedKey} {vs : List Value}, NestedAll h ks vs → ∀ v ∈ vs, ∃ k, NestedIs h k v ∧ k.depth ≤ NestedKey.depthAll ks
  | _, _, .nil, _, hv => nomatch hv
  | k :: ks, _, .cons r rs, v, hv => by
    unfold NestedKey.depthAll
    rcases List.mem_cons.mp hv with rfl | hv
    · exact ⟨k, r, Nat.le_max_left _ _⟩
    · obtain ⟨k', a, b⟩ := part_of rs v hv
      exact ⟨k', a, Nat.le_trans b (Nat.le_max_right _ _)⟩
/-- a nested key is of no class statement -/
theorem bare_key : ∀ (n : Nat) {k : NestedKey} {v : Value} {A : Around} {E : Value → Shared → Prop} {Q : Bool → Shared → Prop}, NestedIs s.heap k v → k.depth ≤ n → Q false s → wpAny (model P w) A (ofAClassStatement n v) Q E s
  | n, .none, _, _, _, _, .none, _, q => by unfold ofAClassStatement; exact wpAny_pure q
  | n, .num _, _, _, _, _, .bool _, _, q => by unfold ofAClassStatement; exact wpAny_pure q
  | n, .num _, _, _, _, _, .int _ _, _, q => by unfold ofAClassStatement; exact wpAny_pure q
  | n, .text _, _, _, _, _, .text _ _, _, q => by unfold ofAClassStatement; exact wpAny_pure q
  | 0, .tup ks, _, _, _, _, .tup _ _ _ _, hn, _ => absurd hn (by unfold NestedKey.depth; omega)
  | n + 1, .tup ks, _, A, E, Q, .tup (a := a) (vs := vs) hg hc hd hk, hn, q => by
    have hT : s.TypeIs (.ref a) "tuple" := ⟨_, hg, hc⟩
    unfold ofAClassStatement
    refine wpAny_bind (wpAny_typeOf hT ?_)
    dsimp only
    rw [if_pos (by decide : ("tuple" == "tuple") = true)]
    refine wpAny_bind (wpAny_pure ?_)
    simp only [Bool.not_true, Bool.false_eq_true, if_false]
    refine wpAny_bind (wpAny_seqItems hg hd (wpAny_bind ?_))
    rw [← Array.forIn_toList]
    refine wpAny_forIn_list _ (fun left r t => s = t ∧ r.1 = none ∧ ∀ v ∈ left, v ∈ vs.toList) _ (fun v left r t => ?_) (fun r t => ?_) _ _ ⟨rfl, rfl, fun _ z => z⟩
    · rintro ⟨rfl, hr, sub⟩
      obtain ⟨k', r', d'⟩ := part_of hk v (sub v List.mem_cons_self)
      refine wpAny_bind (bare_key n r' (by unfold NestedKey.depth at hn; omega) ?_)
      rw [if_neg (by decide)]
      exact wpAny_pure ⟨rfl, rfl, fun u hu => sub u (List.mem_cons_of_mem _ hu)⟩
    · rintro ⟨rfl, hr, _⟩
      obtain ⟨r1, r2⟩ := r
      cases hr
      exact wpAny_pure q
/-- whether it is hashed by its value is said, and nothing is changed -/
theorem hashed_key : ∀ (n : Nat) {k : NestedKey} {v : Value} {A : Around} {E : Value → Shared → Prop} {Q : Bool → Shared → Prop}, NestedIs s.heap k v → (∀ b, Q b s) → wpAny (model P w) A (hashByValue n v) Q E s
  | n, .none, _, _, _, _, .none, q => by cases n <;> exact wpAny_pure (q _)
  | n, .num _, _, _, _, _, .bool _, q => by cases n <;> exact wpAny_pure (q _)
  | n, .num _, _, _, _, _, .int _ _, q => by cases n <;> exact wpAny_pure (q _)
  | n, .text _, _, _, _, _, .text _ _, q => by cases n <;> exact wpAny_pure (q _)
  | 0, .tup ks, _, _, _, _, .tup _ _ _ _, q => by unfold hashByValue; exact wpAny_pure (q _)
  | n + 1, .tup ks, _, A, E, Q, .tup (a := a) (vs := vs) hg hc hd hk, q => by
    have hT : s.TypeIs (.ref a) "tuple" := ⟨_, hg, hc⟩
    unfold hashByValue
    refine wpAny_bind (wpAny_specialOf hT F.slot_tuple_hash.lookup ?_)
    show wpAny _ _ (seqItems? (.ref a) >>= _) _ _ s
    refine wpAny_bind (wpAny_seqItems hg hd (wpAny_bind ?_))
    show wpAny _ _ (forIn vs _ _) _ _ s
    rw [← Array.forIn_toList]
    refine wpAny_forIn_list _ (fun left r t => s = t ∧ ∀ v ∈ left, v ∈ vs.toList) _ (fun v left r t => ?_) (fun r t => ?_) _ _ ⟨rfl, fun _ z => z⟩
    · rintro ⟨rfl, sub⟩
      obtain ⟨k', r', d'⟩ := part_of hk v (sub v List.mem_cons_self)
      refine wpAny_bind (hashed_key n r' fun b => ?_)
      cases b
      · exact wpAny_pure (by
          show wpAny _ _ _ _ _ _
          exact wpAny_pure (q _))
      · exact wpAny_pure ⟨rfl, fun u hu => sub u (List.mem_cons_of_mem _ hu)⟩
    · rintro ⟨rfl, _⟩
      obtain ⟨r1, r2⟩ := r
      cases r1 <;> exact wpAny_pure (q _)

/-- v is the key k, a tuple -/
structure Ky (h : Heap) (k : NestedKey) (v : Value) : Prop where
  is : NestedIs h k v
  dp : k.depth ≤ 8
  rf : ∃ b, v = .ref b
theorem Ky.keep {h h' : Heap} {k : NestedKey} {v : Value} (x : Ky h k v) (st : ∀ a o vs n, h.get? a = some o → o.data = .seq vs n → h'.get? a = some o) : Ky h' k v := ⟨x.is.at st _ _, x.dp, x.rf⟩
theorem Ky.quiet {k : NestedKey} {v : Value} {Q : Bool → Shared → Prop} (x : Ky s.heap k v) (q : Q true s) : wpAny (model P w) A (eqIsQuiet 8 v) Q E s := quiet_key k v 8 s x.is x.dp A E Q q
theorem unseen {k : NestedKey} {v : Value} {Q : Bool → Shared → Prop} (x : Ky s.heap k v) {ys : List Value} (hy : ∀ y ∈ ys, ∃ k', Ky s.heap k' y) (q : Q false s) : wpAny (model P w) A (searchCouldBeSeen v ys) Q E s := by
  obtain ⟨b, rfl⟩ := x.rf
  unfold searchCouldBeSeen
  refine wpAny_bind (wpAny_forIn_list _ (fun left r t => s = t ∧ r.1 = none ∧ ∀ y ∈ left, y ∈ ys) _ (fun y left r t => ?_) (fun r t => ?_) _ _ ⟨rfl, rfl, fun _ z => z⟩)
  · rintro ⟨rfl, hr, sub⟩
    obtain ⟨k', xy⟩ := hy y (sub y List.mem_cons_self)
    obtain ⟨c, rfl⟩ := xy.rf
    have next : ∀ u ∈ left, u ∈ ys := fun u hu => sub u (List.mem_cons_of_mem _ hu)
    dsimp only
    by_cases same : (b == c || (carriedByValue (.ref b) && carriedByValue (.ref c))) = true
    · exact wp_if_pos same (wpAny_pure ⟨rfl, rfl, next⟩)
    · refine wp_if_neg same (wpAny_bind (x.quiet ?_))
      rw [if_neg (by decide)]
      refine wpAny_bind (xy.quiet ?_)
      rw [if_neg (by decide)]
      refine wpAny_bind (bare_key 8 x.is x.dp ?_)
      rw [if_neg (by decide)]
      refine wpAny_bind (bare_key 8 xy.is xy.dp ?_)
      rw [if_neg (by decide)]
      exact wpAny_pure ⟨rfl, rfl, next⟩
  · rintro ⟨rfl, hr, _⟩
    obtain ⟨r1, r2⟩ := r
    cases hr
    exact wpAny_pure q

/-! ### the set -/
/-- the masks, four times as great each time -/
def Mk (m : Nat) : Prop := m = 7 ∨ m = 31 ∨ m = 127 ∨ m = 511 ∨ m = 2047 ∨ m = 8191
theorem Mk.pm {m : Nat} (h : Mk m) : Pm m := by
  rcases h with rfl | rfl | rfl | rfl | rfl | rfl
  · exact ⟨3, by decide, by decide⟩
  · exact ⟨5, by decide, by decide⟩
  · exact ⟨7, by decide, by decide⟩
  · exact ⟨9, by decide, by decide⟩
  · exact ⟨11, by decide, by decide⟩
  · exact ⟨13, by decide, by decide⟩
abbrev Row := NestedKey × Value
def rows (w : World) (L : List Row) : List (Int × Value) := L.map fun p => (p.1.hash w, p.2)
def hashs (w : World) (L : List Row) : List Int := L.map fun p => p.1.hash w
structure SetR (w : World) (h : Heap) (a : Addr) (L : List Row) (es : Array (Int × Value)) (ep : Nat) (t : SetTable) : Prop where
  ob : ∃ o, h.get? a = some o ∧ o.ExactSet ∧ o.data = .set es ep t
  rw_ : es.toList = rows w L
  tab : Tb t (hashs w L)
  nd : (L.map (·.1)).Nodup
  key : ∀ p ∈ L, Ky h p.1 p.2
  led : w.params.followText "set-order" = true ∨ t.led = true
  room : L.length * 5 < t.mask * 3
  msk : Mk t.mask
  few : L.length < 4096
variable {a : Addr} {L : List Row} {es : Array (Int × Value)} {ep : Nat} {t : SetTable}
theorem size_of (h : es.toList = rows w L) : es.size = L.length := by
  rw [← Array.length_toList, h]
  exact List.length_map _
theorem entry_of (h : es.toList = rows w L) {i : Nat} {p : Row} (e : L[i]? = some p) : es[i]? = some (p.1.hash w, p.2) := by
  rw [← Array.getElem?_toList, h]
  exact (List.getElem?_map ..).trans (congrArg (Option.map _) e)
theorem fits_of (T : Tb t (hashs w L)) (h : es.toList = rows w L) (hl : L.length ≤ t.mask) : t.fits es.size = true := by
  have e := T.sz
  unfold hashs at e
  rw [List.length_map, Array.length_toList] at e
  unfold SetTable.fits SetTable.fill
  rw [T.dm, size_of h, e]
  simpa using hl
theorem SetR.fits (R : SetR w s.heap a L es ep t) : t.fits es.size = true := fits_of R.tab R.rw_ (by have := R.room; omega)
theorem Tb.stays {hs : List Int} (T : Tb t hs) : ¬ t.gaveWay = true := by
  unfold SetTable.gaveWay
  rw [T.pm.odd]
  decide
theorem no_dummy (m : Nat) : ∀ (n : Nat) (p : SetTable.Probe), p.dummy = none → (nth m p n).dummy = none
  | 0, _, h => h
  | n + 1, p, h => no_dummy m n (adv m p) (by unfold adv; split <;> exact h)
/-- the search, from the c-th step of the way on -/
theorem search_on (R : SetR w s.heap a L es ep t) {v : Value} {k : NestedKey} (x : Ky s.heap k v) (hu : A.units + 8 < cLine) {K : Nat} (hKf : K < 10 * SetTable.turns t.mask)
    (hK : way t.mask (k.hash w) K ∉ t.place.toList) (hb : ∀ c, c < K → way t.mask (k.hash w) c ∈ t.place.toList) {Q : SetFound → Shared → Prop}
    (yes : k ∈ L.map (·.1) → Q (.there none) s) (no : k ∉ L.map (·.1) → Q (.free (way t.mask (k.hash w) K) false) s) :
    ∀ (f c : Nat) (stand : Option SetTable.Probe), stand.getD (t.probeStart (k.hash w)) = nth t.mask (runAt t.mask (SetTable.bits (k.hash w) % (t.mask + 1)) (SetTable.bits (k.hash w))) c → c ≤ K → K < c + f →
      (∀ c', c' < c → ∀ (i : Nat) p, t.place.toList[i]? = some (way t.mask (k.hash w) c') → L[i]? = some p → p.1 ≠ k) →
      wpAny (model P w) A (setSearchFrom a v (k.hash w) true f stand) Q E s := by
  obtain ⟨o, ho, hex, hd⟩ := R.ob
  have hat : ∀ (i : Nat) p, L[i]? = some p → (es[i]?.map (·.1)).getD 0 = p.1.hash w := fun i p hp => by rw [entry_of R.rw_ hp]; rfl
  intro f
  induction f with
  | zero => intro c _ _ hc hf; omega
  | succ f ih =>
    intro c stand hst hc hf gone
    rw [setSearchFrom_succ]
    refine wpAny_bind (wpAny_setState_of ho hd R.fits ?_)
    dsimp only
    refine wp_if_neg R.tab.stays ?_
    have at_ : ∀ q, (nth t.mask (nth t.mask (runAt t.mask (SetTable.bits (k.hash w) % (t.mask + 1)) (SetTable.bits (k.hash w))) c) q).j = way t.mask (k.hash w) (c + q) := fun q => by unfold way; rw [nth_add]
    rcases go_spec t R.tab.ris R.tab.dm (fun i => (es[i]?.map (·.1)).getD 0) (k.hash w) (10 * SetTable.turns t.mask) (K - c) _ (no_dummy t.mask c _ rfl) (by omega)
      (fun q hq => by rw [at_]; exact hb _ (by omega)) (by rw [at_, show c + (K - c) = K by omega]; exact hK) with ⟨q, i, hq, hi, _, past, e⟩ | ⟨past, e⟩
    · rw [show t.probe _ _ (stand.getD _) = _ from (congrArg (t.probe _ _) hst).trans e]
      dsimp only
      rw [at_] at hi ⊢
      rw [← nth_add]
      have past' : ∀ c', c' < c + q → ∀ (i : Nat) p, t.place.toList[i]? = some (way t.mask (k.hash w) c') → L[i]? = some p → p.1 ≠ k := fun c' hc' i' p' h1 h2 h3 => by
        by_cases z : c' < c
        · exact gone c' z i' p' h1 h2 h3
        · refine past (c' - c) i' (by omega) (by rw [at_, show c + (c' - c) = c' by omega]; exact h1) ?_
          rw [hat i' p' h2, h3]
      obtain ⟨p, hp⟩ : ∃ p, L[i]? = some p := by
        have h1 := (List.getElem?_eq_some_iff.mp hi).1
        rw [R.tab.sz] at h1
        unfold hashs at h1
        rw [List.length_map] at h1
        exact ⟨_, List.getElem?_eq_getElem h1⟩
      have pk := R.key p (List.mem_of_getElem? hp)
      have on : wpAny (model P w) A (searchRest a v (k.hash w) true f es t (way t.mask (k.hash w) (c + q)) i (nth t.mask (runAt t.mask (SetTable.bits (k.hash w) % (t.mask + 1)) (SetTable.bits (k.hash w))) (c + (q + 1)))) Q E s := by
        unfold searchRest
        rw [entry_of R.rw_ hp]
        dsimp only
        have m8 := pk.dp
        refine wpAny_bind (wpAny_holding (eqAt_key p.1 k A s p.2 v pk.is x.is (by omega) _ _ _ _ (wpAny_bind (wpAny_setState_of ho hd R.fits ?_))))
        dsimp only
        rw [← NestedKey.decide_eq]
        by_cases c1 : p.1 = k
        · exact wp_if_pos (by simp [c1]) (wpAny_pure (yes (List.mem_map.mpr ⟨p, List.mem_of_getElem? hp, c1⟩)))
        · refine wp_if_neg (by simp [c1]) ?_
          rw [sameMem]
          simp only [if_true, slot_live R.tab.ris hi, entry_of R.rw_ hp]
          obtain ⟨b, eb⟩ := pk.rf
          rw [eb]
          refine wpAny_bind (wpAny_isSame_ref_self (wpAny_bind (wpAny_pure ?_)))
          simp only [if_true]
          refine wp_if_neg (by simp [c1]) (ih (c + (q + 1)) _ rfl (by omega) (by omega) fun c' hc' i' p' h1 h2 => ?_)
          by_cases z : c' < c + q
          · exact past' c' z i' p' h1 h2
          · have ec : c' = c + q := by omega
            subst ec
            have s1 := slot_live R.tab.ris h1
            rw [slot_live R.tab.ris hi] at s1
            cases s1
            rw [hp] at h2
            cases h2
            exact c1
      by_cases hl : t.led = true
      · exact wp_if_neg (by simp [hl]) on
      · refine wp_if_pos (by simp [hl]) (wpAny_bind (unseen x (fun y hy => ?_) (wp_if_neg (by decide) on)))
        obtain ⟨e, he, rfl⟩ := List.mem_map.mp hy
        have he2 : e ∈ rows w L := by
          rw [← R.rw_]
          have he1 : e ∈ es ∧ e.1 = k.hash w := by simpa using he
          simpa using he1.1
        obtain ⟨p', hp', rfl⟩ := List.mem_map.mp he2
        exact ⟨_, R.key p' hp'⟩
    · rw [show t.probe _ _ (stand.getD _) = _ from (congrArg (t.probe _ _) hst).trans e]
      dsimp only
      rw [at_, show c + (K - c) = K by omega]
      refine wpAny_pure (no fun hm => ?_)
      obtain ⟨p, hp, ek⟩ := List.mem_map.mp hm
      obtain ⟨i, hi⟩ := List.mem_iff_getElem?.mp hp
      have hh : (hashs w L)[i]? = some (k.hash w) := by unfold hashs; rw [List.getElem?_map, hi, ← ek]; rfl
      have hl : i < t.place.toList.length := by rw [R.tab.sz]; exact (List.getElem?_eq_some_iff.mp hh).1
      obtain ⟨c', c1, c2⟩ := R.tab.ahead hK hh (List.getElem?_eq_getElem hl)
      have hj : t.place.toList[i]? = some (way t.mask (k.hash w) c') := by rw [c2]; exact List.getElem?_eq_getElem hl
      by_cases z : c' < c
      · exact gone c' z i p hj hi ek
      · refine past (c' - c) i (by omega) (by rw [at_, show c + (c' - c) = c' by omega]; exact hj) ?_
        rw [hat i p hi, ek]

theorem search_all (R : SetR w s.heap a L es ep t) {v : Value} {k : NestedKey} (x : Ky s.heap k v) (hu : A.units + 8 < cLine) {Q : SetFound → Shared → Prop}
    (yes : k ∈ L.map (·.1) → Q (.there none) s)
    (no : ∀ K, k ∉ L.map (·.1) → way t.mask (k.hash w) K ∉ t.place.toList → (∀ c, c < K → way t.mask (k.hash w) c ∈ t.place.toList) → Q (.free (way t.mask (k.hash w) K) false) s) :
    wpAny (model P w) A (setSearch a v (k.hash w) true) Q E s := by
  have room := R.room
  obtain ⟨K, hKf, hK, hb⟩ := R.tab.free (by unfold hashs; rw [List.length_map]; omega) (k.hash w)
  refine search_on R x hu hKf hK hb yes (fun n => no K n hK hb) 100000 0 none rfl (Nat.zero_le _) ?_ fun _ z => absurd z (Nat.not_lt_zero _)
  have : 10 * SetTable.turns t.mask ≤ 100000 := by
    unfold SetTable.turns
    rcases R.msk with e | e | e | e | e | e <;> omega
  omega
theorem map_some {α β : Type} {f : α → Option β} {g : α → β} : ∀ {l : List α}, (∀ i ∈ l, f i = some (g i)) → l.filterMap f = l.map g
  | [], _ => rfl
  | i :: l, h => by rw [List.filterMap_cons_some (h i List.mem_cons_self), List.map_cons, map_some fun j hj => h j (List.mem_cons_of_mem _ hj)]
theorem picked (hr : es.toList = rows w L) {order : Array Nat} (hp : order.toList.Perm (List.range es.size)) :
    ∃ L2, (order.filterMap (es[·]?)).toList = rows w L2 ∧ L2.Perm L ∧ hashs w L2 = order.toList.map fun i => (es.map (·.1)).getD i 0 := by
  have e1 : ∀ i, es[i]? = (L[i]?).map fun (p : Row) => (p.1.hash w, p.2) := fun i => by
    rw [← Array.getElem?_toList, hr]
    exact List.getElem?_map ..
  refine ⟨order.toList.filterMap (L[·]?), ?_, ?_, ?_⟩
  · rw [Array.toList_filterMap, show (es[·]?) = fun i => (L[i]?).map fun (p : Row) => (p.1.hash w, p.2) from funext e1, ← List.map_filterMap]
    rfl
  · have q := hp.filterMap (L[·]?)
    have q2 : (List.range es.size).filterMap (L[·]?) = L := by
      rw [size_of hr]
      have := PySem.W.krv_all L.toArray
      simpa using this
    exact q.trans (List.Perm.of_eq q2)
  · unfold hashs
    rw [List.map_filterMap]
    refine map_some fun i hi => ?_
    have hl : i < L.length := by
      rw [← size_of hr]
      exact List.mem_range.mp (hp.mem_iff.mp hi)
    rw [List.getElem?_eq_getElem hl, Array.getD_eq_getD_getElem?, Array.getElem?_map, e1, List.getElem?_eq_getElem hl]
    rfl
/-- a key stays while one set alone is changed -/
theorem Ky.but {h h' : Heap} {k : NestedKey} {v : Value} (x : Ky h k v) {o : Obj} (ho : h.get? a = some o) (hd : o.data = .set es ep t) (sb : Heap.SameBut a h h') : Ky h' k v :=
  x.keep fun b o' vs n hb hs => (sb.2 b (by
    rintro rfl
    rw [ho] at hb
    cases hb
    rw [hd] at hs
    cases hs)).trans hb
/-- the table is laid anew, four times as great -/
theorem grow {o : Obj} (ho : s.heap.get? a = some o) (hex : o.ExactSet) (hd : o.data = .set es ep t) (hr : es.toList = rows w L) (T : Tb t (hashs w L)) (nd : (L.map (·.1)).Nodup) (key : ∀ p ∈ L, Ky s.heap p.1 p.2)
    (led : w.params.followText "set-order" = true ∨ t.led = true) (few : L.length < 4096) (fit : L.length ≤ t.mask) {wanted M : Nat} (hw : SetTable.sizeAbove wanted - 1 = M) (hM : Mk M) (room : L.length * 5 < M * 3) {Q : Unit → Shared → Prop}
    (q : ∀ h' L' es' ep' t', Heap.SameBut a s.heap h' → SetR w h' a L' es' ep' t' → L'.Perm L → Q () { s with heap := h' }) : wpAny (model P w) A (setRelay a wanted) Q E s := by
  obtain ⟨t', order, e, hp, T', em, el, epl⟩ := relay (t := t) (hs := es.map (·.1)) hw hM.pm (by rw [Array.size_map, size_of hr]; omega)
  rw [Array.size_map] at hp
  obtain ⟨L2, r1, r2, r3⟩ := picked hr hp
  rw [← r3] at T'
  have big : ¬ SetTable.sizeAbove wanted > sizeLine := by
    rw [sizeLine_eq]
    rcases hM with z | z | z | z | z | z <;> omega
  have hs2 : (order.filterMap (es[·]?)).size = es.size := by rw [size_of r1, size_of hr, r2.length_eq]
  rw [setRelay_eq]
  refine wpAny_bind (wpAny_setState_of ho hd (fits_of T hr fit) ?_)
  dsimp only
  refine wp_if_neg big ?_
  rw [e]
  dsimp only
  refine wpAny_bind (wp_if_neg (by rw [hs2]; simp) (wpAny_pure ?_))
  dsimp only
  refine wpAny_storeSet_of ho hd ?_ (by rw [size_of r1, r2.length_eq, sizeLine_eq]; omega)
  have sb : Heap.SameBut a s.heap (s.heap.update a (Obj.putSet (order.filterMap (es[·]?)) t')) := Heap.SameBut.update ..
  exact q _ L2 _ (ep + 1) t' sb ⟨⟨_, store_at ho hd, ⟨hex.1, hex.2.1, hex.2.2⟩, rfl⟩, r1, T', (r2.map (·.1)).nodup_iff.mpr nd, fun p hp => (key p (r2.mem_iff.mp hp)).but ho hd sb, by rw [el]; exact led, by rw [r2.length_eq, em]; exact room, em ▸ hM, by rw [r2.length_eq]; exact few⟩ r2
end
end PuT
end

section
set_option Elab.async false
set_option linter.all false
set_option maxRecDepth 100000
/-! PuT3: adding to a set of tuples; set(xs). -/
namespace PuT
open PySem L2 PySem.Spec PyProof.Rows
section
variable {P : Program} {w : World} {A : Around} {E : Value → Shared → Prop} {s : Shared} {a : Addr} {L : List Row} {es : Array (Int × Value)} {ep : Nat} {t : SetTable}
/-- when it is full, how much it grows -/
theorem next_mask {m n : Nat} (hm : Mk m) (room : n * 5 < m * 3) (full : (n + 1) * 5 ≥ m * 3) (few : n + 1 < 4096) : ∃ M, SetTable.sizeAbove (SetTable.grown (n + 1)) - 1 = M ∧ Mk M ∧ (n + 1) * 5 < M * 3 ∧ n + 1 ≤ m := by
  rcases hm with rfl | rfl | rfl | rfl | rfl | rfl
  · obtain rfl : n = 4 := by omega
    exact ⟨31, by decide +kernel, .inr (.inl rfl), by decide, by decide⟩
  · obtain rfl : n = 18 := by omega
    exact ⟨127, by decide +kernel, .inr (.inr (.inl rfl)), by decide, by decide⟩
  · obtain rfl : n = 76 := by omega
    exact ⟨511, by decide +kernel, .inr (.inr (.inr (.inl rfl))), by decide, by decide⟩
  · obtain rfl : n = 306 := by omega
    exact ⟨2047, by decide +kernel, .inr (.inr (.inr (.inr (.inl rfl)))), by decide, by decide⟩
  · obtain rfl : n = 1228 := by omega
    exact ⟨8191, by decide +kernel, .inr (.inr (.inr (.inr (.inr rfl)))), by decide, by decide⟩
  · omega
theorem ins_perm {α : Type} (l : List α) (p : Nat) (x : α) : (l.take p ++ x :: l.drop p).Perm (x :: l) := List.perm_middle.trans (List.Perm.of_eq (by rw [List.take_append_drop]))
theorem add_key (R : SetR w s.heap a L es ep t) {v : Value} {k : NestedKey} (x : Ky s.heap k v) (hu : A.units + 8 < cLine) (few : L.length + 1 < 4096) {Q : Bool → Shared → Prop}
    (q : ∀ b h' L' es' ep' t', Heap.SameBut a s.heap h' → SetR w h' a L' es' ep' t' → (k ∈ L.map (·.1) → L' = L) → (k ∉ L.map (·.1) → L'.Perm ((k, v) :: L)) → Q b { s with heap := h' }) :
    wpAny (model P w) A (setAddHashed a v (k.hash w)) Q E s := by
  obtain ⟨o, ho, hex, hd⟩ := R.ob
  obtain ⟨bx, rfl⟩ := x.rf
  unfold setAddHashed
  rw [show (100000 : Nat) = 99999 + 1 from rfl, setAddHashedIn_succ]
  refine wpAny_holding (wpAny_bind (wpAny_setState_of ho hd R.fits (wp_if_neg (by simp [byScan, Value.scannable]) (wpAny_bind (search_all R x hu (fun hm => ?_) fun K hm hK hb => ?_)))))
  · exact wpAny_pure (q false s.heap L es ep t (Heap.SameBut.refl a s.heap) R (fun _ => rfl) fun z => absurd hm z)
  · dsimp only
    refine wpAny_bind (wpAny_setState_of ho hd R.fits ?_)
    dsimp only
    obtain ⟨hp, T⟩ := R.tab.put hK hb rfl
    have hp2 : (t.put (way t.mask (k.hash w) K)).2 = SetTable.below t.place (way t.mask (k.hash w) K) := rfl
    have hm1 : (t.put (way t.mask (k.hash w) K)).1.mask = t.mask := rfl
    have hl1 : (t.put (way t.mask (k.hash w) K)).1.led = t.led := rfl
    generalize hpt : t.put (way t.mask (k.hash w) K) = pt at T hp2 hm1 hl1 ⊢
    obtain ⟨t1, p⟩ := pt
    dsimp only at T hp2 hm1 hl1 ⊢
    rw [← hp2] at T hp
    -- the rows
    have er : (SetTable.insertAt es p (k.hash w, Value.ref bx)).toList = rows w (L.take p ++ (k, Value.ref bx) :: L.drop p) := by
      rw [SetTable.toList_insertAt, R.rw_]
      unfold rows
      rw [List.map_append, List.map_cons, List.map_take, List.map_drop]
    have eh : hashs w (L.take p ++ (k, Value.ref bx) :: L.drop p) = (hashs w L).take p ++ k.hash w :: (hashs w L).drop p := by
      unfold hashs
      rw [List.map_append, List.map_cons, List.map_take, List.map_drop]
    rw [← eh] at T
    have pm := ins_perm L p (k, Value.ref bx)
    generalize L.take p ++ (k, Value.ref bx) :: L.drop p = L1 at er eh T pm
    have ln : L1.length = L.length + 1 := pm.length_eq
    have e1 : (SetTable.insertAt es p (k.hash w, Value.ref bx)).size = L.length + 1 := by rw [size_of er, ln]
    generalize SetTable.insertAt es p (k.hash w, Value.ref bx) = es1 at er e1 ⊢
    have nd1 : (L1.map (·.1)).Nodup := (pm.map (·.1)).nodup_iff.mpr (List.nodup_cons.mpr ⟨hm, R.nd⟩)
    have after : ∀ (t2 : SetTable), t2.mask = t1.mask → t2.led = t1.led → t2.fill = t1.fill → Tb t2 (hashs w L1) → wpAny (model P w) A (do
        storeSet a es1 t2
        if (!false && t2.tooFull) = true then setRelay a (SetTable.grown (es.size + 1))
        return true) Q E s := fun t2 m2 l2 f2 T2 => by
      have room := R.room
      refine wpAny_bind (wpAny_storeSet_of ho hd ?_ (by rw [e1, sizeLine_eq]; omega))
      have sb : Heap.SameBut a s.heap (s.heap.update a (Obj.putSet es1 t2)) := Heap.SameBut.update ..
      have ho1 := store_at (es' := es1) (t' := t2) ho hd
      generalize s.heap.update a (Obj.putSet es1 t2) = h1 at sb ho1 ⊢
      have key1 : ∀ p ∈ L1, Ky h1 p.1 p.2 := fun p hp => by
        rcases List.mem_cons.mp (pm.mem_iff.mp hp) with rfl | hp
        · exact x.but ho hd sb
        · exact (R.key p hp).but ho hd sb
      have led1 : w.params.followText "set-order" = true ∨ t2.led = true := by rw [l2, hl1]; exact R.led
      have fl : t2.fill = L.length + 1 := by
        unfold SetTable.fill
        rw [T2.dm, ← Array.length_toList, T2.sz]
        unfold hashs
        rw [List.length_map, ln]
        rfl
      by_cases hf : t2.tooFull = true
      · have full : (L.length + 1) * 5 ≥ t.mask * 3 := by
          unfold SetTable.tooFull at hf
          rw [decide_eq_true_eq, fl, m2, hm1] at hf
          exact hf
        obtain ⟨M, h1', h2', h3', h4'⟩ := next_mask R.msk room full few
        rw [size_of R.rw_]
        refine wp_if_pos (by simp [hf]) (wpAny_bind (grow (s := { s with heap := h1 }) ho1 ⟨hex.1, hex.2.1, hex.2.2⟩ rfl er T2 nd1 key1 led1 (by omega) (by rw [ln, m2, hm1]; exact h4') h1' h2' (by rw [ln]; exact h3') fun h2 L2 es2 ep2 t3 sb2 R2 pm2 => ?_))
        exact wpAny_pure (q true h2 L2 es2 ep2 t3 (sb.trans sb2) R2 (fun z => absurd z hm) fun _ => pm2.trans pm)
      · refine wp_if_neg (by simp [hf]) (wpAny_pure (q true h1 L1 es1 (ep + 1) t2 sb ⟨⟨_, ho1, ⟨hex.1, hex.2.1, hex.2.2⟩, rfl⟩, er, T2, nd1, key1, led1, ?_, by rw [m2, hm1]; exact R.msk, by omega⟩ (fun z => absurd z hm) fun _ => pm))
        unfold SetTable.tooFull at hf
        rw [decide_eq_true_eq, fl] at hf
        rw [ln]
        omega
    have said : ∀ b : Bool, wpAny (model P w) A (do
        let t ← pure (if b = true then t1 else { t1 with plain := false })
        storeSet a es1 t
        if (!false && t.tooFull) = true then setRelay a (SetTable.grown (es.size + 1))
        return true) Q E s := fun b => by
      refine wpAny_bind (wpAny_pure ?_)
      cases b
      · exact after _ rfl rfl rfl ⟨T.ris, T.dm, T.sz, T.pm, T.bd, T.rch⟩
      · exact after _ rfl rfl rfl T
    by_cases pl : t1.plain = true
    · refine wp_if_pos pl (wpAny_bind (hashed_key 8 x.is fun b => ?_))
      exact said b
    · refine wp_if_neg pl (wpAny_bind (wpAny_pure ?_))
      exact said true
end

/-! ### set(xs) -/
/-- what a set has of the first i -/
structure Has (ks : List Row) (i : Nat) (L : List Row) : Prop where
  sub : ∀ p ∈ L, p ∈ ks.take i
  all : ∀ p ∈ ks.take i, p.1 ∈ L.map (·.1)
  len : L.length ≤ i
theorem Has.next {ks L L' : List Row} {i : Nat} {p : Row} (g : Has ks i L) (h : ks[i]? = some p) (c1 : p.1 ∈ L.map (·.1) → L' = L) (c2 : p.1 ∉ L.map (·.1) → L'.Perm (p :: L)) : Has ks (i + 1) L' := by
  have e : ks.take (i + 1) = ks.take i ++ [p] := by rw [List.take_add_one, h]; rfl
  by_cases c : p.1 ∈ L.map (·.1)
  · obtain rfl := c1 c
    refine ⟨fun q hq => ?_, fun q hq => ?_, Nat.le_succ_of_le g.len⟩
    · rw [e]
      exact List.mem_append_left _ (g.sub q hq)
    · rw [e] at hq
      rcases List.mem_append.mp hq with hq | hq
      · exact g.all q hq
      · exact List.mem_singleton.mp hq ▸ c
  · have pm := c2 c
    refine ⟨fun q hq => ?_, fun q hq => ?_, by rw [pm.length_eq]; exact Nat.succ_le_succ g.len⟩
    · rw [e]
      rcases List.mem_cons.mp (pm.mem_iff.mp hq) with rfl | hq
      · exact List.mem_append_right _ List.mem_cons_self
      · exact List.mem_append_left _ (g.sub q hq)
    · rw [e] at hq
      refine (pm.map (·.1)).mem_iff.mpr ?_
      rcases List.mem_append.mp hq with hq | hq
      · exact List.mem_cons_of_mem _ (g.all q hq)
      · exact List.mem_singleton.mp hq ▸ List.mem_cons_self
theorem SetR.keep {h h' : Heap} (R : SetR w h a L es ep t) (ha : ∀ o, h.get? a = some o → h'.get? a = some o) (hk : ∀ p ∈ L, Ky h' p.1 p.2) : SetR w h' a L es ep t :=
  let ⟨o, ho, r⟩ := R.ob
  ⟨⟨o, ha o ho, r⟩, R.rw_, R.tab, R.nd, hk, R.led, R.room, R.msk, R.few⟩
abbrev newS (w : World) : Obj := { cls := .type "set", dict := none, data := .set #[] 0 (.fresh 0 0 (!w.params.followText "set-order")) }
theorem SetR.new {h : Heap} (ho : h.get? a = some (newS w)) : SetR w h a [] #[] 0 (.fresh 0 0 (!w.params.followText "set-order")) := by
  refine ⟨⟨_, ho, ⟨rfl, rfl, rfl⟩, rfl⟩, rfl, ⟨List.Pairwise.nil, rfl, rfl, ⟨3, by decide, rfl⟩, (fun x hx => nomatch hx), fun _ _ z => nomatch z⟩, List.nodup_nil, (fun p hp => nomatch hp), ?_, (show 0 * 5 < 7 * 3 by decide), .inl rfl, by decide⟩
  show _ ∨ (!w.params.followText "set-order") = true
  cases w.params.followText "set-order"
  · exact .inr rfl
  · exact .inl rfl
section
variable {P : Program} {w : World} {A : Around}
theorem set_loop {I : Addr} {fp wr : List Addr} {G : Array GenState → Array GenState → Prop} {n : Nat} {Pv : Nat → Value → Prop} {St : Nat → Shared → Prop} {R : Result → Shared → Prop} (W : WalksS P w A.in1 I fp wr G n Pv St)
    {S : Addr} (hS : S ∉ fp) {ks : List Row} (hn : ks.length = n) (few : ks.length < 4096) (hv : ∀ i v, Pv i v → ∃ p, ks[i]? = some p ∧ v = p.2) {h0 : Heap} (hk : ∀ p ∈ ks, Ky h0 p.1 p.2) (new : ∀ b ∈ S :: wr, h0.get? b = none) (hu : A.in1.units + 8 < cLine) :
    ∀ (k i : Nat) (s : Shared), i + k = n → St i s → (∀ b o, h0.get? b = some o → s.heap.get? b = some o) → (∃ L es ep t, SetR w s.heap S L es ep t ∧ Has ks i L) →
      (∀ s' L es ep t, Moved (S :: wr) G s s' → SetR w s'.heap S L es ep t → Has ks n L → (∀ b o, h0.get? b = some o → s'.heap.get? b = some o) → R (.ok (.ret .none)) s') →
      codeAny (model P w) A (.builtin "set.update.loop" ⟨[.ref S, .ref I], []⟩) R s := by
  have more : ∀ b ∈ wr, b ∈ S :: wr := fun b hb => List.mem_cons_of_mem _ hb
  have out : S ∉ wr := fun z => hS (W.sub _ z)
  have stay : ∀ {s s' : Shared}, Moved wr G s s' → (∀ b o, h0.get? b = some o → s.heap.get? b = some o) → ∀ b o, h0.get? b = some o → s'.heap.get? b = some o := fun m kp b o e =>
    m.heap b o (fun hb => by rw [new b (more b hb)] at e; cases e) (kp b o e)
  have kept : ∀ {i : Nat} {s s' : Shared} {L : List Row} {es ep t}, Moved wr G s s' → (∀ b o, h0.get? b = some o → s'.heap.get? b = some o) → SetR w s.heap S L es ep t → Has ks i L → SetR w s'.heap S L es ep t := fun m kp' R g =>
    R.keep (fun o e => m.heap S o out e) fun p hp => (hk p (List.mem_of_mem_take (g.sub p hp))).keep fun b o _ _ e _ => kp' b o e
  intro k
  induction k with
  | zero =>
    intro i s hi st kp ⟨L, es, ep, t, R0, g⟩ q
    obtain rfl : i = n := by omega
    refine codeAny_builtin F.entry_set_update_loop ?_
    rw [Around.under_plainId F.plain_set_update_loop _]
    refine wpAny_bind (m := pyNext (.ref I)) (W.done s _ _ st fun s' m => ?_)
    have kp' := stay m kp
    show wpAny _ A.in1 (ret Value.none) _ _ s'
    exact wpAny_pure (q s' L es ep t (m.mono more) (kept m kp' R0 g) g kp')
  | succ k ih =>
    intro i s hi st kp ⟨L, es, ep, t, R0, g⟩ q
    refine codeAny_builtin F.entry_set_update_loop ?_
    rw [Around.under_plainId F.plain_set_update_loop _]
    refine wpAny_bind (m := pyNext (.ref I)) (W.item i s _ _ (by omega) st fun v s' hP st' m => ?_)
    obtain ⟨p, hp, rfl⟩ := hv i v hP
    have kp' := stay m kp
    have x : Ky s'.heap p.1 p.2 := (hk p (List.mem_of_getElem? hp)).keep fun b o _ _ e _ => kp' b o e
    have dp := x.dp
    show wpAny _ A.in1 (holding [p.2] (setAdd S p.2) >>= _) _ _ s'
    unfold setAdd
    refine wpAny_bind (wpAny_holding (wpAny_holding (wpAny_bind (pyHash_key p.1 p.2 _ _ _ x.is (by omega) ?_))))
    have R1' := kept m kp' R0 g
    refine add_key (s := { s' with toks := s'.toks + p.1.draws }) R1' x hu (by have := g.len; omega) fun b h' L' es' ep' t' sb R1 c1 c2 => ?_
    have kp2 : ∀ b o, h0.get? b = some o → h'.get? b = some o := fun b o e => (sb.2 b (by
      rintro rfl
      rw [new _ List.mem_cons_self] at e
      cases e)).trans (kp' b o e)
    have sb' : ∀ b, b ≠ S → ∀ o, s'.heap.get? b = some o → h'.get? b = some o := fun b hb o e => (sb.2 b hb).trans e
    refine wpAny_pure ⟨plainId_quiet F.plain_set_update_loop _, ih (i + 1) _ (by omega) (W.frame _ s' _ _ st' (Nat.le_add_right _ _) fun b hb => sb' b fun z => hS (z ▸ hb)) kp2 ⟨L', es', ep', t', R1, g.next hp c1 c2⟩ fun s2 L2 es2 ep2 t2 m2 R2 g2 kp3 => ?_⟩
    exact q s2 L2 es2 ep2 t2 (Moved.trans W.gtrans ((m.mono more).then_heap (Nat.le_add_right _ _) fun b o hb e => sb' b (fun z => hb (z ▸ List.mem_cons_self)) o e) m2) R2 g2 kp3
end
end PuT
end

section
set_option Elab.async false
set_option linter.all false
set_option maxRecDepth 100000
/-! PuT4: set(a list of tuples), set(a tuple of tuples); its length; sorted of it. -/
namespace PuT
open PySem L2 PySem.Spec PyProof.Rows
section
variable {P : Program} {w : World} {A : Around} {E : Value → Shared → Prop} {s : Shared}
set_option maxHeartbeats 3200000 in
theorem set_call {v : Value} {Q : Value → Shared → Prop} (h : wpAny (model P w) A.in1.in1 (Builtin.Frozenset.updateFrom "set.__init__" s.heap.objs.size v) (fun _ s' => s'.TypeIs (.ref s.heap.objs.size) "set" ∧ Q (.ref s.heap.objs.size) s') E { s with heap := s.heap.push (newS w) }) :
    wpAny (model P w) A (call (.type "set") [v]) Q E s := by
  obtain ⟨c, tl, hm⟩ := F.called_set.mro
  have f1 := F.called_set.made; have f2 := F.called_set.sub; have f3 := F.typeCall_set_1 v; have f4 := F.called_set.notType; have f5 := F.called_set.canCreate
  refine wpAny_call (codeAny_of_tree (wpAny_pure ⟨Code.quiet_builtin _ (by decide +kernel), codeAny_builtin F.entry_type_call ?_⟩))
  rw [Around.under_plain (weight_type_call_type "set" [v] []) rfl]
  repeat any_goals first | assumption | wp_step
  refine codeAny_mono (code_set_led1 v (E := E) (Q₁ := fun obj t => obj = .ref s.heap.objs.size ∧ t = { s with heap := s.heap.push (newS w) }) ⟨rfl, rfl⟩) ?_
  intro r s1 hr
  rcases r with e | fl
  · exact hr
  cases fl with
  | ret obj =>
    obtain ⟨rfl, rfl⟩ := hr
    have hTS : Shared.TypeIs { s with heap := s.heap.push (newS w) } (.ref s.heap.objs.size) "set" := ⟨_, Heap.get?_push_size _ rfl, rfl⟩
    have g1 := F.called_set.init.lookup; have g2 := F.called_set.init.bind (.ref s.heap.objs.size)
    repeat any_goals first | assumption | wp_step
    refine codeAny_mono (codeAny_call_builtin (R := wants (fun r s₂ => r = .none ∧ s₂.TypeIs (.ref s.heap.objs.size) "set" ∧ Q (.ref s.heap.objs.size) s₂) E) F.called_set.init.plain F.entry_set_init (check_set_init_1 hTS ?_)) ?_
    · have hS : (s.heap.push (newS w)).get? s.heap.objs.size = some (newS w) := Heap.get?_push_size _ rfl
      clear hm f1 f2 f3 f4 f5 g1 g2
      unfold Builtin.«set.__init__» noKeywords
      generalize Builtin.Frozenset.updateFrom = PI at h ⊢
      wp_walk
      refine wpAny_mono h (fun _ s' q => ?_) fun _ _ z => z
      show wpAny _ _ (ret Value.none) _ _ s'
      exact wpAny_pure ⟨rfl, q⟩
    · intro r2 s2 h2
      rcases r2 with e | fl2
      · exact h2
      cases fl2 with
      | ret r =>
        obtain ⟨rfl, h3, h4⟩ := h2
        repeat any_goals first | assumption | wp_step
      | _ => exact h2.elim
  | _ => exact hr.elim
end
end PuT
end

section
set_option Elab.async false
set_option linter.all false
set_option maxRecDepth 100000
/-! PuT5: set(a list of tuples), set(a tuple of tuples). -/
namespace PuT
open PySem L2 PySem.Spec PyProof.Rows
section
variable {P : Program} {w : World} {A : Around} {E : Value → Shared → Prop} {s : Shared}
theorem upd_iter {v : Value} {T : String} {S : Addr} {id : String} {Q : Unit → Shared → Prop} (hT : s.TypeIs v T) (n1 : isSubtype (.type T) (.type "set") = pure false) (n2 : isSubtype (.type T) (.type "frozenset") = pure false) (n3 : (Value.type T == Value.type "dict") = false)
    (it : wpAny (model P w) A (pyIter v) (fun u s' => wpAny (model P w) A (runValue (.builtin "set.update.loop" ⟨[.ref S, u], []⟩)) (fun _ => Q ()) E s') E s) : wpAny (model P w) A (Builtin.Frozenset.updateFrom id S v) Q E s := by
  unfold Builtin.Frozenset.updateFrom
  generalize pyIter = PI at it ⊢
  generalize runValue = RV at it ⊢
  wp_walk
  refine wpAny_mono it (fun u s' q => ?_) fun _ _ z => z
  exact wpAny_bind (wpAny_mono q (fun _ _ r => wpAny_pure r) fun _ _ z => z)
/-- where the items come from -/
theorem none_at {h : Heap} {b : Addr} (hb : h.objs.size ≤ b) : h.get? b = none := by
  cases q : h.get? b with
  | none => rfl
  | some o => exact absurd (Nat.lt_of_lt_of_le (Heap.lt_size q) hb) (Nat.lt_irrefl _)
theorem set_seq {l : Addr} {T TI : String} {items : Array Value} {ks : List Row} {Q : Value → Shared → Prop} (hit : items.toList = ks.map (·.2)) (hk : ∀ p ∈ ks, Ky s.heap p.1 p.2) (few : ks.length < 4096) (hu : A.units + 12 < cLine) (hl : l < s.heap.objs.size)
    (hT : ∀ h' : Heap, (∀ b o, s.heap.get? b = some o → h'.get? b = some o) → Shared.TypeIs { s with heap := h' } (.ref l) T) (n1 : isSubtype (.type T) (.type "set") = pure false) (n2 : isSubtype (.type T) (.type "frozenset") = pure false) (n3 : (Value.type T == Value.type "dict") = false)
    (it : ∀ (h' : Heap) (Q' : Value → Shared → Prop), (∀ b o, s.heap.get? b = some o → h'.get? b = some o) →
      Q' (.ref h'.objs.size) { s with heap := h'.push { cls := .type TI, data := .fields #[.ref l, .int 0 0] } } → wpAny (model P w) A.in1.in1 (pyIter (.ref l)) Q' E { s with heap := h' })
    (St : Nat → Heap → Prop) (W : Walks P w A.in1.in1.in1 (s.heap.objs.size + 1) [s.heap.objs.size + 1, l] [s.heap.objs.size + 1] items.size (fun i v => items[i]? = some v) St)
    (st : ∀ h' : Heap, (∀ b o, s.heap.get? b = some o → h'.get? b = some o) → h'.get? (s.heap.objs.size + 1) = some { cls := .type TI, data := .fields #[.ref l, .int 0 0] } → St 0 h')
    (q : ∀ (h' : Heap) (tk : Nat) L es ep t, SetR w h' s.heap.objs.size L es ep t → Has ks ks.length L → (∀ b o, s.heap.get? b = some o → h'.get? b = some o) → Q (.ref s.heap.objs.size) { s with heap := h', toks := tk }) :
    wpAny (model P w) A (call (.type "set") [.ref l]) Q E s := by
  have sz : (s.heap.push (newS w)).objs.size = s.heap.objs.size + 1 := Heap.size_push ..
  have k1 : ∀ b o, s.heap.get? b = some o → (s.heap.push (newS w)).get? b = some o := fun b o e => Heap.get?_push_of_some _ e
  have isz : items.size = ks.length := by rw [← Array.length_toList, hit, List.length_map]
  refine set_call (upd_iter (T := T) (hT _ k1) n1 n2 n3 (it _ _ k1 ?_))
  have hI : ((s.heap.push (newS w)).push { cls := .type TI, data := .fields #[.ref l, .int 0 0] }).get? (s.heap.objs.size + 1) = some { cls := .type TI, data := .fields #[.ref l, .int 0 0] } := by
    rw [← sz]
    exact Heap.get?_push_size _ rfl
  have hS : ((s.heap.push (newS w)).push { cls := .type TI, data := .fields #[.ref l, .int 0 0] }).get? s.heap.objs.size = some (newS w) := Heap.get?_push_of_some _ (Heap.get?_push_size _ rfl)
  have k2 : ∀ b o, s.heap.get? b = some o → ((s.heap.push (newS w)).push { cls := .type TI, data := .fields #[.ref l, .int 0 0] }).get? b = some o := fun b o e => Heap.get?_push_of_some _ (k1 b o e)
  have hne : s.heap.objs.size ∉ [s.heap.objs.size + 1, l] := fun z => by
    rcases List.mem_cons.mp z with z | z
    · exact absurd z (Nat.ne_of_lt (Nat.lt_succ_self _))
    · exact absurd (List.mem_singleton.mp z) (Nat.ne_of_gt hl)
  rw [sz]
  refine wpAny_runValue (set_loop W.toS (S := s.heap.objs.size) hne isz.symm few (fun i v hv => ?_) hk (fun b hb => ?_) (by simp only [Around.in1_units]; omega) items.size 0 _ (Nat.zero_add _)
    (st _ k2 hI) k2 ⟨[], #[], 0, _, SetR.new hS, ⟨(fun _ z => nomatch z), (fun _ z => by simp at z), Nat.le_refl _⟩⟩ fun s' L es ep t m R g k => ?_)
  · have e : items.toList[i]? = some v := by rw [Array.getElem?_toList]; exact hv
    rw [hit, List.getElem?_map] at e
    obtain ⟨p, e1, e2⟩ := Option.map_eq_some_iff.mp e
    exact ⟨p, e1, e2.symm⟩
  · refine none_at ?_
    rcases List.mem_cons.mp hb with rfl | hb
    · exact Nat.le_refl _
    · rw [List.mem_singleton.mp hb]
      exact Nat.le_succ _
  · obtain ⟨h', g2, d', tk', os'⟩ := s'
    have eg : g2 = s.gens := m.gens
    have ed : d' = s.drawn := m.drawn
    have eo : os' = s.os := m.os
    subst eg ed eo
    rw [isz] at g
    obtain ⟨o, ho, hx, _⟩ := R.ob
    exact ⟨⟨o, ho, hx.1⟩, q h' tk' L es ep t R g k⟩
end
end PuT
end

section
set_option Elab.async false
set_option linter.all false
set_option maxRecDepth 100000
/-! PuT6: set(a list), set(a tuple); sorted(a set), len(a set). -/
namespace PuT
open PySem L2 PySem.Spec PyProof.Rows PySem.W
section
variable {P : Program} {w : World} {A : Around} {E : Value → Shared → Prop} {s : Shared}
theorem set_list {l : Addr} {items : Array Value} {ks : List Row} {Q : Value → Shared → Prop} (hh : A.handled = none) (hl : s.heap.IsList l items) (hit : items.toList = ks.map (·.2)) (hk : ∀ p ∈ ks, Ky s.heap p.1 p.2) (few : ks.length < 4096) (hu : A.units + 12 < cLine)
    (q : ∀ (h' : Heap) (tk : Nat) L es ep t, SetR w h' s.heap.objs.size L es ep t → Has ks ks.length L → (∀ b o, s.heap.get? b = some o → h'.get? b = some o) → Q (.ref s.heap.objs.size) { s with heap := h', toks := tk }) :
    wpAny (model P w) A (call (.type "set") [.ref l]) Q E s := by
  obtain ⟨o, ho, hc, n, hd⟩ := id hl
  have lt := Heap.lt_size ho
  have at_ : ∀ h' : Heap, (∀ b o, s.heap.get? b = some o → h'.get? b = some o) → h'.IsList l items := fun h' k => ⟨o, k l o ho, hc, n, hd⟩
  exact set_seq (T := "list") (TI := "list_iterator") hit hk few hu lt (fun h' k => ⟨o, k l o ho, hc⟩) F.sub_list_set F.sub_list_frozenset (by decide) (fun h' Q' k q => wpAny_pyIter_list (s := { s with heap := h' }) (at_ h' k) q) _
    (Walks.list (A := A.in1.in1.in1) hh (s.heap.objs.size + 1) l (Nat.ne_of_lt (Nat.lt_succ_of_lt lt)) items) (fun h' k e => ⟨⟨_, e, rfl, rfl⟩, at_ h' k⟩) q
theorem set_tuple {l : Addr} {items : Array Value} {ks : List Row} {Q : Value → Shared → Prop} (hh : A.handled = none) (hl : s.heap.IsTuple l items) (hit : items.toList = ks.map (·.2)) (hk : ∀ p ∈ ks, Ky s.heap p.1 p.2) (few : ks.length < 4096) (hu : A.units + 12 < cLine)
    (q : ∀ (h' : Heap) (tk : Nat) L es ep t, SetR w h' s.heap.objs.size L es ep t → Has ks ks.length L → (∀ b o, s.heap.get? b = some o → h'.get? b = some o) → Q (.ref s.heap.objs.size) { s with heap := h', toks := tk }) :
    wpAny (model P w) A (call (.type "set") [.ref l]) Q E s := by
  obtain ⟨o, ho, hc, n, hd⟩ := id hl
  have lt := Heap.lt_size ho
  have at_ : ∀ h' : Heap, (∀ b o, s.heap.get? b = some o → h'.get? b = some o) → h'.IsTuple l items := fun h' k => ⟨o, k l o ho, hc, n, hd⟩
  exact set_seq (T := "tuple") (TI := "tuple_iterator") hit hk few hu lt (fun h' k => ⟨o, k l o ho, hc⟩) F.sub_tuple_set F.sub_tuple_frozenset (by decide) (fun h' Q' k q => wpAny_pyIter_tuple (s := { s with heap := h' }) (at_ h' k) q) _
    (Walks.tuple (A := A.in1.in1.in1) hh (s.heap.objs.size + 1) l (Nat.ne_of_lt (Nat.lt_succ_of_lt lt)) items) (fun h' k e => ⟨⟨_, e, rfl, rfl⟩, at_ h' k⟩) q

theorem len_set {a : Addr} {L : List Row} {es : Array (Int × Value)} {ep : Nat} {t : SetTable} {Q : Value → Shared → Prop} (R : SetR w s.heap a L es ep t) (q : ∀ u k, Q (.int L.length u) { s with toks := k }) : wpAny (model P w) A (call (.builtin "len") [.ref a]) Q E s := by
  obtain ⟨o, ho, hx, hd⟩ := R.ob
  have few := R.few
  have e := size_of R.rw_
  refine call_len_set ho hx hd R.fits (by rw [e]; omega) ?_
  rw [e]
  exact q _ _
theorem lift_perm {α β : Type} {f : α → β} : ∀ {us : List β} {l : List α}, us.Perm (l.map f) → ∃ l' : List α, l'.Perm l ∧ us = l'.map f
  | [], l, h => ⟨[], by
    have := h.length_eq
    rw [List.length_map] at this
    rw [List.eq_nil_of_length_eq_zero this.symm], rfl⟩
  | u :: us, l, h => by
    obtain ⟨x, hx, rfl⟩ := List.mem_map.mp (h.mem_iff.mp List.mem_cons_self)
    obtain ⟨l1, l2, rfl⟩ := List.append_of_mem hx
    have h2 : us.Perm ((l1 ++ l2).map f) := by
      rw [List.map_append, List.map_cons] at h
      have := h.trans List.perm_middle
      rw [← List.map_append] at this
      exact this.cons_inv
    obtain ⟨l', p, rfl⟩ := lift_perm h2
    exact ⟨x :: l', (p.cons x).trans List.perm_middle.symm, rfl⟩
mutual
theorem flat_key {h : Heap} : ∀ (k : NestedKey) {v : Value} {as : List Addr}, Reads h v k.data as → as = []
  | .none, _, _, r => by cases r; rfl
  | .num _, _, _, r => by cases r; rfl
  | .text _, _, _, r => by cases r; rfl
  | .tup ks, _, _, r => by
    unfold NestedKey.data at r
    cases r with
    | tuple _ _ _ rs => exact flat_keys ks rs
theorem flat_keys {h : Heap} : ∀ (ks : List NestedKey) {vs : List Value} {as : List Addr}, ReadsAll h vs (NestedKey.datas ks) as → as = []
  | [], _, _, r => by cases r; rfl
  | k :: ks, _, _, r => by
    unfold NestedKey.datas at r
    cases r with
    | cons r1 r2 => rw [flat_key k r1, flat_keys ks r2]; rfl
end
theorem each_eq : ∀ {out : List Value} {l : List Row}, EachIs (fun v (p : Row) => v = p.2) out l → out = l.map (·.2)
  | _, _, .nil => rfl
  | _, _, .cons e r => by rw [List.map_cons, e, each_eq r]
theorem each_of {R : Value → Row → Prop} : ∀ {l : List Row}, (∀ p ∈ l, R p.2 p) → EachIs R (l.map (·.2)) l
  | [], _ => .nil
  | p :: l, h => .cons (h p List.mem_cons_self) (each_of fun q hq => h q (List.mem_cons_of_mem _ hq))
def ordR : Row → Row → Bool := dataLe false fun p => p.1.data
theorem sorted_set {a : Addr} {L : List Row} {es : Array (Int × Value)} {ep : Nat} {t : SetTable} {Q : Value → Shared → Prop} (R : SetR w s.heap a L es ep t) (hh : A.handled = none) (rd : ∀ p ∈ L, ∃ as, Reads s.heap p.2 p.1.data as)
    (hal : AllAlike (L.map (·.1.data))) (hk : Sortable (L.map (·.1.data))) (hu : ∀ p ∈ L, A.units + 3 + p.1.data.depth < cLine)
    (q : ∀ (s' : Shared) (p : Addr) (c : Nat) (L' : List Row), (∀ b o, s.heap.get? b = some o → s'.heap.get? b = some o) → s'.gens = s.gens → s'.os = s.os → s.heap.objs.size ≤ p → L'.Perm L →
      s'.heap.get? p = some (seqObj "list" ((L'.mergeSort ordR).map (·.2)).toArray c) → Q (.ref p) s') : wpAny (model P w) A (call (.builtin "sorted") [.ref a]) Q E s := by
  obtain ⟨o, ho, hx, hd⟩ := R.ob
  have few := R.few
  have sz := size_of R.rw_
  refine Calls.call_function_entry kind_sorted plain_sorted entry_sorted (args_sorted1 _) ?_
  unfold Builtin.«sorted»
  refine wpAny_bind (m := checkCount "sorted" 1 1 _) (wpAny_pure (wpAny_bind (collect_set (A := A.in1) hh ⟨o, ho, hx.1, hd⟩ R.fits (by unfold scanBound; omega) R.tab.ris R.led fun s1 vs k1 z1 g1 o1 pm => ?_)))
  have pm2 : vs.Perm (L.map (·.2)) := by
    refine pm.trans (List.Perm.of_eq ?_)
    rw [R.rw_]
    exact (List.map_map ..).trans rfl
  obtain ⟨L1, pL, rfl⟩ := lift_perm pm2
  have lL : L1.length = L.length := pL.length_eq
  refine wpAny_bind (wpAny_newList ?_ (by rw [List.length_map, sizeLine_eq]; omega))
  have hoL : (s1.heap.push (seqObj "list" (L1.map (·.2)).toArray 0)).get? s1.heap.objs.size = some (seqObj "list" (L1.map (·.2)).toArray 0) := Heap.get?_push_size _ rfl
  have kp : ∀ b o, s.heap.get? b = some o → (s1.heap.push (seqObj "list" (L1.map (·.2)).toArray 0)).get? b = some o := fun b o e => Heap.get?_push_of_some _ (k1 b o e)
  have e1 : EachIs (fun v (p : Row) => v = p.2) (L1.map (·.2)) L1 := each_of fun _ _ => rfl
  have e2 : EachIs (fun v (p : Row) => ∃ as, Reads (s1.heap.push (seqObj "list" (L1.map (·.2)).toArray 0)) v p.1.data as ∧ s1.heap.objs.size ∉ as) (L1.map (·.2)) L1 := each_of fun p hp => by
    obtain ⟨as, r⟩ := rd p (pL.mem_iff.mp hp)
    refine ⟨as, PyProof.Rows.Reads.keeps kp r, ?_⟩
    rw [flat_key p.1 r]
    exact List.not_mem_nil
  refine wpAny_bind (wpAny_holding (list_sort_data (s := { s1 with heap := s1.heap.push (seqObj "list" (L1.map (·.2)).toArray 0) }) hoL e1 e2 (fun d hd d' hd' => hal d ((pL.map _).mem_iff.mp hd) d' ((pL.map _).mem_iff.mp hd')) ?_ (by rw [sizeLine_eq]; omega)
    (fun p hp => ?_) fun out ol eo => ?_))
  · rcases hk with h | h
    · exact .inl fun d hd => h d ((pL.map _).mem_iff.mp hd)
    · exact .inr fun d hd => h d ((pL.map _).mem_iff.mp hd)
  · have := hu p (pL.mem_iff.mp hp)
    simp only [Around.in1_units]
    omega
  · obtain rfl : out = (L1.mergeSort ordR).map (·.2) := each_eq eo
    obtain ⟨c, hc⟩ := sortedHeap_at (vs := L1.map (·.2)) (out := List.toArray ((L1.mergeSort ordR).map (·.2))) hoL
    have old : ∀ b u, s.heap.get? b = some u → (sortedHeap (s1.heap.push (seqObj "list" (L1.map (·.2)).toArray 0)) s1.heap.objs.size (L1.map (·.2)) (List.toArray ((L1.mergeSort ordR).map (·.2)))).get? b = some u := fun b u e => by
      have lt := Heap.lt_size (k1 b u e)
      rw [sortedHeap_old (Nat.ne_of_lt lt) (by rw [size_push']; exact Nat.lt_succ_of_lt lt)]
      exact kp b u e
    generalize sortedHeap (s1.heap.push (seqObj "list" (L1.map (·.2)).toArray 0)) s1.heap.objs.size (L1.map (·.2)) (List.toArray ((L1.mergeSort ordR).map (·.2))) = h9 at hc old ⊢
    refine wpAny_pure ⟨_, rfl, ?_⟩
    exact q { s1 with heap := h9 } s1.heap.objs.size c L1 old g1 o1 z1 pL hc
end
end PuT
end

section
set_option Elab.async false
set_option linter.all false
set_option maxRecDepth 100000
/-! Pu, layer K: sorted(set(x)), len(set(x)), x a list or a tuple of tuples. -/
namespace PuT
open PySem L2 PySem.Spec PyProof.Rows PySem.W
/-- a set without its tuples -/
structure Set0 (w : World) (h : Heap) (a : Addr) (L : List Row) : Prop where
  ex : ∃ (es : Array (Int × Value)) (ep : Nat) (t : SetTable), (∃ o, h.get? a = some o ∧ o.ExactSet ∧ o.data = .set es ep t) ∧ es.toList = rows w L ∧ Tb t (hashs w L) ∧ (L.map (·.1)).Nodup ∧
    (w.params.followText "set-order" = true ∨ t.led = true) ∧ L.length * 5 < t.mask * 3 ∧ Mk t.mask ∧ L.length < 4096
theorem SetR.bare {w : World} {h : Heap} {a : Addr} {L : List Row} {es ep t} (R : SetR w h a L es ep t) : Set0 w h a L := ⟨es, ep, t, R.ob, R.rw_, R.tab, R.nd, R.led, R.room, R.msk, R.few⟩
theorem Set0.full {w : World} {h : Heap} {a : Addr} {L : List Row} (R : Set0 w h a L) (k : ∀ p ∈ L, Ky h p.1 p.2) : ∃ es ep t, SetR w h a L es ep t :=
  let ⟨es, ep, t, h1, h2, h3, h4, h5, h6, h7, h8⟩ := R.ex
  ⟨es, ep, t, h1, h2, h3, h4, k, h5, h6, h7, h8⟩
abbrev KA := NestedKey × Addr
def rowsA (L : List KA) : List Row := L.map fun q => (q.1, .ref q.2)
def SetO (w : World) (a : Addr) (L : List KA) : HO := .ext fun h => Set0 w h a (rowsA L)
theorem setO_ok {P : Program} {w : World} {H : Hp} {h : Heap} {a : Addr} {L : List KA} (R : Set0 w h a (rowsA L)) : ObjOk P w H h a (SetO w a L) := by
  have ⟨es, ep, t, ⟨o, ho, r⟩, q⟩ := R.ex
  refine ⟨R, ⟨o, ho⟩, fun h1 h2 p k => ?_⟩
  have ⟨es', ep', t', ⟨o', ho', r'⟩, q'⟩ := Set0.ex p
  exact ⟨es', ep', t', ⟨o', k o' ho', r'⟩, q'⟩
/-- the tuple at b is the key k -/
structure KyV (K : PySem.W.Frag) (H : Hp) (q : KA) : Prop where
  dp : Dp K H (.ref q.2) q.1.data
  le : q.1.depth ≤ 8
mutual
theorem nested_of {h : Heap} : ∀ (k : NestedKey) {v : Value} {as : List Addr}, Reads h v k.data as → NestedIs h k v
  | .none, _, _, r => by cases r; exact .none
  | .num _, _, _, r => by cases r; exact .int _ _
  | .text _, _, _, r => by cases r; exact .text _ _
  | .tup ks, _, _, r => by
    unfold NestedKey.data at r
    cases r with
    | tuple a b c rs => exact .tup a b c (nested_all ks rs)
theorem nested_all {h : Heap} : ∀ (ks : List NestedKey) {vs : List Value} {as : List Addr}, ReadsAll h vs (NestedKey.datas ks) as → NestedAll h ks vs
  | [], _, _, r => by cases r; exact .nil
  | k :: ks, _, _, r => by
    unfold NestedKey.datas at r
    cases r with
    | cons r1 r2 => exact .cons (nested_of k r1) (nested_all ks r2)
end
section
variable {X : Cx} {pins : List (Addr × Obj)} {σ : L2.St} {H : Hp} {s : Shared}
theorem KyV.ky (I : L2.Inv X pins σ H s) {q : KA} (x : KyV X.K H q) : Ky s.heap q.1 (.ref q.2) ∧ ∃ as, Reads s.heap (.ref q.2) q.1.data as := by
  obtain ⟨as, r⟩ := Dp.reads I _ _ (.ref q.2) x.dp rfl
  exact ⟨⟨nested_of _ r, x.le, _, rfl⟩, as, r⟩
def rSetK (K : PySem.W.Frag) (w : World) : List V → Hp → VK → Prop := fun xs H Q => ∃ (l : Addr) (ks : List KA), xs = [.ref l] ∧ (SqL K H l (ks.map fun q => V.ref q.2) ∨ SqT K H l (ks.map fun q => V.ref q.2)) ∧ (∀ q ∈ ks, KyV K H q) ∧ ks.length < 4096 ∧
  ∀ a L, H a = none → (∀ q ∈ L, q ∈ ks) → (∀ q ∈ ks, q.1 ∈ L.map (·.1)) → (L.map (·.1)).Nodup → Q (.ref a) (upd H a (SetO w a L))
theorem refs_eq : ∀ {ks : List KA} {us : List Value}, Vals (ks.map fun q => V.ref q.2) us → us = ks.map fun q => Value.ref q.2
  | [], _, .nil => rfl
  | _ :: _, _, .cons r t => by cases r; rw [refs_eq t]; rfl
theorem rows_refs (ks : List KA) : (rowsA ks).map (·.2) = ks.map fun q => Value.ref q.2 := (List.map_map ..).trans rfl
theorem cr_setK (hc : X.calm = true) (hu : X.A.units + 12 < cLine) : CallR X (.type "set") (rSetK X.K X.w) := by
  intro pins s σ H xs us Q I r h
  obtain ⟨l, ks, rfl, hl, hk, few, q⟩ := h
  rw [Vals.ref1 r]
  have hn : H s.heap.objs.size = none := I.hok.fresh (Nat.le_refl _)
  have hk' : ∀ p ∈ rowsA ks, Ky s.heap p.1 p.2 := fun p hp => by
    obtain ⟨q0, hq, rfl⟩ := List.mem_map.mp hp
    exact ((hk q0 hq).ky I).1
  have fin : ∀ (h' : Heap) (tk : Nat) L es ep t, SetR X.w h' s.heap.objs.size L es ep t → Has (rowsA ks) (rowsA ks).length L → (∀ b o, s.heap.get? b = some o → h'.get? b = some o) → EP X pins σ Q (.ref s.heap.objs.size) { s with heap := h', toks := tk } := fun h' tk L es ep t R g k => by
    have hL : ∃ L0 : List KA, L = rowsA L0 ∧ ∀ q ∈ L0, q ∈ ks := by
      have sub : ∀ p ∈ L, p ∈ rowsA ks := fun p hp => List.mem_of_mem_take (g.sub p hp)
      clear R g
      induction L with
      | nil => exact ⟨[], rfl, fun _ z => nomatch z⟩
      | cons p L ih =>
        obtain ⟨L0, rfl, h0⟩ := ih fun p hp => sub p (List.mem_cons_of_mem _ hp)
        obtain ⟨q0, hq, rfl⟩ := List.mem_map.mp (sub p List.mem_cons_self)
        exact ⟨q0 :: L0, rfl, fun q hq' => (List.mem_cons.mp hq').elim (fun e => e ▸ hq) (h0 q)⟩
    obtain ⟨L0, rfl, sub⟩ := hL
    have ek : (rowsA L0).map (·.1) = L0.map (·.1) := (List.map_map ..).trans rfl
    refine ⟨.ref s.heap.objs.size, upd H s.heap.objs.size (SetO X.w s.heap.objs.size L0), I.laid (t' := tk) k (Nat.le_refl _) (setO_ok R.bare), rfl, q _ L0 hn sub (fun q0 hq => ?_) (ek ▸ R.nd)⟩
    rw [← ek]
    exact g.all (q0.1, .ref q0.2) (by rw [List.take_length]; exact List.mem_map.mpr ⟨q0, hq, rfl⟩)
  rcases hl with hl | hl
  · obtain ⟨its, rv, pl, hz⟩ := I.list hl
    exact set_list (ks := rowsA ks) (I.ok.hd hc) pl.isList (by rw [List.toList_toArray, refs_eq rv, rows_refs]) hk' (by unfold rowsA; rw [List.length_map]; exact few) hu fin
  · obtain ⟨its, rv, pl, hz⟩ := I.tuple hl
    exact set_tuple (ks := rowsA ks) (I.ok.hd hc) (by obtain ⟨o, ho, hc, n, hd⟩ := pl; exact ⟨o, ho, hc, n, hd⟩) (by rw [List.toList_toArray, refs_eq rv, rows_refs]) hk' (by unfold rowsA; rw [List.length_map]; exact few) hu fin

theorem setO_at (I : L2.Inv X pins σ H s) {a : Addr} {L : List KA} (ha : H a = some (SetO X.w a L)) (hk : ∀ q ∈ L, KyV X.K H q) : (∃ es ep t, SetR X.w s.heap a (rowsA L) es ep t) ∧ ∀ p ∈ rowsA L, ∃ as, Reads s.heap p.2 p.1.data as := by
  have key : ∀ p ∈ rowsA L, Ky s.heap p.1 p.2 ∧ ∃ as, Reads s.heap p.2 p.1.data as := fun p hp => by
    obtain ⟨q, hq, rfl⟩ := List.mem_map.mp hp
    exact (hk q hq).ky I
  exact ⟨Set0.full (I.hok a _ ha).1 fun p hp => (key p hp).1, fun p hp => (key p hp).2⟩
def rLenK (K : PySem.W.Frag) (w : World) : List V → Hp → VK → Prop := fun xs H Q => ∃ (a : Addr) (L : List KA), xs = [.ref a] ∧ H a = some (SetO w a L) ∧ (∀ q ∈ L, KyV K H q) ∧ Q (.int L.length) H
theorem cr_lenK : CallR X (.builtin "len") (rLenK X.K X.w) := by
  intro pins s σ H xs us Q I r h
  obtain ⟨a, L, rfl, ha, hk, q⟩ := h
  rw [Vals.ref1 r]
  obtain ⟨⟨es, ep, t, R⟩, _⟩ := setO_at I ha hk
  refine len_set R fun u k => ⟨.int L.length, H, I.tok k, ⟨u, ?_⟩, q⟩
  unfold rowsA
  rw [List.length_map]
def ordK : NestedKey → NestedKey → Bool := dataLe false NestedKey.data
def ordA : KA → KA → Bool := dataLe false fun q => q.1.data
theorem sort_rows (L : List KA) : (rowsA L).mergeSort ordR = rowsA (L.mergeSort ordA) := by
  unfold rowsA
  rw [List.map_mergeSort]
  intro a _ b _
  rfl
def rSortK (K : PySem.W.Frag) (w : World) : List V → Hp → VK → Prop := fun xs H Q => ∃ (a : Addr) (L : List KA), xs = [.ref a] ∧ H a = some (SetO w a L) ∧ (∀ q ∈ L, KyV K H q) ∧ (L.length ≤ 4095) ∧
  (∀ q ∈ L, ∀ q' ∈ L, alike q.1.data q'.1.data = true) ∧ (∀ q ∈ L, ∃ x r, q.1 = .tup (x :: r)) ∧
  ∀ (p : Addr) (L' : List KA), H p = none → L'.Perm L → Q (.ref p) (upd H p (.lst ((L'.mergeSort ordA).map fun q => V.ref q.2)))
mutual
theorem depth_data : ∀ k : NestedKey, k.data.depth = k.depth
  | .none => rfl
  | .num _ => rfl
  | .text _ => rfl
  | .tup ks => by
    unfold NestedKey.data PyData.depth NestedKey.depth
    rw [depth_datas ks]
theorem depth_datas : ∀ ks : List NestedKey, PyData.depthAll (NestedKey.datas ks) = NestedKey.depthAll ks
  | [] => rfl
  | k :: ks => by
    unfold NestedKey.datas PyData.depthAll NestedKey.depthAll
    rw [depth_data k, depth_datas ks]
end
theorem cr_sortK (hc : X.calm = true) (hu : X.A.units + 12 < cLine) : CallR X (.builtin "sorted") (rSortK X.K X.w) := by
  intro pins s σ H xs us Q I r h
  obtain ⟨a, L, rfl, ha, hk, hl, al, tp, q⟩ := h
  rw [Vals.ref1 r]
  obtain ⟨⟨es, ep, t, R⟩, rd⟩ := setO_at I ha hk
  refine sorted_set R (I.ok.hd hc) rd (fun d hd d' hd' => ?_) (.inl fun d hd => ?_) (fun p hp => ?_) fun s' p c L' k g o hp pm hg => ?_
  · obtain ⟨p1, m1, rfl⟩ := List.mem_map.mp hd
    obtain ⟨p2, m2, rfl⟩ := List.mem_map.mp hd'
    obtain ⟨q1, n1, rfl⟩ := List.mem_map.mp m1
    obtain ⟨q2, n2, rfl⟩ := List.mem_map.mp m2
    exact al q1 n1 q2 n2
  · obtain ⟨p1, m1, rfl⟩ := List.mem_map.mp hd
    obtain ⟨q1, n1, rfl⟩ := List.mem_map.mp m1
    obtain ⟨x, r, e⟩ := tp q1 n1
    refine ⟨x.data, NestedKey.datas r, ?_⟩
    show q1.1.data = _
    rw [e, NestedKey.data, NestedKey.datas]
  · obtain ⟨q1, n1, rfl⟩ := List.mem_map.mp hp
    have := (hk q1 n1).le
    show X.A.units + 3 + q1.1.data.depth < cLine
    rw [depth_data]
    omega
  · have pm' : L'.Perm (L.map fun q => (q.1, Value.ref q.2)) := pm
    obtain ⟨L0, p0, rfl⟩ := lift_perm pm'
    have hn : H p = none := I.hok.fresh hp
    have e2 : ((rowsA L0).mergeSort ordR).map (·.2) = (L0.mergeSort ordA).map fun q => Value.ref q.2 := by rw [sort_rows, rows_refs]
    rw [show (L0.map fun q => (q.1, Value.ref q.2)) = rowsA L0 from rfl, e2] at hg
    have hv : Vals ((L0.mergeSort ordA).map fun q => V.ref q.2) ((L0.mergeSort ordA).map fun q => Value.ref q.2) := by
      generalize L0.mergeSort ordA = M
      induction M with
      | nil => exact .nil
      | cons q M ih => exact .cons rfl ih
    have hz : ((L0.mergeSort ordA).map fun q => V.ref q.2).length ≤ sizeLine := by
      rw [List.length_map, List.length_mergeSort, p0.length_eq, sizeLine_eq]
      omega
    have J : L2.Inv X pins σ (upd H p (.lst ((L0.mergeSort ordA).map fun q => V.ref q.2))) { s with heap := s'.heap, gens := s'.gens, drawn := s'.drawn, toks := s'.toks } :=
      I.call (ch := []) (Un.laid k hp hn) (I.hok.laid k hp ⟨hz, _, c, hv, hg⟩) (by rw [g]; exact I.bare) (fun _ z => nomatch z)
    have e : s' = { s with heap := s'.heap, gens := s'.gens, drawn := s'.drawn, toks := s'.toks } := by
      obtain ⟨_, _, _, _, _⟩ := s'
      cases o
      rfl
    rw [e]
    exact ⟨.ref p, _, J, rfl, q p L0 hn p0⟩
end
end PuT
end

section
set_option Elab.async false
set_option linter.all false
set_option maxRecDepth 100000
/-! Pu, layer L: sorted(set(x)), len(set(x)) of plain data. -/
namespace Pu
open PySem L2 PySem.Spec PyProof.Rows PySem.W PuT
abbrev NK := NestedKey
mutual
def keyOf : D → Option NK
  | .non => some .none
  | .int i => some (.num i)
  | .str s => some (.text ⟨s.toArray⟩)
  | .tup ds => (keysOf ds).map .tup
  | .bl _ => none
  | .lst _ => none
  | .fz _ => none
def keysOf : List D → Option (List NK)
  | [] => some []
  | d :: ds => match keyOf d, keysOf ds with
    | some k, some ks => some (k :: ks)
    | _, _ => none
end
mutual
def dOf : NK → D
  | .none => .non
  | .num i => .int i
  | .text x => .str x.cps.toList
  | .tup ks => .tup (dsOf ks)
def dsOf : List NK → List D
  | [] => []
  | k :: ks => dOf k :: dsOf ks
end
mutual
theorem keyOf_data : ∀ (d : D) {k : NK}, keyOf d = some k → toP d = k.data ∧ d = dOf k
  | .non, k, h => by cases h; exact ⟨rfl, rfl⟩
  | .int _, k, h => by cases h; exact ⟨rfl, rfl⟩
  | .str s, k, h => by cases h; exact ⟨rfl, rfl⟩
  | .tup ds, k, h => by
    unfold keyOf at h
    cases e : keysOf ds with
    | none => rw [e] at h; cases h
    | some ks =>
      rw [e] at h
      cases h
      obtain ⟨h1, h2⟩ := keysOf_data ds e
      unfold toP NestedKey.data dOf
      exact ⟨by rw [h1], by rw [h2]⟩
  | .bl _, _, h => by cases h
  | .lst _, _, h => by cases h
  | .fz _, _, h => by cases h
theorem keysOf_data : ∀ (ds : List D) {ks : List NK}, keysOf ds = some ks → toPs ds = NestedKey.datas ks ∧ ds = dsOf ks
  | [], ks, h => by cases h; exact ⟨rfl, rfl⟩
  | d :: ds, ks, h => by
    unfold keysOf at h
    split at h
    · rename_i k' ks' e1 e2
      cases h
      obtain ⟨a1, a2⟩ := keyOf_data d e1
      obtain ⟨b1, b2⟩ := keysOf_data ds e2
      unfold toPs NestedKey.datas dsOf
      exact ⟨by rw [a1, b1], by rw [← a2, ← b2]⟩
    · cases h
end
theorem dsOf_map : ∀ ks : List NK, dsOf ks = ks.map dOf
  | [] => rfl
  | k :: ks => by unfold dsOf; rw [dsOf_map ks]; rfl
def isT1 : NK → Bool
  | .tup (_ :: _) => true
  | _ => false
theorem isT1_ex {k : NK} (h : isT1 k = true) : ∃ x r, k = .tup (x :: r) := by
  unfold isT1 at h
  split at h
  · exact ⟨_, _, rfl⟩
  · cases h
/-- each once -/
def dd : List NK → List NK
  | [] => []
  | k :: ks => if k ∈ ks then dd ks else k :: dd ks
theorem mem_dd {x : NK} : ∀ {ks : List NK}, x ∈ dd ks ↔ x ∈ ks
  | [] => Iff.rfl
  | k :: ks => by
    unfold dd
    split
    · rename_i h
      rw [mem_dd, List.mem_cons]
      exact ⟨.inr, fun z => z.elim (fun e => e ▸ h) id⟩
    · rw [List.mem_cons, List.mem_cons, mem_dd]
theorem nodup_dd : ∀ ks : List NK, (dd ks).Nodup
  | [] => List.nodup_nil
  | k :: ks => by
    unfold dd
    split
    · exact nodup_dd ks
    · rename_i h
      exact List.nodup_cons.mpr ⟨fun z => h (mem_dd.1 z), nodup_dd ks⟩
theorem len_dd {L : List NK} {ks : List NK} (n : L.Nodup) (s1 : ∀ k ∈ L, k ∈ ks) (s2 : ∀ k ∈ ks, k ∈ L) : L.Perm (dd ks) :=
  (List.perm_ext_iff_of_nodup n (nodup_dd ks)).mpr fun k => ⟨fun h => mem_dd.2 (s1 k h), fun h => s2 k (mem_dd.1 h)⟩
def itemsS : D → Option (List NK)
  | .tup ds => keysOf ds
  | .lst ds => keysOf ds
  | _ => none
def setOk (ks : List NK) : Bool := decide (ks.length ≤ 4095) && ks.all fun k => isT1 k && decide (k.depth ≤ 8)
def lensetD (d : D) : Option R := match itemsS d with
  | none => none
  | some ks => if setOk ks then some (.im (.int (dd ks).length)) else none
section
variable {X : Cx} {a : Expr} {fa : EvE} {pos p1 p2 p3 : Pos}
/-- the keys of a row of values -/
theorem keys_at {K : Fr} {M : Ads} {H : Hp} : ∀ {vs : List V} {ds : List D} {ks : List NK}, IsAll K M H vs ds → keysOf ds = some ks → (∀ k ∈ ks, isT1 k = true ∧ k.depth ≤ 8) →
    ∃ qs : List KA, vs = qs.map (fun q => V.ref q.2) ∧ qs.map (·.1) = ks ∧ (∀ q ∈ qs, KyV K H q) ∧ ∀ q ∈ qs, Is K M H (.ref q.2) (dOf q.1)
  | _, _, _, .nil, h, _ => by
    cases h
    exact ⟨[], rfl, rfl, (fun _ z => nomatch z), fun _ z => nomatch z⟩
  | _, _, _, .cons (v := v) (d := d) (ds := ds) r rs, h, ok => by
    unfold keysOf at h
    split at h
    · rename_i k ks' e1 e2
      cases h
      obtain ⟨qs, rfl, em, h1, h2⟩ := keys_at rs e2 fun k hk => ok k (List.mem_cons_of_mem _ hk)
      obtain ⟨o1, o2⟩ := ok k List.mem_cons_self
      obtain ⟨a1, rfl⟩ := keyOf_data d e1
      obtain ⟨x, xr, rfl⟩ := isT1_ex o1
      have dp := r.dp
      rw [a1] at dp
      have rf : ∃ b, v = .ref b := by
        rw [dOf] at r
        cases r
        exact ⟨_, rfl⟩
      obtain ⟨b, rfl⟩ := rf
      refine ⟨(.tup (x :: xr), b) :: qs, rfl, by rw [List.map_cons, em], fun q hq => ?_, fun q hq => ?_⟩
      · rcases List.mem_cons.mp hq with rfl | hq
        · exact ⟨dp, o2⟩
        · exact h1 q hq
      · rcases List.mem_cons.mp hq with rfl | hq
        · exact r
        · exact h2 q hq
    · cases h

mutual
theorem toP_dOf : ∀ k : NK, toP (dOf k) = k.data
  | .none => rfl
  | .num _ => rfl
  | .text x => by
    unfold dOf toP NestedKey.data
    rw [Array.toArray_toList]
  | .tup ks => by
    unfold dOf toP NestedKey.data
    rw [toPs_dsOf ks]
theorem toPs_dsOf : ∀ ks : List NK, toPs (dsOf ks) = NestedKey.datas ks
  | [] => rfl
  | k :: ks => by
    unfold dsOf toPs NestedKey.datas
    rw [toP_dOf k, toPs_dsOf ks]
end
theorem kyv_of {K : Fr} {M : Ads} {H : Hp} {q : KA} (h : Is K M H (.ref q.2) (dOf q.1)) (le : q.1.depth ≤ 8) : KyV K H q := ⟨toP_dOf q.1 ▸ h.dp, le⟩
theorem set_in {K : Fr} {w : World} {M : Ads} {H : Hp} {x : V} {d : D} {ks : List NK} {Q : VK} (hd : itemsS d = some ks) (ok : setOk ks = true) (hx : Pk K M H x d)
    (q : ∀ a (L : List KA), H a = none → (L.map (·.1)).Perm (dd ks) → L.length ≤ 4095 → (∀ q ∈ L, Is K M H (.ref q.2) (dOf q.1) ∧ isT1 q.1 = true ∧ q.1.depth ≤ 8) → Q (.ref a) (upd H a (SetO w a L))) : rSetK K w [x] H Q := by
  unfold setOk at ok
  rw [Bool.and_eq_true, decide_eq_true_eq, List.all_eq_true] at ok
  have ok2 : ∀ k ∈ ks, isT1 k = true ∧ k.depth ≤ 8 := fun k hk => by
    have := ok.2 k hk
    rw [Bool.and_eq_true, decide_eq_true_eq] at this
    exact this
  have main : ∀ (l : Addr) (vs : List V) (ds : List D), x = .ref l → (SqL K H l vs ∨ SqT K H l vs) → IsAll K M H vs ds → keysOf ds = some ks → rSetK K w [x] H Q := fun l vs ds ex hl ra hk => by
    subst ex
    obtain ⟨qs, rfl, em, h1, h2⟩ := keys_at ra hk ok2
    have ln : qs.length = ks.length := by rw [← em, List.length_map]
    refine ⟨l, qs, rfl, hl, h1, by rw [ln]; omega, fun a L hn sub all nd => ?_⟩
    have pm : (L.map (·.1)).Perm (dd ks) := len_dd nd (fun k hk => by
      obtain ⟨q0, hq, rfl⟩ := List.mem_map.mp hk
      rw [← em]
      exact List.mem_map.mpr ⟨q0, sub q0 hq, rfl⟩) fun k hk => by
        rw [← em] at hk
        obtain ⟨q0, hq, rfl⟩ := List.mem_map.mp hk
        exact all q0 hq
    have le : ∀ ks : List NK, (dd ks).length ≤ ks.length := fun ks => by
      induction ks with
      | nil => exact Nat.le_refl _
      | cons k ks ih =>
        unfold dd
        split
        · exact Nat.le_succ_of_le ih
        · exact Nat.succ_le_succ ih
    have l1 := pm.length_eq
    have l2 := le ks
    rw [List.length_map] at l1
    refine q a L hn pm (by omega) fun q0 hq => ⟨h2 q0 (sub q0 hq), ok2 q0.1 ?_⟩
    rw [← em]
    exact List.mem_map.mpr ⟨q0, sub q0 hq, rfl⟩
  unfold itemsS at hd
  split at hd
  · obtain ⟨l, vs, e, t, ra⟩ := hx.tup
    exact main l vs _ e (.inr t.sq) ra hd
  · obtain ⟨l, vs, e, t, ra⟩ := hx.lst
    exact main l vs _ e (.inl (.of t)) ra hd
  · cases hd
theorem se_lenset (hc : X.calm = true) (hu : X.A.units + 12 < cLine) (hg : Gl X "len") (hm : X.mg "len" = none) (hg2 : Gl X "set") (hm2 : X.mg "set" = none) (ha : SE X a fa) (he : notStar a = true := by kernel_rfl) :
    SE X (.Call (.Name "len" p1) [.Call (.Name "set" p2) [a] [] p3] [] pos) (ev1 fa lensetD) := by
  refine se_one ha fun d r h => ?_
  unfold lensetD at h
  split at h
  · cases h
  · rename_i ks hd
    split at h
    · rename_i ok
      cases h
      refine ⟨fun x H Q => rSetK X.K X.w [x] H fun v H2 => rLenK X.K X.w [v] H2 Q,
        pe_callB cr_lenK hg hm (by decide +kernel) (pa_cons (pe_callTy (cr_setK hc hu) hg2 hm2 (by decide +kernel) (pa_cons pe_w pa_nil (star_cons he)) (by decide) (by decide) (star_cons he) rfl) pa_nil rfl) (by decide) (by decide) rfl rfl, fun M H x Q tr hx q => ?_⟩
      refine set_in hd ok hx fun a L hn pm ll is => ⟨a, L, rfl, upd_same, fun q0 hq => ?_, ?_⟩
      · exact kyv_of ((is q0 hq).1.go (go_same (same_new hn))) (is q0 hq).2.2
      · rw [show L.length = (dd ks).length by rw [← pm.length_eq, List.length_map]]
        exact q _ _ ⟨same_new hn, .int _⟩
    · cases h

/-! ### sorted(set(x)) -/
theorem newV_pre {K : Fr} {M : Ads} {H H2 H3 : Hp} {v : V} {r : R} (sm : Same H H2) (h : NewV K M H2 H3 v r) : NewV K M H H3 v r := by
  cases r with
  | im d => exact ⟨fun a o e => h.1 a o (sm a o e), h.2⟩
  | fr c =>
    obtain ⟨s, p, e, hp, o⟩ := h
    exact ⟨fun a o e => s a o (sm a o e), p, e, sm.free hp, o⟩
  | sl i => exact h.elim
def ltK (x y : NK) : Bool := dataLt x.data y.data
def strictB : List NK → Bool
  | [] => true
  | x :: xs => xs.all (ltK x) && strictB xs
theorem ordK_eq (x y : NK) : ordK x y = !ltK y x := rfl
/-- a list in strict order is the one sorting gives -/
theorem strict_one : ∀ {m n : List NK}, strictB m = true → n.Perm m → n.Pairwise (fun a b => ordK a b = true) → n = m
  | [], n, _, p, _ => by
    have := p.length_eq
    exact List.eq_nil_of_length_eq_zero this
  | x :: m, [], _, p, _ => by
    have := p.length_eq
    cases this
  | x :: m, y :: n, h, p, w => by
    unfold strictB at h
    rw [Bool.and_eq_true, List.all_eq_true] at h
    rw [List.pairwise_cons] at w
    have e : y = x := by
      rcases List.mem_cons.mp (p.mem_iff.mp List.mem_cons_self) with e | hy
      · exact e
      · rcases List.mem_cons.mp (p.mem_iff.mpr List.mem_cons_self) with e | hx
        · exact e.symm
        · have a := h.1 y hy
          have b := w.1 x hx
          rw [ordK_eq, a] at b
          cases b
    subst e
    rw [strict_one h.2 p.cons_inv w.2]
def alikeB (ks : List NK) : Bool := ks.all fun x => ks.all fun y => alike x.data y.data
def sortsetD (d : D) : Option R := match itemsS d with
  | none => none
  | some ks => if setOk ks && alikeB ks && strictB ((dd ks).mergeSort ordK) then some (.fr (.lst (((dd ks).mergeSort ordK).map dOf))) else none
theorem se_sortset (hc : X.calm = true) (hu : X.A.units + 12 < cLine) (hg : Gl X "sorted") (hm : X.mg "sorted" = none) (hg2 : Gl X "set") (hm2 : X.mg "set" = none) (ha : SE X a fa) (he : notStar a = true := by kernel_rfl) :
    SE X (.Call (.Name "sorted" p1) [.Call (.Name "set" p2) [a] [] p3] [] pos) (ev1 fa sortsetD) := by
  refine se_one ha fun d r h => ?_
  unfold sortsetD at h
  split at h
  · cases h
  · rename_i ks hd
    split at h
    · rename_i ok
      cases h
      rw [Bool.and_eq_true, Bool.and_eq_true] at ok
      obtain ⟨⟨ok, al⟩, st⟩ := ok
      refine ⟨fun x H Q => rSetK X.K X.w [x] H fun v H2 => rSortK X.K X.w [v] H2 Q,
        pe_callB (cr_sortK hc hu) hg hm (by decide +kernel) (pa_cons (pe_callTy (cr_setK hc hu) hg2 hm2 (by decide +kernel) (pa_cons pe_w pa_nil (star_cons he)) (by decide) (by decide) (star_cons he) rfl) pa_nil rfl) (by decide) (by decide) rfl rfl, fun M H x Q tr hx q => ?_⟩
      refine set_in hd ok hx fun a L hn pm ll is => ?_
      have sm := same_new (o := SetO X.w a L) hn
      have is2 : ∀ q ∈ L, Is X.K M (upd H a (SetO X.w a L)) (.ref q.2) (dOf q.1) := fun q0 hq => (is q0 hq).1.go (go_same sm)
      have inks : ∀ q ∈ L, q.1 ∈ ks := fun q0 hq => mem_dd.1 (pm.mem_iff.mp (List.mem_map.mpr ⟨q0, hq, rfl⟩))
      refine ⟨a, L, rfl, upd_same, fun q0 hq => kyv_of (is2 q0 hq) (is q0 hq).2.2, ll, fun q1 h1 q2 h2 => ?_, fun q0 hq => isT1_ex (is q0 hq).2.1, fun p L' hp pl => ?_⟩
      · unfold alikeB at al
        exact List.all_eq_true.mp (List.all_eq_true.mp al _ (inks q1 h1)) _ (inks q2 h2)
      · have ek : (L'.mergeSort ordA).map (·.1) = (dd ks).mergeSort ordK := by
          refine strict_one st ?_ ?_
          · exact (((List.mergeSort_perm L' ordA).trans pl).map (·.1)).trans (pm.trans (List.mergeSort_perm (dd ks) ordK).symm)
          · rw [List.pairwise_map]
            exact sort_pairwise (sortLe_total (listOrd itemOrd) false fun q : KA => keyToks q.1.data : TotalLe ordA) L'
        have ra : IsAll X.K M (upd H a (SetO X.w a L)) ((L'.mergeSort ordA).map fun q => V.ref q.2) (((dd ks).mergeSort ordK).map dOf) := by
          rw [← ek, List.map_map]
          have all : ∀ q ∈ L'.mergeSort ordA, Is X.K M (upd H a (SetO X.w a L)) (.ref q.2) (dOf q.1) := fun q0 hq => is2 q0 (pl.mem_iff.mp ((List.mergeSort_perm L' ordA).mem_iff.mp hq))
          generalize L'.mergeSort ordA = N at all ⊢
          induction N with
          | nil => exact .nil
          | cons q0 N ih => exact .cons (all q0 List.mem_cons_self) (ih fun q hq => all q (List.mem_cons_of_mem _ hq))
        exact q _ _ (newV_pre sm (.lst hp ra))
    · cases h
end
theorem lt12 {n c : Nat} (h : n + 65 < c) : n + 12 < c := by omega
end Pu
end

section
set_option Elab.async false
set_option linter.all false
set_option maxRecDepth 100000
/-! Pu, layer M: plain laws of the words: comprehensions, loops. -/
namespace Pu
open PySem L2
theorem runLc_map {b : EvT} {c : EvB} {f : EvE} {vs : List Nat} {g : G} {p : D → Bool} {h : D → D} : ∀ {ds acc : List D},
    (∀ d ∈ ds, ∃ g1, b d g = some g1 ∧ c g1 = some (p d, g1) ∧ (p d = true → toD f g1 = some (h d, g1)) ∧ gw vs g1 = g) → runLc b c f vs ds acc g = some (acc ++ (ds.filter p).map h, g)
  | [], acc, _ => by simp [runLc]
  | d :: ds, acc, k => by
    obtain ⟨g1, e1, e2, e3, e4⟩ := k d List.mem_cons_self
    have ih := fun acc => runLc_map (acc := acc) fun d' hd => k d' (List.mem_cons_of_mem _ hd)
    unfold runLc
    rw [e1]
    dsimp only
    rw [e2]
    cases hp : p d with
    | false =>
      dsimp only
      rw [e4, ih, List.filter_cons_of_neg (by rw [hp]; exact Bool.false_ne_true)]
    | true =>
      dsimp only
      rw [e3 hp]
      dsimp only
      rw [e4, ih, List.filter_cons_of_pos hp, List.map_cons, List.append_assoc]
      rfl
theorem evLc_map {fi : EvA} {b : EvT} {c : EvB} {f : EvE} {vs : List Nat} {g g1 : G} {items : List D} {p : D → Bool} {h : D → D} (hi : fi g = some (items, g1)) (hv : vs.all (plainAt g1) = true)
    (k : ∀ d ∈ items, ∃ g2, b d (gw vs g1) = some g2 ∧ c g2 = some (p d, g2) ∧ (p d = true → toD f g2 = some (h d, g2)) ∧ gw vs g2 = gw vs g1) : evLc fi b c f vs g = some (.fr (.lst ((items.filter p).map h)), grs vs (gw vs g1) g1) := by
  unfold evLc
  rw [hi]
  dsimp only
  rw [if_pos hv, runLc_map k]
  rfl
/-- a loop whose body does the same at each turn -/
theorem runFor_all {b : EvT} {body : EvS} {g : G} : ∀ {ds : List D}, (∀ d ∈ ds, ∃ g1, b d g = some g1 ∧ body g1 = some (.nx, g)) → runFor b body ds g = some (.nx, g)
  | [], _ => rfl
  | d :: ds, k => by
    obtain ⟨g1, e1, e2⟩ := k d List.mem_cons_self
    unfold runFor
    rw [e1]
    dsimp only
    rw [e2]
    dsimp only
    exact runFor_all fun d' hd => k d' (List.mem_cons_of_mem _ hd)
theorem runFor_inv {b : EvT} {body : EvS} (I : G → Prop) : ∀ {ds : List D} {g : G}, (∀ d ∈ ds, ∀ g, I g → ∃ g1 g2, b d g = some g1 ∧ body g1 = some (.nx, g2) ∧ I g2) → I g → ∃ g', runFor b body ds g = some (.nx, g') ∧ I g'
  | [], g, _, h => ⟨g, rfl, h⟩
  | d :: ds, g, k, h => by
    obtain ⟨g1, g2, e1, e2, h2⟩ := k d List.mem_cons_self g h
    obtain ⟨g', e, h'⟩ := runFor_inv I (fun d' hd => k d' (List.mem_cons_of_mem _ hd)) h2
    refine ⟨g', ?_, h'⟩
    unfold runFor
    rw [e1]
    dsimp only
    rw [e2]
    exact e
end Pu
end

section
set_option Elab.async false
set_option linter.all false
set_option maxRecDepth 100000
/-! Pu, layer N: plain laws: vectors of numbers, sorted sets of them, equality of plain data. -/
namespace Pu
open PySem L2 PySem.Spec PyProof.Rows PySem.W PuT
/-- a tuple of numbers -/
def vec (l : List Int) : D := .tup (l.map D.int)
def kv (l : List Int) : NK := .tup (l.map NestedKey.num)
theorem keysOf_ints : ∀ l : List Int, keysOf (l.map D.int) = some (l.map NestedKey.num)
  | [] => rfl
  | x :: l => by
    rw [List.map_cons, List.map_cons]
    unfold keysOf
    rw [keysOf_ints l]
    rfl
theorem keyOf_vec (l : List Int) : keyOf (vec l) = some (kv l) := by
  unfold vec keyOf
  rw [keysOf_ints]
  rfl
theorem keysOf_vecs : ∀ ls : List (List Int), keysOf (ls.map vec) = some (ls.map kv)
  | [] => rfl
  | x :: l => by
    rw [List.map_cons, List.map_cons]
    unfold keysOf
    rw [keysOf_vecs l, keyOf_vec]
theorem dsOf_nums (l : List Int) : dsOf (l.map NestedKey.num) = l.map D.int := by
  rw [dsOf_map, List.map_map]
  rfl
theorem dOf_kv (l : List Int) : dOf (kv l) = vec l := by
  unfold kv dOf vec
  rw [dsOf_nums]
theorem lmap_inj {α β : Type} {f : α → β} (h : ∀ a b, f a = f b → a = b) : ∀ {l m : List α}, l.map f = m.map f → l = m
  | [], [], _ => rfl
  | [], _ :: _, e => by cases e
  | _ :: _, [], e => by cases e
  | x :: l, y :: m, e => by
    rw [List.map_cons, List.map_cons] at e
    injection e with e1 e2
    rw [h x y e1, lmap_inj h e2]
theorem vec_inj {a b : List Int} (h : vec a = vec b) : a = b := by
  unfold vec at h
  injection h with h
  exact lmap_inj (fun _ _ e => by injection e) h
theorem kv_inj {a b : List Int} (h : kv a = kv b) : a = b := by
  unfold kv at h
  injection h with h
  exact lmap_inj (fun _ _ e => by injection e) h
theorem datas_nums : ∀ l : List Int, NestedKey.datas (l.map NestedKey.num) = l.map PyData.int
  | [] => rfl
  | x :: l => by
    rw [List.map_cons, List.map_cons]
    unfold NestedKey.datas
    rw [datas_nums l]
    rfl
theorem kv_data (l : List Int) : (kv l).data = .tuple (l.map PyData.int) := by
  unfold kv NestedKey.data
  rw [datas_nums]
theorem alike_ints : ∀ a b : List Int, alikeAll (a.map PyData.int) (b.map PyData.int) = true
  | [], b => by unfold alikeAll; rfl
  | _ :: _, [] => by rw [List.map_cons, List.map_nil]; unfold alikeAll; rfl
  | x :: a, y :: b => by
    rw [List.map_cons, List.map_cons]
    unfold alikeAll
    rw [alike_ints a b]
    rfl
theorem alike_kv (a b : List Int) : alike (kv a).data (kv b).data = true := by
  rw [kv_data, kv_data]
  exact alike_ints a b
theorem toks_lt : ∀ a b : List Int, PyProof.Rows.lexLt itemOrd (keyToksAll (a.map PyData.int)) (keyToksAll (b.map PyData.int)) = HT.lexLt a b
  | [], [] => rfl
  | [], y :: b => by
    rw [List.map_cons, List.map_nil, HT.lexLt_nil_cons]
    unfold keyToksAll
    rw [lex_diff (O := itemOrd) (by simp)]
    rfl
  | x :: a, [] => by
    rw [List.map_cons, List.map_nil, HT.lexLt_cons_nil]
    unfold keyToksAll
    rw [lex_diff (O := itemOrd) (by simp)]
    rfl
  | x :: a, y :: b => by
    rw [List.map_cons, List.map_cons, HT.lexLt_cons, toks_all_cons, toks_all_cons, lex_self (O := itemOrd)]
    rw [show keyToks (PyData.int x) = [Sum.inl x] by unfold keyToks; rfl, show keyToks (PyData.int y) = [Sum.inl y] by unfold keyToks; rfl]
    rw [List.singleton_append, List.singleton_append]
    by_cases e : x = y
    · subst e
      rw [if_pos rfl, lex_self (O := itemOrd), toks_lt a b]
    · rw [if_neg e, lex_diff (O := itemOrd) (fun q => e (Sum.inl.inj q))]
      rfl
theorem ltK_kv (a b : List Int) : ltK (kv a) (kv b) = HT.lexLt a b := by
  unfold ltK dataLt
  rw [kv_data, kv_data]
  unfold keyToks
  exact toks_lt a b

/-! ### the order of vectors -/
abbrev VLt (a b : List Int) : Prop := HT.lexLt a b = true
theorem vlt_irr : ∀ a : List Int, HT.lexLt a a = false
  | [] => rfl
  | x :: a => by rw [HT.lexLt_cons, if_pos rfl, vlt_irr a]
theorem vlt_trans : ∀ {a b c : List Int}, VLt a b → VLt b c → VLt a c
  | [], [], _, h, _ => by cases h
  | [], _ :: _, [], _, h => by cases h
  | [], _ :: _, _ :: _, _, _ => rfl
  | _ :: _, [], _, h, _ => by cases h
  | _ :: _, _ :: _, [], _, h => by cases h
  | x :: a, y :: b, z :: c, h1, h2 => by
    unfold VLt at h1 h2 ⊢
    rw [HT.lexLt_cons] at h1 h2 ⊢
    by_cases e1 : x = y
    · subst e1
      rw [if_pos rfl] at h1
      by_cases e2 : x = z
      · subst e2
        rw [if_pos rfl] at h2 ⊢
        exact vlt_trans h1 h2
      · rw [if_neg e2] at h2 ⊢
        exact h2
    · rw [if_neg e1, decide_eq_true_eq] at h1
      by_cases e2 : y = z
      · subst e2
        rw [if_neg e1, decide_eq_true_eq]
        exact h1
      · rw [if_neg e2, decide_eq_true_eq] at h2
        rw [if_neg (by omega), decide_eq_true_eq]
        omega
theorem vlt_total : ∀ a b : List Int, VLt a b ∨ a = b ∨ VLt b a
  | [], [] => .inr (.inl rfl)
  | [], _ :: _ => .inl rfl
  | _ :: _, [] => .inr (.inr rfl)
  | x :: a, y :: b => by
    unfold VLt
    rw [HT.lexLt_cons, HT.lexLt_cons]
    by_cases e : x = y
    · subst e
      rw [if_pos rfl, if_pos rfl]
      rcases vlt_total a b with h | h | h
      · exact .inl h
      · exact .inr (.inl (by rw [h]))
      · exact .inr (.inr h)
    · rw [if_neg e, if_neg (Ne.symm e), decide_eq_true_eq, decide_eq_true_eq]
      omega
theorem vlt_asymm {a b : List Int} (h : VLt a b) : HT.lexLt b a = false := by
  cases e : HT.lexLt b a with
  | false => rfl
  | true =>
    have := vlt_trans h e
    rw [VLt, vlt_irr] at this
    cases this
/-- strictly rising -/
abbrev Asc (ls : List (List Int)) : Prop := ls.Pairwise VLt
theorem asc_unique : ∀ {l m : List (List Int)}, Asc l → Asc m → (∀ x, x ∈ l ↔ x ∈ m) → l = m
  | [], [], _, _, _ => rfl
  | [], y :: m, _, _, h => absurd ((h y).mpr List.mem_cons_self) (by simp)
  | x :: l, [], _, _, h => absurd ((h x).mp List.mem_cons_self) (by simp)
  | x :: l, y :: m, h1, h2, h => by
    rw [Asc, List.pairwise_cons] at h1 h2
    have e : x = y := by
      rcases List.mem_cons.mp ((h x).mp List.mem_cons_self) with e | e
      · exact e
      · rcases List.mem_cons.mp ((h y).mpr List.mem_cons_self) with e' | e'
        · exact e'.symm
        · have := vlt_trans (h2.1 x e) (h1.1 y e')
          rw [VLt, vlt_irr] at this
          cases this
    subst e
    rw [asc_unique h1.2 h2.2 fun z => ?_]
    have hz := h z
    rw [List.mem_cons, List.mem_cons] at hz
    constructor
    · intro k
      rcases hz.mp (.inr k) with e | e
      · subst e
        have := h1.1 z k
        rw [VLt, vlt_irr] at this
        cases this
      · exact e
    · intro k
      rcases hz.mpr (.inr k) with e | e
      · subst e
        have := h2.1 z k
        rw [VLt, vlt_irr] at this
        cases this
      · exact e
def insV (x : List Int) : List (List Int) → List (List Int)
  | [] => [x]
  | y :: ys => if x = y then y :: ys else if HT.lexLt x y then x :: y :: ys else y :: insV x ys
/-- each once, in order -/
def srtV : List (List Int) → List (List Int)
  | [] => []
  | x :: xs => insV x (srtV xs)
theorem mem_insV {x z : List Int} : ∀ {ys : List (List Int)}, z ∈ insV x ys ↔ z = x ∨ z ∈ ys
  | [] => by simp [insV]
  | y :: ys => by
    unfold insV
    split
    · rename_i e
      subst e
      simp
    · split
      · simp
      · rw [List.mem_cons, mem_insV, List.mem_cons]
        constructor
        · rintro (h | h | h) <;> simp [h]
        · rintro (h | h | h) <;> simp [h]
theorem mem_srtV {z : List Int} : ∀ {ls : List (List Int)}, z ∈ srtV ls ↔ z ∈ ls
  | [] => Iff.rfl
  | x :: xs => by
    unfold srtV
    rw [mem_insV, mem_srtV, List.mem_cons]
theorem asc_insV {x : List Int} : ∀ {ys : List (List Int)}, Asc ys → Asc (insV x ys)
  | [], _ => List.pairwise_singleton _ _
  | y :: ys, h => by
    have h' := List.pairwise_cons.mp h
    unfold insV
    split
    · exact h
    · rename_i ne
      split
      · rename_i lt
        refine List.pairwise_cons.mpr ⟨fun z hz => ?_, h⟩
        rcases List.mem_cons.mp hz with e | hz
        · subst e
          exact lt
        · exact vlt_trans lt (h'.1 z hz)
      · rename_i nlt
        refine List.pairwise_cons.mpr ⟨fun z hz => ?_, asc_insV h'.2⟩
        rcases mem_insV.mp hz with e | hz
        · subst e
          rcases vlt_total z y with k | k | k
          · exact absurd k nlt
          · exact absurd k ne
          · exact k
        · exact h'.1 z hz
theorem asc_srtV : ∀ ls : List (List Int), Asc (srtV ls)
  | [] => List.Pairwise.nil
  | x :: xs => asc_insV (asc_srtV xs)
theorem srtV_of_asc {ls : List (List Int)} (h : Asc ls) : srtV ls = ls := asc_unique (asc_srtV ls) h fun _ => mem_srtV
theorem srtV_eq_iff {ls : List (List Int)} : ls = srtV ls ↔ Asc ls := ⟨fun h => h ▸ asc_srtV ls, fun h => (srtV_of_asc h).symm⟩
/-! ### sorted sets of keys -/
mutual
theorem eqv_key : ∀ x y : NK, PyData.eqv x.data y.data = true → x = y
  | .none, y, h => by cases y <;> first | rfl | (simp [NestedKey.data, PyData.eqv] at h)
  | .num a, y, h => by cases y <;> simp [NestedKey.data, PyData.eqv] at h; rw [h]
  | .text a, y, h => by cases y <;> simp [NestedKey.data, PyData.eqv] at h; rw [h]
  | .tup a, y, h => by
    cases y with
    | tup b =>
      rw [NestedKey.data, NestedKey.data, PyData.eqv] at h
      rw [eqv_keys a b h]
    | _ => simp [NestedKey.data, PyData.eqv] at h
theorem eqv_keys : ∀ x y : List NK, PyData.eqvAll (NestedKey.datas x) (NestedKey.datas y) = true → x = y
  | [], [], _ => rfl
  | [], _ :: _, h => by simp [NestedKey.datas, PyData.eqvAll] at h
  | _ :: _, [], h => by simp [NestedKey.datas, PyData.eqvAll] at h
  | a :: x, b :: y, h => by
    rw [NestedKey.datas, NestedKey.datas, PyData.eqvAll, Bool.and_eq_true] at h
    rw [eqv_key a b h.1, eqv_keys x y h.2]
end
theorem eqv_ne {x y : NK} (h : x ≠ y) : PyData.eqv x.data y.data = false := by
  cases e : PyData.eqv x.data y.data with
  | false => rfl
  | true => exact absurd (eqv_key x y e) h
theorem lt_of_alike {x y : NK} (al : alike x.data y.data = true) (n : PyData.eqv x.data y.data = false) (o : ltK y x = false) : ltK x y = true := by
  cases e : ltK x y with
  | true => rfl
  | false =>
    have t := lex_total (O := itemOrd) _ _ e o
    have k := (toks_eqv _ _ al).2 n [] [.inl 0]
    rw [t, lex_pre, lex_irrefl (O := itemOrd)] at k
    cases k
theorem strictB_iff : ∀ {m : List NK}, strictB m = true ↔ m.Pairwise (fun a b => ltK a b = true)
  | [] => by simp [strictB]
  | x :: m => by
    unfold strictB
    rw [Bool.and_eq_true, List.all_eq_true, List.pairwise_cons, strictB_iff]
theorem strict_sort {ks : List NK} (al : alikeB ks = true) : strictB ((dd ks).mergeSort ordK) = true := by
  have hp : ((dd ks).mergeSort ordK).Pairwise (fun a b => ordK a b = true) := sort_pairwise (sortLe_total (listOrd itemOrd) false fun q : NK => keyToks q.data : TotalLe ordK) (dd ks)
  have hn : ((dd ks).mergeSort ordK).Nodup := (List.mergeSort_perm (dd ks) ordK).nodup_iff.mpr (nodup_dd ks)
  have hm : ∀ k ∈ (dd ks).mergeSort ordK, k ∈ ks := fun k hk => mem_dd.1 ((List.mergeSort_perm (dd ks) ordK).mem_iff.mp hk)
  rw [strictB_iff]
  refine (hp.and hn).imp_of_mem fun {a b} ha hb h => ?_
  have h1 := h.1
  rw [ordK_eq, Bool.not_eq_true'] at h1
  exact lt_of_alike (List.all_eq_true.mp (List.all_eq_true.mp al a (hm a ha)) b (hm b hb)) (eqv_ne h.2) h1
def unk : NK → List Int
  | .tup ks => ks.map fun | .num i => i | _ => 0
  | _ => []
theorem unk_kv (l : List Int) : unk (kv l) = l := by
  unfold kv unk
  dsimp only
  rw [List.map_map]
  exact List.map_id'' (fun _ => rfl) l
theorem alike_vecs (ls : List (List Int)) : alikeB (ls.map kv) = true := by
  unfold alikeB
  rw [List.all_eq_true]
  intro x hx
  rw [List.all_eq_true]
  intro y hy
  obtain ⟨a, _, rfl⟩ := List.mem_map.mp hx
  obtain ⟨b, _, rfl⟩ := List.mem_map.mp hy
  exact alike_kv a b
theorem sort_vecs (ls : List (List Int)) : ((dd (ls.map kv)).mergeSort ordK) = (srtV ls).map kv := by
  have st := strictB_iff.mp (strict_sort (alike_vecs ls))
  have hm : ∀ k, k ∈ (dd (ls.map kv)).mergeSort ordK ↔ k ∈ ls.map kv := fun k => (List.mergeSort_perm _ ordK).mem_iff.trans mem_dd
  generalize (dd (ls.map kv)).mergeSort ordK = m at st hm
  have e : m = (m.map unk).map kv := by
    rw [List.map_map]
    refine ((List.map_id m).symm.trans (List.map_congr_left fun k hk => ?_))
    obtain ⟨l, _, rfl⟩ := List.mem_map.mp ((hm k).mp hk)
    show kv l = kv (unk (kv l))
    rw [unk_kv]
  have a : Asc (m.map unk) := by
    rw [e, List.pairwise_map] at st
    exact st.imp fun {x y} h => by
      rw [ltK_kv] at h
      exact h
  rw [e, asc_unique a (asc_srtV ls) fun x => ?_]
  rw [mem_srtV]
  constructor
  · intro h
    obtain ⟨k, hk, rfl⟩ := List.mem_map.mp h
    obtain ⟨l, hl, rfl⟩ := List.mem_map.mp ((hm k).mp hk)
    rw [unk_kv]
    exact hl
  · intro h
    exact List.mem_map.mpr ⟨kv x, (hm _).mpr (List.mem_map.mpr ⟨x, h, rfl⟩), unk_kv x⟩
theorem depth_kv (l : List Int) : (kv l).depth ≤ 8 := by
  have k : ∀ l : List Int, NestedKey.depthAll (l.map NestedKey.num) = 0 := fun l => by
    induction l with
    | nil => rfl
    | cons x l ih =>
      rw [List.map_cons]
      unfold NestedKey.depthAll
      rw [ih]
      rfl
  unfold kv NestedKey.depth
  rw [k]
  decide
theorem setOk_vecs {ls : List (List Int)} (h : ls.length ≤ 4095) (ne : ∀ l ∈ ls, l ≠ []) : setOk (ls.map kv) = true := by
  unfold setOk
  rw [Bool.and_eq_true, decide_eq_true_eq, List.length_map, List.all_eq_true]
  refine ⟨h, fun k hk => ?_⟩
  obtain ⟨l, hl, rfl⟩ := List.mem_map.mp hk
  rw [Bool.and_eq_true, decide_eq_true_eq]
  refine ⟨?_, depth_kv l⟩
  cases l with
  | nil => exact absurd rfl (ne _ hl)
  | cons x l => rfl
theorem sortset_vecs {ls : List (List Int)} (h : ls.length ≤ 4095) (ne : ∀ l ∈ ls, l ≠ []) : sortsetD (.lst (ls.map vec)) = some (.fr (.lst ((srtV ls).map vec))) ∧ sortsetD (.tup (ls.map vec)) = some (.fr (.lst ((srtV ls).map vec))) := by
  have e : ((srtV ls).map kv).map dOf = (srtV ls).map vec := by
    rw [List.map_map]
    exact List.map_congr_left fun l _ => dOf_kv l
  unfold sortsetD itemsS
  dsimp only
  rw [keysOf_vecs]
  dsimp only
  rw [setOk_vecs h ne, alike_vecs, strict_sort (alike_vecs ls), sort_vecs, e]
  exact ⟨rfl, rfl⟩
/-! ### equality -/
mutual
/-- no truth values, nothing that is only read -/
def noB : D → Bool
  | .bl _ => false
  | .fz _ => false
  | .tup xs => noBs xs
  | .lst xs => noBs xs
  | _ => true
def noBs : List D → Bool
  | [] => true
  | x :: xs => noB x && noBs xs
end
mutual
theorem eqB_eq : ∀ {d e : D}, noB d = true → noB e = true → eqB d e = true → d = e
  | .non, e, _, he, h => by cases e <;> first | rfl | (cases he; done) | (simp [eqB, toP, PyData.eqv] at h)
  | .int i, e, _, he, h => by cases e <;> first | (cases he; done) | (simp [eqB, toP, PyData.eqv] at h; try rw [h])
  | .str s, e, _, he, h => by cases e <;> first | (cases he; done) | (simp [eqB, toP, PyData.eqv] at h; try rw [h])
  | .tup xs, e, hd, he, h => by
    cases e with
    | tup ys =>
      unfold eqB toP PyData.eqv at h
      rw [eqBs_eq (show noBs xs = true from hd) (show noBs ys = true from he) h]
    | _ => first | (cases he; done) | (simp [eqB, toP, PyData.eqv] at h)
  | .lst xs, e, hd, he, h => by
    cases e with
    | lst ys =>
      unfold eqB toP PyData.eqv at h
      rw [eqBs_eq (show noBs xs = true from hd) (show noBs ys = true from he) h]
    | _ => first | (cases he; done) | (simp [eqB, toP, PyData.eqv] at h)
  | .bl _, _, hd, _, _ => by cases hd
  | .fz _, _, hd, _, _ => by cases hd
theorem eqBs_eq : ∀ {d e : List D}, noBs d = true → noBs e = true → PyData.eqvAll (toPs d) (toPs e) = true → d = e
  | [], [], _, _, _ => rfl
  | [], _ :: _, _, _, h => by simp [toPs, PyData.eqvAll] at h
  | _ :: _, [], _, _, h => by simp [toPs, PyData.eqvAll] at h
  | x :: xs, y :: ys, hd, he, h => by
    unfold noBs at hd he
    rw [Bool.and_eq_true] at hd he
    rw [toPs, toPs, PyData.eqvAll, Bool.and_eq_true] at h
    rw [eqB_eq hd.1 he.1 h.1, eqBs_eq hd.2 he.2 h.2]
end
mutual
theorem eqB_self : ∀ d : D, eqB d d = true
  | .non => by simp [eqB, toP, PyData.eqv]
  | .bl b => by simp [eqB, toP, PyData.eqv]
  | .int i => by simp [eqB, toP, PyData.eqv]
  | .str s => by simp [eqB, toP, PyData.eqv]
  | .tup xs => by
    unfold eqB toP PyData.eqv
    exact eqBs_self xs
  | .lst xs => by
    unfold eqB toP PyData.eqv
    exact eqBs_self xs
  | .fz xs => by
    unfold eqB toP PyData.eqv
    exact eqBs_self xs
theorem eqBs_self : ∀ d : List D, PyData.eqvAll (toPs d) (toPs d) = true
  | [] => by simp [toPs, PyData.eqvAll]
  | x :: xs => by
    rw [toPs, PyData.eqvAll, Bool.and_eq_true]
    exact ⟨eqB_self x, eqBs_self xs⟩
end
theorem eqB_iff {d e : D} (hd : noB d = true) (he : noB e = true) : eqB d e = true ↔ d = e := ⟨eqB_eq hd he, fun h => h ▸ eqB_self d⟩
/-- d is laid out plainly and nests at most n deep -/
def okN (n : Nat) (d : D) : Bool := PyData.canLay0 (toP d) && decide (PyData.depth (toP d) ≤ n)
theorem okP_of {n : Nat} {d : D} (h : okN n d = true) (hn : n ≤ 64) : okP d = true := by
  unfold okN at h
  rw [Bool.and_eq_true, decide_eq_true_eq] at h
  unfold okP SeqAt.shaped
  rw [Bool.and_eq_true, decide_eq_true_eq]
  exact ⟨h.1, by omega⟩
theorem okN_le {n m : Nat} {d : D} (h : okN n d = true) (hn : n ≤ m) : okN m d = true := by
  unfold okN at h ⊢
  rw [Bool.and_eq_true, decide_eq_true_eq] at h ⊢
  exact ⟨h.1, by omega⟩
theorem okNs {n : Nat} : ∀ {xs : List D}, (∀ x ∈ xs, okN n x = true) → PyData.canLayAll0 (toPs xs) = true ∧ PyData.depthAll (toPs xs) ≤ n
  | [], _ => by
    unfold toPs PyData.canLayAll0 PyData.depthAll
    exact ⟨rfl, Nat.zero_le _⟩
  | x :: xs, h => by
    have a := okNs fun y hy => h y (List.mem_cons_of_mem _ hy)
    have b := h x List.mem_cons_self
    unfold okN at b
    rw [Bool.and_eq_true, decide_eq_true_eq] at b
    unfold toPs PyData.canLayAll0 PyData.depthAll
    rw [Bool.and_eq_true]
    exact ⟨⟨b.1, a.1⟩, Nat.max_le.mpr ⟨b.2, a.2⟩⟩
theorem okN_lst {n : Nat} {xs : List D} (h : ∀ x ∈ xs, okN n x = true) : okN (n + 1) (.lst xs) = true := by
  have a := okNs h
  unfold okN toP PyData.canLay0 PyData.depth
  rw [Bool.and_eq_true, decide_eq_true_eq]
  exact ⟨a.1, Nat.succ_le_succ a.2⟩
theorem okN_tup {n : Nat} {xs : List D} (h : ∀ x ∈ xs, okN n x = true) : okN (n + 1) (.tup xs) = true := by
  have a := okNs h
  unfold okN toP PyData.canLay0 PyData.depth
  rw [Bool.and_eq_true, decide_eq_true_eq]
  exact ⟨a.1, Nat.succ_le_succ a.2⟩
theorem okN_int (i : Int) : okN 0 (.int i) = true := by
  unfold okN toP PyData.canLay0 PyData.depth
  rfl
theorem okN_vec (l : List Int) : okN 1 (vec l) = true := okN_tup fun x hx => by
  obtain ⟨i, _, rfl⟩ := List.mem_map.mp hx
  exact okN_int i
theorem noBs_all : ∀ {xs : List D}, (∀ x ∈ xs, noB x = true) → noBs xs = true
  | [], _ => rfl
  | x :: xs, h => by
    unfold noBs
    rw [h x List.mem_cons_self, noBs_all fun y hy => h y (List.mem_cons_of_mem _ hy)]
    rfl
theorem noB_vec (l : List Int) : noB (vec l) = true := noBs_all fun x hx => by
  obtain ⟨i, _, rfl⟩ := List.mem_map.mp hx
  rfl
theorem eqB_vec (a b : List Int) : eqB (vec a) (vec b) = decide (a = b) := by
  rw [Bool.eq_iff_iff, eqB_iff (noB_vec a) (noB_vec b), decide_eq_true_eq]
  exact ⟨vec_inj, fun h => h ▸ rfl⟩
end Pu
end

section
set_option Elab.async false
set_option linter.all false
set_option maxRecDepth 100000
/-! Pu, layer P: what all laws draw by: cup, roll, some; values that are alike. -/
namespace Pu
open PySem L2
/-! ### words on plain data -/
@[simp] theorem addD_int (a b : Int) : addD (.int a) (.int b) = some (.im (.int (a + b))) := rfl
@[simp] theorem subD_int (a b : Int) : subD (.int a) (.int b) = some (.im (.int (a - b))) := rfl
@[simp] theorem negD_int (a : Int) : negD (.int a) = some (.im (.int (-a))) := rfl
@[simp] theorem ltD_int (a b : Int) : ltD (.int a) (.int b) = some (.im (.bl (decide (a < b)))) := rfl
@[simp] theorem leD_int (a b : Int) : leD (.int a) (.int b) = some (.im (.bl (decide (a ≤ b)))) := rfl
@[simp] theorem gtD_int (a b : Int) : gtD (.int a) (.int b) = some (.im (.bl (decide (b < a)))) := rfl
@[simp] theorem geD_int (a b : Int) : geD (.int a) (.int b) = some (.im (.bl (decide (b ≤ a)))) := rfl
@[simp] theorem intD_int (a : Int) : intD (.int a) = some (.im (.int a)) := rfl
@[simp] theorem lenD_tup (xs : List D) : lenD (.tup xs) = some (.im (.int xs.length)) := rfl
@[simp] theorem lenD_lst (xs : List D) : lenD (.lst xs) = some (.im (.int xs.length)) := rfl
@[simp] theorem lenD_fz (xs : List D) : lenD (.fz xs) = some (.im (.int xs.length)) := rfl
@[simp] theorem listSD_tup (xs : List D) : listSD (.tup xs) = some (.fr (.lst xs)) := rfl
@[simp] theorem listSD_lst (xs : List D) : listSD (.lst xs) = some (.fr (.lst xs)) := rfl
@[simp] theorem listSD_fz (xs : List D) : listSD (.fz xs) = some (.fr (.lst xs)) := rfl
@[simp] theorem tupleD_lst (xs : List D) : tupleD (.lst xs) = some (.im (.tup xs)) := rfl
@[simp] theorem tupleD_tup (xs : List D) : tupleD (.tup xs) = some (.im (.tup xs)) := rfl
def memB (c : Nat) (s : List Nat) : Bool := s.any fun z => Nat.beq z c
theorem memB_iff {c : Nat} {s : List Nat} : memB c s = true ↔ c ∈ s := by
  unfold memB
  rw [List.any_eq_true]
  constructor
  · rintro ⟨x, hx, e⟩
    exact Nat.eq_of_beq_eq_true e ▸ hx
  · exact fun h => ⟨c, h, Nat.beq_refl c⟩
theorem memB_eq {c : Nat} {s : List Nat} {i : Decidable (c ∈ s)} : @decide (c ∈ s) i = memB c s := by
  rw [Bool.eq_iff_iff, memB_iff, decide_eq_true_eq]
theorem inD_str (c : Nat) (s : List Nat) : inD (.str [c]) (.str s) = some (.im (.bl (memB c s))) := by
  rw [← memB_eq]
  rfl
theorem eqB_str1 (a c : Nat) : eqB (.str [a]) (.str [c]) = Nat.beq a c := by
  rw [Bool.eq_iff_iff, eqB_iff rfl rfl, Nat.beq_eq]
  simp
theorem okN_str {s : List Nat} (h : ∀ c ∈ s, c < 1114112) : okN 0 (.str s) = true := by
  unfold okN toP PyData.canLay0 PyData.depth PyData.strOk
  simp
  exact h
theorem inD_signs {c : Nat} {A : List Nat} (hc : c < 1114112) (hA : ∀ x ∈ A, x < 1114112) : inD (.str [c]) (.lst (A.map fun c => .str [c])) = some (.im (.bl (memB c A))) := by
  have h1 : okP (.str [c]) = true := okP_of (okN_str (by simp; exact hc)) (Nat.zero_le _)
  have h2 : okP (.lst (A.map fun c => D.str [c])) = true := okP_of (n := 1) (okN_lst fun x hx => by
    obtain ⟨y, hy, rfl⟩ := List.mem_map.mp hx
    exact okN_str (by simp; exact hA y hy)) (by omega)
  show (if okP (.str [c]) && okP (.lst (A.map fun c => D.str [c])) then some (R.im (.bl ((A.map fun c => D.str [c]).any fun z => eqB z (.str [c])))) else none) = _
  rw [h1, h2, List.any_map]
  simp [eqB_str1, memB, Function.comp_def]
theorem notInD_signs {c : Nat} {A : List Nat} (hc : c < 1114112) (hA : ∀ x ∈ A, x < 1114112) : notInD (.str [c]) (.lst (A.map fun c => .str [c])) = some (.im (.bl (!memB c A))) := by
  have h1 : okP (.str [c]) = true := okP_of (okN_str (by simp; exact hc)) (Nat.zero_le _)
  have h2 : okP (.lst (A.map fun c => D.str [c])) = true := okP_of (n := 1) (okN_lst fun x hx => by
    obtain ⟨y, hy, rfl⟩ := List.mem_map.mp hx
    exact okN_str (by simp; exact hA y hy)) (by omega)
  show (if okP (.str [c]) && okP (.lst (A.map fun c => D.str [c])) then some (R.im (.bl (!(A.map fun c => D.str [c]).any fun z => eqB z (.str [c])))) else none) = _
  rw [h1, h2, List.any_map]
  simp [eqB_str1, memB, Function.comp_def]
/-- == [] -/
theorem eqD_nil {xs : List D} (h : ∀ x ∈ xs, okN 60 x = true) : eqD (.lst xs) (.lst []) = some (.im (.bl xs.isEmpty)) := by
  unfold eqD
  rw [okP_of (okN_lst h) (by omega), okP_of (n := 1) (d := .lst []) (by decide +kernel) (by omega)]
  cases xs with
  | nil => rfl
  | cons x xs => simp [eqB, toP, toPs, PyData.eqv, PyData.eqvAll]
theorem neD_nil {xs : List D} (h : ∀ x ∈ xs, okN 60 x = true) : neD (.lst xs) (.lst []) = some (.im (.bl (!xs.isEmpty))) := by
  unfold neD
  rw [okP_of (okN_lst h) (by omega), okP_of (n := 1) (d := .lst []) (by decide +kernel) (by omega)]
  cases xs with
  | nil => rfl
  | cons x xs => simp [eqB, toP, toPs, PyData.eqv, PyData.eqvAll]
theorem eqD_int (a b : Int) : eqD (.int a) (.int b) = some (.im (.bl (decide (a = b)))) := by
  unfold eqD
  rw [okP_of (okN_int a) (by omega), okP_of (okN_int b) (by omega)]
  simp [eqB, toP, PyData.eqv]
  exact Bool.eq_iff_iff.mpr (by simp)
theorem neD_int (a b : Int) : neD (.int a) (.int b) = some (.im (.bl (!decide (a = b)))) := by
  unfold neD
  rw [okP_of (okN_int a) (by omega), okP_of (okN_int b) (by omega)]
  simp [eqB, toP, PyData.eqv]
  exact Bool.eq_iff_iff.mpr (by simp)
/-! ### steps -/
def cupOk (c : Ow) : Prop := ∃ a b : Int, c = .lst [.int a, .int b] ∧ 0 ≤ a ∧ 0 ≤ b ∧ b < 2 ^ 62
def cupS (k1 k2 k3 m k4 : Int) : EvS :=
  (evSeq (evSet 1 (ev1 (ev2 (ev2 (ev1 (evName 0) listSD) (evLst (evCons (evC (.int 0)) evNil)) addD) (evC (.int 0)) idxD) absD))
  (evRet (evLst (evCons (evIf (evB (ev2 (evName 1) (ev2 (evC (.int 10)) (evC (.int 18)) powD) geD)) (ev2 (evName 1) (evC (.int k1)) divD) (evC (.int 0))) (evCons (ev2 (ev2 (ev1 (ev2 (ev2 (evName 1) (evC (.int k2)) mulD) (evC (.int k3)) addD) intD) (evC (.int m)) modD) (evC (.int k4)) addD) evNil)))))
theorem atI_zero {α : Type} (x : α) (xs : List α) : atI (x :: xs) 0 = some x := by
  unfold atI ixN
  simp
theorem atI_nat {α : Type} {xs : List α} {i : Int} (h0 : 0 ≤ i) (h : i < xs.length) : ∃ x, xs[i.toNat]? = some x ∧ atI xs i = some x := by
  have e : xs[i.toNat]? = some (xs[i.toNat]'(by omega)) := List.getElem?_eq_getElem (by omega)
  refine ⟨_, e, ?_⟩
  unfold atI ixN
  rw [if_pos h0, if_pos h]
  exact e
theorem sz_eq : sizeLine = 16777216 := sizeLine_eq
theorem cup_run {k1 k2 k3 m k4 : Int} (h : 0 < k1 ∧ k1 < 1073741824 ∧ 0 ≤ k2 ∧ k2 < 2 ^ 40 ∧ 0 < m ∧ m < 2 ^ 40 ∧ 0 ≤ k4 ∧ k4 < 2 ^ 40) (ns : List Int) (hn : ns.length ≤ 63) :
    ∃ c, runF (cupS k1 k2 k3 m k4) 1 2 [.fz (ns.map D.int)] = some (.fr c) ∧ cupOk c := by
  obtain ⟨h1, h2, h3, h4, h5, h6, h7, h8⟩ := h
  have hx : ∃ x : Int, idxD (.lst (ns.map D.int ++ [.int 0])) (.int 0) = some (.im (.int x)) := by
    cases ns with
    | nil => exact ⟨0, by simp [idxD, atI_zero]⟩
    | cons x ns => exact ⟨x, by simp [idxD, atI_zero]⟩
  obtain ⟨x, hx⟩ := hx
  have ha : addD (.lst (ns.map D.int)) (.lst [.int 0]) = some (.fr (.lst (ns.map D.int ++ [.int 0]))) := by
    simp only [addD, sz_eq]
    rw [if_pos (by simp; omega)]
  have habs : ∃ y : Int, 0 ≤ y ∧ absD (.int x) = some (.im (.int y)) := ⟨_, by split <;> omega, rfl⟩
  obtain ⟨y, hy0, habs⟩ := habs
  have hm : mulD (.int y) (.int k2) = some (.im (.int (y * k2))) := by
    simp only [mulD]
    rw [if_pos (by simp [mulOk]; omega)]
  have hd : ∀ z : Int, divD (.int z) (.int k1) = some (.im (.int (z / k1))) := fun z => by
    simp only [divD]
    rw [if_pos ⟨h1, h2⟩]
  have hmo : ∀ z : Int, modD (.int z) (.int m) = some (.im (.int (z % m))) := fun z => by
    simp only [modD]
    rw [if_pos h5]
  have hp : powD (.int 10) (.int 18) = some (.im (.int 1000000000000000000)) := by
    simp only [powD]
    rw [if_pos (by decide)]
    rfl
  refine ⟨.lst [.int (if 1000000000000000000 ≤ y then y / k1 else 0), .int ((y * k2 + k3) % m + k4)], ?_, _, _, rfl, ?_, ?_, ?_⟩
  · by_cases hc : (1000000000000000000 : Int) ≤ y
    · simp [runF, evRet, evSeq, evIfS, evNext, evSet, evAnd, evOr, evNot, evNotV, evB, evOrB, evAndB, evIf, evCall, evCons, evNil, toD, toO, evName, evC, ev1, ev2, evCh, Pu.settle, R.opd, Opd.look, Slot.look, Ow.d, evLst, cupS, ha, hx, habs, hm, hd, hmo, hp, hc]
    · simp [runF, evRet, evSeq, evIfS, evNext, evSet, evAnd, evOr, evNot, evNotV, evB, evOrB, evAndB, evIf, evCall, evCons, evNil, toD, toO, evName, evC, ev1, ev2, evCh, Pu.settle, R.opd, Opd.look, Slot.look, Ow.d, evLst, cupS, ha, hx, habs, hm, hd, hmo, hp, hc]
  · split
    · exact Int.ediv_nonneg hy0 (by omega)
    · exact Int.le_refl 0
  · have := Int.emod_nonneg (y * k2 + k3) (show m ≠ 0 by omega)
    omega
  · have := Int.emod_lt_of_pos (y * k2 + k3) h5
    omega
def rollS (k1 k2 m1 k3 m2 k4 : Int) : EvS :=
  (evSeq (evIfS (evB (ev2 (ev2 (evName 0) (evC (.int 0)) idxD) (evC (.int 0)) gtD)) (evSeq (evSet 2 (ev2 (ev1 (ev2 (evName 0) (evC (.int 0)) idxD) intD) (evName 1) modD))
  (evSeq (evSto 0 (evC (.int 0)) (ev2 (ev2 (evName 0) (evC (.int 0)) idxD) (evName 1) divD))
  (evRet (evName 2)))) evNext)
  (evSeq (evSto 0 (evC (.int 1)) (ev2 (ev1 (ev2 (ev2 (ev2 (evName 0) (evC (.int 1)) idxD) (evC (.int k1)) mulD) (evC (.int k2)) addD) intD) (evC (.int m1)) modD))
  (evSeq (evSet 3 (ev2 (ev1 (ev2 (ev2 (evName 0) (evC (.int 1)) idxD) (ev2 (ev2 (evName 0) (evC (.int 1)) idxD) (evC (.int k3)) addD) mulD) intD) (evC (.int m2)) modD))
  (evRet (ev2 (ev1 (ev2 (evName 3) (evC (.int k4)) divD) intD) (evName 1) modD)))))
theorem roll_run {k1 k2 m1 k3 m2 k4 : Int} (h : 0 ≤ k1 ∧ k1 < 2 ^ 40 ∧ 0 < m1 ∧ m1 < 2 ^ 62 ∧ 0 < m2 ∧ 0 < k4 ∧ k4 < 1073741824) {c : Ow} (hc : cupOk c) {n : Int} (h0 : 0 < n) (h1 : n < 1073741824) :
    ∃ (v : Int) (c' : Ow), runC (rollS k1 k2 m1 k3 m2 k4) 1 4 c [.int n] = some (.im (.int v), c') ∧ 0 ≤ v ∧ v < n ∧ cupOk c' := by
  obtain ⟨a1, a2, a3, a4, a5, a6, a7⟩ := h
  obtain ⟨a, b, rfl, ha, hb, hb2⟩ := hc
  have i0 : ∀ a b : Int, idxD (.lst [.int a, .int b]) (.int 0) = some (.im (.int a)) := fun _ _ => rfl
  have i1 : ∀ a b : Int, idxD (.lst [.int a, .int b]) (.int 1) = some (.im (.int b)) := fun _ _ => rfl
  have x0 : ixN 2 0 = some 0 := rfl
  have x1 : ixN 2 1 = some 1 := rfl
  by_cases hp : 0 < a
  · refine ⟨a % n, .lst [.int (a / n), .int b], ?_, Int.emod_nonneg _ (by omega), Int.emod_lt_of_pos _ h0, _, _, rfl, Int.ediv_nonneg ha (by omega), hb, hb2⟩
    simp [runC, slotAt, evSto, runF, evRet, evSeq, evIfS, evNext, evSet, evAnd, evOr, evNot, evNotV, evB, evOrB, evAndB, evIf, evCall, evCons, evNil, toD, toO, evName, evC, ev1, ev2, evCh, Pu.settle, R.opd, Opd.look, Slot.look, Ow.d, rollS, i0, i1, x0, x1, hp, modD, divD, h0, h1]
  · have hm : ∀ z : Int, modD (.int z) (.int m1) = some (.im (.int (z % m1))) := fun z => by simp only [modD]; rw [if_pos a3]
    have hm2 : ∀ z : Int, modD (.int z) (.int m2) = some (.im (.int (z % m2))) := fun z => by simp only [modD]; rw [if_pos a5]
    have hmn : ∀ z : Int, modD (.int z) (.int n) = some (.im (.int (z % n))) := fun z => by simp only [modD]; rw [if_pos h0]
    have hd : ∀ z : Int, divD (.int z) (.int k4) = some (.im (.int (z / k4))) := fun z => by simp only [divD]; rw [if_pos ⟨a6, a7⟩]
    have e1 : mulD (.int b) (.int k1) = some (.im (.int (b * k1))) := by
      simp only [mulD]
      rw [if_pos (by simp [mulOk]; omega)]
    have b1 := Int.emod_nonneg (b * k1 + k2) (show m1 ≠ 0 by omega)
    have b2 := Int.emod_lt_of_pos (b * k1 + k2) a3
    generalize hB : (b * k1 + k2) % m1 = B at b1 b2
    have e2 : mulD (.int B) (.int (B + k3)) = some (.im (.int (B * (B + k3)))) := by
      simp only [mulD]
      rw [if_pos (by simp [mulOk]; omega)]
    refine ⟨B * (B + k3) % m2 / k4 % n, .lst [.int a, .int B], ?_, Int.emod_nonneg _ (by omega), Int.emod_lt_of_pos _ h0, _, _, rfl, ha, b1, by omega⟩
    simp [runC, slotAt, evSto, runF, evRet, evSeq, evIfS, evNext, evSet, evAnd, evOr, evNot, evNotV, evB, evOrB, evAndB, evIf, evCall, evCons, evNil, toD, toO, evName, evC, ev1, ev2, evCh, Pu.settle, R.opd, Opd.look, Slot.look, Ow.d, rollS, i0, i1, x0, x1, hp, e1, hm, hB, e2, hm2, hmn, hd]
def someS (roll : Ow → List D → Option (R × Ow)) : EvS := (evRet (ev2 (evName 1) (evCallC 0 (evCons (ev1 (evName 1) lenD) evNil) roll) idxD))
/-- what a roll promises -/
def RollOk (roll : Ow → List D → Option (R × Ow)) : Prop := ∀ {c : Ow}, cupOk c → ∀ {n : Int}, 0 < n → n < 1073741824 → ∃ (v : Int) (c' : Ow), roll c [.int n] = some (.im (.int v), c') ∧ 0 ≤ v ∧ v < n ∧ cupOk c'
theorem some_lst {roll : Ow → List D → Option (R × Ow)} (hr : RollOk roll) {c : Ow} (hc : cupOk c) {xs : List D} (h0 : xs ≠ []) (h1 : xs.length < 1073741824) :
    ∃ (v : D) (c' : Ow), runC (someS roll) 1 2 c [.lst xs] = some (.im v, c') ∧ v ∈ xs ∧ cupOk c' := by
  have hp : 0 < xs.length := List.length_pos_iff.mpr h0
  obtain ⟨v, c', e, v0, v1, hc'⟩ := hr hc (n := xs.length) (by omega) (by omega)
  obtain ⟨x, ex, ea⟩ := atI_nat (xs := xs) v0 v1
  refine ⟨x, c', ?_, List.mem_of_getElem? ex, hc'⟩
  simp [runC, slotAt, evCallC, runF, evRet, evSeq, evIfS, evNext, evSet, evAnd, evOr, evNot, evNotV, evB, evOrB, evAndB, evIf, evCall, evCons, evNil, toD, toO, evName, evC, ev1, ev2, evCh, Pu.settle, R.opd, Opd.look, Slot.look, Ow.d, someS, e, idxD, ea]
theorem some_tup {roll : Ow → List D → Option (R × Ow)} (hr : RollOk roll) {c : Ow} (hc : cupOk c) {xs : List D} (h0 : xs ≠ []) (h1 : xs.length < 1073741824) :
    ∃ (v : D) (c' : Ow), runC (someS roll) 1 2 c [.tup xs] = some (.im v, c') ∧ v ∈ xs ∧ cupOk c' := by
  have hp : 0 < xs.length := List.length_pos_iff.mpr h0
  obtain ⟨v, c', e, v0, v1, hc'⟩ := hr hc (n := xs.length) (by omega) (by omega)
  obtain ⟨x, ex, ea⟩ := atI_nat (xs := xs) v0 v1
  refine ⟨x, c', ?_, List.mem_of_getElem? ex, hc'⟩
  simp [runC, slotAt, evCallC, runF, evRet, evSeq, evIfS, evNext, evSet, evAnd, evOr, evNot, evNotV, evB, evOrB, evAndB, evIf, evCall, evCons, evNil, toD, toO, evName, evC, ev1, ev2, evCh, Pu.settle, R.opd, Opd.look, Slot.look, Ow.d, someS, e, idxD, ea]
theorem some_str {roll : Ow → List D → Option (R × Ow)} (hr : RollOk roll) {c : Ow} (hc : cupOk c) {xs : List Nat} (h0 : xs ≠ []) (h1 : xs.length ≤ 1000) :
    ∃ (v : Nat) (c' : Ow), runC (someS roll) 1 2 c [.str xs] = some (.im (.str [v]), c') ∧ v ∈ xs ∧ cupOk c' := by
  have hp : 0 < xs.length := List.length_pos_iff.mpr h0
  have hz : xs.length ≤ sizeLine := by rw [sz_eq]; omega
  obtain ⟨v, c', e, v0, v1, hc'⟩ := hr hc (n := xs.length) (by omega) (by omega)
  obtain ⟨x, ex, ea⟩ := atI_nat (xs := xs) v0 v1
  refine ⟨x, c', ?_, List.mem_of_getElem? ex, hc'⟩
  simp [runC, slotAt, evCallC, runF, evRet, evSeq, evIfS, evNext, evSet, evAnd, evOr, evNot, evNotV, evB, evOrB, evAndB, evIf, evCall, evCons, evNil, toD, toO, evName, evC, ev1, ev2, evCh, Pu.settle, R.opd, Opd.look, Slot.look, Ow.d, someS, lenD, hz, e, idxD, ea]
/-- a truth value's end, to be decided -/
def isTrueR : Option R → Bool
  | some (.im (.bl true)) => true
  | _ => false
theorem of_isTrueR {x : Option R} (h : isTrueR x = true) : x = some (.im (.bl true)) := by
  unfold isTrueR at h
  split at h
  · rfl
  · cases h
/-! ### one step after another -/
theorem evSeq_of {f h : EvS} {g g' : G} (e : f g = some (.nx, g')) : evSeq f h g = h g' := by
  unfold evSeq
  rw [e]
theorem runF_im {f : EvS} {n m : Nat} {ds : List D} {g : G} {d : D} (hl : ds.length = n) (e : f (ds.map Slot.im ++ List.replicate (m - n) Slot.no) = some (.rt (.im d), g)) : runF f n m ds = some (.im d) := by
  unfold runF
  rw [if_pos hl, e]
theorem runF_fr {f : EvS} {n m : Nat} {ds : List D} {g : G} {c : Ow} (hl : ds.length = n) (e : f (ds.map Slot.im ++ List.replicate (m - n) Slot.no) = some (.rt (.fr c), g)) : runF f n m ds = some (.fr c) := by
  unfold runF
  rw [if_pos hl, e]
theorem runC_im {f : EvS} {n m : Nat} {ds : List D} {g : G} {d : D} {c c' : Ow} (hl : ds.length = n) (e : f (Slot.ow (true, c) :: (ds.map Slot.im ++ List.replicate (m - (n + 1)) Slot.no)) = some (.rt (.im d), g)) (h : slotAt g 0 = some (.ow (true, c'))) : runC f n m c ds = some (.im d, c') := by
  unfold runC
  rw [if_pos hl, e]
  dsimp only
  rw [h]
theorem runC_fr {f : EvS} {n m : Nat} {ds : List D} {g : G} {c2 : Ow} {c c' : Ow} (hl : ds.length = n) (e : f (Slot.ow (true, c) :: (ds.map Slot.im ++ List.replicate (m - (n + 1)) Slot.no)) = some (.rt (.fr c2), g)) (h : slotAt g 0 = some (.ow (true, c'))) : runC f n m c ds = some (.fr c2, c') := by
  unfold runC
  rw [if_pos hl, e]
  dsimp only
  rw [h]
/-- if not f(..): return False -/
theorem ifNot_run {A : EvA} {F : List D → Option R} {g g' : G} {ds : List D} (h : A g = some (ds, g')) (hF : F ds = some (.im (.bl true))) : evIfS (evNot (evB (evCall A F))) (evRet (evC (.bl false))) evNext g = some (.nx, g') := by
  simp [runF, evRet, evSeq, evIfS, evNext, evSet, evAnd, evOr, evNot, evNotV, evB, evOrB, evAndB, evIf, evCall, evCons, evNil, toD, toO, evName, evC, ev1, ev2, evCh, Pu.settle, R.opd, Opd.look, Slot.look, Ow.d, h, hF]
theorem ret_call {A : EvA} {F : List D → Option R} {g g' : G} {ds : List D} {d : D} (h : A g = some (ds, g')) (hF : F ds = some (.im d)) : evRet (evCall A F) g = some (.rt (.im d), g') := by
  simp [runF, evRet, evSeq, evIfS, evNext, evSet, evAnd, evOr, evNot, evNotV, evB, evOrB, evAndB, evIf, evCall, evCons, evNil, toD, toO, evName, evC, ev1, ev2, evCh, Pu.settle, R.opd, Opd.look, Slot.look, Ow.d, h, hF]
/-! ### comprehensions and loops that change the state -/
theorem runLc_inv {b : EvT} {c : EvB} {f : EvE} {vs : List Nat} (I : G → Prop) (P : D → Prop) : ∀ {ds acc : List D} {g : G},
    (∀ d ∈ ds, ∀ g, I g → ∃ g1 g2 y g3, b d g = some g1 ∧ c g1 = some (true, g2) ∧ toD f g2 = some (y, g3) ∧ I (gw vs g3) ∧ P y) → I g →
    ∃ ys g', runLc b c f vs ds acc g = some (acc ++ ys, g') ∧ ys.length = ds.length ∧ (∀ y ∈ ys, P y) ∧ I g'
  | [], acc, g, _, h => ⟨[], g, by simp [runLc], rfl, by simp, h⟩
  | d :: ds, acc, g, k, h => by
    obtain ⟨g1, g2, y, g3, e1, e2, e3, h3, hy⟩ := k d List.mem_cons_self g h
    obtain ⟨ys, g', e, l, p, h'⟩ := runLc_inv I P (acc := acc ++ [y]) (fun d' hd => k d' (List.mem_cons_of_mem _ hd)) h3
    refine ⟨y :: ys, g', ?_, by rw [List.length_cons, List.length_cons, l], fun z hz => (List.mem_cons.mp hz).elim (fun e => e ▸ hy) (p z), h'⟩
    unfold runLc
    rw [e1]
    dsimp only
    rw [e2]
    dsimp only
    rw [e3]
    dsimp only
    rw [e, List.append_assoc]
    rfl
theorem evLc_inv {fi : EvA} {b : EvT} {c : EvB} {f : EvE} {vs : List Nat} {g g1 : G} {items : List D} (I : G → Prop) (P : D → Prop) (hi : fi g = some (items, g1)) (hv : vs.all (plainAt g1) = true) (h : I (gw vs g1))
    (k : ∀ d ∈ items, ∀ g, I g → ∃ g1 g2 y g3, b d g = some g1 ∧ c g1 = some (true, g2) ∧ toD f g2 = some (y, g3) ∧ I (gw vs g3) ∧ P y) :
    ∃ ys g', evLc fi b c f vs g = some (.fr (.lst ys), grs vs g' g1) ∧ ys.length = items.length ∧ (∀ y ∈ ys, P y) ∧ I g' := by
  obtain ⟨ys, g', e, l, p, h'⟩ := runLc_inv (vs := vs) (acc := []) I P k h
  refine ⟨ys, g', ?_, l, p, h'⟩
  unfold evLc
  rw [hi]
  dsimp only
  rw [if_pos hv, e]
  rfl
theorem runFor_next {b : EvT} {body : EvS} {d : D} {ds : List D} {g g1 g2 : G} (e1 : b d g = some g1) (e2 : body g1 = some (.nx, g2)) : runFor b body (d :: ds) g = runFor b body ds g2 := by
  rw [runFor, e1]
  dsimp only
  rw [e2]
theorem evFor_of {fi : EvA} {b : EvT} {body : EvS} {g g1 : G} {ds : List D} (e : fi g = some (ds, g1)) : evFor fi b body g = runFor b body ds g1 := by
  unfold evFor
  rw [e]
/-! ### slices -/
theorem cutL_mem {α : Type} {xs : List α} {lo hi : Option Int} {x : α} (h : x ∈ cutL xs lo hi) : x ∈ xs := List.mem_of_mem_drop (List.mem_of_mem_take h)
theorem cutL_len {α : Type} (xs : List α) (lo hi : Option Int) : (cutL xs lo hi).length ≤ xs.length := by
  unfold cutL
  rw [List.length_take, List.length_drop]
  omega
theorem cutL_mid {α : Type} {xs : List α} {a b : Int} (h0 : 0 ≤ a) (h1 : a ≤ b) (h2 : b ≤ xs.length) : (cutL xs (some a) (some b)).length = (b - a).toNat := by
  obtain ⟨i, rfl⟩ := Int.eq_ofNat_of_zero_le h0
  obtain ⟨j, rfl⟩ := Int.eq_ofNat_of_zero_le (Int.le_trans h0 h1)
  unfold cutL
  rw [HT.sIx_nat, HT.sIx_nat, List.length_take, List.length_drop]
  omega
theorem addT {xs ys : List D} (h : xs.length + ys.length ≤ 100000) : addD (.tup xs) (.tup ys) = some (.im (.tup (xs ++ ys))) := by
  simp only [addD]
  rw [if_pos (by rw [sz_eq]; omega)]
theorem addL {xs ys : List D} (h : xs.length + ys.length ≤ 100000) : addD (.lst xs) (.lst ys) = some (.fr (.lst (xs ++ ys))) := by
  simp only [addD]
  rw [if_pos (by rw [sz_eq]; omega)]
theorem addS {xs ys : List Nat} (h : xs.length + ys.length ≤ 100000) : addD (.str xs) (.str ys) = some (.im (.str (xs ++ ys))) := by
  simp only [addD]
  rw [if_pos (by rw [sz_eq]; omega)]
theorem cutS {s : List Nat} (h : s.length ≤ 100000) (lo hi : Option Int) : cutD (.str s) lo hi = some (.im (.str (cutL s lo hi))) := by
  simp only [cutD]
  rw [if_pos (by rw [sz_eq]; omega)]
theorem idxT {xs : List D} {i : Int} (h0 : 0 ≤ i) (h : i < xs.length) : ∃ x ∈ xs, idxD (.tup xs) (.int i) = some (.im x) := by
  obtain ⟨x, e, ea⟩ := atI_nat h0 h
  refine ⟨x, List.mem_of_getElem? e, ?_⟩
  simp only [idxD]
  rw [ea]
  rfl
theorem idxL {xs : List D} {i : Int} (h0 : 0 ≤ i) (h : i < xs.length) : ∃ x ∈ xs, idxD (.lst xs) (.int i) = some (.im x) := by
  obtain ⟨x, e, ea⟩ := atI_nat h0 h
  refine ⟨x, List.mem_of_getElem? e, ?_⟩
  simp only [idxD]
  rw [ea]
  rfl
/-- texts of one sign each, put together -/
theorem join_signs (cs : List Nat) (h : cs.length ≤ 100000) : joinD [] (.lst (cs.map fun c => .str [c])) = some (.im (.str cs)) := by
  have e : strsOf (cs.map fun c => D.str [c]) = some (cs.map fun c => [c]) := by
    clear h
    induction cs with
    | nil => rfl
    | cons c cs ih =>
      rw [List.map_cons, List.map_cons]
      unfold strsOf
      rw [ih]
      rfl
  have hl : ∀ cs : List Nat, ((cs.map fun c => [c]).map List.length).sum = cs.length := fun cs => by
    induction cs with
    | nil => rfl
    | cons c cs ih => rw [List.map_cons, List.map_cons, List.sum_cons, ih, List.length_cons]; simp; omega
  have hj : ∀ cs : List Nat, TL.joinL [] (cs.map fun c => [c]) = cs := fun cs => by
    induction cs with
    | nil => rfl
    | cons c cs ih =>
      cases cs with
      | nil => rfl
      | cons d cs =>
        show [c] ++ ([] ++ TL.joinL [] ((d :: cs).map fun c => [c])) = _
        rw [ih]
        rfl
  unfold joinD
  dsimp only
  rw [e]
  dsimp only
  rw [if_pos (by rw [hl, List.length_map, List.length_nil]; omega), hj]
end Pu
end

section
set_option Elab.async false
set_option linter.all false
set_option maxRecDepth 100000
/-! PuQ: sorted(x) of a list or a tuple of keys. -/
namespace PuT
open PySem L2 PySem.Spec PyProof.Rows PySem.W
section
variable {P : Program} {w : World} {A : Around} {E : Value → Shared → Prop} {s : Shared}
theorem sorted_seq {l : Addr} {T : String} {o : Obj} {items : Array Value} {n : Nat} (hT : T = "list" ∨ T = "tuple") (ho : s.heap.get? l = some o) (hc : o.cls = .type T) (hd : o.data = .seq items n) {L : List Row} {Q : Value → Shared → Prop}
    (hi : items.toList = L.map (·.2)) (rd : ∀ p ∈ L, ∃ as, Reads s.heap p.2 p.1.data as) (hz : L.length ≤ 100000)
    (hal : AllAlike (L.map (·.1.data))) (hk : Sortable (L.map (·.1.data))) (hu : ∀ p ∈ L, A.units + 3 + p.1.data.depth < cLine)
    (q : ∀ (h1 h' : Heap) (c : Nat), (∀ b o, s.heap.get? b = some o → h1.get? b = some o) → (∀ b o, h1.get? b = some o → h'.get? b = some o) →
      h'.get? h1.objs.size = some (seqObj "list" ((L.mergeSort ordR).map (·.2)).toArray c) → Q (.ref h1.objs.size) { s with heap := h' }) : wpAny (model P w) A (call (.builtin "sorted") [.ref l]) Q E s := by
  have isz : items.size = L.length := by rw [← Array.length_toList, hi, List.length_map]
  refine Calls.call_function_entry kind_sorted plain_sorted entry_sorted (args_sorted1 _) ?_
  unfold Builtin.«sorted»
  refine wpAny_bind (m := checkCount "sorted" 1 1 _) (wpAny_pure (wpAny_bind (wpAny_collect_seq (A := A.in1) l hT ho hc hd (fun h1 k1 => ?_) (by rw [isz, sizeLine_eq]; omega))))
  rw [hi]
  refine wpAny_bind (wpAny_newList ?_ (by rw [List.length_map, sizeLine_eq]; omega))
  have hoL : (h1.push (seqObj "list" (L.map (·.2)).toArray 0)).get? h1.objs.size = some (seqObj "list" (L.map (·.2)).toArray 0) := Heap.get?_push_size _ rfl
  have kp : ∀ b o, s.heap.get? b = some o → (h1.push (seqObj "list" (L.map (·.2)).toArray 0)).get? b = some o := fun b o e => Heap.get?_push_of_some _ (k1 b o e)
  have e1 : EachIs (fun v (p : Row) => v = p.2) (L.map (·.2)) L := each_of fun _ _ => rfl
  have e2 : EachIs (fun v (p : Row) => ∃ as, Reads (h1.push (seqObj "list" (L.map (·.2)).toArray 0)) v p.1.data as ∧ h1.objs.size ∉ as) (L.map (·.2)) L := each_of fun p hp => by
    obtain ⟨as, r⟩ := rd p hp
    refine ⟨as, PyProof.Rows.Reads.keeps kp r, ?_⟩
    rw [flat_key p.1 r]
    exact List.not_mem_nil
  refine wpAny_bind (wpAny_holding (list_sort_data (s := { s with heap := h1.push (seqObj "list" (L.map (·.2)).toArray 0) }) hoL e1 e2 hal hk (by rw [sizeLine_eq]; omega)
    (fun p hp => ?_) fun out ol eo => ?_))
  · have := hu p hp
    simp only [Around.in1_units]
    omega
  · obtain rfl : out = (L.mergeSort ordR).map (·.2) := each_eq eo
    obtain ⟨c, hc⟩ := sortedHeap_at (vs := L.map (·.2)) (out := List.toArray ((L.mergeSort ordR).map (·.2))) hoL
    have old : ∀ b u, h1.get? b = some u → (sortedHeap (h1.push (seqObj "list" (L.map (·.2)).toArray 0)) h1.objs.size (L.map (·.2)) (List.toArray ((L.mergeSort ordR).map (·.2)))).get? b = some u := fun b u e => by
      have lt := Heap.lt_size e
      rw [sortedHeap_old (Nat.ne_of_lt lt) (by rw [size_push']; exact Nat.lt_succ_of_lt lt)]
      exact Heap.get?_push_of_some _ e
    generalize sortedHeap (h1.push (seqObj "list" (L.map (·.2)).toArray 0)) h1.objs.size (L.map (·.2)) (List.toArray ((L.mergeSort ordR).map (·.2))) = h9 at hc old ⊢
    refine wpAny_pure ⟨_, rfl, ?_⟩
    exact q h1 h9 c k1 old hc
end
/-- a key and its value -/
abbrev KVv := NestedKey × V
def ordV : KVv → KVv → Bool := dataLe false fun q => q.1.data
def rSortS (K : PySem.W.Frag) : List V → Hp → VK → Prop := fun xs H Q => ∃ (l : Addr) (qs : List KVv), xs = [.ref l] ∧ (SqL K H l (qs.map (·.2)) ∨ SqT K H l (qs.map (·.2))) ∧ (∀ q ∈ qs, Dp K H q.2 q.1.data ∧ q.1.depth ≤ 8) ∧ qs.length ≤ 100000 ∧
  (∀ q ∈ qs, ∀ q' ∈ qs, alike q.1.data q'.1.data = true) ∧ ((∀ q ∈ qs, ∃ x r, q.1 = .tup (x :: r)) ∨ ∀ q ∈ qs, q.1 ≠ .none ∧ ∀ r, q.1 ≠ .tup r) ∧
  ∀ p : Addr, H p = none → Q (.ref p) (upd H p (.lst ((qs.mergeSort ordV).map (·.2))))
section
variable {X : Cx} {pins : List (Addr × Obj)} {σ : L2.St} {H : Hp} {s : Shared}
theorem rows_of (us : List Value) (qs : List KVv) (r : Vals (qs.map (·.2)) us) : ∃ L : List Row, us = L.map (·.2) ∧ L.map (·.1) = qs.map (·.1) ∧ L.length = qs.length ∧ ∀ (i : Nat) (p : Row), L[i]? = some p → ∃ q : KVv, qs[i]? = some q ∧ q.1 = p.1 ∧ RelV q.2 p.2 := by
  induction qs generalizing us with
  | nil => cases r; exact ⟨[], rfl, rfl, rfl, fun i p h => by simp at h⟩
  | cons q qs ih =>
    rw [List.map_cons] at r
    cases r with
    | cons r1 r2 =>
      rename_i u us
      obtain ⟨L, rfl, e, l, h⟩ := ih us r2
      refine ⟨(q.1, u) :: L, rfl, by rw [List.map_cons, List.map_cons, e], congrArg Nat.succ l, fun i p hp => ?_⟩
      cases i with
      | zero => cases hp; exact ⟨q, rfl, rfl, r1⟩
      | succ i => exact h i p hp
/-- the sort of the rows is the sort of their keys with the values carried along -/
theorem vals_sort : ∀ {L : List Row} {qs : List KVv}, L.map (·.1) = qs.map (·.1) → Vals (qs.map (·.2)) (L.map (·.2)) → Vals ((qs.mergeSort ordV).map (·.2)) ((L.mergeSort ordR).map (·.2)) := fun {L qs} e r => by
  have hz : ∃ zs : List (KVv × Value), qs = zs.map (·.1) ∧ L = zs.map (fun z => (z.1.1, z.2)) ∧ ∀ z ∈ zs, RelV z.1.2 z.2 := by
    induction qs generalizing L with
    | nil => 
      cases L with
      | nil => exact ⟨[], rfl, rfl, fun _ z => nomatch z⟩
      | cons _ _ => cases e
    | cons q qs ih =>
      cases L with
      | nil => cases e
      | cons p L =>
        rw [List.map_cons, List.map_cons] at e r
        injection e with e1 e2
        cases r with
        | cons r1 r2 =>
          obtain ⟨zs, rfl, rfl, h⟩ := ih e2 r2
          refine ⟨(q, p.2) :: zs, rfl, ?_, fun z hz => (List.mem_cons.mp hz).elim (fun e => e ▸ r1) (h z)⟩
          rw [List.map_cons, ← e1]
  obtain ⟨zs, rfl, rfl, h⟩ := hz
  have a1 : (zs.map (·.1)).mergeSort ordV = (zs.mergeSort fun a b => ordV a.1 b.1).map (·.1) := (List.map_mergeSort (f := fun z : KVv × Value => z.1) (r := fun a b : KVv × Value => ordV a.1 b.1) (s := ordV) fun _ _ _ _ => rfl).symm
  have a2 : (zs.map (fun z => ((z.1.1, z.2) : Row))).mergeSort ordR = (zs.mergeSort fun a b => ordV a.1 b.1).map (fun z => (z.1.1, z.2)) := (List.map_mergeSort (f := fun z : KVv × Value => ((z.1.1, z.2) : Row)) (r := fun a b : KVv × Value => ordV a.1 b.1) (s := ordR) fun _ _ _ _ => rfl).symm
  rw [a1, a2, List.map_map, List.map_map]
  have h2 : ∀ z ∈ (zs.mergeSort fun a b => ordV a.1 b.1), RelV z.1.2 z.2 := fun z hz => h z ((List.mergeSort_perm _ _).mem_iff.mp hz)
  generalize (zs.mergeSort fun a b => ordV a.1 b.1) = ys at h2
  induction ys with
  | nil => exact .nil
  | cons y ys ih => exact .cons (h2 y List.mem_cons_self) (ih fun z hz => h2 z (List.mem_cons_of_mem _ hz))
theorem cr_sortS (hc : X.calm = true) (hu : X.A.units + 12 < cLine) : CallR X (.builtin "sorted") (rSortS X.K) := by
  intro pins s σ H xs us Q I r h
  obtain ⟨l, qs, rfl, hl, hk, hn, al, tp, q⟩ := h
  rw [Vals.ref1 r]
  have core : ∀ (T : String) (o : Obj) (items : Array Value) (n : Nat), (T = "list" ∨ T = "tuple") → s.heap.get? l = some o → o.cls = .type T → o.data = .seq items n → Vals (qs.map (·.2)) items.toList →
      wpAny (model X.prog X.w) X.A (call (.builtin "sorted") [.ref l]) (EP X pins σ Q) X.xe s := fun T o items n hT ho hcl hd rv => by
    obtain ⟨L, ei, ek, ll, hr⟩ := rows_of items.toList qs rv
    have mem : ∀ p ∈ L, ∃ q ∈ qs, q.1 = p.1 ∧ RelV q.2 p.2 := fun p hp => by
      obtain ⟨i, hi⟩ := List.mem_iff_getElem?.mp hp
      obtain ⟨q, h1, h2, h3⟩ := hr i p hi
      exact ⟨q, List.mem_of_getElem? h1, h2, h3⟩
    refine sorted_seq hT ho hcl hd ei (fun p hp => ?_) (by omega) (fun d hd d' hd' => ?_) ?_ (fun p hp => ?_) fun h1 h' c k1 kp hg => ?_
    · obtain ⟨q, h1, h2, h3⟩ := mem p hp
      rw [← h2]
      exact Dp.reads I _ _ _ (hk q h1).1 h3
    · obtain ⟨p1, m1, rfl⟩ := List.mem_map.mp hd
      obtain ⟨p2, m2, rfl⟩ := List.mem_map.mp hd'
      obtain ⟨q1, n1, x1, _⟩ := mem p1 m1
      obtain ⟨q2, n2, x2, _⟩ := mem p2 m2
      rw [← x1, ← x2]
      exact al q1 n1 q2 n2
    · rcases tp with tp | tp
      · refine .inl fun d hd => ?_
        obtain ⟨p1, m1, rfl⟩ := List.mem_map.mp hd
        obtain ⟨q1, n1, x1, _⟩ := mem p1 m1
        obtain ⟨x, r, e⟩ := tp q1 n1
        refine ⟨x.data, NestedKey.datas r, ?_⟩
        rw [← x1, e, NestedKey.data, NestedKey.datas]
      · refine .inr fun d hd => ?_
        obtain ⟨p1, m1, rfl⟩ := List.mem_map.mp hd
        obtain ⟨q1, n1, x1, _⟩ := mem p1 m1
        have t := tp q1 n1
        rw [x1] at t
        obtain ⟨k, v⟩ := p1
        dsimp only at t ⊢
        cases k with
        | none => exact absurd rfl t.1
        | tup r => exact absurd rfl (t.2 r)
        | _ => exact ⟨by unfold NestedKey.data; simp, by unfold NestedKey.data; simp⟩
    · obtain ⟨q, h1, h2, h3⟩ := mem p hp
      have := (hk q h1).2
      rw [depth_data, ← h2]
      omega
    · have I1 : L2.Inv X pins σ H { s with heap := h1 } := I.kept (t' := s.toks) k1
      have hn' : H h1.objs.size = none := I1.hok.fresh (Nat.le_refl _)
      have hv := vals_sort ek (by rw [← ei]; exact rv)
      have hz : ((qs.mergeSort ordV).map (·.2)).length ≤ sizeLine := by
        rw [List.length_map, List.length_mergeSort, sizeLine_eq]
        omega
      have J : L2.Inv X pins σ (upd H h1.objs.size (.lst ((qs.mergeSort ordV).map (·.2)))) { s with heap := h' } := I1.laid (t' := s.toks) kp (Nat.le_refl _) ⟨hz, _, c, hv, hg⟩
      exact ⟨.ref _, _, J, rfl, q _ hn'⟩
  rcases hl with hl | hl
  · obtain ⟨its, rv, pl, hz⟩ := I.list hl
    obtain ⟨o, ho, hcl, n, hd⟩ := pl.isList
    exact core "list" o its.toArray n (.inl rfl) ho hcl hd (by simpa using rv)
  · obtain ⟨its, rv, pl, hz⟩ := I.tuple hl
    obtain ⟨o, ho, hcl, n, hd⟩ := pl
    exact core "tuple" o its.toArray n (.inr rfl) ho hcl hd (by simpa using rv)
end
end PuT
end

section
set_option Elab.async false
set_option linter.all false
set_option maxRecDepth 100000
/-! PuR: sorted(x), str(x), len(set(numbers)); constants and tables with text keys of the module. -/
namespace Pu
open PySem L2 PySem.Spec PyProof.Rows PySem.W PuT
/-! ### sorted(x) -/
def isFl : NK → Bool
  | .num _ => true
  | .text _ => true
  | _ => false
def sortOk (ks : List NK) : Bool := decide (ks.length ≤ 100000) && (ks.all fun k => decide (k.depth ≤ 8)) && alikeB ks && (ks.all isT1 || ks.all isFl)
/-- in its place, behind what is not greater -/
def insK (x : NK) : List NK → List NK
  | [] => [x]
  | y :: ys => if ordK x y then x :: y :: ys else y :: insK x ys
def isort : List NK → List NK
  | [] => []
  | x :: xs => insK x (isort xs)
theorem perm_insK (x : NK) : ∀ ys : List NK, (insK x ys).Perm (x :: ys)
  | [] => List.Perm.refl _
  | y :: ys => by
    unfold insK
    split
    · exact List.Perm.refl _
    · exact ((perm_insK x ys).cons y).trans (List.Perm.swap x y ys)
theorem perm_isort : ∀ xs : List NK, (isort xs).Perm xs
  | [] => List.Perm.refl _
  | x :: xs => (perm_insK x (isort xs)).trans ((perm_isort xs).cons x)
theorem ordK_tot : TotalLe ordK := sortLe_total (listOrd itemOrd) false fun q : NK => keyToks q.data
theorem asc_insK {x : NK} : ∀ {ys : List NK}, ys.Pairwise (fun a b => ordK a b = true) → (insK x ys).Pairwise (fun a b => ordK a b = true)
  | [], _ => List.pairwise_singleton _ _
  | y :: ys, h => by
    have h' := List.pairwise_cons.mp h
    unfold insK
    split
    · rename_i le
      refine List.pairwise_cons.mpr ⟨fun z hz => ?_, h⟩
      rcases List.mem_cons.mp hz with e | hz
      · exact e ▸ le
      · exact ordK_tot.trans x y z le (h'.1 z hz)
    · rename_i nle
      have le : ordK y x = true := (ordK_tot.total x y).resolve_left nle
      refine List.pairwise_cons.mpr ⟨fun z hz => ?_, asc_insK h'.2⟩
      rcases List.mem_cons.mp ((perm_insK x ys).mem_iff.mp hz) with e | hz
      · exact e ▸ le
      · exact h'.1 z hz
theorem asc_isort : ∀ xs : List NK, (isort xs).Pairwise (fun a b => ordK a b = true)
  | [] => List.Pairwise.nil
  | x :: xs => asc_insK (asc_isort xs)
theorem sorted_one : ∀ {l m : List NK}, (∀ a ∈ l, ∀ b ∈ l, ordK a b = true → ordK b a = true → a = b) → l.Perm m → l.Pairwise (fun a b => ordK a b = true) → m.Pairwise (fun a b => ordK a b = true) → l = m
  | [], m, _, p, _, _ => (List.nil_perm.mp p).symm
  | x :: l, [], _, p, _, _ => by
    have := p.length_eq
    cases this
  | x :: l, y :: m, an, p, h1, h2 => by
    have e : x = y := by
      rcases List.mem_cons.mp (p.mem_iff.mp List.mem_cons_self) with e | hx
      · exact e
      · rcases List.mem_cons.mp (p.mem_iff.mpr List.mem_cons_self) with e | hy
        · exact e.symm
        · exact an x List.mem_cons_self y (List.mem_cons_of_mem _ hy) ((List.pairwise_cons.mp h1).1 y hy) ((List.pairwise_cons.mp h2).1 x hx)
    subst e
    rw [sorted_one (fun a ha b hb => an a (List.mem_cons_of_mem _ ha) b (List.mem_cons_of_mem _ hb)) p.cons_inv (List.pairwise_cons.mp h1).2 (List.pairwise_cons.mp h2).2]
theorem ordK_anti {x y : NK} (al : alike x.data y.data = true) (h1 : ordK x y = true) (h2 : ordK y x = true) : x = y := by
  rw [ordK_eq, Bool.not_eq_true'] at h1 h2
  cases e : PyData.eqv x.data y.data with
  | true => exact eqv_key x y e
  | false =>
    have := lt_of_alike al e h1
    rw [h2] at this
    cases this
theorem isort_eq {ks : List NK} (al : alikeB ks = true) : ks.mergeSort ordK = isort ks := by
  refine sorted_one (fun a ha b hb h1 h2 => ?_) ((List.mergeSort_perm ks ordK).trans (perm_isort ks).symm) (sort_pairwise ordK_tot ks) (asc_isort ks)
  have m : ∀ {a}, a ∈ ks.mergeSort ordK → a ∈ ks := fun h => (List.mergeSort_perm ks ordK).mem_iff.mp h
  unfold alikeB at al
  exact ordK_anti (List.all_eq_true.mp (List.all_eq_true.mp al _ (m ha)) _ (m hb)) h1 h2
def sortD (d : D) : Option R := match itemsS d with
  | none => none
  | some ks => if sortOk ks then some (.fr (.lst ((isort ks).map dOf))) else none
/-- sorted(set(x)), told so that it can be done -/
def sortsetX (d : D) : Option R := match itemsS d with
  | none => none
  | some ks => if setOk ks && alikeB ks then some (.fr (.lst ((isort (dd ks)).map dOf))) else none
theorem alike_dd {ks : List NK} (al : alikeB ks = true) : alikeB (dd ks) = true := by
  unfold alikeB at al ⊢
  rw [List.all_eq_true] at al ⊢
  intro x hx
  have := al x (mem_dd.1 hx)
  rw [List.all_eq_true] at this ⊢
  exact fun y hy => this y (mem_dd.1 hy)
theorem sortsetX_eq {d : D} {r : R} (h : sortsetX d = some r) : sortsetD d = some r := by
  unfold sortsetX at h
  unfold sortsetD
  generalize itemsS d = o at h ⊢
  cases o with
  | none => cases h
  | some ks =>
    dsimp only at h ⊢
    by_cases ok : (setOk ks && alikeB ks) = true
    · rw [if_pos ok] at h
      rw [Bool.and_eq_true] at ok
      rw [ok.1, ok.2, strict_sort ok.2, isort_eq (alike_dd ok.2)]
      exact h
    · rw [if_neg ok] at h
      cases h
theorem keys_atV {K : Fr} {M : Ads} {H : Hp} : ∀ {vs : List V} {ds : List D} {ks : List NK}, IsAll K M H vs ds → keysOf ds = some ks →
    ∃ qs : List KVv, vs = qs.map (·.2) ∧ qs.map (·.1) = ks ∧ ∀ q ∈ qs, Is K M H q.2 (dOf q.1)
  | _, _, _, .nil, h => by
    cases h
    exact ⟨[], rfl, rfl, fun _ z => nomatch z⟩
  | _, _, _, .cons (v := v) (d := d) (ds := ds) r rs, h => by
    unfold keysOf at h
    split at h
    · rename_i k ks' e1 e2
      cases h
      obtain ⟨qs, rfl, em, h2⟩ := keys_atV rs e2
      obtain ⟨a1, rfl⟩ := keyOf_data d e1
      refine ⟨(k, v) :: qs, rfl, by rw [List.map_cons, em], fun q hq => ?_⟩
      rcases List.mem_cons.mp hq with rfl | hq
      · exact r
      · exact h2 q hq
    · cases h
section
variable {X : Cx}
theorem sortS_ok (hc : X.calm = true) (hu : X.A.units + 12 < cLine) : CallOk1 X (.builtin "sorted") sortD := by
  intro d r h
  unfold sortD at h
  split at h
  · cases h
  · rename_i ks hd
    split at h
    · rename_i ok
      cases h
      unfold sortOk at ok
      rw [Bool.and_eq_true, Bool.and_eq_true, Bool.and_eq_true, decide_eq_true_eq, List.all_eq_true, Bool.or_eq_true, List.all_eq_true, List.all_eq_true] at ok
      obtain ⟨⟨⟨hn, dep⟩, al⟩, tp⟩ := ok
      rw [← isort_eq al] at *
      refine ⟨_, cr_sortS hc hu, fun M H x Q tr hx q => ?_⟩
      have core : ∀ (l : Addr) (vs : List V) (ds : List D), x = .ref l → (SqL X.K H l vs ∨ SqT X.K H l vs) → IsAll X.K M H vs ds → keysOf ds = some ks → rSortS X.K [x] H Q := fun l vs ds ex hl ra hk => by
        subst ex
        obtain ⟨qs, rfl, em, h2⟩ := keys_atV ra hk
        have inks : ∀ q ∈ qs, q.1 ∈ ks := fun q hq => em ▸ List.mem_map.mpr ⟨q, hq, rfl⟩
        have ln : qs.length = ks.length := by rw [← em, List.length_map]
        refine ⟨l, qs, rfl, hl, fun q0 hq => ⟨toP_dOf q0.1 ▸ (h2 q0 hq).dp, of_decide_eq_true (dep _ (inks q0 hq))⟩, by omega, fun q1 n1 q2 n2 => ?_, ?_, fun p hp => ?_⟩
        · unfold alikeB at al
          exact List.all_eq_true.mp (List.all_eq_true.mp al _ (inks q1 n1)) _ (inks q2 n2)
        · rcases tp with tp | tp
          · exact .inl fun q0 hq => isT1_ex (tp _ (inks q0 hq))
          · refine .inr fun q0 hq => ?_
            have := tp _ (inks q0 hq)
            obtain ⟨k, v⟩ := q0
            cases k with
            | none => cases this
            | tup r => cases this
            | _ => exact ⟨by simp, fun r => by simp⟩
        · have ek : (qs.mergeSort ordV).map (·.1) = ks.mergeSort ordK := by
            rw [← em]
            exact List.map_mergeSort (f := fun q : KVv => q.1) (r := ordV) (s := ordK) fun _ _ _ _ => rfl
          have ra2 : IsAll X.K M H ((qs.mergeSort ordV).map (·.2)) ((ks.mergeSort ordK).map dOf) := by
            rw [← ek, List.map_map]
            have all : ∀ q ∈ qs.mergeSort ordV, Is X.K M H q.2 (dOf q.1) := fun q0 hq => h2 q0 ((List.mergeSort_perm qs ordV).mem_iff.mp hq)
            generalize qs.mergeSort ordV = N at all ⊢
            induction N with
            | nil => exact .nil
            | cons q0 N ih => exact .cons (all q0 List.mem_cons_self) (ih fun q hq => all q (List.mem_cons_of_mem _ hq))
          exact q _ _ (.lst hp ra2)
      unfold itemsS at hd
      split at hd
      · obtain ⟨l, vs, e, t, ra⟩ := hx.tup
        exact core l vs _ e (.inr t.sq) ra hd
      · obtain ⟨l, vs, e, t, ra⟩ := hx.lst
        exact core l vs _ e (.inl (.of t)) ra hd
      · cases hd
    · cases h
/-! ### str(x) -/
def strI (i : Int) : List Nat := (Str.ofString (toString i)).cps.toList
def strD : D → Option R
  | .str s => some (.im (.str s))
  | .int i => if i.natAbs < 2 ^ 1000 then some (.im (.str (strI i))) else none
  | _ => none
theorem str_ok : CallOk1 X (.type "str") strD := by
  intro d r h
  unfold strD at h
  split at h
  · cases h
    refine ⟨_, SkE.call_str_str, fun M H x Q tr hx q => ?_⟩
    obtain ⟨z, rfl, ez⟩ := hx.str
    exact ⟨z, rfl, q _ _ (.flat (ez ▸ .str z))⟩
  · rename_i i
    split at h
    · rename_i hz
      cases h
      refine ⟨_, call_str_int, fun M H x Q tr hx q => ?_⟩
      refine ⟨i, by rw [hx.int], ?_, q _ _ (.flat (.str _))⟩
      have : i.natAbs.log2 ≤ 1000 := by
        by_cases z : i.natAbs = 0
        · rw [z]; decide
        · have := (Nat.log2_lt z).mpr hz
          omega
      omega
    · cases h
  · cases h
/-! ### len(set(numbers)) -/
def ddI : List Int → List Int
  | [] => []
  | k :: ks => if k ∈ ks then ddI ks else k :: ddI ks
theorem mem_ddI {x : Int} : ∀ {ks : List Int}, x ∈ ddI ks ↔ x ∈ ks
  | [] => Iff.rfl
  | k :: ks => by
    unfold ddI
    split
    · rename_i h
      rw [mem_ddI, List.mem_cons]
      exact ⟨.inr, fun z => z.elim (fun e => e ▸ h) id⟩
    · rw [List.mem_cons, List.mem_cons, mem_ddI]
theorem nodup_ddI : ∀ ks : List Int, (ddI ks).Nodup
  | [] => List.nodup_nil
  | k :: ks => by
    unfold ddI
    split
    · exact nodup_ddI ks
    · rename_i h
      exact List.nodup_cons.mpr ⟨fun z => h (mem_ddI.1 z), nodup_ddI ks⟩
def rSetI (K : PySem.W.Frag) (w : World) : List V → Hp → VK → Prop := fun xs H Q => ∃ (l : Addr) (ns : List Int), xs = [.ref l] ∧ SqT K H l (ns.map V.int) ∧ ns.length ≤ 4000 ∧
  ∀ a, H a = none → Q (.ref a) (upd H a (L2.SetO w a (fun j => decide (j ∈ ns)) (ddI ns).length))
theorem cr_setI (hc : X.calm = true) : CallR X (.type "set") (rSetI X.K X.w) := by
  intro pins s σ H xs us Q I r h
  obtain ⟨l, ns, rfl, hl, few, q⟩ := h
  rw [Vals.ref1 r]
  have hn : H s.heap.objs.size = none := I.hok.fresh (Nat.le_refl _)
  obtain ⟨its, rv, pl, hz⟩ := I.tuple hl
  refine call_set_tupI ns (I.ok.hd hc) (l := l) (items := its.toArray) (by obtain ⟨o, ho, hcl, n, hd⟩ := pl; exact ⟨o, ho, hcl, n, hd⟩) (by simpa using RZ.intsAre_vals rv) (by unfold scanBound; omega) fun h' tk c R _ k => ?_
  obtain ⟨o, es, ep, t, ho, hex, hd, g, nd, hm, hb, hf, rfl, ris, led⟩ := id R
  have hp : (es.toList.map L2.keyOf).Perm (ddI ns) := (List.perm_ext_iff_of_nodup nd (nodup_ddI ns)).mpr fun k => by
    rw [← hm k, mem_ddI, decide_eq_true_eq]
  have hlen : es.size = (ddI ns).length := by
    rw [← hp.length_eq, List.length_map, Array.length_toList]
  rw [hlen] at R
  exact ⟨.ref s.heap.objs.size, upd H s.heap.objs.size (L2.SetO X.w s.heap.objs.size (fun j => decide (j ∈ ns)) (ddI ns).length), I.laid (t' := tk) k (Nat.le_refl _) (setO_new R), rfl, q _ hn⟩
def rLenI (w : World) : List V → Hp → VK → Prop := fun xs H Q => ∃ (a : Addr) (S : Int → Bool) (n : Nat), xs = [.ref a] ∧ H a = some (L2.SetO w a S n) ∧ n ≤ 4000 ∧ Q (.int n) H
theorem cr_lenI : CallR X (.builtin "len") (rLenI X.w) := by
  intro pins s σ H xs us Q I r h
  obtain ⟨a, S, n, rfl, ha, hn, q⟩ := h
  rw [Vals.ref1 r]
  obtain ⟨o, es, ep, t, ho, hex, hd, g, nd, hm, hb, hf, rfl, ris, led⟩ := setO_get I ha
  exact call_len_set ho hex hd hf (by omega) ⟨.int es.size, H, I.tok _, ⟨_, rfl⟩, q⟩
def lensetX (d : D) : Option R := match d with
  | .tup ds => match intsOf ds with
    | some ns => if ns.length ≤ 4000 then some (.im (.int (ddI ns).length)) else none
    | none => lensetD d
  | _ => lensetD d
theorem ddI_le : ∀ ns : List Int, (ddI ns).length ≤ ns.length
  | [] => Nat.le_refl _
  | k :: ks => by
    unfold ddI
    split
    · exact Nat.le_succ_of_le (ddI_le ks)
    · exact Nat.succ_le_succ (ddI_le ks)
variable {a : Expr} {fa : EvE} {pos p1 p2 p3 : Pos}
theorem se_one_or {e : Expr} {op op2 : D → Option R} (ha : SE X a fa) (h1 : ∀ d r, op d = some r → (∃ rr : R1, PE X e (fun σ H Q => WE X a σ H fun x H1 => rr x H1 Q) ∧ Sound1 X.K rr d r) ∨ op2 d = some r) (h2 : SE X e (ev1 fa op2)) : SE X e (ev1 fa op) := by
  constructor
  intro F Mo al g r g' σ H Q ef R0 q
  have ef0 := ef
  unfold ev1 at ef
  split at ef
  · cases ef
  · rename_i a1 g1 ea
    split at ef
    · cases ef
    · rename_i d ed
      split at ef
      · cases ef
      · rename_i r1 eo
        cases ef
        rcases h1 d r eo with ⟨rr, pe, sd⟩ | e2
        · refine to_w pe (ha.op ea R0 fun v H1 s k R1 ov => ?_)
          exact sd _ H1 v Q (fun a h => R1.trk h) (ov.pk R1 ed) fun u H' n => q u H' s (n.res R1 k.gr)
        · refine h2.run F Mo al g r g' σ H Q ?_ R0 q
          unfold ev1
          rw [ea]
          dsimp only
          rw [ed]
          dsimp only
          rw [e2]
theorem se_sortsetX (hc : X.calm = true) (hu : X.A.units + 12 < cLine) (hg : Gl X "sorted") (hm : X.mg "sorted" = none) (hg2 : Gl X "set") (hm2 : X.mg "set" = none) (ha : SE X a fa) (he : notStar a = true := by kernel_rfl) :
    SE X (.Call (.Name "sorted" p1) [.Call (.Name "set" p2) [a] [] p3] [] pos) (ev1 fa sortsetX) :=
  se_one_or ha (fun d r h => .inr (sortsetX_eq h)) (se_sortset hc hu hg hm hg2 hm2 ha he)
theorem se_lensetX (hc : X.calm = true) (hu : X.A.units + 12 < cLine) (hg : Gl X "len") (hm : X.mg "len" = none) (hg2 : Gl X "set") (hm2 : X.mg "set" = none) (ha : SE X a fa) (he : notStar a = true := by kernel_rfl) :
    SE X (.Call (.Name "len" p1) [.Call (.Name "set" p2) [a] [] p3] [] pos) (ev1 fa lensetX) := by
  refine se_one_or ha (fun d r h => ?_) (se_lenset hc hu hg hm hg2 hm2 ha he)
  unfold lensetX at h
  split at h
  · rename_i ds
    split at h
    · rename_i ns en
      split at h
      · rename_i hn
        cases h
        refine .inl ⟨fun x H Q => rSetI X.K X.w [x] H fun v H2 => rLenI X.w [v] H2 Q,
          pe_callB cr_lenI hg hm (by decide +kernel) (pa_cons (pe_callTy (cr_setI hc) hg2 hm2 (by decide +kernel) (pa_cons pe_w pa_nil (star_cons he)) (by decide) (by decide) (star_cons he) rfl) pa_nil rfl) (by decide) (by decide) rfl rfl, fun M H x Q tr hx q => ?_⟩
        obtain ⟨l, vs, rfl, t, ra⟩ := hx.tup
        rw [vals_of_intsOf en ra] at t
        refine ⟨l, ns, rfl, t.sq, hn, fun a hn' => ⟨a, fun j => decide (j ∈ ns), (ddI ns).length, rfl, upd_same, Nat.le_trans (ddI_le ns) hn, ?_⟩⟩
        exact q _ _ ⟨same_new hn', .int _⟩
      · cases h
    · exact .inr h
  · exact .inr h
end
end Pu
end

section
set_option Elab.async false
set_option linter.all false
set_option maxRecDepth 100000
/-! PuS: constants and tables with text keys that the module holds; a written dict that is read at once. -/
namespace Pu
open PySem L2 PySem.Spec PyProof.Rows PySem.W PuT
/-- v is d by what is written alone -/
def Cst (K : Fr) (v : V) (d : D) : Prop := Is K (fun _ => True) (fun _ => none) v d
def CstAll (K : Fr) (vs : List V) (ds : List D) : Prop := IsAll K (fun _ => True) (fun _ => none) vs ds
theorem Cst.is {K : Fr} {M : Ads} {H : Hp} {v : V} {d : D} (h : Cst K v d) : Is K M H v d := Is.go ⟨fun a o n => absurd trivial n, fun a o n => absurd trivial n⟩ h
theorem cst_non {K : Fr} : Cst K .non .non := .non
theorem cst_bl {K : Fr} (b : Bool) : Cst K (.bl b) (.bl b) := .bl b
theorem cst_int {K : Fr} (i : Int) : Cst K (.int i) (.int i) := .int i
theorem cst_str {K : Fr} (s : List Nat) : Cst K (.str ⟨s.toArray⟩) (.str s) := .str ⟨s.toArray⟩
theorem cst_nil {K : Fr} : CstAll K [] [] := .nil
theorem cst_cons {K : Fr} {v : V} {d : D} {vs : List V} {ds : List D} (h : Cst K v d) (r : CstAll K vs ds) : CstAll K (v :: vs) (d :: ds) := .cons h r
theorem cst_tup {K : Fr} {a : Addr} {us : List Value} {n : Nat} {od : Option Addr} {sl : Array (Option Value)} {vs : List V} {ds : List D} (hl : K.lookup a = some ⟨.type "tuple", od, .seq us.toArray n, sl⟩) (hv : Vals vs us) (hd : CstAll K vs ds) (hz : us.length ≤ 1000) : Cst K (.ref a) (.tup ds) :=
  .tup (.inr (.inr ⟨_, us.toArray, n, hl, rfl, rfl, by rw [List.size_toArray, sizeLine_eq]; omega, hv⟩)) hd
/-- a constant of the module -/
def GCst (mg : Str → Option Value) (K : Fr) (x : Str) (d : D) : Prop := ∃ (v : V) (u : Value), mg x = some u ∧ RelV v u ∧ Cst K v d
/-- the entries of a table -/
inductive TabE (K : Fr) : List DictEntry → List (List Nat × D) → Prop
  | nil : TabE K [] []
  | cons {e : DictEntry} {es : List DictEntry} {s : List Nat} {d : D} {ts : List (List Nat × D)} {tk : Tok} {v : V} : e.key = .str ⟨s.toArray⟩ tk → RelV v e.val → Cst K v d → TabE K es ts → TabE K (e :: es) ((s, d) :: ts)
/-- a table of the module -/
def GTab (mg : Str → Option Value) (K : Fr) (w : World) (x : Str) (tab : List (List Nat × D)) : Prop := ∃ (a : Addr) (es : Array DictEntry) (n : Nat), mg x = some (.ref a) ∧ KDict K w a es n ∧ TabE K es.toList tab
def seqB : List Nat → List Nat → Bool
  | [], [] => true
  | a :: r, b :: t => Nat.beq a b && seqB r t
  | _, _ => false
theorem seqB_iff : ∀ {a b : List Nat}, seqB a b = true ↔ a = b
  | [], [] => by simp [seqB]
  | [], _ :: _ => by simp [seqB]
  | _ :: _, [] => by simp [seqB]
  | a :: r, b :: t => by
    unfold seqB
    rw [Bool.and_eq_true, seqB_iff, Nat.beq_eq, List.cons.injEq]
def lookT (tab : List (List Nat × D)) (s : List Nat) : Option D := match tab with
  | [] => none
  | (k, d) :: r => if seqB k s then some d else lookT r s
theorem str_eq_of {s : List Nat} {z : Str} : ((⟨s.toArray⟩ : Str) == z) = seqB s z.cps.toList := by
  rw [Bool.eq_iff_iff, beq_iff_eq, seqB_iff]
  constructor
  · rintro rfl
    rfl
  · intro e
    obtain ⟨⟨l⟩⟩ := z
    cases e
    rfl
theorem tab_find {K : Fr} {z : Str} : ∀ {es : List DictEntry} {tab : List (List Nat × D)}, TabE K es tab →
    (lookT tab z.cps.toList = none ∧ es.find? (·.key.isStr z) = none ∧ es.any (·.refKey) = false) ∨ ∃ (e : DictEntry) (d : D) (v : V), lookT tab z.cps.toList = some d ∧ es.find? (·.key.isStr z) = some e ∧ RelV v e.val ∧ Cst K v d
  | _, _, .nil => .inl ⟨rfl, rfl, rfl⟩
  | _, _, .cons (e := e) (es := es) (s := s) (d := d) (ts := ts) (tk := tk) (v := v) hk hv hd r => by
    unfold lookT
    have e1 : e.key.isStr z = seqB s z.cps.toList := by
      rw [hk]
      exact str_eq_of
    rw [List.find?_cons, e1]
    cases hs : seqB s z.cps.toList with
    | true => exact .inr ⟨e, d, v, rfl, rfl, hv, hd⟩
    | false =>
      dsimp only
      rcases tab_find (z := z) r with ⟨a, b, c⟩ | ⟨e', d', v', a, b, c, f⟩
      · refine .inl ⟨a, b, ?_⟩
        rw [List.any_cons, c, Bool.or_false]
        unfold DictEntry.refKey
        rw [hk]
      · exact .inr ⟨e', d', v', a, b, c, f⟩
theorem tab_ns {K : Fr} {w : World} {a : Addr} {es : Array DictEntry} {n : Nat} {tab : List (List Nat × D)} {z : Str} (D : KDict K w a es n) (T : TabE K es.toList tab) :
    (lookT tab z.cps.toList = none ∧ nsIn K a z = some none) ∨ ∃ (u : Value) (d : Pu.D) (v : V), lookT tab z.cps.toList = some d ∧ nsIn K a z = some (some u) ∧ RelV v u ∧ Cst K v d := by
  unfold nsIn
  rw [D.at_]
  dsimp only
  rcases tab_find (z := z) T with ⟨h1, h2, h3⟩ | ⟨e, d, v, h1, h2, h3, h4⟩
  · refine .inl ⟨h1, ?_⟩
    rw [h2, h3]
    rfl
  · refine .inr ⟨e.val, d, v, h1, ?_, h3, h4⟩
    rw [h2]
def inT (tab : List (List Nat × D)) : D → Option R
  | .str s => some (.im (.bl (lookT tab s).isSome))
  | _ => none
def notInT (tab : List (List Nat × D)) : D → Option R
  | .str s => some (.im (.bl (!(lookT tab s).isSome)))
  | _ => none
def ixT (tab : List (List Nat × D)) : D → Option R
  | .str s => (lookT tab s).map .im
  | _ => none
section
variable {X : Cx} {a b : Expr} {fa : EvE} {pos p : Pos} {x : Str} {tab : List (List Nat × D)}
theorem se_gcst {d : D} (h : GCst X.mg X.K x d) (hg : Gl X x) (hd : (x == ("__debug__" : Str)) = false := by decide) : SE X (.Name x p) (evC d) := by
  obtain ⟨v, u, hm, rv, hc⟩ := h
  exact se_con (pe_glob hg hm rv hd) fun _ _ => hc.is
theorem se_inT (h : GTab X.mg X.K X.w x tab) (hg : Gl X x) (ha : SE X a fa) (hd : (x == ("__debug__" : Str)) = false := by decide) : SE X (.Compare a [.In] [.Name x p] pos) (ev1 fa (inT tab)) := by
  obtain ⟨d, es, n, hm, D, T⟩ := h
  refine se_one ha fun d' r hr => ?_
  unfold inT at hr
  split at hr
  · rename_i s
    cases hr
    refine ⟨fun y H Q => _, pe_cmpR (op_in_kd D) pe_w (pe_glob (v := .ref d) hg hm rfl hd) (by first | exact nomark _ | rfl), fun M H y Q tr hy q => ?_⟩
    obtain ⟨z, rfl, ez⟩ := hy.str
    rcases tab_ns (z := z) D T with ⟨h1, h2⟩ | ⟨u, d2, v, h1, h2, _, _⟩
    · refine ⟨z, none, rfl, rfl, h2, ?_⟩
      rw [ez] at h1
      rw [h1] at q
      exact q _ _ (.flat (.bl false))
    · refine ⟨z, some u, rfl, rfl, h2, ?_⟩
      rw [ez] at h1
      rw [h1] at q
      exact q _ _ (.flat (.bl true))
  · cases hr
theorem se_notInT (h : GTab X.mg X.K X.w x tab) (hg : Gl X x) (ha : SE X a fa) (hd : (x == ("__debug__" : Str)) = false := by decide) : SE X (.Compare a [.NotIn] [.Name x p] pos) (ev1 fa (notInT tab)) := by
  obtain ⟨d, es, n, hm, D, T⟩ := h
  refine se_one ha fun d' r hr => ?_
  unfold notInT at hr
  split at hr
  · rename_i s
    cases hr
    refine ⟨fun y H Q => _, pe_cmpR (op_notIn_kd D) pe_w (pe_glob (v := .ref d) hg hm rfl hd) (by first | exact nomark _ | rfl), fun M H y Q tr hy q => ?_⟩
    obtain ⟨z, rfl, ez⟩ := hy.str
    rcases tab_ns (z := z) D T with ⟨h1, h2⟩ | ⟨u, d2, v, h1, h2, _, _⟩
    · refine ⟨z, none, rfl, rfl, h2, ?_⟩
      rw [ez] at h1
      rw [h1] at q
      exact q _ _ (.flat (.bl true))
    · refine ⟨z, some u, rfl, rfl, h2, ?_⟩
      rw [ez] at h1
      rw [h1] at q
      exact q _ _ (.flat (.bl false))
  · cases hr
/-- x[k], x a table of the module -/
theorem se_ixT (h : GTab X.mg X.K X.w x tab) (hg : Gl X x) (hb : SE X b fa) (hs : PlainIx b := by exact fun _ _ => rfl) (hd : (x == ("__debug__" : Str)) = false := by decide) : SE X (.Subscript (.Name x p) b pos) (ev1 fa (ixT tab)) := by
  obtain ⟨d, es, n, hm, D, T⟩ := h
  refine se_one hb fun d' r hr => ?_
  unfold ixT at hr
  split at hr
  · rename_i s
    refine ⟨fun y H Q => _, pe_ix ix_kdict (pe_glob (v := .ref d) hg hm rfl hd) pe_w hs, fun M H y Q tr hy q => ?_⟩
    obtain ⟨z, rfl, ez⟩ := hy.str
    rcases tab_ns (z := z) D T with ⟨h1, h2⟩ | ⟨u, d2, v, h1, h2, h3, h4⟩
    · rw [← ez, h1] at hr
      cases hr
    · rw [← ez, h1] at hr
      cases hr
      exact ⟨d, z, v, rfl, rfl, ⟨es, n, u, D.at_, D.lit, h2, h3⟩, q _ _ (.flat h4.is)⟩
  · cases hr
end
end Pu
end

section
set_option Elab.async false
set_option linter.all false
set_option maxRecDepth 100000
/-! PuS2: a written dict of constants that is read at once. -/
namespace Pu
open PySem L2 PySem.Spec PyProof.Rows PySem.W PuT
/-- pairs of constants and what they mean -/
inductive TabV (K : Fr) : List (Str × V) → List (List Nat × D) → Prop
  | nil : TabV K [] []
  | cons {x : Str} {v : V} {kvs : List (Str × V)} {s : List Nat} {d : D} {ts : List (List Nat × D)} : x.cps.toList = s → Cst K v d → TabV K kvs ts → TabV K ((x, v) :: kvs) ((s, d) :: ts)
structure DC (X : Cx) (pos : Pos) (keys : List (Option Expr)) (values : List Expr) (tab : List (List Nat × D)) : Prop where
  ex : ∃ kvs : List (Str × V), PPs X pos keys values (kvs.map fun q => (tC (.str q.1), tC q.2)) ∧ TabV X.K kvs tab
theorem dc_nil {X : Cx} {pos : Pos} : DC X pos [] [] [] := ⟨[], pps_nil, .nil⟩
theorem dc_cons {X : Cx} {pos p : Pos} {j} {x : Str} {s : List Nat} {e : Expr} {v : V} {d : D} {keys : List (Option Expr)} {values : List Expr} {tab : List (List Nat × D)} (hx : x.cps.toList = s) (he : PE X e (tC v)) (hd : Cst X.K v d) (r : DC X pos keys values tab) :
    DC X pos (some (.Constant (.str x) j p) :: keys) (e :: values) ((s, d) :: tab) := by
  obtain ⟨kvs, h1, h2⟩ := r
  exact ⟨(x, v) :: kvs, pps_cons pe_str he h1, .cons hx hd h2⟩
theorem tp_const {σ : L2.St} : ∀ (kvs : List (Str × V)) {H : Hp} {Q : List (V × V) → Hp → Prop}, Q (kvs.map fun q => (V.str q.1, q.2)) H → tPairs (kvs.map fun q => (tC (.str q.1), tC q.2)) σ H Q
  | [], _, _, h => h
  | q :: kvs, H, Q, h => tp_const kvs (Q := fun ps H3 => Q ((V.str q.1, q.2) :: ps) H3) h
def ndT : List (List Nat × D) → Bool
  | [] => true
  | (s, _) :: r => (r.all fun q => !seqB q.1 s) && ndT r
theorem look_no {s : List Nat} : ∀ {tab : List (List Nat × D)}, (tab.all fun q => !seqB q.1 s) = true → lookT tab s = none
  | [], _ => rfl
  | (k, d) :: r, h => by
    rw [List.all_cons, Bool.and_eq_true, Bool.not_eq_true'] at h
    unfold lookT
    rw [h.1]
    exact look_no h.2
theorem merge_look {K : Fr} {z : Str} : ∀ {kvs : List (Str × V)} {tab : List (List Nat × D)} {acc : List (Key × V)}, TabV K kvs tab → ndT tab = true →
    (lookT tab z.cps.toList = none ∧ valV (mergeK acc (kvs.map fun q => (Sum.inr q.1, q.2))) (Sum.inr z) = valV acc (Sum.inr z)) ∨ ∃ (d : D) (v : V), lookT tab z.cps.toList = some d ∧ valV (mergeK acc (kvs.map fun q => (Sum.inr q.1, q.2))) (Sum.inr z) = some v ∧ Cst K v d
  | _, _, acc, .nil, _ => .inl ⟨rfl, rfl⟩
  | _, _, acc, .cons (x := x) (v := v) (kvs := kvs) (s := s) (d := d) (ts := ts) hx hd r, nd => by
    unfold ndT at nd
    rw [Bool.and_eq_true] at nd
    have e1 : mergeK acc (((x, v) :: kvs).map fun q => ((Sum.inr q.1 : Key), q.2)) = mergeK (putK acc (Sum.inr x) v) (kvs.map fun q => (Sum.inr q.1, q.2)) := rfl
    rw [e1]
    have ih := merge_look (z := z) (acc := putK acc (Sum.inr x) v) r nd.2
    rw [valV_put] at ih
    unfold lookT
    cases hs : seqB s z.cps.toList with
    | true =>
      have ez : s = z.cps.toList := seqB_iff.mp hs
      have exz : (Sum.inr z : Key) = Sum.inr x := by
        obtain ⟨⟨l⟩⟩ := z
        obtain ⟨⟨l2⟩⟩ := x
        have h1 : l2 = s := hx
        have h2 : s = l := ez
        rw [h1, h2]
      have no : lookT ts z.cps.toList = none := look_no (ez ▸ nd.1)
      rw [if_pos exz] at ih
      rcases ih with ⟨h1, h2⟩ | ⟨d', v', h1, h2, h3⟩
      · exact .inr ⟨d, v, rfl, h2, hd⟩
      · rw [no] at h1
        cases h1
    | false =>
      have exz : ¬ (Sum.inr z : Key) = Sum.inr x := fun e => by
        injection e with e
        subst e
        have : seqB s z.cps.toList = true := seqB_iff.mpr hx.symm
        rw [hs] at this
        cases this
      rw [if_neg exz] at ih
      exact ih
section
variable {X : Cx} {b : Expr} {fb : EvE} {pos dpos : Pos} {keys : List (Option Expr)} {values : List Expr} {tab : List (List Nat × D)}
theorem TabV.len {K : Fr} : ∀ {kvs : List (Str × V)} {tab : List (List Nat × D)}, TabV K kvs tab → kvs.length = tab.length
  | _, _, .nil => rfl
  | _, _, .cons _ _ r => congrArg Nat.succ r.len
/-- {k: v, ..}[b] -/
theorem se_dispIx (hu : X.A.units + 1 < cLine) (c : DC X dpos keys values tab) (nd : ndT tab = true) (ht : tab.length ≤ 15) (hb : SE X b fb) (hall : keys.all (·.isSome) = true := by rfl) (hl : keys.length = values.length := by rfl) (h0 : keys ≠ [] := by exact fun z => by cases z)
    (h15 : keys.length ≤ 15 := by decide) (hs : NoSl b := by exact fun _ _ => rfl) : SE X (.Subscript (.Dict keys values dpos) b pos) (ev1 fb (ixT tab)) := by
  obtain ⟨kvs, pps, tv⟩ := c
  constructor
  intro F Mo al g r g' σ H Q ef R0 q
  unfold ev1 at ef
  split at ef
  · cases ef
  · rename_i a1 g1 ea
    split at ef
    · cases ef
    · rename_i d ed
      split at ef
      · cases ef
      · rename_i r1 eo
        cases ef
        unfold ixT at eo
        split at eo
        · rename_i s
          refine to_w (pe_dget hu (pe_disp pps hall hl h0 h15) pe_w hs) ?_
          intro p hp
          refine tp_const kvs ?_
          refine ⟨upd_same, kvs.map fun q => (Sum.inr q.1, q.2), by rw [List.map_map]; rfl, by rw [List.length_map, tv.len]; exact ht, ?_⟩
          have sm : Same H (upd (upd H p (.dK [])) p (.dK (mergeK [] (kvs.map fun q => (Sum.inr q.1, q.2))))) := fun a o e => by
            have n := ne_of_none e hp
            rw [upd_ne n, upd_ne n]
            exact e
          refine hb.op ea (R0.same sm) fun v H2 su k R1 ov => ?_
          obtain ⟨z, rfl, ez⟩ := (ov.pk R1 ed).str
          have hp2 : H2 p = some (.dK (mergeK [] (kvs.map fun q => (Sum.inr q.1, q.2)))) := k.st p _ (fun o => R0.trk (.inr o) hp) upd_same
          rcases merge_look (z := z) (acc := []) tv nd with ⟨h1, _⟩ | ⟨d', v', h1, h2, h3⟩
          · rw [← ez, h1] at eo
            cases eo
          · rw [← ez, h1] at eo
            cases eo
            refine ⟨p, v', rfl, .inl ⟨_, Sum.inr z, .inl hp2, rfl, h2.symm⟩, ?_⟩
            exact q v' H2 su (NewV.res R1 (fun a h => k.gr a ((Kp.same (S := fun _ => False) sm).gr a h)) (NewV.flat h3.is))
        · cases eo
end
end Pu
end

section
set_option Elab.async false
set_option linter.all false
set_option maxRecDepth 100000
/-! PuU: is not True; >, <=, >= of any data that are alike. -/
namespace Pu
open PySem L2 PySem.Spec PyProof.Rows PySem.W PuT
theorem lt1 {n c : Nat} (h : n + 65 < c) : n + 1 < c := by omega
def notBlD : D → D → Option R
  | .bl a, .bl b => some (.im (.bl (!decide (a = b))))
  | _, _ => none
def notNon : PyData → Bool
  | .none => false
  | _ => true
def cmpOk (d1 d2 : D) : Bool := alike (toP d1) (toP d2) && notNon (toP d1) && decide ((toP d1).depth ≤ 60)
def gtX : D → D → Option R
  | .int i, .int j => some (.im (.bl (decide (j < i))))
  | d1, d2 => if cmpOk d1 d2 then some (.im (.bl (dataLt (toP d2) (toP d1)))) else none
def ltX : D → D → Option R
  | .int i, .int j => some (.im (.bl (decide (i < j))))
  | d1, d2 => if cmpOk d1 d2 then some (.im (.bl (dataLt (toP d1) (toP d2)))) else none
def leX : D → D → Option R
  | .int i, .int j => some (.im (.bl (decide (i ≤ j))))
  | d1, d2 => if cmpOk d1 d2 then some (.im (.bl (!dataLt (toP d2) (toP d1)))) else none
def geX : D → D → Option R
  | .int i, .int j => some (.im (.bl (decide (j ≤ i))))
  | d1, d2 => if cmpOk d1 d2 then some (.im (.bl (!dataLt (toP d1) (toP d2)))) else none
section
variable {X : Cx}
theorem notBl_ok : OpOk X (compareOp .IsNot) notBlD := by
  intro d1 d2 r h
  unfold notBlD at h
  split at h
  · cases h
    exact ⟨_, op_isnot_bl, fun M H x y Q tr hx hy q => ⟨_, _, hx.bl, hy.bl, q _ _ (.flat (.bl _))⟩⟩
  · cases h
def rDat (K : PySem.W.Frag) (f : PyData → PyData → Bool) : R2 := fun x y H Q => ∃ da db, Dp K H x da ∧ Dp K H y db ∧ alike da db = true ∧ da ≠ .none ∧ da.depth ≤ 60 ∧ Q (.bl (f da db)) H
theorem op_dat {o : CmpOp} {f : PyData → PyData → Bool} (hu : X.A.units + 64 < cLine)
    (rule : ∀ {s : Shared} {a b : Value} {da db : PyData} {as bs : List Addr} {Q : Value → Shared → Prop}, Reads s.heap a da as → Reads s.heap b db bs → alike da db = true → da ≠ .none → X.A.units + min da.depth db.depth < cLine → Q (.bool (f da db)) s → wpAny (model X.prog X.w) X.A (compareOp o a b) Q X.xe s) :
    OpR X (compareOp o) (rDat X.K f) := by
  intro pins s σ H x y v u Q I rx ry h
  obtain ⟨da, db, h1, h2, al, nn, dep, q⟩ := h
  obtain ⟨as, r1⟩ := Dp.reads I _ _ v h1 rx
  obtain ⟨bs, r2⟩ := Dp.reads I _ _ u h2 ry
  exact rule r1 r2 al nn (by omega) ⟨.bl (f da db), H, I, rfl, q⟩
theorem dat_sound {K : Fr} {f : PyData → PyData → Bool} {d1 d2 : D} (ok : cmpOk d1 d2 = true) : Sound2 K (rDat K f) d1 d2 (.im (.bl (f (toP d1) (toP d2)))) := fun M H x y Q tr hx hy q => by
  unfold cmpOk at ok
  rw [Bool.and_eq_true, Bool.and_eq_true, decide_eq_true_eq] at ok
  exact ⟨_, _, hx.dp, hy.dp, ok.1.1, (fun e => by have := ok.1.2; rw [e] at this; cases this), ok.2, q _ _ (.flat (.bl _))⟩
theorem gtX_ok (hu : X.A.units + 64 < cLine) : OpOk X (compareOp .Gt) gtX := by
  intro d1 d2 r h
  unfold gtX at h
  split at h
  · cases h
    exact ⟨_, op_gt, fun M H x y Q tr hx hy q => ⟨_, _, hx.int, hy.int, q _ _ (.flat (.bl _))⟩⟩
  · split at h
    · rename_i ok
      cases h
      exact ⟨_, op_dat (f := fun a b => dataLt b a) hu fun r1 r2 al nn hd q => gt_data r1 r2 al nn hd q, dat_sound ok⟩
    · cases h
theorem ltX_ok (hu : X.A.units + 64 < cLine) : OpOk X (compareOp .Lt) ltX := by
  intro d1 d2 r h
  unfold ltX at h
  split at h
  · cases h
    exact ⟨_, op_lt, fun M H x y Q tr hx hy q => ⟨_, _, hx.int, hy.int, q _ _ (.flat (.bl _))⟩⟩
  · split at h
    · rename_i ok
      cases h
      exact ⟨_, op_dat (f := fun a b => dataLt a b) hu fun r1 r2 al nn hd q => lt_data r1 r2 al nn hd q, dat_sound ok⟩
    · cases h
theorem leX_ok (hu : X.A.units + 64 < cLine) : OpOk X (compareOp .LtE) leX := by
  intro d1 d2 r h
  unfold leX at h
  split at h
  · cases h
    exact ⟨_, op_le, fun M H x y Q tr hx hy q => ⟨_, _, hx.int, hy.int, q _ _ (.flat (.bl _))⟩⟩
  · split at h
    · rename_i ok
      cases h
      exact ⟨_, op_dat (f := fun a b => !dataLt b a) hu fun r1 r2 al nn hd q => le_data r1 r2 al nn hd q, dat_sound ok⟩
    · cases h
theorem geX_ok (hu : X.A.units + 64 < cLine) : OpOk X (compareOp .GtE) geX := by
  intro d1 d2 r h
  unfold geX at h
  split at h
  · cases h
    exact ⟨_, op_ge, fun M H x y Q tr hx hy q => ⟨_, _, hx.int, hy.int, q _ _ (.flat (.bl _))⟩⟩
  · split at h
    · rename_i ok
      cases h
      exact ⟨_, op_dat (f := fun a b => !dataLt a b) hu fun r1 r2 al nn hd q => ge_data r1 r2 al nn hd q, dat_sound ok⟩
    · cases h
end
@[simp] theorem gtX_int (a b : Int) : gtX (.int a) (.int b) = some (.im (.bl (decide (b < a)))) := rfl
@[simp] theorem ltX_int (a b : Int) : ltX (.int a) (.int b) = some (.im (.bl (decide (a < b)))) := rfl
@[simp] theorem leX_int (a b : Int) : leX (.int a) (.int b) = some (.im (.bl (decide (a ≤ b)))) := rfl
@[simp] theorem geX_int (a b : Int) : geX (.int a) (.int b) = some (.im (.bl (decide (b ≤ a)))) := rfl
section
variable {X : Cx} {a b : Expr} {fa : EvE} {pos p : Pos} {x : Str} {tab : List (List Nat × D)}
theorem st_inT (h : GTab X.mg X.K X.w x tab) (hg : Gl X x) (ha : SE X a fa) (hd : (x == ("__debug__" : Str)) = false := by decide) : ST X (.Compare a [.In] [.Name x p] pos) (evB (ev1 fa (inT tab))) := by
  obtain ⟨d, es, n, hm, D, T⟩ := h
  refine st_one ha fun d' r hr => ?_
  unfold inT at hr
  split at hr
  · rename_i s
    cases hr
    refine ⟨fun y H Q => _, pt_cmpR (op_in_kd D) pe_w (pe_glob (v := .ref d) hg hm rfl hd) (by first | exact nomark _ | rfl), fun M H y Q tr hy q => ?_⟩
    obtain ⟨z, rfl, ez⟩ := hy.str
    rcases tab_ns (z := z) D T with ⟨h1, h2⟩ | ⟨u, d2, v, h1, h2, _, _⟩
    · refine ⟨z, none, rfl, rfl, h2, ?_⟩
      rw [ez] at h1
      rw [h1] at q
      exact q _ _ (.flat (.bl false))
    · refine ⟨z, some u, rfl, rfl, h2, ?_⟩
      rw [ez] at h1
      rw [h1] at q
      exact q _ _ (.flat (.bl true))
  · cases hr
theorem st_notInT (h : GTab X.mg X.K X.w x tab) (hg : Gl X x) (ha : SE X a fa) (hd : (x == ("__debug__" : Str)) = false := by decide) : ST X (.Compare a [.NotIn] [.Name x p] pos) (evB (ev1 fa (notInT tab))) := by
  obtain ⟨d, es, n, hm, D, T⟩ := h
  refine st_one ha fun d' r hr => ?_
  unfold notInT at hr
  split at hr
  · rename_i s
    cases hr
    refine ⟨fun y H Q => _, pt_cmpR (op_notIn_kd D) pe_w (pe_glob (v := .ref d) hg hm rfl hd) (by first | exact nomark _ | rfl), fun M H y Q tr hy q => ?_⟩
    obtain ⟨z, rfl, ez⟩ := hy.str
    rcases tab_ns (z := z) D T with ⟨h1, h2⟩ | ⟨u, d2, v, h1, h2, _, _⟩
    · refine ⟨z, none, rfl, rfl, h2, ?_⟩
      rw [ez] at h1
      rw [h1] at q
      exact q _ _ (.flat (.bl true))
    · refine ⟨z, some u, rfl, rfl, h2, ?_⟩
      rw [ez] at h1
      rw [h1] at q
      exact q _ _ (.flat (.bl false))
  · cases hr
theorem st_notN {j pos'} (ha : SE X a fa) : ST X (.Compare a [.IsNot] [.Constant .none j pos'] pos) (evB (ev1 fa notND)) := by
  refine st_one ha fun d r h => ⟨fun x H Q => Q (.bl (!decide (x = .non))) H, pt_cmp (pc_notN pe_w), fun M H x Q tr hx q => ?_⟩
  have h' : ∃ r', isNonD d = some r' := by unfold isNonD; split <;> exact ⟨_, rfl⟩
  obtain ⟨r', e⟩ := h'
  have := pk_non_dec e hx
  have e2 : r = .im (.bl (!decide (x = .non))) := by
    subst this
    unfold notND at h
    unfold isNonD at e
    split at h <;> simp_all
  subst e2
  exact q _ _ (.flat (.bl _))
end
theorem toP_vec (l : List Int) : toP (vec l) = .tuple (l.map PyData.int) := by
  unfold vec toP
  congr 1
  induction l with
  | nil => rfl
  | cons x l ih =>
    rw [List.map_cons, List.map_cons]
    unfold toPs
    rw [ih]
    rfl
theorem dataLt_vec (a b : List Int) : dataLt (toP (vec a)) (toP (vec b)) = HT.lexLt a b := by
  have := ltK_kv a b
  unfold ltK at this
  rw [kv_data, kv_data] at this
  rw [toP_vec, toP_vec, this]
theorem cmpOk_vec (a b : List Int) : cmpOk (vec a) (vec b) = true := by
  have d : ∀ l : List Int, PyData.depthAll (l.map PyData.int) = 0 := fun l => by
    induction l with
    | nil => rfl
    | cons x l ih =>
      rw [List.map_cons]
      unfold PyData.depthAll
      rw [ih]
      rfl
  unfold cmpOk
  rw [toP_vec, toP_vec, ← kv_data, ← kv_data, alike_kv, kv_data]
  unfold notNon PyData.depth
  rw [d]
  rfl
theorem gtX_vec (a b : List Int) : gtX (vec a) (vec b) = some (.im (.bl (HT.lexLt b a))) := by
  have : gtX (vec a) (vec b) = if cmpOk (vec a) (vec b) then some (R.im (.bl (dataLt (toP (vec b)) (toP (vec a))))) else none := rfl
  rw [this, cmpOk_vec, dataLt_vec]
  rfl
end Pu
end

section
set_option Elab.async false
set_option linter.all false
set_option maxRecDepth 100000
/-! PuV: a text turned round; cup and roll with the comparisons of PuU. -/
namespace Pu
open PySem L2 PySem.Spec PyProof.Rows
theorem rel_non : RelV .non .none := rfl
theorem rel_bl (b : Bool) : RelV (.bl b) (.bool b) := rfl
theorem rel_int (i : Int) (t : Tok) : RelV (.int i) (.int i t) := ⟨t, rfl⟩
theorem rel_str (x : Str) (t : Tok) : RelV (.str x) (.str x t) := ⟨t, rfl⟩
theorem rel_ref (a : Addr) : RelV (.ref a) (.ref a) := rfl
theorem vs_nil : Vals [] [] := .nil
theorem vs_cons {v : V} {u : Value} {vs : List V} {us : List Value} (h : RelV v u) (r : Vals vs us) : Vals (v :: vs) (u :: us) := .cons h r
theorem back_indices (n : Nat) : Builtin.Str.strSliceIndices none none (-1) n = (List.range n).reverse := by
  show sliceRange ((n : Int) - 1) (-1) (-1) = _
  unfold sliceRange
  have e : (if (n : Int) - 1 > -1 then (((n : Int) - 1) - -1 - -1 - 1) / (- -1) else 0) = (n : Int) := by
    split
    · rw [show (- -1 : Int) = 1 from rfl, Int.ediv_one]
      omega
    · omega
  rw [if_neg (by decide), e]
  refine Eq.trans (List.map_congr_left fun k hk => ?_) (PySem.W.krv_range n)
  have := List.mem_range.mp hk
  omega
theorem back_cps (z : Str) : (((List.range z.length).reverse).filterMap (z.cps[·]?)) = z.cps.toList.reverse := by
  rw [List.filterMap_reverse]
  exact congrArg List.reverse (PySem.W.krv_all z.cps)
/-- s[::-1] -/
def rBackS : R1 := fun x H Q => ∃ z : Str, x = .str z ∧ z.length ≤ sizeLine ∧ Q (.str ⟨z.cps.toList.reverse.toArray⟩) H
section
variable {X : Cx} {a : Expr} {fa : EvE} {pos : Pos}
theorem pe_backS {k : Nat} {p1 p2 p3 : Pos} {te : TE} (he : PE X a te) : PE X (.Subscript a (.Slice none none (some (.UnaryOp .USub (.Constant (.int 1) k p1) p2)) p3) pos) (fun σ H Q => te σ H fun x H1 => rBackS x H1 Q) := by
  constructor
  intro pins s σ H Q I h
  refine Subscript_ (thn (he.run pins s σ H _ I h) ?_)
  rintro v s1 ⟨_, H1, I1, r1, z, rfl, hz, q⟩
  obtain ⟨t, rfl⟩ := r1
  have st : PO X (some (.UnaryOp .USub (.Constant (.int 1) k p1) p2)) (tPart (tUn (rU fun i => .int (-i)) (tC (.int 1)))) := po_some (pe_un un_neg pe_int)
  refine wpAny_Slice (thn (po_none.run pins s1 σ H1 (fun o H2 => o = none ∧ H2 = H1) I1 ⟨rfl, rfl⟩) ?_)
  rintro vl s2 ⟨_, _, I2, pl, rfl, rfl⟩
  refine thn (po_none.run pins s2 σ _ (fun o H2 => o = none ∧ H2 = _) I2 ⟨rfl, rfl⟩) ?_
  rintro vu s3 ⟨_, _, I3, pu, rfl, rfl⟩
  refine thn (st.run pins s3 σ _ (fun o H2 => o = some (-1) ∧ H2 = _) I3 ⟨1, rfl, -1, rfl, rfl, rfl⟩) ?_
  rintro vk s4 ⟨_, _, I4, pk, rfl, rfl⟩
  have I5 := I4.kept (t' := s4.toks) (h' := s4.heap.push { cls := .type "slice", data := .fields #[vl, vu, vk] }) fun b ob q => Heap.get?_push_of_some _ q
  obtain ⟨l, rfl, el⟩ := IsPart.raw pl
  obtain ⟨u, rfl, eu⟩ := IsPart.raw pu
  obtain ⟨w, rfl, ew⟩ := IsPart.raw pk
  show wpAny (model X.prog X.w) X.A (subscriptTail a (.Slice none none (some (.UnaryOp .USub (.Constant (.int 1) k p1) p2)) p3) (.str z t) (.ref s4.heap.objs.size)) (EP X pins σ Q) X.xe { s4 with heap := s4.heap.push { cls := .type "slice", data := .fields #[partValue l, partValue u, partValue w] } }
  have pick : slicePicked z l u w = (List.range z.length).reverse := by
    unfold slicePicked
    rw [el, eu, ew]
    exact back_indices z.length
  refine tail_any (ops := [.str z t, .ref s4.heap.objs.size]) (typeIs_str _ _ _) F.slot_str_getitem.lookup (wpAny_getItem_str_slice (l := l) (u := u) (st := w) ⟨_, Heap.get?_push_size _ rfl, rfl, rfl⟩ (by rw [ew]; rfl) ?_) (by with_unfolding_all rfl)
  unfold sliceMade
  rw [pick, ew, back_cps]
  rw [if_neg (by intro h; exact absurd (Bool.and_eq_true_iff.mp h).1 (by decide))]
  exact ⟨by
    show z.cps.toList.reverse.toArray.size ≤ sizeLine
    rw [List.size_toArray, List.length_reverse, Array.length_toList]
    exact hz, .str _, _, I5.tok _, ⟨_, rfl⟩, q⟩
def revX : D → Option R
  | .str s => if s.length ≤ sizeLine then some (.im (.str s.reverse)) else none
  | d => revD d
theorem se_revX {k : Nat} {p1 p2 p3 : Pos} (ha : SE X a fa) : SE X (.Subscript a (.Slice none none (some (.UnaryOp .USub (.Constant (.int 1) k p1) p2)) p3) pos) (ev1 fa revX) := by
  refine se_one_or ha (fun d r h => ?_) (se_rev ha)
  unfold revX at h
  split at h
  · split at h
    · rename_i hz
      cases h
      refine .inl ⟨_, pe_backS pe_w, fun M H x Q tr hx q => ?_⟩
      obtain ⟨z, rfl, ez⟩ := hx.str
      refine ⟨z, rfl, by rw [str_len ez]; exact hz, q _ _ (.flat ?_)⟩
      rw [ez]
      exact is_str _ rfl
    · cases h
  · exact .inr h
end
def cupX (k1 k2 k3 m k4 : Int) : EvS :=
  (evSeq (evSet 1 (ev1 (ev2 (ev2 (ev1 (evName 0) listSD) (evLst (evCons (evC (.int 0)) evNil)) addD) (evC (.int 0)) idxD) absD))
  (evRet (evLst (evCons (evIf (evB (ev2 (evName 1) (ev2 (evC (.int 10)) (evC (.int 18)) powD) geX)) (ev2 (evName 1) (evC (.int k1)) divD) (evC (.int 0))) (evCons (ev2 (ev2 (ev1 (ev2 (ev2 (evName 1) (evC (.int k2)) mulD) (evC (.int k3)) addD) intD) (evC (.int m)) modD) (evC (.int k4)) addD) evNil)))))
theorem cupX_run {k1 k2 k3 m k4 : Int} (h : 0 < k1 ∧ k1 < 1073741824 ∧ 0 ≤ k2 ∧ k2 < 2 ^ 40 ∧ 0 < m ∧ m < 2 ^ 40 ∧ 0 ≤ k4 ∧ k4 < 2 ^ 40) (ns : List Int) (hn : ns.length ≤ 63) :
    ∃ c, runF (cupX k1 k2 k3 m k4) 1 2 [.fz (ns.map D.int)] = some (.fr c) ∧ cupOk c := by
  obtain ⟨h1, h2, h3, h4, h5, h6, h7, h8⟩ := h
  have hx : ∃ x : Int, idxD (.lst (ns.map D.int ++ [.int 0])) (.int 0) = some (.im (.int x)) := by
    cases ns with
    | nil => exact ⟨0, by simp [idxD, atI_zero]⟩
    | cons x ns => exact ⟨x, by simp [idxD, atI_zero]⟩
  obtain ⟨x, hx⟩ := hx
  have ha : addD (.lst (ns.map D.int)) (.lst [.int 0]) = some (.fr (.lst (ns.map D.int ++ [.int 0]))) := by
    simp only [addD, sz_eq]
    rw [if_pos (by simp; omega)]
  have habs : ∃ y : Int, 0 ≤ y ∧ absD (.int x) = some (.im (.int y)) := ⟨_, by split <;> omega, rfl⟩
  obtain ⟨y, hy0, habs⟩ := habs
  have hm : mulD (.int y) (.int k2) = some (.im (.int (y * k2))) := by
    simp only [mulD]
    rw [if_pos (by simp [mulOk]; omega)]
  have hd : ∀ z : Int, divD (.int z) (.int k1) = some (.im (.int (z / k1))) := fun z => by
    simp only [divD]
    rw [if_pos ⟨h1, h2⟩]
  have hmo : ∀ z : Int, modD (.int z) (.int m) = some (.im (.int (z % m))) := fun z => by
    simp only [modD]
    rw [if_pos h5]
  have hp : powD (.int 10) (.int 18) = some (.im (.int 1000000000000000000)) := by
    simp only [powD]
    rw [if_pos (by decide)]
    rfl
  refine ⟨.lst [.int (if 1000000000000000000 ≤ y then y / k1 else 0), .int ((y * k2 + k3) % m + k4)], ?_, _, _, rfl, ?_, ?_, ?_⟩
  · by_cases hc : (1000000000000000000 : Int) ≤ y
    · simp [runF, evRet, evSeq, evIfS, evNext, evSet, evAnd, evOr, evNot, evNotV, evB, evOrB, evAndB, evIf, evCall, evCons, evNil, toD, toO, evName, evC, ev1, ev2, evCh, Pu.settle, R.opd, Opd.look, Slot.look, Ow.d, evLst, cupX, ha, hx, habs, hm, hd, hmo, hp, hc]
    · simp [runF, evRet, evSeq, evIfS, evNext, evSet, evAnd, evOr, evNot, evNotV, evB, evOrB, evAndB, evIf, evCall, evCons, evNil, toD, toO, evName, evC, ev1, ev2, evCh, Pu.settle, R.opd, Opd.look, Slot.look, Ow.d, evLst, cupX, ha, hx, habs, hm, hd, hmo, hp, hc]
  · split
    · exact Int.ediv_nonneg hy0 (by omega)
    · exact Int.le_refl 0
  · have := Int.emod_nonneg (y * k2 + k3) (show m ≠ 0 by omega)
    omega
  · have := Int.emod_lt_of_pos (y * k2 + k3) h5
    omega
def rollX (k1 k2 m1 k3 m2 k4 : Int) : EvS :=
  (evSeq (evIfS (evB (ev2 (ev2 (evName 0) (evC (.int 0)) idxD) (evC (.int 0)) gtX)) (evSeq (evSet 2 (ev2 (ev1 (ev2 (evName 0) (evC (.int 0)) idxD) intD) (evName 1) modD))
  (evSeq (evSto 0 (evC (.int 0)) (ev2 (ev2 (evName 0) (evC (.int 0)) idxD) (evName 1) divD))
  (evRet (evName 2)))) evNext)
  (evSeq (evSto 0 (evC (.int 1)) (ev2 (ev1 (ev2 (ev2 (ev2 (evName 0) (evC (.int 1)) idxD) (evC (.int k1)) mulD) (evC (.int k2)) addD) intD) (evC (.int m1)) modD))
  (evSeq (evSet 3 (ev2 (ev1 (ev2 (ev2 (evName 0) (evC (.int 1)) idxD) (ev2 (ev2 (evName 0) (evC (.int 1)) idxD) (evC (.int k3)) addD) mulD) intD) (evC (.int m2)) modD))
  (evRet (ev2 (ev1 (ev2 (evName 3) (evC (.int k4)) divD) intD) (evName 1) modD)))))
theorem rollX_run {k1 k2 m1 k3 m2 k4 : Int} (h : 0 ≤ k1 ∧ k1 < 2 ^ 40 ∧ 0 < m1 ∧ m1 < 2 ^ 62 ∧ 0 < m2 ∧ 0 < k4 ∧ k4 < 1073741824) {c : Ow} (hc : cupOk c) {n : Int} (h0 : 0 < n) (h1 : n < 1073741824) :
    ∃ (v : Int) (c' : Ow), runC (rollX k1 k2 m1 k3 m2 k4) 1 4 c [.int n] = some (.im (.int v), c') ∧ 0 ≤ v ∧ v < n ∧ cupOk c' := by
  obtain ⟨a1, a2, a3, a4, a5, a6, a7⟩ := h
  obtain ⟨a, b, rfl, ha, hb, hb2⟩ := hc
  have i0 : ∀ a b : Int, idxD (.lst [.int a, .int b]) (.int 0) = some (.im (.int a)) := fun _ _ => rfl
  have i1 : ∀ a b : Int, idxD (.lst [.int a, .int b]) (.int 1) = some (.im (.int b)) := fun _ _ => rfl
  have x0 : ixN 2 0 = some 0 := rfl
  have x1 : ixN 2 1 = some 1 := rfl
  by_cases hp : 0 < a
  · refine ⟨a % n, .lst [.int (a / n), .int b], ?_, Int.emod_nonneg _ (by omega), Int.emod_lt_of_pos _ h0, _, _, rfl, Int.ediv_nonneg ha (by omega), hb, hb2⟩
    simp [runC, slotAt, evSto, runF, evRet, evSeq, evIfS, evNext, evSet, evAnd, evOr, evNot, evNotV, evB, evOrB, evAndB, evIf, evCall, evCons, evNil, toD, toO, evName, evC, ev1, ev2, evCh, Pu.settle, R.opd, Opd.look, Slot.look, Ow.d, rollX, i0, i1, x0, x1, hp, modD, divD, h0, h1]
  · have hm : ∀ z : Int, modD (.int z) (.int m1) = some (.im (.int (z % m1))) := fun z => by simp only [modD]; rw [if_pos a3]
    have hm2 : ∀ z : Int, modD (.int z) (.int m2) = some (.im (.int (z % m2))) := fun z => by simp only [modD]; rw [if_pos a5]
    have hmn : ∀ z : Int, modD (.int z) (.int n) = some (.im (.int (z % n))) := fun z => by simp only [modD]; rw [if_pos h0]
    have hd : ∀ z : Int, divD (.int z) (.int k4) = some (.im (.int (z / k4))) := fun z => by simp only [divD]; rw [if_pos ⟨a6, a7⟩]
    have e1 : mulD (.int b) (.int k1) = some (.im (.int (b * k1))) := by
      simp only [mulD]
      rw [if_pos (by simp [mulOk]; omega)]
    have b1 := Int.emod_nonneg (b * k1 + k2) (show m1 ≠ 0 by omega)
    have b2 := Int.emod_lt_of_pos (b * k1 + k2) a3
    generalize hB : (b * k1 + k2) % m1 = B at b1 b2
    have e2 : mulD (.int B) (.int (B + k3)) = some (.im (.int (B * (B + k3)))) := by
      simp only [mulD]
      rw [if_pos (by simp [mulOk]; omega)]
    refine ⟨B * (B + k3) % m2 / k4 % n, .lst [.int a, .int B], ?_, Int.emod_nonneg _ (by omega), Int.emod_lt_of_pos _ h0, _, _, rfl, ha, b1, by omega⟩
    simp [runC, slotAt, evSto, runF, evRet, evSeq, evIfS, evNext, evSet, evAnd, evOr, evNot, evNotV, evB, evOrB, evAndB, evIf, evCall, evCons, evNil, toD, toO, evName, evC, ev1, ev2, evCh, Pu.settle, R.opd, Opd.look, Slot.look, Ow.d, rollX, i0, i1, x0, x1, hp, e1, hm, hB, e2, hm2, hmn, hd]
end Pu
end

section
set_option Elab.async false
set_option linter.all false
set_option maxRecDepth 100000
/-! PuW: in, not in, of a tuple. -/
namespace Pu
open PySem L2 PySem.Spec PyProof.Rows
def inX (d e : D) : Option R := match e with
  | .tup ys => if okP d && okP (.tup ys) then some (.im (.bl (ys.any fun z => eqB z d))) else none
  | _ => inD d e
def notInX (d e : D) : Option R := match e with
  | .tup ys => if okP d && okP (.tup ys) then some (.im (.bl (!ys.any fun z => eqB z d))) else none
  | _ => notInD d e
section
variable {X : Cx}
def rInTup (K : PySem.W.Frag) (b : Bool) : R2 := fun x y H Q => ∃ d ds, Dp K H x d ∧ Dp K H y (.tuple ds) ∧ SeqAt.shaped d = true ∧ SeqAt.shaped (.tuple ds) = true ∧ Q (.bl (b ^^ ds.any fun z => PyData.eqv z d)) H
theorem op_inTup (hu : X.A.units + 65 < cLine) : OpR X (compareOp .In) (rInTup X.K false) := by
  intro pins s σ H x y v u Q I rx ry ⟨d, ds, hd, he, sd, se, q⟩
  obtain ⟨as, r1⟩ := Dp.reads I d x v hd rx
  obtain ⟨bs, r2⟩ := Dp.reads I (.tuple ds) y u he ry
  rw [Bool.false_xor] at q
  exact SeqAt.in_tuple_reads r2 r1 (SeqAt.canLay_of_shaped se) (SeqAt.canLay_of_shaped sd) (room_in_shaped sd hu) ⟨.bl _, H, I, rfl, q⟩
theorem op_notInTup (hu : X.A.units + 65 < cLine) : OpR X (compareOp .NotIn) (rInTup X.K true) := by
  intro pins s σ H x y v u Q I rx ry ⟨d, ds, hd, he, sd, se, q⟩
  obtain ⟨as, r1⟩ := Dp.reads I d x v hd rx
  obtain ⟨bs, r2⟩ := Dp.reads I (.tuple ds) y u he ry
  rw [Bool.true_xor] at q
  exact SeqAt.notIn_tuple_reads r2 r1 (SeqAt.canLay_of_shaped se) (SeqAt.canLay_of_shaped sd) (room_in_shaped sd hu) ⟨.bl _, H, I, rfl, q⟩
theorem inTup_sound {K : Fr} {b : Bool} {d : D} {ys : List D} (z : (okP d && okP (.tup ys)) = true) : Sound2 K (rInTup K b) d (.tup ys) (.im (.bl (b ^^ ys.any fun z => eqB z d))) := fun M H x y Q tr hx hy q => by
  have z := Bool.and_eq_true_iff.mp z
  have hy' := hy.dp
  have z2 := z.2
  unfold okP at z2
  unfold toP at hy' z2
  refine ⟨_, _, hx.dp, hy', z.1, z2, ?_⟩
  rw [toPs_any]
  exact q _ _ (.flat (.bl _))
theorem inX_ok (hu : X.A.units + 65 < cLine) : OpOk X (compareOp .In) inX := by
  intro d1 d2 r h
  unfold inX at h
  split at h
  · split at h
    · rename_i z
      cases h
      have := inTup_sound (K := X.K) (b := false) z
      rw [Bool.false_xor] at this
      exact ⟨_, op_inTup hu, this⟩
    · cases h
  · exact in_ok hu _ _ _ h
theorem notInX_ok (hu : X.A.units + 65 < cLine) : OpOk X (compareOp .NotIn) notInX := by
  intro d1 d2 r h
  unfold notInX at h
  split at h
  · split at h
    · rename_i z
      cases h
      have := inTup_sound (K := X.K) (b := true) z
      rw [Bool.true_xor] at this
      exact ⟨_, op_notInTup hu, this⟩
    · cases h
  · exact notIn_ok hu _ _ _ h
end
end Pu
end

section
set_option Elab.async false
set_option linter.all false
set_option maxRecDepth 100000
/-! PuX: values alike, as all laws ask it; further plain laws. -/
namespace Pu
open PySem L2 PySem.Spec PySem.W PuT
def sameS (rec : List D → Option R) : EvS :=
  (evSeq (evIfS (evB (ev1 (evName 1) (isiD .tuple))) (evSeq (evIfS (evOrB (evNot (evB (ev1 (evName 0) (isiD .tuple)))) (evB (ev2 (ev1 (evName 0) lenD) (ev1 (evName 1) lenD) neD))) (evRet (evC (.bl false))) evNext)
  (evRet (ev1 (evLc (evR1 (ev1 (evName 1) lenD)) (btName 2) evTrue (evCall (evCons (ev2 (evName 0) (evName 2) idxD) (evCons (ev2 (evName 1) (evName 2) idxD) evNil)) rec) [2]) allD))) evNext)
  (evSeq (evIfS (evB (ev1 (evName 1) isNonD)) (evRet (ev1 (evName 0) isNonD)) evNext)
  (evSeq (evIfS (evB (ev1 (evName 1) (isiD .bool))) (evRet (evIf (evB (evName 1)) (ev2 (evName 0) (evC (.bl true)) isBlD) (ev2 (evName 0) (evC (.bl false)) isBlD))) evNext)
  (evSeq (evIfS (evB (ev1 (evName 1) (isiD .int))) (evRet (evAnd (ev1 (evName 0) (isiD .int)) (evAnd (evNotV (ev1 (evName 0) (isiD .bool))) (ev2 (ev1 (evName 0) intD) (evName 1) eqD)))) evNext)
  (evRet (evAnd (ev1 (evName 0) (isiD .str)) (ev2 (ev1 (evName 0) strD) (evName 1) eqD)))))))
def sameF : Nat → List D → Option R
  | 0 => fun _ => none
  | n + 1 => runF (sameS (sameF n)) 2 3
/-- what can be asked to depth n -/
def smOk : Nat → D → Bool
  | 0, _ => false
  | _ + 1, .non => true
  | _ + 1, .bl _ => true
  | _ + 1, .int _ => true
  | _ + 1, .str s => okP (.str s)
  | n + 1, .tup xs => decide (xs.length ≤ 100000) && xs.all (smOk n)
  | _ + 1, _ => false
theorem bls_all : ∀ {xs : List D}, (∀ x ∈ xs, x = .bl true) → ∃ bs, blsOf xs = some bs ∧ bs.all id = true
  | [], _ => ⟨[], rfl, rfl⟩
  | x :: xs, h => by
    obtain ⟨bs, e, a⟩ := bls_all fun y hy => h y (List.mem_cons_of_mem _ hy)
    refine ⟨true :: bs, ?_, by rw [List.all_cons, a]; rfl⟩
    rw [h x List.mem_cons_self]
    unfold blsOf
    rw [e]
    rfl
theorem same_self : ∀ (n : Nat) (d : D), smOk n d = true → sameF n [d, d] = some (.im (.bl true))
  | 0, _, h => by cases h
  | n + 1, .non, _ => by simp [runF, evRet, evSeq, evIfS, evNext, evSet, evAnd, evOr, evNot, evNotV, evB, evOrB, evAndB, evIf, evCall, evCons, evNil, toD, toO, evName, evC, ev1, ev2, evCh, Pu.settle, R.opd, Opd.look, Slot.look, Ow.d, sameF, sameS, isiD, isNonD]
  | n + 1, .bl b, _ => by cases b <;> simp [runF, evRet, evSeq, evIfS, evNext, evSet, evAnd, evOr, evNot, evNotV, evB, evOrB, evAndB, evIf, evCall, evCons, evNil, toD, toO, evName, evC, ev1, ev2, evCh, Pu.settle, R.opd, Opd.look, Slot.look, Ow.d, sameF, sameS, isiD, isNonD, isBlD]
  | n + 1, .int i, _ => by
    have := eqD_int i i
    simp [runF, evRet, evSeq, evIfS, evNext, evSet, evAnd, evOr, evNot, evNotV, evB, evOrB, evAndB, evIf, evCall, evCons, evNil, toD, toO, evName, evC, ev1, ev2, evCh, Pu.settle, R.opd, Opd.look, Slot.look, Ow.d, sameF, sameS, isiD, isNonD, this]
  | n + 1, .str s, h => by
    have ok : okP (.str s) = true := h
    have : eqD (.str s) (.str s) = some (.im (.bl true)) := by
      unfold eqD
      rw [ok, eqB_self]
      rfl
    simp [runF, evRet, evSeq, evIfS, evNext, evSet, evAnd, evOr, evNot, evNotV, evB, evOrB, evAndB, evIf, evCall, evCons, evNil, toD, toO, evName, evC, ev1, ev2, evCh, Pu.settle, R.opd, Opd.look, Slot.look, Ow.d, sameF, sameS, isiD, isNonD, strD, this]
  | n + 1, .tup xs, h => by
    have h' : (decide (xs.length ≤ 100000) && xs.all (smOk n)) = true := h
    rw [Bool.and_eq_true, decide_eq_true_eq, List.all_eq_true] at h'
    have nl := neD_int xs.length xs.length
    have ih : ∀ x ∈ xs, sameF n [x, x] = some (.im (.bl true)) := fun x hx => same_self n x (h'.2 x hx)
    have lc := evLc_map (fi := evR1 (ev1 (evName 1) lenD)) (b := btName 2) (c := evTrue) (f := (evCall (evCons (ev2 (evName 0) (evName 2) idxD) (evCons (ev2 (evName 1) (evName 2) idxD) evNil)) (sameF n))) (vs := [2])
      (g := [.im (.tup xs), .im (.tup xs), .no]) (g1 := [.im (.tup xs), .im (.tup xs), .no]) (items := (List.range xs.length).map fun i => .int (i : Nat)) (p := fun _ => true) (h := fun _ => .bl true)
      (by
        simp [evR1, runF, evRet, evSeq, evIfS, evNext, evSet, evAnd, evOr, evNot, evNotV, evB, evOrB, evAndB, evIf, evCall, evCons, evNil, toD, toO, evName, evC, ev1, ev2, evCh, Pu.settle, R.opd, Opd.look, Slot.look, Ow.d, sz_eq]
        omega) rfl fun d hd => by
        obtain ⟨i, hi, rfl⟩ := List.mem_map.mp hd
        have hi := List.mem_range.mp hi
        obtain ⟨x, hx, e⟩ := idxT (xs := xs) (i := (i : Int)) (by omega) (by omega)
        refine ⟨[.im (.tup xs), .im (.tup xs), .im (.int i)], rfl, rfl, fun _ => ?_, rfl⟩
        have := ih x hx
        simp [runF, evRet, evSeq, evIfS, evNext, evSet, evAnd, evOr, evNot, evNotV, evB, evOrB, evAndB, evIf, evCall, evCons, evNil, toD, toO, evName, evC, ev1, ev2, evCh, Pu.settle, R.opd, Opd.look, Slot.look, Ow.d, e, this]
    rw [List.filter_eq_self.mpr fun _ _ => rfl] at lc
    simp only [gw, grs] at lc
    obtain ⟨bs, e1, e2⟩ := bls_all (xs := ((List.range xs.length).map fun i => D.int (i : Nat)).map fun _ => D.bl true) fun x hx => by
      obtain ⟨_, _, rfl⟩ := List.mem_map.mp hx
      rfl
    generalize ((List.range xs.length).map fun i => D.int (i : Nat)).map (fun _ => D.bl true) = L at lc e1
    have al : allD (.lst L) = some (.im (.bl true)) := by
      unfold allD
      dsimp only
      rw [e1]
      show some (R.im (.bl (bs.all id))) = _
      rw [e2]
    simp [runF, evRet, evSeq, evIfS, evNext, evSet, evAnd, evOr, evNot, evNotV, evB, evOrB, evAndB, evIf, evCall, evCons, evNil, toD, toO, evName, evC, ev1, ev2, evCh, Pu.settle, R.opd, Opd.look, Slot.look, Ow.d, sameF, sameS, isiD, nl, lc, al]
  | _ + 1, .lst _, h => by cases h
  | _ + 1, .fz _, h => by cases h
theorem okP_str {s : List Nat} (h : ∀ c ∈ s, c < 1114112) : okP (.str s) = true := okP_of (okN_str h) (by omega)
theorem eqD_self {d : D} (h : okP d = true) : eqD d d = some (.im (.bl true)) := by
  unfold eqD
  rw [h, eqB_self]
  rfl
end Pu
end

section
set_option Elab.async false
set_option linter.all false
set_option maxRecDepth 100000
set_option maxHeartbeats 8000000
/-! K04: what each def of the text gives, printed by gen.py. -/
namespace K04
open PySem L2 Pu
def tab_TURNED : List (List Nat × D) := [([114], (.tup [(.int 4), (.int 5), (.int 2), (.int 3), (.int 1), (.int 0)])), ([108], (.tup [(.int 5), (.int 4), (.int 2), (.int 3), (.int 0), (.int 1)])), ([117], (.tup [(.int 0), (.int 1), (.int 4), (.int 5), (.int 3), (.int 2)])), ([100], (.tup [(.int 0), (.int 1), (.int 5), (.int 4), (.int 2), (.int 3)]))]
def tab_WAYS : List (List Nat × D) := [([100], (.tup [(.int 0), (.int (-1))])), ([108], (.tup [(.int (-1)), (.int 0)])), ([114], (.tup [(.int 1), (.int 0)])), ([117], (.tup [(.int 0), (.int 1)]))]
def b_is_whole : EvS :=
  (evRet (evAnd (ev1 (evName 0) (isiD .int)) (evNotV (ev1 (evName 0) (isiD .bool)))))
def F_is_whole : List D → Option R := runF b_is_whole 1 1
def b_fits_whole : EvS :=
  (evRet (evAnd (evCall (evCons (evName 0) evNil) F_is_whole) (evCh (evName 1) (evName 0) (evName 2) leX leX)))
def F_fits_whole : List D → Option R := runF b_fits_whole 3 3
def b_is_tuple_of : EvS :=
  (evRet (evAnd (ev1 (evName 0) (isiD .tuple)) (evCh (evName 1) (ev1 (evName 0) lenD) (evName 2) leX leX)))
def F_is_tuple_of : List D → Option R := runF b_is_tuple_of 3 3
def b_fits_die : EvS :=
  (evRet (evAnd (evCall (evCons (evName 0) (evCons (evC (.int 6)) (evCons (evC (.int 6)) evNil))) F_is_tuple_of) (evAnd (ev1 (evLc (evIt (evName 0)) (btName 1) evTrue (evCall (evCons (evName 1) (evCons (evC (.int 1)) (evCons (evC (.int 6)) evNil))) F_fits_whole) [1]) allD) (ev2 (ev1 (evName 0) lensetX) (evC (.int 6)) eqD))))
def F_fits_die : List D → Option R := runF b_fits_die 1 2
def b_need_die : EvS :=
  (evIfS (evNot (evB (evCall (evCons (evName 0) evNil) F_fits_die))) (fun _ => none) evNext)
def F_need_die : List D → Option R := runF b_need_die 1 1
def b_fits_rolls : EvS :=
  (evRet (evAnd (ev1 (evName 0) (isiD .str)) (evAnd (ev2 (ev1 (evName 0) lenD) (evC (.int 100)) leX) (ev1 (evLc (evIt (evName 0)) (btName 1) evTrue (ev1 (evName 1) (inT tab_WAYS)) [1]) allD))))
def F_fits_rolls : List D → Option R := runF b_fits_rolls 1 2
def b_need_rolls : EvS :=
  (evIfS (evNot (evB (evCall (evCons (evName 0) evNil) F_fits_rolls))) (fun _ => none) evNext)
def F_need_rolls : List D → Option R := runF b_need_rolls 1 1
def b_rolled : EvS :=
  (evRet (ev1 (evLc (evIt (ev1 (evName 1) (ixT tab_TURNED))) (btName 2) evTrue (ev2 (evName 0) (evName 2) idxD) [2]) tupleD))
def F_rolled : List D → Option R := runF b_rolled 2 3
def b_moved : EvS :=
  (evRet (evTup (evCons (ev2 (ev2 (evName 0) (evC (.int 0)) idxD) (ev2 (ev1 (evName 1) (ixT tab_WAYS)) (evC (.int 0)) idxD) addD) (evCons (ev2 (ev2 (evName 0) (evC (.int 1)) idxD) (ev2 (ev1 (evName 1) (ixT tab_WAYS)) (evC (.int 1)) idxD) addD) evNil))))
def F_moved : List D → Option R := runF b_moved 2 2
def b_led : EvS :=
  (evSeq (evSet 4 (evLst (evCons (evTup (evCons (evName 1) (evCons (evName 2) evNil))) evNil)))
  (evSeq (evFor (evIt (evName 3)) (btName 5) (evSeq (evPar 1 2 (evCall (evCons (evName 1) (evCons (evName 5) evNil)) F_moved) (evCall (evCons (evName 2) (evCons (evName 5) evNil)) F_rolled))
  (evSeq (evIfS (evAndB (evB (ev1 (evName 0) notND)) (evB (ev2 (evName 1) (evName 0) notInX))) (evRet (evName 4)) evNext)
  (evX (evApp 4 (evTup (evCons (evName 1) (evCons (evName 2) evNil))))))))
  (evRet (evName 4))))
def F_led : List D → Option R := runF b_led 4 6
def b_is_die : EvS :=
  (evRet (evCall (evCons (evName 0) evNil) F_fits_die))
def F_is_die : List D → Option R := runF b_is_die 1 1
def b_die_after : EvS :=
  (evSeq (evX (evCall (evCons (evName 0) evNil) F_need_die))
  (evSeq (evX (evCall (evCons (evName 1) evNil) F_need_rolls))
  (evRet (ev2 (ev2 (evCall (evCons (evC .non) (evCons (evTup (evCons (evC (.int 0)) (evCons (evC (.int 0)) evNil))) (evCons (evName 0) (evCons (evName 1) evNil)))) F_led) (ev1 (evC (.int 1)) negD) idxD) (evC (.int 1)) idxD))))
def F_die_after : List D → Option R := runF b_die_after 2 2
def b__law_cup : EvS :=
  (evSeq (evSet 1 (ev1 (ev2 (ev2 (ev1 (evName 0) listSD) (evLst (evCons (evC (.int 0)) evNil)) addD) (evC (.int 0)) idxD) absD))
  (evRet (evLst (evCons (evIf (evB (ev2 (evName 1) (ev2 (evC (.int 10)) (evC (.int 18)) powD) geX)) (ev2 (evName 1) (evC (.int 2317)) divD) (evC (.int 0))) (evCons (ev2 (ev2 (ev1 (ev2 (ev2 (evName 1) (evC (.int 3309)) mulD) (evC (.int 9227)) addD) intD) (evC (.int 2077519049)) modD) (evC (.int 2427)) addD) evNil)))))
def F__law_cup : List D → Option R := runF b__law_cup 1 2
def b__law_roll : EvS :=
  (evSeq (evIfS (evB (ev2 (ev2 (evName 0) (evC (.int 0)) idxD) (evC (.int 0)) gtX)) (evSeq (evSet 2 (ev2 (ev1 (ev2 (evName 0) (evC (.int 0)) idxD) intD) (evName 1) modD))
  (evSeq (evSto 0 (evC (.int 0)) (ev2 (ev2 (evName 0) (evC (.int 0)) idxD) (evName 1) divD))
  (evRet (evName 2)))) evNext)
  (evSeq (evSto 0 (evC (.int 1)) (ev2 (ev1 (ev2 (ev2 (ev2 (evName 0) (evC (.int 1)) idxD) (evC (.int 34467)) mulD) (evC (.int 10525)) addD) intD) (evC (.int 2147483399)) modD))
  (evSeq (evSet 3 (ev2 (ev1 (ev2 (ev2 (evName 0) (evC (.int 1)) idxD) (ev2 (ev2 (evName 0) (evC (.int 1)) idxD) (evC (.int 2721)) addD) mulD) intD) (evC (.int 2147483137)) modD))
  (evRet (ev2 (ev1 (ev2 (evName 3) (evC (.int 3211)) divD) intD) (evName 1) modD)))))
def F__law_roll : Ow → List D → Option (R × Ow) := runC b__law_roll 1 4
def b__law_some : EvS :=
  (evRet (ev2 (evName 1) (evCallC 0 (evCons (ev1 (evName 1) lenD) evNil) F__law_roll) idxD))
def F__law_some : Ow → List D → Option (R × Ow) := runC b__law_some 1 2
def b__law_same (rec : List D → Option R) : EvS :=
  (evSeq (evIfS (evB (ev1 (evName 1) (isiD .tuple))) (evSeq (evIfS (evOrB (evNot (evB (ev1 (evName 0) (isiD .tuple)))) (evB (ev2 (ev1 (evName 0) lenD) (ev1 (evName 1) lenD) neD))) (evRet (evC (.bl false))) evNext)
  (evRet (ev1 (evLc (evR1 (ev1 (evName 1) lenD)) (btName 2) evTrue (evCall (evCons (ev2 (evName 0) (evName 2) idxD) (evCons (ev2 (evName 1) (evName 2) idxD) evNil)) rec) [2]) allD))) evNext)
  (evSeq (evIfS (evB (ev1 (evName 1) isNonD)) (evRet (ev1 (evName 0) isNonD)) evNext)
  (evSeq (evIfS (evB (ev1 (evName 1) (isiD .bool))) (evRet (evIf (evB (evName 1)) (ev2 (evName 0) (evC (.bl true)) isBlD) (ev2 (evName 0) (evC (.bl false)) isBlD))) evNext)
  (evSeq (evIfS (evB (ev1 (evName 1) (isiD .int))) (evRet (evAnd (ev1 (evName 0) (isiD .int)) (evAnd (evNotV (ev1 (evName 0) (isiD .bool))) (ev2 (ev1 (evName 0) intD) (evName 1) eqD)))) evNext)
  (evRet (evAnd (ev1 (evName 0) (isiD .str)) (ev2 (ev1 (evName 0) strD) (evName 1) eqD)))))))
def F__law_same : Nat → List D → Option R
  | 0 => fun _ => none
  | n + 1 => runF (b__law_same (F__law_same n)) 2 3
def b__law_rolled : EvS :=
  (evSeq (evAsg (btTup (btCons (btName 2) (btCons (btName 3) (btCons (btName 4) (btCons (btName 5) (btCons (btName 6) (btCons (btName 7) btNil))))))) (evName 0))
  (evSeq (evIfS (evB (ev2 (evName 1) (evC (.str [114])) eqD)) (evRet (evTup (evCons (evName 6) (evCons (evName 7) (evCons (evName 4) (evCons (evName 5) (evCons (evName 3) (evCons (evName 2) evNil)))))))) evNext)
  (evSeq (evIfS (evB (ev2 (evName 1) (evC (.str [108])) eqD)) (evRet (evTup (evCons (evName 7) (evCons (evName 6) (evCons (evName 4) (evCons (evName 5) (evCons (evName 2) (evCons (evName 3) evNil)))))))) evNext)
  (evSeq (evIfS (evB (ev2 (evName 1) (evC (.str [117])) eqD)) (evRet (evTup (evCons (evName 2) (evCons (evName 3) (evCons (evName 6) (evCons (evName 7) (evCons (evName 5) (evCons (evName 4) evNil)))))))) evNext)
  (evRet (evTup (evCons (evName 2) (evCons (evName 3) (evCons (evName 7) (evCons (evName 6) (evCons (evName 4) (evCons (evName 5) evNil))))))))))))
def F__law_rolled : List D → Option R := runF b__law_rolled 2 8
def b__law_after : EvS :=
  (evSeq (evFor (evIt (evName 1)) (btName 2) (evSet 0 (evCall (evCons (evName 0) (evCons (evName 2) evNil)) F__law_rolled)))
  (evRet (evName 0)))
def F__law_after : List D → Option R := runF b__law_after 2 3
def b__law_orders : EvS :=
  (evSeq (evSet 1 (evLst (evCons (evC (.tup [])) evNil)))
  (evSeq (evFor (evIt (evName 0)) (btName 2) (evSeq (evSet 3 (evLst evNil))
  (evSeq (evFor (evIt (evName 1)) (btName 4) (evX (evExt 3 (evLc (evIt (evName 0)) (btName 5) (evB (ev2 (evName 5) (evName 4) notInX)) (ev2 (evName 4) (evTup (evCons (evName 5) evNil)) addD) [5]))))
  (evSet 1 (evName 3)))))
  (evRet (evName 1))))
def F__law_orders : List D → Option R := runF b__law_orders 1 6
def b__law_sense : EvS :=
  (evSeq (evSet 1 (evLst (evCons (ev1 (ev1 (evSl (evName 0) (evP (evC (.int 0))) (evP (evC (.int 2)))) sortD) tupleD) (evCons (ev1 (ev1 (evSl (evName 0) (evP (evC (.int 2))) (evP (evC (.int 4)))) sortD) tupleD) (evCons (ev1 (ev1 (evSl (evName 0) (evP (evC (.int 4))) (evP (evC (.int 6)))) sortD) tupleD) evNil)))))
  (evSeq (evSet 2 (evLc (evR1 (evC (.int 3))) (btName 4) (evB (ev2 (ev2 (evName 0) (ev2 (evC (.int 2)) (evName 4) mulD) idxD) (ev2 (ev2 (evName 1) (evName 4) idxD) (evC (.int 0)) idxD) neD)) (evC (.int 1)) [4]))
  (evSeq (evSet 3 (evLc (evIt (evTup (evCons (evTup (evCons (evC (.int 0)) (evCons (evC (.int 1)) evNil))) (evCons (evTup (evCons (evC (.int 0)) (evCons (evC (.int 2)) evNil))) (evCons (evTup (evCons (evC (.int 1)) (evCons (evC (.int 2)) evNil))) evNil))))) (btTup (btCons (btName 5) (btCons (btName 6) btNil))) (evB (ev2 (ev2 (evName 1) (evName 5) idxD) (ev2 (evName 1) (evName 6) idxD) gtX)) (evC (.int 1)) [5, 6]))
  (evRet (evTup (evCons (ev1 (evName 1) sortD) (evCons (ev2 (ev1 (ev2 (ev1 (evName 2) lenD) (ev1 (evName 3) lenD) addD) intD) (evC (.int 2)) modD) evNil)))))))
def F__law_sense : List D → Option R := runF b__law_sense 1 7
def b__law_values_right : EvS :=
  (evSeq (evSet 1 (evCall (evCons (evTup (evCons (evC (.int 1)) (evCons (evC (.int 2)) (evCons (evC (.int 3)) (evCons (evC (.int 4)) (evCons (evC (.int 5)) (evCons (evC (.int 6)) evNil))))))) evNil) F__law_orders))
  (evSeq (evIfS (evB (ev2 (evLc (evIt (evName 1)) (btName 2) (evB (ev2 (evCall (evCons (evName 2) evNil) F_is_die) (evC (.bl true)) notBlD)) (evName 2) [2]) (evLst evNil) neD)) (evRet (evC (.bl false))) evNext)
  (evSeq (evSet 2 (evCallC 0 (evCons (evName 1) evNil) F__law_some))
  (evSeq (evSet 3 (evLst (evCons (ev1 (evName 2) listSD) (evCons (evSl (evName 2) evNoP (evP (evC (.int 5)))) (evCons (ev2 (evName 2) (evTup (evCons (evC (.int 1)) evNil)) addD) (evCons (ev2 (evName 2) (evSl (evName 2) evNoP (evP (evC (.int 1)))) addD) (evCons (evC .non) (evCons (evC (.tup [])) (evCons (evC (.int 6)) (evCons (evC (.str [49, 50, 51, 52, 53, 54])) evNil))))))))))
  (evSeq (evFor (evR1 (evC (.int 6))) (btName 4) (evSeq (evSet 5 (evTup (evCons (evC (.int 0)) (evCons (evC (.int 7)) (evCons (ev2 (evName 2) (ev2 (evName 4) (evC (.int 1)) subD) idxD) (evCons (evC .non) (evCons (ev1 (ev2 (evName 2) (evName 4) idxD) strD) (evCons (evTup (evCons (ev2 (evName 2) (evName 4) idxD) evNil)) (evCons (evC (.bl true)) evNil)))))))))
  (evSet 3 (ev2 (evName 3) (evLc (evIt (evName 5)) (btName 6) (evOrB (evB (ev2 (evName 6) (ev2 (evName 2) (evName 4) idxD) neD)) (evB (ev2 (evName 6) (evC (.bl true)) isBlD))) (ev2 (ev2 (evSl (evName 2) evNoP (evP (evName 4))) (evTup (evCons (evName 6) evNil)) addD) (evSl (evName 2) (evP (ev2 (evName 4) (evC (.int 1)) addD)) evNoP) addD) [6]) addD))))
  (evRet (evAnd (ev2 (ev1 (evName 1) lenD) (evC (.int 720)) eqD) (ev2 (evLc (evIt (evName 3)) (btName 7) (evB (ev2 (evCall (evCons (evName 7) evNil) F_is_die) (evC (.bl false)) notBlD)) (evName 7) [7]) (evLst evNil) eqD))))))))
def F__law_values_right : Ow → List D → Option (R × Ow) := runC b__law_values_right 0 8
def b__law_rolls_right : EvS :=
  (evSeq (evSet 2 (evLst (evCons (evC (.str [])) evNil)))
  (evSeq (evFor (evR1 (evC (.int 4))) (btName 3) (evSeq (evSet 4 (evLst evNil))
  (evSeq (evFor (evIt (evName 2)) (btName 5) (evX (evExt 4 (evLc (evIt (evC (.str [100, 108, 114, 117]))) (btName 11) evTrue (ev2 (evName 5) (evName 11) addD) [11]))))
  (evSeq (evIfS (evB (ev2 (evLc (evIt (evName 4)) (btName 5) (evNot (evB (evCall (evCons (evCall (evCons (evName 1) (evCons (evName 5) evNil)) F_die_after) (evCons (evCall (evCons (evName 1) (evCons (evName 5) evNil)) F__law_after) evNil)) (F__law_same 3)))) (evName 5) [5]) (evLst evNil) neD)) (evRet (evC (.bl false))) evNext)
  (evSet 2 (evName 4))))))
  (evSeq (evIfS (evB (ev2 (ev1 (ev2 (evLc (evIt (evName 2)) (btName 5) evTrue (evCall (evCons (evName 1) (evCons (evName 5) evNil)) F_die_after) [5]) (evLc (evIt (evName 2)) (btName 5) evTrue (evCall (evCons (evName 1) (evCons (evSl (evName 5) (evP (evC (.int 1))) evNoP) evNil)) F_die_after) [5]) addD) lensetX) (evC (.int 24)) neD)) (evRet (evC (.bl false))) evNext)
  (evSeq (evSet 6 (ev1 (evLc (evR1 (evCallC 0 (evCons (evLst (evCons (evC (.int 5)) (evCons (evC (.int 40)) (evCons (evC (.int 100)) evNil)))) evNil) F__law_some)) (btName 3) evTrue (evCallC 0 (evCons (evC (.str [100, 108, 114, 117])) evNil) F__law_some) [3]) (joinD [])))
  (evSeq (evSet 7 (evCallC 0 (evCons (ev2 (ev1 (evName 6) lenD) (evC (.int 1)) addD) evNil) F__law_roll))
  (evSeq (evSet 8 (ev1 (evLc (evIt (ev1 (evName 6) revX)) (btName 11) evTrue (ev1 (evName 11) (ixT [([100], (.str [117])), ([117], (.str [100])), ([108], (.str [114])), ([114], (.str [108]))])) [11]) (joinD [])))
  (evSeq (evSet 9 (evCall (evCons (evName 1) (evCons (evName 6) evNil)) F_die_after))
  (evSeq (evSet 10 (evTup (evCons (evName 9) (evCons (evCall (evCons (evName 9) (evCons (evName 8) evNil)) F_die_after) (evCons (evCall (evCons (evCall (evCons (evName 1) (evCons (evSl (evName 6) evNoP (evP (evName 7))) evNil)) F_die_after) (evCons (evSl (evName 6) (evP (evName 7)) evNoP) evNil)) F_die_after) evNil)))))
  (evRet (evAnd (evCall (evCons (evName 10) (evCons (evTup (evCons (evCall (evCons (evName 1) (evCons (evName 6) evNil)) F__law_after) (evCons (evName 1) (evCons (evName 9) evNil)))) evNil)) (F__law_same 3)) (ev2 (evCall (evCons (evName 9) evNil) F__law_sense) (evCall (evCons (evName 1) evNil) F__law_sense) eqD)))))))))))
def F__law_rolls_right : Ow → List D → Option (R × Ow) := runC b__law_rolls_right 1 12
def b_law : EvS :=
  (evSeq (evSet 1 (evCall (evCons (evName 0) evNil) F__law_cup))
  (evSeq (evSet 2 (evTup (evCons (evC (.int 3)) (evCons (evC (.int 4)) (evCons (evC (.int 2)) (evCons (evC (.int 5)) (evCons (evC (.int 1)) (evCons (evC (.int 6)) evNil))))))))
  (evSeq (evSet 3 (ev1 (evLc (evIt (evTup (evCons (evC (.str [])) (evCons (evC (.str [114])) (evCons (evC (.str [108])) (evCons (evC (.str [117])) (evCons (evC (.str [100])) (evCons (evC (.str [114, 114, 114, 114])) (evCons (evC (.str [114, 117, 108, 100])) evNil))))))))) (btName 7) evTrue (evCall (evCons (evName 2) (evCons (evName 7) evNil)) F_die_after) [7]) tupleD))
  (evSeq (evSet 4 (evTup (evCons (evName 2) (evCons (evTup (evCons (evC (.int 1)) (evCons (evC (.int 6)) (evCons (evC (.int 2)) (evCons (evC (.int 5)) (evCons (evC (.int 4)) (evCons (evC (.int 3)) evNil))))))) (evCons (evTup (evCons (evC (.int 6)) (evCons (evC (.int 1)) (evCons (evC (.int 2)) (evCons (evC (.int 5)) (evCons (evC (.int 3)) (evCons (evC (.int 4)) evNil))))))) (evCons (evTup (evCons (evC (.int 3)) (evCons (evC (.int 4)) (evCons (evC (.int 1)) (evCons (evC (.int 6)) (evCons (evC (.int 5)) (evCons (evC (.int 2)) evNil))))))) (evCons (evTup (evCons (evC (.int 3)) (evCons (evC (.int 4)) (evCons (evC (.int 6)) (evCons (evC (.int 1)) (evCons (evC (.int 2)) (evCons (evC (.int 5)) evNil))))))) (evCons (evName 2) (evCons (evTup (evCons (evC (.int 2)) (evCons (evC (.int 5)) (evCons (evC (.int 6)) (evCons (evC (.int 1)) (evCons (evC (.int 4)) (evCons (evC (.int 3)) evNil))))))) evNil)))))))))
  (evSeq (evSet 3 (ev2 (evName 3) (ev1 (evLc (evIt (evTup (evCons (evTup (evCons (evC (.int 1)) (evCons (evC (.int 2)) (evCons (evC (.int 3)) (evCons (evC (.int 4)) (evCons (evC (.int 5)) (evCons (evC (.int 6)) evNil))))))) (evCons (evTup (evCons (evC (.int 6)) (evCons (evC (.int 6)) (evCons (evC (.int 1)) (evCons (evC (.int 2)) (evCons (evC (.int 3)) (evCons (evC (.int 4)) evNil))))))) (evCons (evTup (evCons (evC (.bl true)) (evCons (evC (.int 2)) (evCons (evC (.int 3)) (evCons (evC (.int 4)) (evCons (evC (.int 5)) (evCons (evC (.int 6)) evNil))))))) evNil))))) (btName 8) evTrue (evCall (evCons (evName 8) evNil) F_is_die) [8]) tupleD) addD))
  (evSeq (evIfS (evNot (evB (evCall (evCons (evName 3) (evCons (ev2 (evName 4) (evTup (evCons (evC (.bl true)) (evCons (evC (.bl false)) (evCons (evC (.bl false)) evNil)))) addD) evNil)) (F__law_same 3)))) (evRet (evC (.bl false))) evNext)
  (evSeq (evIfS (evOrB (evNot (evB (evCallC 1 evNil F__law_values_right))) (evNot (evB (evCall (evCons (evCall (evCons (evName 2) (evCons (ev2 (ev2 (evC (.str [117])) (evC (.int 99)) mulD) (evC (.str [114])) addD) evNil)) F_die_after) (evCons (evTup (evCons (evC (.int 2)) (evCons (evC (.int 5)) (evCons (evC (.int 6)) (evCons (evC (.int 1)) (evCons (evC (.int 4)) (evCons (evC (.int 3)) evNil))))))) evNil)) (F__law_same 3))))) (evRet (evC (.bl false))) evNext)
  (evSeq (evSet 5 (evCall (evCons (evTup (evCons (evC (.int 1)) (evCons (evC (.int 2)) (evCons (evC (.int 3)) (evCons (evC (.int 4)) (evCons (evC (.int 5)) (evCons (evC (.int 6)) evNil))))))) evNil) F__law_orders))
  (evSeq (evFor (evR1 (evC (.int 4))) (btName 6) (evIfS (evNot (evB (evCallC 1 (evCons (evCallC 1 (evCons (evName 5) evNil) F__law_some) evNil) F__law_rolls_right))) (evRet (evC (.bl false))) evNext))
  (evRet (evC (.bl true))))))))))))
def F_law : List D → Option R := runF b_law 1 9
end K04
end

section
set_option Elab.async false
set_option linter.all false
set_option maxRecDepth 100000
set_option maxHeartbeats 8000000
/-! K04: the text's defs keep their promises, printed by gen.py. -/
namespace K04
open PySem L2 Pu
def topS (i : Nat) : Stmt := PySem.Challenge.pw_cubegrounds_k04_whole_dice_by_their_corn.main.body.getD i (.Pass ⟨0, 0, 0, 0⟩)
structure Tx (mg : Str → Option Value) (K : PySem.W.Frag) (w : World) : Prop where
  b_abs : mg "abs" = none
  b_all : mg "all" = none
  b_bool : mg "bool" = none
  b_int : mg "int" = none
  b_isinstance : mg "isinstance" = none
  b_len : mg "len" = none
  b_list : mg "list" = none
  b_range : mg "range" = none
  b_set : mg "set" = none
  b_sorted : mg "sorted" = none
  b_str : mg "str" = none
  b_tuple : mg "tuple" = none
  c_ROLLS : ∃ t, mg "ROLLS" = some (.int 100 t)
  c_TURNED : GTab mg K w "TURNED" tab_TURNED
  c_WAYS : GTab mg K w "WAYS" tab_WAYS
section
variable {P : Program} {w : World} {K : PySem.W.Frag} {mg : Str → Option Value} {base : Heap}
abbrev s_is_whole : Stmt := topS 5
theorem sc_is_whole : FnScope ["value"] ["value"] (defScope s_is_whole) := ⟨rfl, rfl, rfl, by decide +kernel, rfl, by decide +kernel, by decide +kernel⟩
theorem ok_is_whole (T : Tx mg K w) {f : Addr} {fd : FuncData} (Fd : Fun K "is_whole" "is_whole" s_is_whole f fd) : FnOk P w K mg base CX0 1 f fd ["value"] (spF K 1 F_is_whole) :=
  def_ok' (fb := b_is_whole) (ps := ["value"]) Fd sc_is_whole rfl rfl fun cdv A outer s H E hr => by
    have hu0 := hr.units0
    have hu1 := hr.units
    have hu2 : (A.deeper (PyProof.Rows.envOfC "is_whole" (defScope s_is_whole) s.heap.objs.size f cdv)).units + 65 < cLine := by have := hr.un; omega
    exact (sss_one (ss_ret (se_and (se_isi .int (by rfl) T.b_isinstance (by rfl) T.b_int (by decide +kernel) (se_name (pv 0))) (se_last (se_notV (se_isi .bool (by rfl) T.b_isinstance (by rfl) T.b_bool (by decide +kernel) (se_name (pv 0))))))))
abbrev s_fits_whole : Stmt := topS 6
theorem sc_fits_whole : FnScope ["value", "low", "high"] ["value", "low", "high"] (defScope s_fits_whole) := ⟨rfl, rfl, rfl, by decide +kernel, rfl, by decide +kernel, by decide +kernel⟩
theorem ok_fits_whole (T : Tx mg K w) {f : Addr} {fd : FuncData} (Fd : Fun K "fits_whole" "fits_whole" s_fits_whole f fd) (d_is_whole : DefAt P w K mg base 1 "is_whole" 1 (spF K 1 F_is_whole)) : FnOk P w K mg base CX0 2 f fd ["value", "low", "high"] (spF K 3 F_fits_whole) :=
  def_ok' (fb := b_fits_whole) (ps := ["value", "low", "high"]) Fd sc_fits_whole rfl rfl fun cdv A outer s H E hr => by
    have hu0 := hr.units0
    have hu1 := hr.units
    have hu2 : (A.deeper (PyProof.Rows.envOfC "fits_whole" (defScope s_fits_whole) s.heap.objs.size f cdv)).units + 65 < cLine := by have := hr.un; omega
    exact (sss_one (ss_ret (se_and (se_call d_is_whole (hr.mono (by decide)) (by rfl) (sa_cons (se_name (pv 0)) sa_nil)) (se_last (se_chain (leX_ok hu1) (leX_ok hu1) (se_name (pv 1)) (se_name (pv 0)) (se_name (pv 2)))))))
abbrev s_is_tuple_of : Stmt := topS 7
theorem sc_is_tuple_of : FnScope ["value", "least", "most"] ["value", "least", "most"] (defScope s_is_tuple_of) := ⟨rfl, rfl, rfl, by decide +kernel, rfl, by decide +kernel, by decide +kernel⟩
theorem ok_is_tuple_of (T : Tx mg K w) {f : Addr} {fd : FuncData} (Fd : Fun K "is_tuple_of" "is_tuple_of" s_is_tuple_of f fd) : FnOk P w K mg base CX0 1 f fd ["value", "least", "most"] (spF K 3 F_is_tuple_of) :=
  def_ok' (fb := b_is_tuple_of) (ps := ["value", "least", "most"]) Fd sc_is_tuple_of rfl rfl fun cdv A outer s H E hr => by
    have hu0 := hr.units0
    have hu1 := hr.units
    have hu2 : (A.deeper (PyProof.Rows.envOfC "is_tuple_of" (defScope s_is_tuple_of) s.heap.objs.size f cdv)).units + 65 < cLine := by have := hr.un; omega
    exact (sss_one (ss_ret (se_and (se_isi .tuple (by rfl) T.b_isinstance (by rfl) T.b_tuple (by decide +kernel) (se_name (pv 0))) (se_last (se_chain (leX_ok hu1) (leX_ok hu1) (se_name (pv 1)) (se_callB len_ok (by rfl) T.b_len (by decide +kernel) (se_name (pv 0))) (se_name (pv 2)))))))
abbrev s_fits_die : Stmt := topS 12
theorem sc_fits_die : FnScope ["value", "one"] ["value"] (defScope s_fits_die) := ⟨rfl, rfl, rfl, by decide +kernel, rfl, by decide +kernel, by decide +kernel⟩
theorem ok_fits_die (T : Tx mg K w) {f : Addr} {fd : FuncData} (Fd : Fun K "fits_die" "fits_die" s_fits_die f fd) (d_is_tuple_of : DefAt P w K mg base 1 "is_tuple_of" 3 (spF K 3 F_is_tuple_of)) (d_fits_whole : DefAt P w K mg base 2 "fits_whole" 3 (spF K 3 F_fits_whole)) : FnOk P w K mg base CX0 3 f fd ["value"] (spF K 1 F_fits_die) :=
  def_ok' (fb := b_fits_die) (ps := ["value"]) Fd sc_fits_die rfl rfl fun cdv A outer s H E hr => by
    have hu0 := hr.units0
    have hu1 := hr.units
    have hu2 : (A.deeper (PyProof.Rows.envOfC "fits_die" (defScope s_fits_die) s.heap.objs.size f cdv)).units + 65 < cLine := by have := hr.un; omega
    exact (sss_one (ss_ret (se_and (se_call d_is_tuple_of (hr.mono (by decide)) (by rfl) (sa_cons (se_name (pv 0)) (sa_cons se_int (sa_cons se_int sa_nil)))) (se_and (se_callB (all_ok rfl) (by rfl) T.b_all (by decide +kernel) (se_lc rfl sc_fits_die.nd (si_seq (se_name (pv 0))) (blkOk_by (own := [("one", 1)]) (N := ["value", "one"]) (sc := defScope s_fits_die) (by decide +kernel)) (by decide) (fun _ _ _ _ _ => (sg_name (pg_name (i := 1) sc_fits_die.nd rfl (by first | exact Or.inl rfl | exact Or.inr rfl)))) (fun _ _ _ _ _ => sts_nil) (fun _ _ _ _ _ => (se_call d_fits_whole (hr.mono (by decide)) (by rfl) (sa_cons (se_name (pv 1)) (sa_cons se_int (sa_cons se_int sa_nil))))) (by rfl))) (se_last (se_cmp (eq_ok hu1) (se_lensetX (by rfl) (lt12 hu2) (by rfl) T.b_len (by rfl) T.b_set (se_name (pv 0))) se_int))))))
abbrev s_need_die : Stmt := topS 13
theorem sc_need_die : FnScope ["value"] ["value"] (defScope s_need_die) := ⟨rfl, rfl, rfl, by decide +kernel, rfl, by decide +kernel, by decide +kernel⟩
theorem ok_need_die (T : Tx mg K w) {f : Addr} {fd : FuncData} (Fd : Fun K "need_die" "need_die" s_need_die f fd) (d_fits_die : DefAt P w K mg base 3 "fits_die" 1 (spF K 1 F_fits_die)) : FnOk P w K mg base CX0 4 f fd ["value"] (spF K 1 F_need_die) :=
  def_ok' (fb := b_need_die) (ps := ["value"]) Fd sc_need_die rfl rfl fun cdv A outer s H E hr => by
    have hu0 := hr.units0
    have hu1 := hr.units
    have hu2 : (A.deeper (PyProof.Rows.envOfC "need_die" (defScope s_need_die) s.heap.objs.size f cdv)).units + 65 < cLine := by have := hr.un; omega
    exact (sss_one (ss_if (st_not (st_val (se_call d_fits_die (hr.mono (by decide)) (by rfl) (sa_cons (se_name (pv 0)) sa_nil)))) (sss_one ss_none) sss_nil))
abbrev s_fits_rolls : Stmt := topS 14
theorem sc_fits_rolls : FnScope ["value", "way"] ["value"] (defScope s_fits_rolls) := ⟨rfl, rfl, rfl, by decide +kernel, rfl, by decide +kernel, by decide +kernel⟩
theorem ok_fits_rolls (T : Tx mg K w) {f : Addr} {fd : FuncData} (Fd : Fun K "fits_rolls" "fits_rolls" s_fits_rolls f fd) : FnOk P w K mg base CX0 1 f fd ["value"] (spF K 1 F_fits_rolls) :=
  def_ok' (fb := b_fits_rolls) (ps := ["value"]) Fd sc_fits_rolls rfl rfl fun cdv A outer s H E hr => by
    have hu0 := hr.units0
    have hu1 := hr.units
    have hu2 : (A.deeper (PyProof.Rows.envOfC "fits_rolls" (defScope s_fits_rolls) s.heap.objs.size f cdv)).units + 65 < cLine := by have := hr.un; omega
    exact (sss_one (ss_ret (se_and (se_isi .str (by rfl) T.b_isinstance (by rfl) T.b_str (by decide +kernel) (se_name (pv 0))) (se_and (se_cmp (leX_ok hu1) (se_callB len_ok (by rfl) T.b_len (by decide +kernel) (se_name (pv 0))) (se_con (v := .int 100) (pe_glob (by rfl) T.c_ROLLS.choose_spec ⟨_, rfl⟩) fun _ _ => .int _)) (se_last (se_callB (all_ok rfl) (by rfl) T.b_all (by decide +kernel) (se_lc rfl sc_fits_rolls.nd (si_seq (se_name (pv 0))) (blkOk_by (own := [("way", 1)]) (N := ["value", "way"]) (sc := defScope s_fits_rolls) (by decide +kernel)) (by decide) (fun _ _ _ _ _ => (sg_name (pg_name (i := 1) sc_fits_rolls.nd rfl (by first | exact Or.inl rfl | exact Or.inr rfl)))) (fun _ _ _ _ _ => sts_nil) (fun _ _ _ _ _ => (se_inT T.c_WAYS (by rfl) (se_name (pv 1)))) (by rfl))))))))
abbrev s_need_rolls : Stmt := topS 15
theorem sc_need_rolls : FnScope ["value"] ["value"] (defScope s_need_rolls) := ⟨rfl, rfl, rfl, by decide +kernel, rfl, by decide +kernel, by decide +kernel⟩
theorem ok_need_rolls (T : Tx mg K w) {f : Addr} {fd : FuncData} (Fd : Fun K "need_rolls" "need_rolls" s_need_rolls f fd) (d_fits_rolls : DefAt P w K mg base 1 "fits_rolls" 1 (spF K 1 F_fits_rolls)) : FnOk P w K mg base CX0 2 f fd ["value"] (spF K 1 F_need_rolls) :=
  def_ok' (fb := b_need_rolls) (ps := ["value"]) Fd sc_need_rolls rfl rfl fun cdv A outer s H E hr => by
    have hu0 := hr.units0
    have hu1 := hr.units
    have hu2 : (A.deeper (PyProof.Rows.envOfC "need_rolls" (defScope s_need_rolls) s.heap.objs.size f cdv)).units + 65 < cLine := by have := hr.un; omega
    exact (sss_one (ss_if (st_not (st_val (se_call d_fits_rolls (hr.mono (by decide)) (by rfl) (sa_cons (se_name (pv 0)) sa_nil)))) (sss_one ss_none) sss_nil))
abbrev s_rolled : Stmt := topS 16
theorem sc_rolled : FnScope ["die", "way", "at"] ["die", "way"] (defScope s_rolled) := ⟨rfl, rfl, rfl, by decide +kernel, rfl, by decide +kernel, by decide +kernel⟩
theorem ok_rolled (T : Tx mg K w) {f : Addr} {fd : FuncData} (Fd : Fun K "rolled" "rolled" s_rolled f fd) : FnOk P w K mg base CX0 1 f fd ["die", "way"] (spF K 2 F_rolled) :=
  def_ok' (fb := b_rolled) (ps := ["die", "way"]) Fd sc_rolled rfl rfl fun cdv A outer s H E hr => by
    have hu0 := hr.units0
    have hu1 := hr.units
    have hu2 : (A.deeper (PyProof.Rows.envOfC "rolled" (defScope s_rolled) s.heap.objs.size f cdv)).units + 65 < cLine := by have := hr.un; omega
    exact (sss_one (ss_ret (se_callTy tuple_ok (by rfl) T.b_tuple (by decide +kernel) (se_lc rfl sc_rolled.nd (si_seq (se_ixT T.c_TURNED (by rfl) (se_name (pv 1)))) (blkOk_by (own := [("at", 2)]) (N := ["die", "way", "at"]) (sc := defScope s_rolled) (by decide +kernel)) (by decide) (fun _ _ _ _ _ => (sg_name (pg_name (i := 2) sc_rolled.nd rfl (by first | exact Or.inl rfl | exact Or.inr rfl)))) (fun _ _ _ _ _ => sts_nil) (fun _ _ _ _ _ => (se_ix (se_name (pv 0)) (se_name (pv 2)))) (by rfl)))))
abbrev s_moved : Stmt := topS 17
theorem sc_moved : FnScope ["square", "way"] ["square", "way"] (defScope s_moved) := ⟨rfl, rfl, rfl, by decide +kernel, rfl, by decide +kernel, by decide +kernel⟩
theorem ok_moved (T : Tx mg K w) {f : Addr} {fd : FuncData} (Fd : Fun K "moved" "moved" s_moved f fd) : FnOk P w K mg base CX0 1 f fd ["square", "way"] (spF K 2 F_moved) :=
  def_ok' (fb := b_moved) (ps := ["square", "way"]) Fd sc_moved rfl rfl fun cdv A outer s H E hr => by
    have hu0 := hr.units0
    have hu1 := hr.units
    have hu2 : (A.deeper (PyProof.Rows.envOfC "moved" (defScope s_moved) s.heap.objs.size f cdv)).units + 65 < cLine := by have := hr.un; omega
    exact (sss_one (ss_ret (se_tup 2 (sa_cons (se_bin add_ok (se_ix (se_name (pv 0)) se_int) (se_ix (se_ixT T.c_WAYS (by rfl) (se_name (pv 1))) se_int)) (sa_cons (se_bin add_ok (se_ix (se_name (pv 0)) se_int) (se_ix (se_ixT T.c_WAYS (by rfl) (se_name (pv 1))) se_int)) sa_nil)))))
abbrev s_led : Stmt := topS 18
theorem sc_led : FnScope ["floor", "square", "die", "rolls", "found", "way"] ["floor", "square", "die", "rolls"] (defScope s_led) := ⟨rfl, rfl, rfl, by decide +kernel, rfl, by decide +kernel, by decide +kernel⟩
theorem ok_led (T : Tx mg K w) {f : Addr} {fd : FuncData} (Fd : Fun K "led" "led" s_led f fd) (d_moved : DefAt P w K mg base 1 "moved" 2 (spF K 2 F_moved)) (d_rolled : DefAt P w K mg base 1 "rolled" 2 (spF K 2 F_rolled)) : FnOk P w K mg base CX0 2 f fd ["floor", "square", "die", "rolls"] (spF K 4 F_led) :=
  def_ok' (fb := b_led) (ps := ["floor", "square", "die", "rolls"]) Fd sc_led rfl rfl fun cdv A outer s H E hr => by
    have hu0 := hr.units0
    have hu1 := hr.units
    have hu2 : (A.deeper (PyProof.Rows.envOfC "led" (defScope s_led) s.heap.objs.size f cdv)).units + 65 < cLine := by have := hr.un; omega
    exact (sss_cons (ss_set (i := 4) sc_led.nd rfl (by first | exact Or.inl rfl | exact Or.inr rfl) (se_lst 1 (sa_cons (se_tup 2 (sa_cons (se_name (pv 1)) (sa_cons (se_name (pv 2)) sa_nil))) sa_nil)))
      (sss_cons (ss_for PySem.PassesOwn.never rfl (si_seq (se_name (pv 3))) (sg_name (pg_name (i := 5) sc_led.nd rfl (by first | exact Or.inl rfl | exact Or.inr rfl))) (sss_cons (ss_par (i := 1) (j := 2) rfl sc_led.nd rfl rfl (by decide) rfl rfl (se_call d_moved (hr.mono (by decide)) (by rfl) (sa_cons (se_name (pv 1)) (sa_cons (se_name (pv 5)) sa_nil))) (se_call d_rolled (hr.mono (by decide)) (by rfl) (sa_cons (se_name (pv 2)) (sa_cons (se_name (pv 5)) sa_nil))) (by rfl))
      (sss_cons (ss_if (SW.pt (sw_and (st_notN (se_name (pv 0))) (sw_and1 (st_cmp (notInX_ok hu2) (se_name (pv 1)) (se_name (pv 0)))))) (sss_one (ss_ret (se_name (pv 4)))) sss_nil)
      (sss_one (ss_expr (se_append (pe_bm PySem.F.plainAttrs_list PySem.F.slot_list_append PySem.F.type_list_append mt_append (pv 4) (pa_cons pe_w pa_nil)) (se_tup 2 (sa_cons (se_name (pv 1)) (sa_cons (se_name (pv 2)) sa_nil)))))))))
      (sss_one (ss_ret (se_name (pv 4))))))
abbrev s_is_die : Stmt := topS 19
theorem sc_is_die : FnScope ["value"] ["value"] (defScope s_is_die) := ⟨rfl, rfl, rfl, by decide +kernel, rfl, by decide +kernel, by decide +kernel⟩
theorem ok_is_die (T : Tx mg K w) {f : Addr} {fd : FuncData} (Fd : Fun K "is_die" "is_die" s_is_die f fd) (d_fits_die : DefAt P w K mg base 3 "fits_die" 1 (spF K 1 F_fits_die)) : FnOk P w K mg base CX0 4 f fd ["value"] (spF K 1 F_is_die) :=
  def_ok' (fb := b_is_die) (ps := ["value"]) Fd sc_is_die rfl rfl fun cdv A outer s H E hr => by
    have hu0 := hr.units0
    have hu1 := hr.units
    have hu2 : (A.deeper (PyProof.Rows.envOfC "is_die" (defScope s_is_die) s.heap.objs.size f cdv)).units + 65 < cLine := by have := hr.un; omega
    exact (sss_one (ss_ret (se_call d_fits_die (hr.mono (by decide)) (by rfl) (sa_cons (se_name (pv 0)) sa_nil))))
abbrev s_die_after : Stmt := topS 20
theorem sc_die_after : FnScope ["die", "rolls"] ["die", "rolls"] (defScope s_die_after) := ⟨rfl, rfl, rfl, by decide +kernel, rfl, by decide +kernel, by decide +kernel⟩
theorem ok_die_after (T : Tx mg K w) {f : Addr} {fd : FuncData} (Fd : Fun K "die_after" "die_after" s_die_after f fd) (d_need_die : DefAt P w K mg base 4 "need_die" 1 (spF K 1 F_need_die)) (d_need_rolls : DefAt P w K mg base 2 "need_rolls" 1 (spF K 1 F_need_rolls)) (d_led : DefAt P w K mg base 2 "led" 4 (spF K 4 F_led)) : FnOk P w K mg base CX0 5 f fd ["die", "rolls"] (spF K 2 F_die_after) :=
  def_ok' (fb := b_die_after) (ps := ["die", "rolls"]) Fd sc_die_after rfl rfl fun cdv A outer s H E hr => by
    have hu0 := hr.units0
    have hu1 := hr.units
    have hu2 : (A.deeper (PyProof.Rows.envOfC "die_after" (defScope s_die_after) s.heap.objs.size f cdv)).units + 65 < cLine := by have := hr.un; omega
    exact (sss_cons (ss_expr (se_call d_need_die (hr.mono (by decide)) (by rfl) (sa_cons (se_name (pv 0)) sa_nil)))
      (sss_cons (ss_expr (se_call d_need_rolls (hr.mono (by decide)) (by rfl) (sa_cons (se_name (pv 1)) sa_nil)))
      (sss_one (ss_ret (se_ix (se_ix (se_call d_led (hr.mono (by decide)) (by rfl) (sa_cons se_non (sa_cons (se_tup 2 (sa_cons se_int (sa_cons se_int sa_nil))) (sa_cons (se_name (pv 0)) (sa_cons (se_name (pv 1)) sa_nil))))) (se_neg se_int)) se_int)))))
abbrev s__law_cup : Stmt := topS 22
theorem sc__law_cup : FnScope ["script", "cell"] ["script"] (defScope s__law_cup) := ⟨rfl, rfl, rfl, by decide +kernel, rfl, by decide +kernel, by decide +kernel⟩
theorem ok__law_cup (T : Tx mg K w) {f : Addr} {fd : FuncData} (Fd : Fun K "_law_cup" "_law_cup" s__law_cup f fd) : FnOk P w K mg base CX0 1 f fd ["script"] (spF K 1 F__law_cup) :=
  def_ok' (fb := b__law_cup) (ps := ["script"]) Fd sc__law_cup rfl rfl fun cdv A outer s H E hr => by
    have hu0 := hr.units0
    have hu1 := hr.units
    have hu2 : (A.deeper (PyProof.Rows.envOfC "_law_cup" (defScope s__law_cup) s.heap.objs.size f cdv)).units + 65 < cLine := by have := hr.un; omega
    exact (sss_cons (ss_set (i := 1) sc__law_cup.nd rfl (by first | exact Or.inl rfl | exact Or.inr rfl) (se_callB abs_ok (by rfl) T.b_abs (by decide +kernel) (se_ix (se_bin add_ok (se_callTy (listS_ok (by rfl)) (by rfl) T.b_list (by decide +kernel) (se_name (pv 0))) (se_lst 1 (sa_cons se_int sa_nil))) se_int)))
      (sss_one (ss_ret (se_lst 2 (sa_cons (se_if (st_cmp (geX_ok hu1) (se_name (pv 1)) (se_bin pow_ok se_int se_int)) (se_bin div_ok (se_name (pv 1)) se_int) se_int) (sa_cons (se_bin add_ok (se_bin mod_ok (se_callTy int_ok (by rfl) T.b_int (by decide +kernel) (se_bin add_ok (se_bin mul_ok (se_name (pv 1)) se_int) se_int)) se_int) se_int) sa_nil))))))
abbrev s__law_roll : Stmt := topS 23
theorem sc__law_roll : FnScope ["cup", "many", "found", "deep"] ["cup", "many"] (defScope s__law_roll) := ⟨rfl, rfl, rfl, by decide +kernel, rfl, by decide +kernel, by decide +kernel⟩
theorem ok__law_roll (T : Tx mg K w) {f : Addr} {fd : FuncData} (Fd : Fun K "_law_roll" "_law_roll" s__law_roll f fd) : FnOk P w K mg base CX0 1 f fd ["cup", "many"] (spC K 1 F__law_roll) :=
  defC_ok' (fb := b__law_roll) (ps := ["cup", "many"]) Fd sc__law_roll rfl rfl fun cdv A outer s H E hr => by
    have hu0 := hr.units0
    have hu1 := hr.units
    have hu2 : (A.deeper (PyProof.Rows.envOfC "_law_roll" (defScope s__law_roll) s.heap.objs.size f cdv)).units + 65 < cLine := by have := hr.un; omega
    exact (sss_cons (ss_if (st_cmp (gtX_ok hu1) (se_ix (se_name (pv 0)) se_int) se_int) (sss_cons (ss_set (i := 2) sc__law_roll.nd rfl (by first | exact Or.inl rfl | exact Or.inr rfl) (se_bin mod_ok (se_callTy int_ok (by rfl) T.b_int (by decide +kernel) (se_ix (se_name (pv 0)) se_int)) (se_name (pv 1))))
      (sss_cons (ss_sto (pv 0) se_int (se_bin div_ok (se_ix (se_name (pv 0)) se_int) (se_name (pv 1))))
      (sss_one (ss_ret (se_name (pv 2)))))) sss_nil)
      (sss_cons (ss_sto (pv 0) se_int (se_bin mod_ok (se_callTy int_ok (by rfl) T.b_int (by decide +kernel) (se_bin add_ok (se_bin mul_ok (se_ix (se_name (pv 0)) se_int) se_int) se_int)) se_int))
      (sss_cons (ss_set (i := 3) sc__law_roll.nd rfl (by first | exact Or.inl rfl | exact Or.inr rfl) (se_bin mod_ok (se_callTy int_ok (by rfl) T.b_int (by decide +kernel) (se_bin mul_ok (se_ix (se_name (pv 0)) se_int) (se_bin add_ok (se_ix (se_name (pv 0)) se_int) se_int))) se_int))
      (sss_one (ss_ret (se_bin mod_ok (se_callTy int_ok (by rfl) T.b_int (by decide +kernel) (se_bin div_ok (se_name (pv 3)) se_int)) (se_name (pv 1))))))))
abbrev s__law_some : Stmt := topS 24
theorem sc__law_some : FnScope ["cup", "things"] ["cup", "things"] (defScope s__law_some) := ⟨rfl, rfl, rfl, by decide +kernel, rfl, by decide +kernel, by decide +kernel⟩
theorem ok__law_some (T : Tx mg K w) {f : Addr} {fd : FuncData} (Fd : Fun K "_law_some" "_law_some" s__law_some f fd) (d__law_roll : DefAt P w K mg base 1 "_law_roll" 2 (spC K 1 F__law_roll)) : FnOk P w K mg base CX0 2 f fd ["cup", "things"] (spC K 1 F__law_some) :=
  defC_ok' (fb := b__law_some) (ps := ["cup", "things"]) Fd sc__law_some rfl rfl fun cdv A outer s H E hr => by
    have hu0 := hr.units0
    have hu1 := hr.units
    have hu2 : (A.deeper (PyProof.Rows.envOfC "_law_some" (defScope s__law_some) s.heap.objs.size f cdv)).units + 65 < cLine := by have := hr.un; omega
    exact (sss_one (ss_ret (se_ix (se_name (pv 1)) (se_callC (i := 0) d__law_roll (hr.mono (by decide)) (by rfl) (pv 0) (sa_cons (se_callB len_ok (by rfl) T.b_len (by decide +kernel) (se_name (pv 1))) sa_nil)))))
abbrev s__law_same : Stmt := topS 25
theorem sc__law_same : FnScope ["told", "due", "at"] ["told", "due"] (defScope s__law_same) := ⟨rfl, rfl, rfl, by decide +kernel, rfl, by decide +kernel, by decide +kernel⟩
theorem ok__law_same (T : Tx mg K w) {f : Addr} {fd : FuncData} (Fd : Fun K "_law_same" "_law_same" s__law_same f fd) (b1 : Binds K fd ["told", "due"] []) (gg : mg "_law_same" = some (.ref f)) : ∀ n : Nat, FnOk P w K mg base CX0 (0 + n) f fd ["told", "due"] (spF K 2 (F__law_same n))
  | 0 => ⟨fun vs H Q E h => (by obtain ⟨M, ds, r, e, _⟩ := h; cases e), fun A outer s H args us vs Q E hr e0 hb rv h => (by obtain ⟨M, ds, r, e, _⟩ := h; cases e)⟩
  | n + 1 => def_ok' (fb := b__law_same (F__law_same n)) (ps := ["told", "due"]) Fd sc__law_same rfl rfl fun cdv A outer s H E hr => by
    have hu0 := hr.units0
    have hu1 := hr.units
    have hu2 : (A.deeper (PyProof.Rows.envOfC "_law_same" (defScope s__law_same) s.heap.objs.size f cdv)).units + 65 < cLine := by have := hr.un; omega
    have d__law_same : DefAt P w K mg base (0 + n) "_law_same" 2 (spF K 2 (F__law_same n)) := ⟨f, fd, _, rfl, ok__law_same T Fd  b1 gg n, gg, Fd.kp, b1⟩
    exact (sss_cons (ss_if (st_val (se_isi .tuple (by rfl) T.b_isinstance (by rfl) T.b_tuple (by decide +kernel) (se_name (pv 1)))) (sss_cons (ss_if (SW.pt (sw_or (st_not (st_val (se_isi .tuple (by rfl) T.b_isinstance (by rfl) T.b_tuple (by decide +kernel) (se_name (pv 0))))) (sw_or1 (st_cmp (ne_ok hu1) (se_callB len_ok (by rfl) T.b_len (by decide +kernel) (se_name (pv 0))) (se_callB len_ok (by rfl) T.b_len (by decide +kernel) (se_name (pv 1))))))) (sss_one (ss_ret se_bl)) sss_nil)
      (sss_one (ss_ret (se_callB (all_ok rfl) (by rfl) T.b_all (by decide +kernel) (se_lc rfl sc__law_same.nd (si_range1 (by rfl) T.b_range (se_callB len_ok (by rfl) T.b_len (by decide +kernel) (se_name (pv 1)))) (blkOk_by (own := [("at", 2)]) (N := ["told", "due", "at"]) (sc := defScope s__law_same) (by decide +kernel)) (by decide) (fun _ _ _ _ _ => (sg_name (pg_name (i := 2) sc__law_same.nd rfl (by first | exact Or.inl rfl | exact Or.inr rfl)))) (fun _ _ _ _ _ => sts_nil) (fun _ _ _ _ _ => (se_call d__law_same hr (by rfl) (sa_cons (se_ix (se_name (pv 0)) (se_name (pv 2))) (sa_cons (se_ix (se_name (pv 1)) (se_name (pv 2))) sa_nil)))) (by rfl)))))) sss_nil)
      (sss_cons (ss_if (st_isN (se_name (pv 1))) (sss_one (ss_ret (se_isN (se_name (pv 0))))) sss_nil)
      (sss_cons (ss_if (st_val (se_isi .bool (by rfl) T.b_isinstance (by rfl) T.b_bool (by decide +kernel) (se_name (pv 1)))) (sss_one (ss_ret (se_if (st_val (se_name (pv 1))) (se_cmp isBl_ok (se_name (pv 0)) se_bl) (se_cmp isBl_ok (se_name (pv 0)) se_bl)))) sss_nil)
      (sss_cons (ss_if (st_val (se_isi .int (by rfl) T.b_isinstance (by rfl) T.b_int (by decide +kernel) (se_name (pv 1)))) (sss_one (ss_ret (se_and (se_isi .int (by rfl) T.b_isinstance (by rfl) T.b_int (by decide +kernel) (se_name (pv 0))) (se_and (se_notV (se_isi .bool (by rfl) T.b_isinstance (by rfl) T.b_bool (by decide +kernel) (se_name (pv 0)))) (se_last (se_cmp (eq_ok hu1) (se_callTy int_ok (by rfl) T.b_int (by decide +kernel) (se_name (pv 0))) (se_name (pv 1)))))))) sss_nil)
      (sss_one (ss_ret (se_and (se_isi .str (by rfl) T.b_isinstance (by rfl) T.b_str (by decide +kernel) (se_name (pv 0))) (se_last (se_cmp (eq_ok hu1) (se_callTy str_ok (by rfl) T.b_str (by decide +kernel) (se_name (pv 0))) (se_name (pv 1)))))))))))
abbrev s__law_rolled : Stmt := topS 26
theorem sc__law_rolled : FnScope ["die", "way", "right", "left", "up", "down", "top", "foot"] ["die", "way"] (defScope s__law_rolled) := ⟨rfl, rfl, rfl, by decide +kernel, rfl, by decide +kernel, by decide +kernel⟩
theorem ok__law_rolled (T : Tx mg K w) {f : Addr} {fd : FuncData} (Fd : Fun K "_law_rolled" "_law_rolled" s__law_rolled f fd) : FnOk P w K mg base CX0 1 f fd ["die", "way"] (spF K 2 F__law_rolled) :=
  def_ok' (fb := b__law_rolled) (ps := ["die", "way"]) Fd sc__law_rolled rfl rfl fun cdv A outer s H E hr => by
    have hu0 := hr.units0
    have hu1 := hr.units
    have hu2 : (A.deeper (PyProof.Rows.envOfC "_law_rolled" (defScope s__law_rolled) s.heap.objs.size f cdv)).units + 65 < cLine := by have := hr.un; omega
    exact (sss_cons (ss_asg (se_name (pv 0)) (sg_tup rfl (sgs_cons (sg_name (pg_name (i := 2) sc__law_rolled.nd rfl (by first | exact Or.inl rfl | exact Or.inr rfl))) (sgs_cons (sg_name (pg_name (i := 3) sc__law_rolled.nd rfl (by first | exact Or.inl rfl | exact Or.inr rfl))) (sgs_cons (sg_name (pg_name (i := 4) sc__law_rolled.nd rfl (by first | exact Or.inl rfl | exact Or.inr rfl))) (sgs_cons (sg_name (pg_name (i := 5) sc__law_rolled.nd rfl (by first | exact Or.inl rfl | exact Or.inr rfl))) (sgs_cons (sg_name (pg_name (i := 6) sc__law_rolled.nd rfl (by first | exact Or.inl rfl | exact Or.inr rfl))) (sgs_cons (sg_name (pg_name (i := 7) sc__law_rolled.nd rfl (by first | exact Or.inl rfl | exact Or.inr rfl))) sgs_nil)))))) (bs_len _ _ (bs_len _ _ (bs_len _ _ (bs_len _ _ (bs_len _ _ (bs_len _ _ bs_nil))))))))
      (sss_cons (ss_if (st_cmp (eq_ok hu1) (se_name (pv 1)) (se_str (s := [114]) (by decide +kernel))) (sss_one (ss_ret (se_tup 6 (sa_cons (se_name (pv 6)) (sa_cons (se_name (pv 7)) (sa_cons (se_name (pv 4)) (sa_cons (se_name (pv 5)) (sa_cons (se_name (pv 3)) (sa_cons (se_name (pv 2)) sa_nil))))))))) sss_nil)
      (sss_cons (ss_if (st_cmp (eq_ok hu1) (se_name (pv 1)) (se_str (s := [108]) (by decide +kernel))) (sss_one (ss_ret (se_tup 6 (sa_cons (se_name (pv 7)) (sa_cons (se_name (pv 6)) (sa_cons (se_name (pv 4)) (sa_cons (se_name (pv 5)) (sa_cons (se_name (pv 2)) (sa_cons (se_name (pv 3)) sa_nil))))))))) sss_nil)
      (sss_cons (ss_if (st_cmp (eq_ok hu1) (se_name (pv 1)) (se_str (s := [117]) (by decide +kernel))) (sss_one (ss_ret (se_tup 6 (sa_cons (se_name (pv 2)) (sa_cons (se_name (pv 3)) (sa_cons (se_name (pv 6)) (sa_cons (se_name (pv 7)) (sa_cons (se_name (pv 5)) (sa_cons (se_name (pv 4)) sa_nil))))))))) sss_nil)
      (sss_one (ss_ret (se_tup 6 (sa_cons (se_name (pv 2)) (sa_cons (se_name (pv 3)) (sa_cons (se_name (pv 7)) (sa_cons (se_name (pv 6)) (sa_cons (se_name (pv 4)) (sa_cons (se_name (pv 5)) sa_nil)))))))))))))
abbrev s__law_after : Stmt := topS 27
theorem sc__law_after : FnScope ["die", "rolls", "way"] ["die", "rolls"] (defScope s__law_after) := ⟨rfl, rfl, rfl, by decide +kernel, rfl, by decide +kernel, by decide +kernel⟩
theorem ok__law_after (T : Tx mg K w) {f : Addr} {fd : FuncData} (Fd : Fun K "_law_after" "_law_after" s__law_after f fd) (d__law_rolled : DefAt P w K mg base 1 "_law_rolled" 2 (spF K 2 F__law_rolled)) : FnOk P w K mg base CX0 2 f fd ["die", "rolls"] (spF K 2 F__law_after) :=
  def_ok' (fb := b__law_after) (ps := ["die", "rolls"]) Fd sc__law_after rfl rfl fun cdv A outer s H E hr => by
    have hu0 := hr.units0
    have hu1 := hr.units
    have hu2 : (A.deeper (PyProof.Rows.envOfC "_law_after" (defScope s__law_after) s.heap.objs.size f cdv)).units + 65 < cLine := by have := hr.un; omega
    exact (sss_cons (ss_for PySem.PassesOwn.never rfl (si_seq (se_name (pv 1))) (sg_name (pg_name (i := 2) sc__law_after.nd rfl (by first | exact Or.inl rfl | exact Or.inr rfl))) (sss_one (ss_set (i := 0) sc__law_after.nd rfl (by first | exact Or.inl rfl | exact Or.inr rfl) (se_call d__law_rolled (hr.mono (by decide)) (by rfl) (sa_cons (se_name (pv 0)) (sa_cons (se_name (pv 2)) sa_nil))))))
      (sss_one (ss_ret (se_name (pv 0)))))
abbrev s__law_orders : Stmt := topS 28
theorem sc__law_orders : FnScope ["marks", "found", "turn", "later", "row", "mark"] ["marks"] (defScope s__law_orders) := ⟨rfl, rfl, rfl, by decide +kernel, rfl, by decide +kernel, by decide +kernel⟩
theorem ok__law_orders (T : Tx mg K w) {f : Addr} {fd : FuncData} (Fd : Fun K "_law_orders" "_law_orders" s__law_orders f fd) : FnOk P w K mg base CX0 1 f fd ["marks"] (spF K 1 F__law_orders) :=
  def_ok' (fb := b__law_orders) (ps := ["marks"]) Fd sc__law_orders rfl rfl fun cdv A outer s H E hr => by
    have hu0 := hr.units0
    have hu1 := hr.units
    have hu2 : (A.deeper (PyProof.Rows.envOfC "_law_orders" (defScope s__law_orders) s.heap.objs.size f cdv)).units + 65 < cLine := by have := hr.un; omega
    exact (sss_cons (ss_set (i := 1) sc__law_orders.nd rfl (by first | exact Or.inl rfl | exact Or.inr rfl) (se_lst 1 (sa_cons se_tup0 sa_nil)))
      (sss_cons (ss_for PySem.PassesOwn.never rfl (si_seq (se_name (pv 0))) (sg_name (pg_name (i := 2) sc__law_orders.nd rfl (by first | exact Or.inl rfl | exact Or.inr rfl))) (sss_cons (ss_set (i := 3) sc__law_orders.nd rfl (by first | exact Or.inl rfl | exact Or.inr rfl) (se_lst 0 sa_nil))
      (sss_cons (ss_for PySem.PassesOwn.never rfl (si_seq (se_name (pv 1))) (sg_name (pg_name (i := 4) sc__law_orders.nd rfl (by first | exact Or.inl rfl | exact Or.inr rfl))) (sss_one (ss_expr (se_extend (pe_bm PySem.F.plainAttrs_list PySem.F.slot_list_extend PySem.F.type_list_extend mt_extend (pv 3) (pa_cons pe_w pa_nil)) (se_lc rfl sc__law_orders.nd (si_seq (se_name (pv 0))) (blkOk_by (own := [("mark", 5)]) (N := ["marks", "found", "turn", "later", "row", "mark"]) (sc := defScope s__law_orders) (by decide +kernel)) (by decide) (fun _ _ _ _ _ => (sg_name (pg_name (i := 5) sc__law_orders.nd rfl (by first | exact Or.inl rfl | exact Or.inr rfl)))) (fun _ _ _ _ _ => (sts_one (st_cmp (notInX_ok hu2) (se_name (pv 5)) (se_name (pv 4))))) (fun _ _ _ _ _ => (se_bin add_ok (se_name (pv 4)) (se_tup 1 (sa_cons (se_name (pv 5)) sa_nil)))) (by rfl))))))
      (sss_one (ss_set (i := 1) sc__law_orders.nd rfl (by first | exact Or.inl rfl | exact Or.inr rfl) (se_name (pv 3)))))))
      (sss_one (ss_ret (se_name (pv 1))))))
abbrev s__law_sense : Stmt := topS 29
theorem sc__law_sense : FnScope ["die", "axes", "flips", "turned", "at", "one", "other"] ["die"] (defScope s__law_sense) := ⟨rfl, rfl, rfl, by decide +kernel, rfl, by decide +kernel, by decide +kernel⟩
theorem ok__law_sense (T : Tx mg K w) {f : Addr} {fd : FuncData} (Fd : Fun K "_law_sense" "_law_sense" s__law_sense f fd) : FnOk P w K mg base CX0 1 f fd ["die"] (spF K 1 F__law_sense) :=
  def_ok' (fb := b__law_sense) (ps := ["die"]) Fd sc__law_sense rfl rfl fun cdv A outer s H E hr => by
    have hu0 := hr.units0
    have hu1 := hr.units
    have hu2 : (A.deeper (PyProof.Rows.envOfC "_law_sense" (defScope s__law_sense) s.heap.objs.size f cdv)).units + 65 < cLine := by have := hr.un; omega
    exact (sss_cons (ss_set (i := 1) sc__law_sense.nd rfl (by first | exact Or.inl rfl | exact Or.inr rfl) (se_lst 3 (sa_cons (se_callTy tuple_ok (by rfl) T.b_tuple (by decide +kernel) (se_callB (sortS_ok (by rfl) (lt12 hu2)) (by rfl) T.b_sorted (by decide +kernel) (se_slice (se_name (pv 0)) (sp_some se_int) (sp_some se_int)))) (sa_cons (se_callTy tuple_ok (by rfl) T.b_tuple (by decide +kernel) (se_callB (sortS_ok (by rfl) (lt12 hu2)) (by rfl) T.b_sorted (by decide +kernel) (se_slice (se_name (pv 0)) (sp_some se_int) (sp_some se_int)))) (sa_cons (se_callTy tuple_ok (by rfl) T.b_tuple (by decide +kernel) (se_callB (sortS_ok (by rfl) (lt12 hu2)) (by rfl) T.b_sorted (by decide +kernel) (se_slice (se_name (pv 0)) (sp_some se_int) (sp_some se_int)))) sa_nil)))))
      (sss_cons (ss_setLc (i := 2) rfl sc__law_sense.nd rfl rfl (sw_true rfl rfl rfl (by decide +kernel)) (si_range1 (by rfl) T.b_range se_int) (blkOk_by (own := [("at", 4)]) (N := ["die", "axes", "flips", "turned", "at", "one", "other"]) (sc := defScope s__law_sense) (by decide +kernel)) (by decide) (fun _ _ _ _ _ => (sg_name (pg_name (i := 4) sc__law_sense.nd rfl (by first | exact Or.inl rfl | exact Or.inr rfl)))) (fun _ _ _ _ _ => (sts_one (st_cmp (ne_ok hu1) (se_ix (se_name (pv 0)) (se_bin mul_ok se_int (se_name (pv 4)))) (se_ix (se_ix (se_name (pv 1)) (se_name (pv 4))) se_int)))) (fun _ _ _ _ _ => se_int) (by rfl))
      (sss_cons (ss_setLc (i := 3) rfl sc__law_sense.nd rfl rfl (sw_true rfl rfl rfl (by decide +kernel)) (si_seq (se_tup 3 (sa_cons (se_tup 2 (sa_cons se_int (sa_cons se_int sa_nil))) (sa_cons (se_tup 2 (sa_cons se_int (sa_cons se_int sa_nil))) (sa_cons (se_tup 2 (sa_cons se_int (sa_cons se_int sa_nil))) sa_nil))))) (blkOk_by (own := [("one", 5), ("other", 6)]) (N := ["die", "axes", "flips", "turned", "at", "one", "other"]) (sc := defScope s__law_sense) (by decide +kernel)) (by decide) (fun _ _ _ _ _ => (sg_tup rfl (sgs_cons (sg_name (pg_name (i := 5) sc__law_sense.nd rfl (by first | exact Or.inl rfl | exact Or.inr rfl))) (sgs_cons (sg_name (pg_name (i := 6) sc__law_sense.nd rfl (by first | exact Or.inl rfl | exact Or.inr rfl))) sgs_nil)) (bs_len _ _ (bs_len _ _ bs_nil)))) (fun _ _ _ _ _ => (sts_one (st_cmp (gtX_ok hu1) (se_ix (se_name (pv 1)) (se_name (pv 5))) (se_ix (se_name (pv 1)) (se_name (pv 6)))))) (fun _ _ _ _ _ => se_int) (by rfl))
      (sss_one (ss_ret (se_tup 2 (sa_cons (se_callB (sortS_ok (by rfl) (lt12 hu2)) (by rfl) T.b_sorted (by decide +kernel) (se_name (pv 1))) (sa_cons (se_bin mod_ok (se_callTy int_ok (by rfl) T.b_int (by decide +kernel) (se_bin add_ok (se_callB len_ok (by rfl) T.b_len (by decide +kernel) (se_name (pv 2))) (se_callB len_ok (by rfl) T.b_len (by decide +kernel) (se_name (pv 3))))) se_int) sa_nil))))))))
abbrev s__law_values_right : Stmt := topS 30
theorem sc__law_values_right : FnScope ["cup", "orders", "die", "odds", "at", "others", "own", "odd"] ["cup"] (defScope s__law_values_right) := ⟨rfl, rfl, rfl, by decide +kernel, rfl, by decide +kernel, by decide +kernel⟩
theorem ok__law_values_right (T : Tx mg K w) {f : Addr} {fd : FuncData} (Fd : Fun K "_law_values_right" "_law_values_right" s__law_values_right f fd) (d__law_orders : DefAt P w K mg base 1 "_law_orders" 1 (spF K 1 F__law_orders)) (d_is_die : DefAt P w K mg base 4 "is_die" 1 (spF K 1 F_is_die)) (d__law_some : DefAt P w K mg base 2 "_law_some" 2 (spC K 1 F__law_some)) : FnOk P w K mg base CX0 5 f fd ["cup"] (spC K 0 F__law_values_right) :=
  defC_ok' (fb := b__law_values_right) (ps := ["cup"]) Fd sc__law_values_right rfl rfl fun cdv A outer s H E hr => by
    have hu0 := hr.units0
    have hu1 := hr.units
    have hu2 : (A.deeper (PyProof.Rows.envOfC "_law_values_right" (defScope s__law_values_right) s.heap.objs.size f cdv)).units + 65 < cLine := by have := hr.un; omega
    exact (sss_cons (ss_set (i := 1) sc__law_values_right.nd rfl (by first | exact Or.inl rfl | exact Or.inr rfl) (se_call d__law_orders (hr.mono (by decide)) (by rfl) (sa_cons (se_tup 6 (sa_cons se_int (sa_cons se_int (sa_cons se_int (sa_cons se_int (sa_cons se_int (sa_cons se_int sa_nil))))))) sa_nil)))
      (sss_cons (ss_if (st_cmp (ne_ok hu1) (se_lc rfl sc__law_values_right.nd (si_seq (se_name (pv 1))) (blkOk_by (own := [("die", 2)]) (N := ["cup", "orders", "die", "odds", "at", "others", "own", "odd"]) (sc := defScope s__law_values_right) (by decide +kernel)) (by decide) (fun _ _ _ _ _ => (sg_name (pg_name (i := 2) sc__law_values_right.nd rfl (by first | exact Or.inl rfl | exact Or.inr rfl)))) (fun _ _ _ _ _ => (sts_one (st_cmp notBl_ok (se_call d_is_die (hr.mono (by decide)) (by rfl) (sa_cons (se_name (pv 2)) sa_nil)) se_bl))) (fun _ _ _ _ _ => (se_name (pv 2))) (by rfl)) (se_lst 0 sa_nil)) (sss_one (ss_ret se_bl)) sss_nil)
      (sss_cons (ss_set (i := 2) sc__law_values_right.nd rfl (by first | exact Or.inl rfl | exact Or.inr rfl) (se_callC (i := 0) d__law_some (hr.mono (by decide)) (by rfl) (pv 0) (sa_cons (se_name (pv 1)) sa_nil)))
      (sss_cons (ss_set (i := 3) sc__law_values_right.nd rfl (by first | exact Or.inl rfl | exact Or.inr rfl) (se_lst 8 (sa_cons (se_callTy (listS_ok (by rfl)) (by rfl) T.b_list (by decide +kernel) (se_name (pv 2))) (sa_cons (se_slice (se_name (pv 2)) sp_no (sp_some se_int)) (sa_cons (se_bin add_ok (se_name (pv 2)) (se_tup 1 (sa_cons se_int sa_nil))) (sa_cons (se_bin add_ok (se_name (pv 2)) (se_slice (se_name (pv 2)) sp_no (sp_some se_int))) (sa_cons se_non (sa_cons se_tup0 (sa_cons se_int (sa_cons (se_str (s := [49, 50, 51, 52, 53, 54]) (by decide +kernel)) sa_nil))))))))))
      (sss_cons (ss_for PySem.PassesOwn.never rfl (si_range1 (by rfl) T.b_range se_int) (sg_name (pg_name (i := 4) sc__law_values_right.nd rfl (by first | exact Or.inl rfl | exact Or.inr rfl))) (sss_cons (ss_set (i := 5) sc__law_values_right.nd rfl (by first | exact Or.inl rfl | exact Or.inr rfl) (se_tup 7 (sa_cons se_int (sa_cons se_int (sa_cons (se_ix (se_name (pv 2)) (se_bin sub_ok (se_name (pv 4)) se_int)) (sa_cons se_non (sa_cons (se_callTy str_ok (by rfl) T.b_str (by decide +kernel) (se_ix (se_name (pv 2)) (se_name (pv 4)))) (sa_cons (se_tup 1 (sa_cons (se_ix (se_name (pv 2)) (se_name (pv 4))) sa_nil)) (sa_cons se_bl sa_nil)))))))))
      (sss_one (ss_set (i := 3) sc__law_values_right.nd rfl (by first | exact Or.inl rfl | exact Or.inr rfl) (se_bin add_ok (se_name (pv 3)) (se_lc rfl sc__law_values_right.nd (si_seq (se_name (pv 5))) (blkOk_by (own := [("own", 6)]) (N := ["cup", "orders", "die", "odds", "at", "others", "own", "odd"]) (sc := defScope s__law_values_right) (by decide +kernel)) (by decide) (fun _ _ _ _ _ => (sg_name (pg_name (i := 6) sc__law_values_right.nd rfl (by first | exact Or.inl rfl | exact Or.inr rfl)))) (fun _ _ _ _ _ => (sts_one (SW.pt (sw_or (st_cmp (ne_ok hu1) (se_name (pv 6)) (se_ix (se_name (pv 2)) (se_name (pv 4)))) (sw_or1 (st_cmp isBl_ok (se_name (pv 6)) se_bl)))))) (fun _ _ _ _ _ => (se_bin add_ok (se_bin add_ok (se_slice (se_name (pv 2)) sp_no (sp_some (se_name (pv 4)))) (se_tup 1 (sa_cons (se_name (pv 6)) sa_nil))) (se_slice (se_name (pv 2)) (sp_some (se_bin add_ok (se_name (pv 4)) se_int)) sp_no))) (by rfl)))))))
      (sss_one (ss_ret (se_and (se_cmp (eq_ok hu1) (se_callB len_ok (by rfl) T.b_len (by decide +kernel) (se_name (pv 1))) se_int) (se_last (se_cmp (eq_ok hu1) (se_lc rfl sc__law_values_right.nd (si_seq (se_name (pv 3))) (blkOk_by (own := [("odd", 7)]) (N := ["cup", "orders", "die", "odds", "at", "others", "own", "odd"]) (sc := defScope s__law_values_right) (by decide +kernel)) (by decide) (fun _ _ _ _ _ => (sg_name (pg_name (i := 7) sc__law_values_right.nd rfl (by first | exact Or.inl rfl | exact Or.inr rfl)))) (fun _ _ _ _ _ => (sts_one (st_cmp notBl_ok (se_call d_is_die (hr.mono (by decide)) (by rfl) (sa_cons (se_name (pv 7)) sa_nil)) se_bl))) (fun _ _ _ _ _ => (se_name (pv 7))) (by rfl)) (se_lst 0 sa_nil)))))))))))
abbrev s__law_rolls_right : Stmt := topS 31
theorem sc__law_rolls_right : FnScope ["cup", "die", "rolls", "turn", "later", "row", "long", "at", "back", "late", "told", "way"] ["cup", "die"] (defScope s__law_rolls_right) := ⟨rfl, rfl, rfl, by decide +kernel, rfl, by decide +kernel, by decide +kernel⟩
theorem ok__law_rolls_right (T : Tx mg K w) {f : Addr} {fd : FuncData} (Fd : Fun K "_law_rolls_right" "_law_rolls_right" s__law_rolls_right f fd) (d__law_same : DefAt P w K mg base 3 "_law_same" 2 (spF K 2 (F__law_same 3))) (d__law_after : DefAt P w K mg base 2 "_law_after" 2 (spF K 2 F__law_after)) (d_die_after : DefAt P w K mg base 5 "die_after" 2 (spF K 2 F_die_after)) (d__law_some : DefAt P w K mg base 2 "_law_some" 2 (spC K 1 F__law_some)) (d__law_roll : DefAt P w K mg base 1 "_law_roll" 2 (spC K 1 F__law_roll)) (d__law_sense : DefAt P w K mg base 1 "_law_sense" 1 (spF K 1 F__law_sense)) : FnOk P w K mg base CX0 6 f fd ["cup", "die"] (spC K 1 F__law_rolls_right) :=
  defC_ok' (fb := b__law_rolls_right) (ps := ["cup", "die"]) Fd sc__law_rolls_right rfl rfl fun cdv A outer s H E hr => by
    have hu0 := hr.units0
    have hu1 := hr.units
    have hu2 : (A.deeper (PyProof.Rows.envOfC "_law_rolls_right" (defScope s__law_rolls_right) s.heap.objs.size f cdv)).units + 65 < cLine := by have := hr.un; omega
    exact (sss_cons (ss_set (i := 2) sc__law_rolls_right.nd rfl (by first | exact Or.inl rfl | exact Or.inr rfl) (se_lst 1 (sa_cons (se_str (s := []) (by decide +kernel)) sa_nil)))
      (sss_cons (ss_for PySem.PassesOwn.never rfl (si_range1 (by rfl) T.b_range se_int) (sg_name (pg_name (i := 3) sc__law_rolls_right.nd rfl (by first | exact Or.inl rfl | exact Or.inr rfl))) (sss_cons (ss_set (i := 4) sc__law_rolls_right.nd rfl (by first | exact Or.inl rfl | exact Or.inr rfl) (se_lst 0 sa_nil))
      (sss_cons (ss_for PySem.PassesOwn.never rfl (si_seq (se_name (pv 2))) (sg_name (pg_name (i := 5) sc__law_rolls_right.nd rfl (by first | exact Or.inl rfl | exact Or.inr rfl))) (sss_one (ss_expr (se_extend (pe_bm PySem.F.plainAttrs_list PySem.F.slot_list_extend PySem.F.type_list_extend mt_extend (pv 4) (pa_cons pe_w pa_nil)) (se_lc rfl sc__law_rolls_right.nd (si_seq (se_str (s := [100, 108, 114, 117]) (by decide +kernel))) (blkOk_by (own := [("way", 11)]) (N := ["cup", "die", "rolls", "turn", "later", "row", "long", "at", "back", "late", "told", "way"]) (sc := defScope s__law_rolls_right) (by decide +kernel)) (by decide) (fun _ _ _ _ _ => (sg_name (pg_name (i := 11) sc__law_rolls_right.nd rfl (by first | exact Or.inl rfl | exact Or.inr rfl)))) (fun _ _ _ _ _ => sts_nil) (fun _ _ _ _ _ => (se_bin add_ok (se_name (pv 5)) (se_name (pv 11)))) (by rfl))))))
      (sss_cons (ss_if (st_cmp (ne_ok hu1) (se_lc rfl sc__law_rolls_right.nd (si_seq (se_name (pv 4))) (blkOk_by (own := [("row", 5)]) (N := ["cup", "die", "rolls", "turn", "later", "row", "long", "at", "back", "late", "told", "way"]) (sc := defScope s__law_rolls_right) (by decide +kernel)) (by decide) (fun _ _ _ _ _ => (sg_name (pg_name (i := 5) sc__law_rolls_right.nd rfl (by first | exact Or.inl rfl | exact Or.inr rfl)))) (fun _ _ _ _ _ => (sts_one (st_not (st_val (se_call d__law_same (hr.mono (by decide)) (by rfl) (sa_cons (se_call d_die_after (hr.mono (by decide)) (by rfl) (sa_cons (se_name (pv 1)) (sa_cons (se_name (pv 5)) sa_nil))) (sa_cons (se_call d__law_after (hr.mono (by decide)) (by rfl) (sa_cons (se_name (pv 1)) (sa_cons (se_name (pv 5)) sa_nil))) sa_nil))))))) (fun _ _ _ _ _ => (se_name (pv 5))) (by rfl)) (se_lst 0 sa_nil)) (sss_one (ss_ret se_bl)) sss_nil)
      (sss_one (ss_set (i := 2) sc__law_rolls_right.nd rfl (by first | exact Or.inl rfl | exact Or.inr rfl) (se_name (pv 4))))))))
      (sss_cons (ss_if (st_cmp (ne_ok hu1) (se_lensetX (by rfl) (lt12 hu2) (by rfl) T.b_len (by rfl) T.b_set (se_bin add_ok (se_lc rfl sc__law_rolls_right.nd (si_seq (se_name (pv 2))) (blkOk_by (own := [("row", 5)]) (N := ["cup", "die", "rolls", "turn", "later", "row", "long", "at", "back", "late", "told", "way"]) (sc := defScope s__law_rolls_right) (by decide +kernel)) (by decide) (fun _ _ _ _ _ => (sg_name (pg_name (i := 5) sc__law_rolls_right.nd rfl (by first | exact Or.inl rfl | exact Or.inr rfl)))) (fun _ _ _ _ _ => sts_nil) (fun _ _ _ _ _ => (se_call d_die_after (hr.mono (by decide)) (by rfl) (sa_cons (se_name (pv 1)) (sa_cons (se_name (pv 5)) sa_nil)))) (by rfl)) (se_lc rfl sc__law_rolls_right.nd (si_seq (se_name (pv 2))) (blkOk_by (own := [("row", 5)]) (N := ["cup", "die", "rolls", "turn", "later", "row", "long", "at", "back", "late", "told", "way"]) (sc := defScope s__law_rolls_right) (by decide +kernel)) (by decide) (fun _ _ _ _ _ => (sg_name (pg_name (i := 5) sc__law_rolls_right.nd rfl (by first | exact Or.inl rfl | exact Or.inr rfl)))) (fun _ _ _ _ _ => sts_nil) (fun _ _ _ _ _ => (se_call d_die_after (hr.mono (by decide)) (by rfl) (sa_cons (se_name (pv 1)) (sa_cons (se_slice (se_name (pv 5)) (sp_some se_int) sp_no) sa_nil)))) (by rfl)))) se_int) (sss_one (ss_ret se_bl)) sss_nil)
      (sss_cons (ss_set (i := 6) sc__law_rolls_right.nd rfl (by first | exact Or.inl rfl | exact Or.inr rfl) (se_join (s := []) (by decide +kernel) (fun h => pe_join pe_str h) (se_lc rfl sc__law_rolls_right.nd (si_range1 (by rfl) T.b_range (se_callC (i := 0) d__law_some (hr.mono (by decide)) (by rfl) (pv 0) (sa_cons (se_lst 3 (sa_cons se_int (sa_cons se_int (sa_cons se_int sa_nil)))) sa_nil))) (blkOk_by (own := [("turn", 3)]) (N := ["cup", "die", "rolls", "turn", "later", "row", "long", "at", "back", "late", "told", "way"]) (sc := defScope s__law_rolls_right) (by decide +kernel)) (by decide) (fun _ _ _ _ _ => (sg_name (pg_name (i := 3) sc__law_rolls_right.nd rfl (by first | exact Or.inl rfl | exact Or.inr rfl)))) (fun _ _ _ _ _ => sts_nil) (fun _ _ _ _ _ => (se_callC (i := 0) d__law_some (hr.mono (by decide)) (by rfl) (pv 0) (sa_cons (se_str (s := [100, 108, 114, 117]) (by decide +kernel)) sa_nil))) (by rfl))))
      (sss_cons (ss_set (i := 7) sc__law_rolls_right.nd rfl (by first | exact Or.inl rfl | exact Or.inr rfl) (se_callC (i := 0) d__law_roll (hr.mono (by decide)) (by rfl) (pv 0) (sa_cons (se_bin add_ok (se_callB len_ok (by rfl) T.b_len (by decide +kernel) (se_name (pv 6))) se_int) sa_nil)))
      (sss_cons (ss_set (i := 8) sc__law_rolls_right.nd rfl (by first | exact Or.inl rfl | exact Or.inr rfl) (se_join (s := []) (by decide +kernel) (fun h => pe_join pe_str h) (se_lc rfl sc__law_rolls_right.nd (si_seq (se_revX (se_name (pv 6)))) (blkOk_by (own := [("way", 11)]) (N := ["cup", "die", "rolls", "turn", "later", "row", "long", "at", "back", "late", "told", "way"]) (sc := defScope s__law_rolls_right) (by decide +kernel)) (by decide) (fun _ _ _ _ _ => (sg_name (pg_name (i := 11) sc__law_rolls_right.nd rfl (by first | exact Or.inl rfl | exact Or.inr rfl)))) (fun _ _ _ _ _ => sts_nil) (fun _ _ _ _ _ => (se_dispIx (lt1 hu2) (dc_cons (s := [100]) (by decide +kernel) pe_str (cst_str [117]) (dc_cons (s := [117]) (by decide +kernel) pe_str (cst_str [100]) (dc_cons (s := [108]) (by decide +kernel) pe_str (cst_str [114]) (dc_cons (s := [114]) (by decide +kernel) pe_str (cst_str [108]) dc_nil)))) (by decide +kernel) (by decide) (se_name (pv 11)))) (by rfl))))
      (sss_cons (ss_set (i := 9) sc__law_rolls_right.nd rfl (by first | exact Or.inl rfl | exact Or.inr rfl) (se_call d_die_after (hr.mono (by decide)) (by rfl) (sa_cons (se_name (pv 1)) (sa_cons (se_name (pv 6)) sa_nil))))
      (sss_cons (ss_set (i := 10) sc__law_rolls_right.nd rfl (by first | exact Or.inl rfl | exact Or.inr rfl) (se_tup 3 (sa_cons (se_name (pv 9)) (sa_cons (se_call d_die_after (hr.mono (by decide)) (by rfl) (sa_cons (se_name (pv 9)) (sa_cons (se_name (pv 8)) sa_nil))) (sa_cons (se_call d_die_after (hr.mono (by decide)) (by rfl) (sa_cons (se_call d_die_after (hr.mono (by decide)) (by rfl) (sa_cons (se_name (pv 1)) (sa_cons (se_slice (se_name (pv 6)) sp_no (sp_some (se_name (pv 7)))) sa_nil))) (sa_cons (se_slice (se_name (pv 6)) (sp_some (se_name (pv 7))) sp_no) sa_nil))) sa_nil)))))
      (sss_one (ss_ret (se_and (se_call d__law_same (hr.mono (by decide)) (by rfl) (sa_cons (se_name (pv 10)) (sa_cons (se_tup 3 (sa_cons (se_call d__law_after (hr.mono (by decide)) (by rfl) (sa_cons (se_name (pv 1)) (sa_cons (se_name (pv 6)) sa_nil))) (sa_cons (se_name (pv 1)) (sa_cons (se_name (pv 9)) sa_nil)))) sa_nil))) (se_last (se_cmp (eq_ok hu1) (se_call d__law_sense (hr.mono (by decide)) (by rfl) (sa_cons (se_name (pv 9)) sa_nil)) (se_call d__law_sense (hr.mono (by decide)) (by rfl) (sa_cons (se_name (pv 1)) sa_nil)))))))))))))))
abbrev s_law : Stmt := topS 32
theorem sc_law : FnScope ["script", "cup", "die", "told", "due", "orders", "turn", "rolls", "own"] ["script"] (defScope s_law) := ⟨rfl, rfl, rfl, by decide +kernel, rfl, by decide +kernel, by decide +kernel⟩
theorem ok_law (T : Tx mg K w) {f : Addr} {fd : FuncData} (Fd : Fun K "law" "law" s_law f fd) (d__law_cup : DefAt P w K mg base 1 "_law_cup" 1 (spF K 1 F__law_cup)) (d_die_after : DefAt P w K mg base 5 "die_after" 2 (spF K 2 F_die_after)) (d_is_die : DefAt P w K mg base 4 "is_die" 1 (spF K 1 F_is_die)) (d__law_same : DefAt P w K mg base 3 "_law_same" 2 (spF K 2 (F__law_same 3))) (d__law_values_right : DefAt P w K mg base 5 "_law_values_right" 1 (spC K 0 F__law_values_right)) (d__law_orders : DefAt P w K mg base 1 "_law_orders" 1 (spF K 1 F__law_orders)) (d__law_rolls_right : DefAt P w K mg base 6 "_law_rolls_right" 2 (spC K 1 F__law_rolls_right)) (d__law_some : DefAt P w K mg base 2 "_law_some" 2 (spC K 1 F__law_some)) : FnOk P w K mg base CX0 7 f fd ["script"] (spF K 1 F_law) :=
  def_ok' (fb := b_law) (ps := ["script"]) Fd sc_law rfl rfl fun cdv A outer s H E hr => by
    have hu0 := hr.units0
    have hu1 := hr.units
    have hu2 : (A.deeper (PyProof.Rows.envOfC "law" (defScope s_law) s.heap.objs.size f cdv)).units + 65 < cLine := by have := hr.un; omega
    exact (sss_cons (ss_set (i := 1) sc_law.nd rfl (by first | exact Or.inl rfl | exact Or.inr rfl) (se_call d__law_cup (hr.mono (by decide)) (by rfl) (sa_cons (se_name (pv 0)) sa_nil)))
      (sss_cons (ss_set (i := 2) sc_law.nd rfl (by first | exact Or.inl rfl | exact Or.inr rfl) (se_tup 6 (sa_cons se_int (sa_cons se_int (sa_cons se_int (sa_cons se_int (sa_cons se_int (sa_cons se_int sa_nil))))))))
      (sss_cons (ss_set (i := 3) sc_law.nd rfl (by first | exact Or.inl rfl | exact Or.inr rfl) (se_callTy tuple_ok (by rfl) T.b_tuple (by decide +kernel) (se_lc rfl sc_law.nd (si_seq (se_tup 7 (sa_cons (se_str (s := []) (by decide +kernel)) (sa_cons (se_str (s := [114]) (by decide +kernel)) (sa_cons (se_str (s := [108]) (by decide +kernel)) (sa_cons (se_str (s := [117]) (by decide +kernel)) (sa_cons (se_str (s := [100]) (by decide +kernel)) (sa_cons (se_str (s := [114, 114, 114, 114]) (by decide +kernel)) (sa_cons (se_str (s := [114, 117, 108, 100]) (by decide +kernel)) sa_nil))))))))) (blkOk_by (own := [("rolls", 7)]) (N := ["script", "cup", "die", "told", "due", "orders", "turn", "rolls", "own"]) (sc := defScope s_law) (by decide +kernel)) (by decide) (fun _ _ _ _ _ => (sg_name (pg_name (i := 7) sc_law.nd rfl (by first | exact Or.inl rfl | exact Or.inr rfl)))) (fun _ _ _ _ _ => sts_nil) (fun _ _ _ _ _ => (se_call d_die_after (hr.mono (by decide)) (by rfl) (sa_cons (se_name (pv 2)) (sa_cons (se_name (pv 7)) sa_nil)))) (by rfl))))
      (sss_cons (ss_set (i := 4) sc_law.nd rfl (by first | exact Or.inl rfl | exact Or.inr rfl) (se_tup 7 (sa_cons (se_name (pv 2)) (sa_cons (se_tup 6 (sa_cons se_int (sa_cons se_int (sa_cons se_int (sa_cons se_int (sa_cons se_int (sa_cons se_int sa_nil))))))) (sa_cons (se_tup 6 (sa_cons se_int (sa_cons se_int (sa_cons se_int (sa_cons se_int (sa_cons se_int (sa_cons se_int sa_nil))))))) (sa_cons (se_tup 6 (sa_cons se_int (sa_cons se_int (sa_cons se_int (sa_cons se_int (sa_cons se_int (sa_cons se_int sa_nil))))))) (sa_cons (se_tup 6 (sa_cons se_int (sa_cons se_int (sa_cons se_int (sa_cons se_int (sa_cons se_int (sa_cons se_int sa_nil))))))) (sa_cons (se_name (pv 2)) (sa_cons (se_tup 6 (sa_cons se_int (sa_cons se_int (sa_cons se_int (sa_cons se_int (sa_cons se_int (sa_cons se_int sa_nil))))))) sa_nil)))))))))
      (sss_cons (ss_set (i := 3) sc_law.nd rfl (by first | exact Or.inl rfl | exact Or.inr rfl) (se_bin add_ok (se_name (pv 3)) (se_callTy tuple_ok (by rfl) T.b_tuple (by decide +kernel) (se_lc rfl sc_law.nd (si_seq (se_tup 3 (sa_cons (se_tup 6 (sa_cons se_int (sa_cons se_int (sa_cons se_int (sa_cons se_int (sa_cons se_int (sa_cons se_int sa_nil))))))) (sa_cons (se_tup 6 (sa_cons se_int (sa_cons se_int (sa_cons se_int (sa_cons se_int (sa_cons se_int (sa_cons se_int sa_nil))))))) (sa_cons (se_tup 6 (sa_cons se_bl (sa_cons se_int (sa_cons se_int (sa_cons se_int (sa_cons se_int (sa_cons se_int sa_nil))))))) sa_nil))))) (blkOk_by (own := [("own", 8)]) (N := ["script", "cup", "die", "told", "due", "orders", "turn", "rolls", "own"]) (sc := defScope s_law) (by decide +kernel)) (by decide) (fun _ _ _ _ _ => (sg_name (pg_name (i := 8) sc_law.nd rfl (by first | exact Or.inl rfl | exact Or.inr rfl)))) (fun _ _ _ _ _ => sts_nil) (fun _ _ _ _ _ => (se_call d_is_die (hr.mono (by decide)) (by rfl) (sa_cons (se_name (pv 8)) sa_nil))) (by rfl)))))
      (sss_cons (ss_if (st_not (st_val (se_call d__law_same (hr.mono (by decide)) (by rfl) (sa_cons (se_name (pv 3)) (sa_cons (se_bin add_ok (se_name (pv 4)) (se_tup 3 (sa_cons se_bl (sa_cons se_bl (sa_cons se_bl sa_nil))))) sa_nil))))) (sss_one (ss_ret se_bl)) sss_nil)
      (sss_cons (ss_if (SW.pt (sw_or (st_not (st_val (se_callC (i := 1) d__law_values_right (hr.mono (by decide)) (by rfl) (pv 1) sa_nil))) (sw_or1 (st_not (st_val (se_call d__law_same (hr.mono (by decide)) (by rfl) (sa_cons (se_call d_die_after (hr.mono (by decide)) (by rfl) (sa_cons (se_name (pv 2)) (sa_cons (se_bin add_ok (se_bin mul_ok (se_str (s := [117]) (by decide +kernel)) se_int) (se_str (s := [114]) (by decide +kernel))) sa_nil))) (sa_cons (se_tup 6 (sa_cons se_int (sa_cons se_int (sa_cons se_int (sa_cons se_int (sa_cons se_int (sa_cons se_int sa_nil))))))) sa_nil)))))))) (sss_one (ss_ret se_bl)) sss_nil)
      (sss_cons (ss_set (i := 5) sc_law.nd rfl (by first | exact Or.inl rfl | exact Or.inr rfl) (se_call d__law_orders (hr.mono (by decide)) (by rfl) (sa_cons (se_tup 6 (sa_cons se_int (sa_cons se_int (sa_cons se_int (sa_cons se_int (sa_cons se_int (sa_cons se_int sa_nil))))))) sa_nil)))
      (sss_cons (ss_for PySem.PassesOwn.never rfl (si_range1 (by rfl) T.b_range se_int) (sg_name (pg_name (i := 6) sc_law.nd rfl (by first | exact Or.inl rfl | exact Or.inr rfl))) (sss_one (ss_if (st_not (st_val (se_callC (i := 1) d__law_rolls_right (hr.mono (by decide)) (by rfl) (pv 1) (sa_cons (se_callC (i := 1) d__law_some (hr.mono (by decide)) (by rfl) (pv 1) (sa_cons (se_name (pv 5)) sa_nil)) sa_nil)))) (sss_one (ss_ret se_bl)) sss_nil)))
      (sss_one (ss_ret se_bl)))))))))))
end
end K04
end

section
set_option Elab.async false
set_option linter.all false
set_option maxRecDepth 100000
set_option maxHeartbeats 8000000
namespace K04
open PySem L2 Pu
def nf : D → Bool
  | .fz _ => false
  | _ => true
def intB : D → Bool
  | .int _ => true
  | _ => false
theorem f_is_whole {d : D} (h : nf d = true) : F_is_whole [d] = some (.im (.bl (intB d))) := by cases d <;> first | rfl | cases h
def wholeB (lo hi : Int) : D → Bool
  | .int i => decide (lo ≤ i) && decide (i ≤ hi)
  | _ => false
theorem f_fits_whole {d : D} (hd : nf d = true) (lo hi : Int) : F_fits_whole [d, .int lo, .int hi] = some (.im (.bl (wholeB lo hi d))) := by
  cases d with
  | int i => by_cases h : lo ≤ i <;> simp [runF, evRet, evSeq, evIfS, evNext, evSet, evAnd, evOr, evNot, evNotV, evB, evOrB, evAndB, evIf, evCall, evCons, evNil, toD, toO, evName, evC, ev1, ev2, evCh, Pu.settle, R.opd, Opd.look, Slot.look, Ow.d, F_fits_whole, b_fits_whole, f_is_whole hd, h, wholeB, intB]
  | fz _ => cases hd
  | _ => simp [runF, evRet, evSeq, evIfS, evNext, evSet, evAnd, evOr, evNot, evNotV, evB, evOrB, evAndB, evIf, evCall, evCons, evNil, toD, toO, evName, evC, ev1, ev2, evCh, Pu.settle, R.opd, Opd.look, Slot.look, Ow.d, F_fits_whole, b_fits_whole, f_is_whole hd, wholeB, intB]
def isTup (lo hi : Int) : D → Bool
  | .tup xs => decide (lo ≤ (xs.length : Int)) && decide ((xs.length : Int) ≤ hi)
  | _ => false
theorem f_is_tuple_of {d : D} (hd : nf d = true) (lo hi : Int) : F_is_tuple_of [d, .int lo, .int hi] = some (.im (.bl (isTup lo hi d))) := by
  cases d with
  | tup xs => by_cases h : lo ≤ (xs.length : Int) <;> simp [runF, evRet, evSeq, evIfS, evNext, evSet, evAnd, evOr, evNot, evNotV, evB, evOrB, evAndB, evIf, evCall, evCons, evNil, toD, toO, evName, evC, ev1, ev2, evCh, Pu.settle, R.opd, Opd.look, Slot.look, Ow.d, F_is_tuple_of, b_is_tuple_of, isiD, h, isTup]
  | fz _ => cases hd
  | _ => simp [runF, evRet, evSeq, evIfS, evNext, evSet, evAnd, evOr, evNot, evNotV, evB, evOrB, evAndB, evIf, evCall, evCons, evNil, toD, toO, evName, evC, ev1, ev2, evCh, Pu.settle, R.opd, Opd.look, Slot.look, Ow.d, F_is_tuple_of, b_is_tuple_of, isiD, isTup]
theorem bls_map (f : D → Bool) : ∀ xs : List D, blsOf (xs.map fun d => D.bl (f d)) = some (xs.map f)
  | [] => rfl
  | x :: xs => by
    rw [List.map_cons]
    unfold blsOf
    rw [bls_map f xs]
    rfl
def intV : D → Int
  | .int i => i
  | _ => 0
theorem wholeB_int {lo hi : Int} {d : D} (h : wholeB lo hi d = true) : d = .int (intV d) := by cases d <;> first | rfl | cases h
theorem intsOf_all : ∀ {xs : List D}, (∀ x ∈ xs, x = .int (intV x)) → intsOf xs = some (xs.map intV)
  | [], _ => rfl
  | x :: xs, h => by
    rw [h x List.mem_cons_self]
    unfold intsOf
    rw [intsOf_all fun y hy => h y (List.mem_cons_of_mem _ hy)]
    rfl
def dieB : D → Bool
  | .tup xs => decide (xs.length = 6) && xs.all (wholeB 1 6) && decide ((ddI (xs.map intV)).length = 6)
  | _ => false
theorem f_fits_die {d : D} (hd : nf d = true) (hx : ∀ xs, d = .tup xs → ∀ x ∈ xs, nf x = true) : F_fits_die [d] = some (.im (.bl (dieB d))) := by
  have ht := f_is_tuple_of hd 6 6
  cases d with
  | tup xs =>
    have hx := hx xs rfl
    have lc := evLc_map (fi := evIt (evName 0)) (b := btName 1) (c := evTrue) (f := evCall (evCons (evName 1) (evCons (evC (.int 1)) (evCons (evC (.int 6)) evNil))) F_fits_whole) (vs := [1])
      (g := [.im (.tup xs), .no]) (items := xs) (p := fun _ => true) (h := fun d => .bl (wholeB 1 6 d)) rfl rfl fun d hd' => ⟨[.im (.tup xs), .im d], rfl, rfl, fun _ => by
        simp [runF, evRet, evSeq, evIfS, evNext, evSet, evAnd, evOr, evNot, evNotV, evB, evOrB, evAndB, evIf, evCall, evCons, evNil, toD, toO, evName, evC, ev1, ev2, evCh, Pu.settle, R.opd, Opd.look, Slot.look, Ow.d, f_fits_whole (hx d hd')], rfl⟩
    rw [List.filter_eq_self.mpr fun _ _ => rfl] at lc
    simp [gw, grs] at lc
    have e3 : isTup 6 6 (.tup xs) = decide (xs.length = 6) := by
      rw [Bool.eq_iff_iff]
      simp [isTup]
      omega
    rw [e3] at ht
    by_cases h3 : xs.length = 6
    · cases ha : xs.all (wholeB 1 6) with
      | true =>
        have ei := intsOf_all fun x hx => wholeB_int (List.all_eq_true.mp ha x hx)
        have el : lensetX (.tup xs) = some (.im (.int (ddI (xs.map intV)).length)) := by
          unfold lensetX
          dsimp only
          rw [ei]
          dsimp only
          rw [if_pos (by rw [List.length_map]; omega)]
        have eq := eqD_int (ddI (xs.map intV)).length 6
        have e5 : decide (((ddI (xs.map intV)).length : Int) = 6) = decide ((ddI (xs.map intV)).length = 6) := by
          rw [Bool.eq_iff_iff, decide_eq_true_eq, decide_eq_true_eq]
          omega
        rw [e5] at eq
        simp [runF, evRet, evSeq, evIfS, evNext, evSet, evAnd, evOr, evNot, evNotV, evB, evOrB, evAndB, evIf, evCall, evCons, evNil, toD, toO, evName, evC, ev1, ev2, evCh, Pu.settle, R.opd, Opd.look, Slot.look, Ow.d, F_fits_die, b_fits_die, ht, h3, lc, allD, bls_map, Function.comp_def, ha, el, eq, dieB]
      | false => simp [runF, evRet, evSeq, evIfS, evNext, evSet, evAnd, evOr, evNot, evNotV, evB, evOrB, evAndB, evIf, evCall, evCons, evNil, toD, toO, evName, evC, ev1, ev2, evCh, Pu.settle, R.opd, Opd.look, Slot.look, Ow.d, F_fits_die, b_fits_die, ht, h3, lc, allD, bls_map, Function.comp_def, ha, dieB]
    · simp [runF, evRet, evSeq, evIfS, evNext, evSet, evAnd, evOr, evNot, evNotV, evB, evOrB, evAndB, evIf, evCall, evCons, evNil, toD, toO, evName, evC, ev1, ev2, evCh, Pu.settle, R.opd, Opd.look, Slot.look, Ow.d, F_fits_die, b_fits_die, ht, h3, dieB]
  | _ => first | (cases hd; done) | simp [runF, evRet, evSeq, evIfS, evNext, evSet, evAnd, evOr, evNot, evNotV, evB, evOrB, evAndB, evIf, evCall, evCons, evNil, toD, toO, evName, evC, ev1, ev2, evCh, Pu.settle, R.opd, Opd.look, Slot.look, Ow.d, F_fits_die, b_fits_die, ht, isTup, dieB]
theorem f_is_die {d : D} (hd : nf d = true) (hx : ∀ xs, d = .tup xs → ∀ x ∈ xs, nf x = true) : F_is_die [d] = some (.im (.bl (dieB d))) := by
  simp [runF, evRet, evSeq, evIfS, evNext, evSet, evAnd, evOr, evNot, evNotV, evB, evOrB, evAndB, evIf, evCall, evCons, evNil, toD, toO, evName, evC, ev1, ev2, evCh, Pu.settle, R.opd, Opd.look, Slot.look, Ow.d, F_is_die, b_is_die, f_fits_die hd hx]
/-- dice as numbers -/
def dieL (l : List Int) : Bool := dieB (vec l)
theorem nf_vec (l : List Int) : ∀ xs, vec l = .tup xs → ∀ x ∈ xs, nf x = true := fun xs e x hx => by
  unfold vec at e
  injection e with e
  subst e
  obtain ⟨i, _, rfl⟩ := List.mem_map.mp hx
  rfl
theorem need_die {l : List Int} (h : dieL l = true) : F_need_die [vec l] = some (.im .non) := by
  have h : dieB (vec l) = true := h
  simp [runF, evRet, evSeq, evIfS, evNext, evSet, evAnd, evOr, evNot, evNotV, evB, evOrB, evAndB, evIf, evCall, evCons, evNil, toD, toO, evName, evC, ev1, ev2, evCh, Pu.settle, R.opd, Opd.look, Slot.look, Ow.d, F_need_die, b_need_die, f_fits_die (d := vec l) rfl (nf_vec l), h]
def wayB (c : Nat) : Bool := c == 100 || c == 108 || c == 114 || c == 117
theorem inT_way {c : Nat} (h : wayB c = true) : inT tab_WAYS (.str [c]) = some (.im (.bl true)) := by
  unfold wayB at h
  simp only [Bool.or_eq_true, beq_iff_eq] at h
  rcases h with ((rfl | rfl) | rfl) | rfl <;> rfl
theorem need_rolls {s : List Nat} (hs : s.length ≤ 100) (hw : ∀ c ∈ s, wayB c = true) : F_need_rolls [.str s] = some (.im .non) := by
  have hl : lenD (.str s) = some (.im (.int s.length)) := by
    simp only [lenD]
    rw [if_pos (by rw [sz_eq]; omega)]
  have hi : itemsD (.str s) = some (s.map fun c => .str [c]) := by
    simp only [itemsD]
    rw [if_pos (by rw [sz_eq]; omega)]
  have h1 : (s.length : Int) ≤ 100 := by omega
  have lc := evLc_map (fi := evIt (evName 0)) (b := btName 1) (c := evTrue) (f := (ev1 (evName 1) (inT tab_WAYS))) (vs := [1])
    (g := [.im (.str s), .no]) (g1 := [.im (.str s), .no]) (items := s.map fun c => .str [c]) (p := fun _ => true) (h := fun _ => .bl true) (by simp [runF, evRet, evSeq, evIfS, evNext, evSet, evAnd, evOr, evNot, evNotV, evB, evOrB, evAndB, evIf, evCall, evCons, evNil, toD, toO, evName, evC, ev1, ev2, evCh, Pu.settle, R.opd, Opd.look, Slot.look, Ow.d, evIt, hi]) rfl fun d hd => by
      obtain ⟨c, hc, rfl⟩ := List.mem_map.mp hd
      exact ⟨[.im (.str s), .im (.str [c])], rfl, rfl, fun _ => by simp [runF, evRet, evSeq, evIfS, evNext, evSet, evAnd, evOr, evNot, evNotV, evB, evOrB, evAndB, evIf, evCall, evCons, evNil, toD, toO, evName, evC, ev1, ev2, evCh, Pu.settle, R.opd, Opd.look, Slot.look, Ow.d, inT_way (hw c hc)], rfl⟩
  rw [List.filter_eq_self.mpr fun _ _ => rfl] at lc
  simp only [gw, grs] at lc
  obtain ⟨bs, e1, e2⟩ := bls_all (xs := (s.map fun c => D.str [c]).map fun _ => D.bl true) fun x hx => by
    obtain ⟨_, _, rfl⟩ := List.mem_map.mp hx
    rfl
  generalize (s.map fun c => D.str [c]).map (fun _ => D.bl true) = L at lc e1
  have al : allD (.lst L) = some (.im (.bl true)) := by
    unfold allD
    dsimp only
    rw [e1]
    show some (R.im (.bl (bs.all id))) = _
    rw [e2]
  have ff : F_fits_rolls [.str s] = some (.im (.bl true)) := by
    simp [runF, evRet, evSeq, evIfS, evNext, evSet, evAnd, evOr, evNot, evNotV, evB, evOrB, evAndB, evIf, evCall, evCons, evNil, toD, toO, evName, evC, ev1, ev2, evCh, Pu.settle, R.opd, Opd.look, Slot.look, Ow.d, F_fits_rolls, b_fits_rolls, isiD, hl, h1, lc, al]
  simp [runF, evRet, evSeq, evIfS, evNext, evSet, evAnd, evOr, evNot, evNotV, evB, evOrB, evAndB, evIf, evCall, evCons, evNil, toD, toO, evName, evC, ev1, ev2, evCh, Pu.settle, R.opd, Opd.look, Slot.look, Ow.d, F_need_rolls, b_need_rolls, ff]
/-- a roll, by the marks' numbers -/
def rollL (l : List Int) (c : Nat) : List Int := match l with
  | [a, b, u, d, t, f] => if c == 114 then [t, f, u, d, b, a] else if c == 108 then [f, t, u, d, a, b] else if c == 117 then [a, b, t, f, d, u] else [a, b, f, t, u, d]
  | _ => l
def afterL (l : List Int) (s : List Nat) : List Int := s.foldl rollL l
theorem six {l : List Int} (h : l.length = 6) : ∃ a b c d e f, l = [a, b, c, d, e, f] := by
  match l, h with
  | [a, b, c, d, e, f], _ => exact ⟨a, b, c, d, e, f, rfl⟩
theorem rolled_run {l : List Int} (h : l.length = 6) {c : Nat} (hc : wayB c = true) : F_rolled [vec l, .str [c]] = some (.im (vec (rollL l c))) := by
  obtain ⟨a, b, u, d, t, f, rfl⟩ := six h
  unfold wayB at hc
  simp only [Bool.or_eq_true, beq_iff_eq] at hc
  rcases hc with ((rfl | rfl) | rfl) | rfl <;> rfl
theorem eqD_str1 {a c : Nat} (ha : a < 1114112) (hc : c < 1114112) : eqD (.str [a]) (.str [c]) = some (.im (.bl (Nat.beq a c))) := by
  unfold eqD
  rw [okP_str (by simp; exact ha), okP_str (by simp; exact hc), eqB_str1]
  rfl
theorem law_rolled_run {l : List Int} (h : l.length = 6) {c : Nat} (hc : wayB c = true) : F__law_rolled [vec l, .str [c]] = some (.im (vec (rollL l c))) := by
  obtain ⟨a, b, u, d, t, f, rfl⟩ := six h
  have e1 : ∀ k < 1114112, eqD (.str [c]) (.str [k]) = some (.im (.bl (Nat.beq c k))) := fun k hk => eqD_str1 (by
    unfold wayB at hc
    simp only [Bool.or_eq_true, beq_iff_eq] at hc
    omega) hk
  have e2 := e1 114 (by omega)
  have e3 := e1 108 (by omega)
  have e4 := e1 117 (by omega)
  unfold wayB at hc
  simp only [Bool.or_eq_true, beq_iff_eq] at hc
  rcases hc with ((rfl | rfl) | rfl) | rfl <;> simp [runF, evRet, evSeq, evIfS, evNext, evSet, evAnd, evOr, evNot, evNotV, evB, evOrB, evAndB, evIf, evCall, evCons, evNil, toD, toO, evName, evC, ev1, ev2, evCh, Pu.settle, R.opd, Opd.look, Slot.look, Ow.d, F__law_rolled, b__law_rolled, evAsg, btTup, btCons, btName, btNil, evTup, e2, e3, e4, vec, rollL]
theorem moved_run (a b : Int) {c : Nat} (hc : wayB c = true) : ∃ x y, F_moved [.tup [.int a, .int b], .str [c]] = some (.im (.tup [.int x, .int y])) := by
  unfold wayB at hc
  simp only [Bool.or_eq_true, beq_iff_eq] at hc
  rcases hc with ((rfl | rfl) | rfl) | rfl <;> exact ⟨_, _, rfl⟩
end K04
end

section
set_option Elab.async false
set_option linter.all false
set_option maxRecDepth 100000
set_option maxHeartbeats 8000000
namespace K04
open PySem L2 Pu
theorem roll_len {l : List Int} (h : l.length = 6) (c : Nat) : (rollL l c).length = 6 := by
  obtain ⟨a, b, u, d, t, f, rfl⟩ := six h
  unfold rollL
  dsimp only
  split
  · rfl
  · split
    · rfl
    · split <;> rfl
theorem after_len : ∀ (s : List Nat) {l : List Int}, l.length = 6 → (afterL l s).length = 6
  | [], _, h => h
  | c :: s, l, h => after_len s (roll_len h c)
theorem after_cons (l : List Int) (c : Nat) (s : List Nat) : afterL l (c :: s) = afterL (rollL l c) s := rfl
theorem after_app (l : List Int) (s t : List Nat) : afterL l (s ++ t) = afterL (afterL l s) t := List.foldl_append
/-! ### led -/
def ledB : EvS := (evSeq (evPar 1 2 (evCall (evCons (evName 1) (evCons (evName 5) evNil)) F_moved) (evCall (evCons (evName 2) (evCons (evName 5) evNil)) F_rolled))
  (evSeq (evIfS (evAndB (evB (ev1 (evName 0) notND)) (evB (ev2 (evName 1) (evName 0) notInX))) (evRet (evName 4)) evNext)
  (evX (evApp 4 (evTup (evCons (evName 1) (evCons (evName 2) evNil)))))))
theorem led_eq : F_led = runF (evSeq (evSet 4 (evLst (evCons (evTup (evCons (evName 1) (evCons (evName 2) evNil))) evNil))) (evSeq (evFor (evIt (evName 3)) (btName 5) ledB) (evRet (evName 4)))) 4 6 := rfl
theorem led_turn {sq0 : D} {x y : Int} {l : List Int} (h : l.length = 6) {c : Nat} (hc : wayB c = true) {xs : List D} (hx : xs.length ≤ 200) :
    ∃ x' y', ledB [.im .non, .im (.tup [.int x, .int y]), .im (vec l), sq0 |> Slot.im, .ow (false, .lst xs), .im (.str [c])] = some (.nx, [.im .non, .im (.tup [.int x', .int y']), .im (vec (rollL l c)), .im sq0, .ow (false, .lst (xs ++ [.tup [.tup [.int x', .int y'], vec (rollL l c)]])), .im (.str [c])]) := by
  obtain ⟨x', y', e1⟩ := moved_run x y hc
  have e2 := rolled_run h hc
  refine ⟨x', y', ?_⟩
  have hz : xs.length < sizeLine := by rw [sz_eq]; omega
  generalize vec (rollL l c) = z at e2 ⊢
  simp [runF, evRet, evSeq, evIfS, evNext, evSet, evAnd, evOr, evNot, evNotV, evB, evOrB, evAndB, evIf, evCall, evCons, evNil, toD, toO, evName, evC, ev1, ev2, evCh, Pu.settle, R.opd, Opd.look, Slot.look, Ow.d, ledB, evPar, stlR, putR, e1, e2, notND, evApp, evTup, evX, hz, evAndB]
theorem led_loop {sq0 : D} : ∀ (s : List Nat) {x y : Int} {l : List Int} {xs : List D} {t : Slot}, l.length = 6 → (∀ c ∈ s, wayB c = true) → xs.length + s.length ≤ 150 → (∃ p, xs.getLast? = some (.tup [p, vec l])) →
    ∃ g5 x' y' ys, runFor (btName 5) ledB (s.map fun c => .str [c]) [.im .non, .im (.tup [.int x, .int y]), .im (vec l), .im sq0, .ow (false, .lst xs), t] = some (.nx, [.im .non, .im (.tup [.int x', .int y']), .im (vec (afterL l s)), .im sq0, .ow (false, .lst ys), g5]) ∧ (∃ p, ys.getLast? = some (.tup [p, vec (afterL l s)])) ∧ ys.length = xs.length + s.length
  | [], x, y, l, xs, t, _, _, _, hl => ⟨t, x, y, xs, rfl, hl, rfl⟩
  | c :: s, x, y, l, xs, t, h, hw, hz, hl => by
    rw [List.length_cons] at hz
    obtain ⟨x1, y1, e1⟩ := led_turn (sq0 := sq0) (x := x) (y := y) h (hw c List.mem_cons_self) (xs := xs) (by omega)
    obtain ⟨g5, x', y', ys, e2, hl2, ll⟩ := led_loop (sq0 := sq0) s (x := x1) (y := y1) (l := rollL l c) (xs := xs ++ [.tup [.tup [.int x1, .int y1], vec (rollL l c)]]) (t := .im (.str [c])) (roll_len h c) (fun c' hc' => hw c' (List.mem_cons_of_mem _ hc'))
      (by rw [List.length_append, List.length_singleton]; omega) ⟨_, by rw [List.getLast?_append]; rfl⟩
    refine ⟨g5, x', y', ys, ?_, hl2, by rw [ll, List.length_append, List.length_singleton, List.length_cons]; omega⟩
    rw [List.map_cons, runFor_next (g1 := [.im .non, .im (.tup [.int x, .int y]), .im (vec l), .im sq0, .ow (false, .lst xs), .im (.str [c])]) rfl e1, e2]
    rfl
theorem itemsW {s : List Nat} (hs : s.length ≤ 100) : itemsD (.str s) = some (s.map fun c => .str [c]) := by
  simp only [itemsD]
  rw [if_pos (by rw [sz_eq]; omega)]
theorem led_run {l : List Int} (h : l.length = 6) {s : List Nat} (hs : s.length ≤ 100) (hw : ∀ c ∈ s, wayB c = true) : ∃ ys, F_led [.non, .tup [.int 0, .int 0], vec l, .str s] = some (.fr (.lst ys)) ∧ (∃ p, ys.getLast? = some (.tup [p, vec (afterL l s)])) ∧ ys.length = s.length + 1 := by
  obtain ⟨g5, x', y', ys, e, hl, ll⟩ := led_loop (sq0 := .str s) s (x := 0) (y := 0) (l := l) (xs := [.tup [.tup [.int 0, .int 0], vec l]]) (t := .no) h hw (by rw [List.length_singleton]; omega) ⟨_, rfl⟩
  refine ⟨ys, ?_, hl, by rw [ll, List.length_singleton]; omega⟩
  rw [led_eq]
  refine runF_fr (g := [.im .non, .im (.tup [.int x', .int y']), .im (vec (afterL l s)), .im (.str s), .no, g5]) rfl ?_
  show evSeq _ _ [.im .non, .im (.tup [.int 0, .int 0]), .im (vec l), .im (.str s), .no, .no] = _
  rw [evSeq_of (g' := [.im .non, .im (.tup [.int 0, .int 0]), .im (vec l), .im (.str s), .ow (false, .lst [.tup [.tup [.int 0, .int 0], vec l]]), .no]) rfl]
  rw [evSeq_of ((evFor_of (by simp [runF, evRet, evSeq, evIfS, evNext, evSet, evAnd, evOr, evNot, evNotV, evB, evOrB, evAndB, evIf, evCall, evCons, evNil, toD, toO, evName, evC, ev1, ev2, evCh, Pu.settle, R.opd, Opd.look, Slot.look, Ow.d, evIt, itemsW hs])).trans e)]
  rfl
theorem idx_last {ys : List D} {d : D} (h : ys.getLast? = some d) : idxD (.lst ys) (.int (-1)) = some (.im d) := by
  have hp : 0 < ys.length := by
    cases ys with
    | nil => cases h
    | cons y ys => rw [List.length_cons]; omega
  have e : atI ys (-1) = some d := by
    unfold atI ixN
    rw [if_neg (by omega), if_pos (by omega)]
    rw [List.getLast?_eq_getElem?] at h
    rw [← h]
    show ys[((ys.length : Int) + -1).toNat]? = _
    congr 1
    omega
  simp only [idxD]
  rw [e]
  rfl
theorem die_len {l : List Int} (h : dieL l = true) : l.length = 6 := by
  unfold dieL dieB vec at h
  dsimp only at h
  rw [Bool.and_eq_true, Bool.and_eq_true, decide_eq_true_eq, List.length_map] at h
  exact h.1.1
theorem die_after_run {l : List Int} (h : dieL l = true) {s : List Nat} (hs : s.length ≤ 100) (hw : ∀ c ∈ s, wayB c = true) : F_die_after [vec l, .str s] = some (.im (vec (afterL l s))) := by
  obtain ⟨ys, e, ⟨p, hl⟩, _⟩ := led_run (die_len h) hs hw
  have e1 := need_die h
  have e2 := need_rolls hs hw
  have e3 := idx_last hl
  have e4 : idxD (.tup [p, vec (afterL l s)]) (.int 1) = some (.im (vec (afterL l s))) := rfl
  generalize vec l = z at e e1 ⊢
  simp [runF, evRet, evSeq, evIfS, evNext, evSet, evAnd, evOr, evNot, evNotV, evB, evOrB, evAndB, evIf, evCall, evCons, evNil, toD, toO, evName, evC, ev1, ev2, evCh, Pu.settle, R.opd, Opd.look, Slot.look, Ow.d, F_die_after, b_die_after, evX, e1, e2, evTup, e, e3, e4]
theorem law_after_run {s : List Nat} (hs : s.length ≤ 100) (hw : ∀ c ∈ s, wayB c = true) {l : List Int} (h : l.length = 6) : F__law_after [vec l, .str s] = some (.im (vec (afterL l s))) := by
  have key : ∀ (t : List Nat) (l : List Int) (g : Slot), l.length = 6 → (∀ c ∈ t, wayB c = true) → ∃ g2, runFor (btName 2) (evSet 0 (evCall (evCons (evName 0) (evCons (evName 2) evNil)) F__law_rolled)) (t.map fun c => .str [c]) [.im (vec l), .im (.str s), g] = some (.nx, [.im (vec (afterL l t)), .im (.str s), g2]) := fun t => by
    induction t with
    | nil => exact fun l g _ _ => ⟨g, rfl⟩
    | cons c t ih =>
      intro l g h hw
      obtain ⟨g2, e⟩ := ih (rollL l c) (.im (.str [c])) (roll_len h c) fun c' hc' => hw c' (List.mem_cons_of_mem _ hc')
      have e1 := law_rolled_run h (hw c List.mem_cons_self)
      refine ⟨g2, ?_⟩
      rw [List.map_cons, runFor_next (g1 := [.im (vec l), .im (.str s), .im (.str [c])]) rfl (by simp [runF, evRet, evSeq, evIfS, evNext, evSet, evAnd, evOr, evNot, evNotV, evB, evOrB, evAndB, evIf, evCall, evCons, evNil, toD, toO, evName, evC, ev1, ev2, evCh, Pu.settle, R.opd, Opd.look, Slot.look, Ow.d, e1]; rfl), e]
      rfl
  obtain ⟨g2, e⟩ := key s l .no h hw
  refine runF_im (g := [.im (vec (afterL l s)), .im (.str s), g2]) rfl ?_
  show evSeq _ _ [.im (vec l), .im (.str s), .no] = _
  rw [evSeq_of ((evFor_of (by simp [runF, evRet, evSeq, evIfS, evNext, evSet, evAnd, evOr, evNot, evNotV, evB, evOrB, evAndB, evIf, evCall, evCons, evNil, toD, toO, evName, evC, ev1, ev2, evCh, Pu.settle, R.opd, Opd.look, Slot.look, Ow.d, evIt, itemsW hs])).trans e)]
  rfl
theorem same_eq : ∀ n, F__law_same n = sameF n
  | 0 => rfl
  | n + 1 => by
    unfold F__law_same sameF
    rw [same_eq n]
    rfl
theorem smOk_vec (n : Nat) {l : List Int} (h : l.length ≤ 1000) : smOk (n + 2) (vec l) = true := by
  unfold vec smOk
  rw [Bool.and_eq_true, decide_eq_true_eq, List.length_map, List.all_eq_true]
  refine ⟨by omega, fun x hx => ?_⟩
  obtain ⟨i, _, rfl⟩ := List.mem_map.mp hx
  rfl
theorem same_vec {l : List Int} (h : l.length ≤ 1000) : F__law_same 3 [vec l, vec l] = some (.im (.bl true)) := by
  rw [same_eq]
  exact same_self 3 _ (smOk_vec 1 h)
/-! ### dice stay dice -/
theorem ddI_six {l m : List Int} (h : ∀ x, x ∈ l ↔ x ∈ m) : (ddI l).length = (ddI m).length :=
  ((List.perm_ext_iff_of_nodup (nodup_ddI l) (nodup_ddI m)).mpr fun x => by rw [mem_ddI, mem_ddI]; exact h x).length_eq
theorem roll_mem {l : List Int} (h : l.length = 6) (c : Nat) (x : Int) : x ∈ rollL l c ↔ x ∈ l := by
  obtain ⟨a, b, u, d, t, f, rfl⟩ := six h
  unfold rollL
  dsimp only
  split
  · simp only [List.mem_cons, List.not_mem_nil, or_false]
    constructor <;> (intro h; rcases h with h | h | h | h | h | h <;> simp [h])
  · split
    · simp only [List.mem_cons, List.not_mem_nil, or_false]
      constructor <;> (intro h; rcases h with h | h | h | h | h | h <;> simp [h])
    · split
      · simp only [List.mem_cons, List.not_mem_nil, or_false]
        constructor <;> (intro h; rcases h with h | h | h | h | h | h <;> simp [h])
      · simp only [List.mem_cons, List.not_mem_nil, or_false]
        constructor <;> (intro h; rcases h with h | h | h | h | h | h <;> simp [h])
theorem die_iff {l : List Int} : dieL l = true ↔ l.length = 6 ∧ (∀ x ∈ l, 1 ≤ x ∧ x ≤ 6) ∧ (ddI l).length = 6 := by
  unfold dieL dieB vec
  dsimp only
  rw [Bool.and_eq_true, Bool.and_eq_true, decide_eq_true_eq, decide_eq_true_eq, List.length_map, List.map_map, List.all_eq_true]
  have e : l.map (intV ∘ D.int) = l := List.map_id'' (fun _ => rfl) l
  rw [e]
  constructor
  · rintro ⟨⟨h1, h2⟩, h3⟩
    refine ⟨h1, fun x hx => ?_, h3⟩
    have := h2 (.int x) (List.mem_map.mpr ⟨x, hx, rfl⟩)
    simpa [wholeB] using this
  · rintro ⟨h1, h2, h3⟩
    refine ⟨⟨h1, fun x hx => ?_⟩, h3⟩
    obtain ⟨i, hi, rfl⟩ := List.mem_map.mp hx
    simpa [wholeB] using h2 i hi
theorem die_roll {l : List Int} (h : dieL l = true) (c : Nat) : dieL (rollL l c) = true := by
  have hl := die_len h
  rw [die_iff] at h ⊢
  exact ⟨roll_len hl c, fun x hx => h.2.1 x ((roll_mem hl c x).mp hx), by rw [ddI_six (roll_mem hl c)]; exact h.2.2⟩
theorem die_after_die : ∀ (s : List Nat) {l : List Int}, dieL l = true → dieL (afterL l s) = true
  | [], _, h => h
  | c :: s, l, h => die_after_die s (die_roll h c)
/-! ### back again -/
def opp (c : Nat) : Nat := if c == 100 then 117 else if c == 117 then 100 else if c == 108 then 114 else 108
theorem opp_way (c : Nat) : wayB (opp c) = true := by
  unfold opp
  split
  · rfl
  · split
    · rfl
    · split <;> rfl
theorem roll_opp {l : List Int} (h : l.length = 6) {c : Nat} (hc : wayB c = true) : rollL (rollL l c) (opp c) = l := by
  obtain ⟨a, b, u, d, t, f, rfl⟩ := six h
  unfold wayB at hc
  simp only [Bool.or_eq_true, beq_iff_eq] at hc
  rcases hc with ((rfl | rfl) | rfl) | rfl <;> rfl
theorem after_back : ∀ (s : List Nat) {l : List Int}, l.length = 6 → (∀ c ∈ s, wayB c = true) → afterL (afterL l s) (s.reverse.map opp) = l
  | [], _, _, _ => rfl
  | c :: s, l, h, hw => by
    rw [List.reverse_cons, List.map_append, after_app, after_cons, after_back s (roll_len h c) fun c' hc' => hw c' (List.mem_cons_of_mem _ hc')]
    exact roll_opp h (hw c List.mem_cons_self)
end K04
end

section
set_option Elab.async false
set_option linter.all false
set_option maxRecDepth 100000
set_option maxHeartbeats 8000000
namespace K04
open PySem L2 Pu
/-! ### all orders -/
def memI (m : Int) (row : List Int) : Bool := row.any fun x => decide (x = m)
def stepO (M : List Int) (rows : List (List Int)) : List (List Int) := rows.flatMap fun row => (M.filter fun m => !memI m row).map fun m => row ++ [m]
theorem eqB_int (a b : Int) : eqB (.int a) (.int b) = decide (a = b) := by
  rw [Bool.eq_iff_iff, eqB_iff rfl rfl, decide_eq_true_eq]
  simp
theorem okP_vec (l : List Int) : okP (vec l) = true := okP_of (okN_vec l) (by omega)
theorem okP_int (i : Int) : okP (.int i) = true := okP_of (okN_int i) (by omega)
theorem notIn_vec (m : Int) (row : List Int) : notInX (.int m) (vec row) = some (.im (.bl (!memI m row))) := by
  have h : notInX (.int m) (vec row) = if okP (.int m) && okP (vec row) then some (R.im (.bl (!(row.map D.int).any fun z => eqB z (.int m)))) else none := rfl
  rw [h, okP_int, okP_vec, List.any_map]
  simp only [Bool.and_self, if_true, memI, Function.comp_def, eqB_int]
theorem add_vec {l m : List Int} (h : l.length + m.length ≤ 1000) : addD (vec l) (vec m) = some (.im (vec (l ++ m))) := by
  unfold vec
  rw [addT (by rw [List.length_map, List.length_map]; omega), List.map_append]
def ordIn : EvS := (evX (evExt 3 (evLc (evIt (evName 0)) (btName 5) (evB (ev2 (evName 5) (evName 4) notInX)) (ev2 (evName 4) (evTup (evCons (evName 5) evNil)) addD) [5])))
def ordBody : EvS := (evSeq (evSet 3 (evLst evNil)) (evSeq (evFor (evIt (evName 1)) (btName 4) ordIn) (evSet 1 (evName 3))))
theorem orders_eq : F__law_orders = runF (evSeq (evSet 1 (evLst (evCons (evC (.tup [])) evNil))) (evSeq (evFor (evIt (evName 0)) (btName 2) ordBody) (evRet (evName 1)))) 1 6 := rfl
def intV' (d : D) : Int := intV d
theorem ord_in {M : List Int} {f1 t2 : Slot} (hM : M.length ≤ 6) {row : List Int} (hr : row.length ≤ 100) {acc : List D} (ha : acc.length ≤ 1000000) :
    ordIn [.im (vec M), f1, t2, .ow (false, .lst acc), .im (vec row), .no] = some (.nx, [.im (vec M), f1, t2, .ow (false, .lst (acc ++ (stepO M [row]).map vec)), .im (vec row), .no]) := by
  have lc := evLc_map (fi := evIt (evName 0)) (b := btName 5) (c := (evB (ev2 (evName 5) (evName 4) notInX))) (f := (ev2 (evName 4) (evTup (evCons (evName 5) evNil)) addD)) (vs := [5])
    (g := [.im (vec M), f1, t2, .ow (false, .lst acc), .im (vec row), .no]) (g1 := [.im (vec M), f1, t2, .ow (false, .lst acc), .im (vec row), .no]) (items := M.map D.int) (p := fun d => !memI (intV d) row) (h := fun d => vec (row ++ [intV d])) rfl rfl fun d hd => by
      obtain ⟨m, _, rfl⟩ := List.mem_map.mp hd
      have e1 := notIn_vec m row
      have e2 : addD (vec row) (.tup [.int m]) = some (.im (vec (row ++ [m]))) := add_vec (l := row) (m := [m]) (by rw [List.length_singleton]; omega)
      refine ⟨[.im (vec M), f1, t2, .ow (false, .lst acc), .im (vec row), .im (.int m)], rfl, ?_, fun _ => ?_, rfl⟩
      · simp [runF, evRet, evSeq, evIfS, evNext, evSet, evAnd, evOr, evNot, evNotV, evB, evOrB, evAndB, evIf, evCall, evCons, evNil, toD, toO, evName, evC, ev1, ev2, evCh, Pu.settle, R.opd, Opd.look, Slot.look, Ow.d, e1, intV]
      · generalize vec row = z at e2 ⊢
        simp [runF, evRet, evSeq, evIfS, evNext, evSet, evAnd, evOr, evNot, evNotV, evB, evOrB, evAndB, evIf, evCall, evCons, evNil, toD, toO, evName, evC, ev1, ev2, evCh, Pu.settle, R.opd, Opd.look, Slot.look, Ow.d, evTup, e2, intV]
  simp only [gw, grs] at lc
  have el : ((M.map D.int).filter fun d => !memI (intV d) row).map (fun d => vec (row ++ [intV d])) = (stepO M [row]).map vec := by
    unfold stepO
    rw [List.flatMap_cons, List.flatMap_nil, List.append_nil, List.map_map, List.filter_map, List.map_map]
    rfl
  rw [el] at lc
  have hl : ((stepO M [row]).map vec).length ≤ 6 := by
    rw [← el, List.length_map]
    exact Nat.le_trans (List.length_filter_le _ _) (by rw [List.length_map]; exact hM)
  generalize (stepO M [row]).map vec = ys at lc hl ⊢
  unfold ordIn
  have : ∀ F : EvE, F [.im (vec M), f1, t2, .ow (false, .lst acc), .im (vec row), .no] = some (.fr (.lst ys), [.im (vec M), f1, t2, .ow (false, .lst acc), .im (vec row), .no]) → evX (evExt 3 F) [.im (vec M), f1, t2, .ow (false, .lst acc), .im (vec row), .no] = some (.nx, [.im (vec M), f1, t2, .ow (false, .lst (acc ++ ys)), .im (vec row), .no]) := fun F e => by
    simp [evX, evExt, runF, evRet, evSeq, evIfS, evNext, evSet, evAnd, evOr, evNot, evNotV, evB, evOrB, evAndB, evIf, evCall, evCons, evNil, toD, toO, evName, evC, ev1, ev2, evCh, Pu.settle, R.opd, Opd.look, Slot.look, Ow.d, e, sz_eq]
    rw [if_pos (by omega)]
  exact this _ lc
theorem step_len (M : List Int) (hM : M.length ≤ 6) : ∀ rows : List (List Int), (stepO M rows).length ≤ 6 * rows.length
  | [] => Nat.le_refl _
  | row :: rows => by
    have ih := step_len M hM rows
    have e : stepO M (row :: rows) = ((M.filter fun m => !memI m row).map fun m => row ++ [m]) ++ stepO M rows := rfl
    have h1 := List.length_filter_le (fun m => !memI m row) M
    rw [e, List.length_append, List.length_map, List.length_cons]
    omega
theorem step_cons (M : List Int) (row : List Int) (rows : List (List Int)) : stepO M (row :: rows) = stepO M [row] ++ stepO M rows := by
  unfold stepO
  rw [List.flatMap_cons, List.flatMap_cons, List.flatMap_nil, List.append_nil]
theorem step_row {M : List Int} {n : Nat} {rows : List (List Int)} (h : ∀ r ∈ rows, r.length ≤ n) : ∀ r ∈ stepO M rows, r.length ≤ n + 1 := fun r hr => by
  obtain ⟨row, h1, h2⟩ := List.mem_flatMap.mp hr
  obtain ⟨m, _, rfl⟩ := List.mem_map.mp h2
  have := h row h1
  rw [List.length_append, List.length_singleton]
  omega
theorem ord_rows {M : List Int} {f1 t2 : Slot} (hM : M.length ≤ 6) : ∀ (rows : List (List Int)) {acc : List D} {s4 : Slot}, (∀ r ∈ rows, r.length ≤ 100) → acc.length + 6 * rows.length ≤ 1000000 →
    ∃ s4', runFor (btName 4) ordIn (rows.map vec) [.im (vec M), f1, t2, .ow (false, .lst acc), s4, .no] = some (.nx, [.im (vec M), f1, t2, .ow (false, .lst (acc ++ (stepO M rows).map vec)), s4', .no])
  | [], acc, s4, _, _ => ⟨s4, by simp [runFor, stepO]⟩
  | row :: rows, acc, s4, hr, hz => by
    rw [List.length_cons] at hz
    have e1 := ord_in (f1 := f1) (t2 := t2) hM (hr row List.mem_cons_self) (acc := acc) (by omega)
    have l1 := step_len M hM [row]
    rw [List.length_singleton] at l1
    obtain ⟨s4', e2⟩ := ord_rows hM (f1 := f1) (t2 := t2) rows (acc := acc ++ (stepO M [row]).map vec) (s4 := .im (vec row)) (fun r h => hr r (List.mem_cons_of_mem _ h)) (by rw [List.length_append, List.length_map]; omega)
    refine ⟨s4', ?_⟩
    rw [List.map_cons, runFor_next (g1 := [.im (vec M), f1, t2, .ow (false, .lst acc), .im (vec row), .no]) rfl e1, e2, step_cons M row rows, List.map_append, List.append_assoc]
def iterO (M : List Int) : List Int → List (List Int) → List (List Int)
  | [], rows => rows
  | _ :: ms, rows => iterO M ms (stepO M rows)
theorem ord_turn {M : List Int} (hM : M.length ≤ 6) {rows : List (List Int)} (hr : ∀ r ∈ rows, r.length ≤ 100) (hz : 6 * rows.length ≤ 1000000) {f1 t2 s3 s4 : Slot} (hf : f1 = .ow (false, .lst (rows.map vec)) ∨ f1 = .im (.lst (rows.map vec))) :
    ∃ s3' s4', ordBody [.im (vec M), f1, t2, s3, s4, .no] = some (.nx, [.im (vec M), .im (.lst ((stepO M rows).map vec)), t2, s3', s4', .no]) := by
  obtain ⟨s4', e⟩ := ord_rows (f1 := .im (.lst (rows.map vec))) (t2 := t2) hM rows (acc := []) (s4 := s4) hr (by simpa using hz)
  refine ⟨.im (.lst ((stepO M rows).map vec)), s4', ?_⟩
  unfold ordBody
  rw [evSeq_of (g' := [.im (vec M), f1, t2, .ow (false, .lst []), s4, .no]) rfl]
  rw [evSeq_of ((evFor_of (g1 := [.im (vec M), .im (.lst (rows.map vec)), t2, .ow (false, .lst []), s4, .no]) (ds := rows.map vec) (by rcases hf with rfl | rfl <;> rfl)).trans e)]
  rfl
theorem ord_loop {M : List Int} (hM : M.length ≤ 6) : ∀ (ms : List Int) {rows : List (List Int)} {n : Nat} {f1 t2 s3 s4 : Slot}, (∀ r ∈ rows, r.length ≤ n) → n + ms.length ≤ 50 → rows.length * 6 ^ ms.length ≤ 100000 → (f1 = .ow (false, .lst (rows.map vec)) ∨ f1 = .im (.lst (rows.map vec))) → ms ≠ [] →
    ∃ t2' s3' s4', runFor (btName 2) ordBody (ms.map D.int) [.im (vec M), f1, t2, s3, s4, .no] = some (.nx, [.im (vec M), .im (.lst ((iterO M ms rows).map vec)), t2', s3', s4', .no])
  | [], _, _, _, _, _, _, _, _, _, _, h => absurd rfl h
  | m :: ms, rows, n, f1, t2, s3, s4, hr, hn, hz, hf, _ => by
    rw [List.length_cons] at hn hz
    have h6 : 1 ≤ 6 ^ ms.length := Nat.one_le_pow _ _ (by omega)
    have hz1 : 6 * rows.length ≤ 100000 := by
      have : rows.length * 6 ^ (ms.length + 1) = (6 * rows.length) * 6 ^ ms.length := by rw [Nat.pow_succ]; ac_rfl
      rw [this] at hz
      exact Nat.le_trans (Nat.le_mul_of_pos_right _ h6) hz
    obtain ⟨s3', s4', e1⟩ := ord_turn hM (rows := rows) (fun r h => by have := hr r h; omega) (by omega) (f1 := f1) (t2 := .im (.int m)) (s3 := s3) (s4 := s4) hf
    have eN := runFor_next (b := btName 2) (body := ordBody) (d := .int m) (ds := ms.map D.int) (g := [.im (vec M), f1, t2, s3, s4, .no]) (g1 := [.im (vec M), f1, .im (.int m), s3, s4, .no]) rfl e1
    rw [List.map_cons, eN]
    cases ms with
    | nil => exact ⟨_, _, _, rfl⟩
    | cons m2 ms =>
      exact ord_loop hM (m2 :: ms) (rows := stepO M rows) (n := n + 1) (step_row hr) (by omega) (by
        have := step_len M hM rows
        have e : rows.length * 6 ^ ((m2 :: ms).length + 1) = (6 * rows.length) * 6 ^ (m2 :: ms).length := by rw [Nat.pow_succ]; ac_rfl
        rw [e] at hz
        exact Nat.le_trans (Nat.mul_le_mul_right _ this) hz) (.inr rfl) (by simp)
def M6 : List Int := [1, 2, 3, 4, 5, 6]
def ordersP : List (List Int) := iterO M6 M6 [[]]
theorem orders_run : F__law_orders [vec M6] = some (.im (.lst (ordersP.map vec))) := by
  obtain ⟨t2', s3', s4', e⟩ := ord_loop (M := M6) (by decide) M6 (rows := [[]]) (n := 0) (f1 := .ow (false, .lst [vec []])) (t2 := .no) (s3 := .no) (s4 := .no) (by simp) (by decide) (by decide) (.inl rfl) (by decide)
  rw [orders_eq]
  refine runF_im (g := [.im (vec M6), .im (.lst (ordersP.map vec)), t2', s3', s4', .no]) rfl ?_
  show evSeq _ _ [.im (vec M6), .no, .no, .no, .no, .no] = _
  rw [evSeq_of (g' := [.im (vec M6), .ow (false, .lst [vec []]), .no, .no, .no, .no]) rfl]
  rw [evSeq_of ((evFor_of (ds := M6.map D.int) rfl).trans e)]
  rfl
theorem orders_720 : ordersP.length = 720 := by decide +kernel
theorem orders_dice : ordersP.all dieL = true := by decide +kernel
end K04
end

section
set_option Elab.async false
set_option linter.all false
set_option maxRecDepth 100000
set_option maxHeartbeats 8000000
namespace K04
open PySem L2 Pu
def pl (s : Slot) : Prop := s = .no ∨ ∃ d, s = .im d
theorem roll_ok : RollOk F__law_roll := fun {c} hc {n} h0 h1 => rollX_run (by decide) hc h0 h1
theorem some_eq : F__law_some = runC (someS F__law_roll) 1 2 := rfl
theorem callC_run {A : EvA} {F : Ow → List D → Option (R × Ow)} {b : Bool} {c c' : Ow} {t : List Slot} {ds : List D} {r : R} (hA : A (.ow (b, c) :: t) = some (ds, .ow (b, c) :: t)) (h : F c ds = some (r, c')) : evCallC 0 A F (.ow (b, c) :: t) = some (r, .ow (b, c') :: t) := by
  simp [evCallC, hA, h]
theorem orders_mem {l : List Int} (h : l ∈ ordersP) : dieL l = true := List.all_eq_true.mp orders_dice l h
theorem some_order {c : Ow} (hc : cupOk c) : ∃ (l : List Int) (c' : Ow), F__law_some c [.lst (ordersP.map vec)] = some (.im (vec l), c') ∧ dieL l = true ∧ cupOk c' := by
  have h7 := orders_720
  obtain ⟨v, c', e, hv, hc'⟩ := some_lst (roll := F__law_roll) roll_ok hc (xs := ordersP.map vec) (fun z => by
    have := congrArg List.length z
    rw [List.length_map, h7] at this
    cases this) (by rw [List.length_map, h7]; omega)
  obtain ⟨l, hl, rfl⟩ := List.mem_map.mp hv
  exact ⟨l, c', e, orders_mem hl, hc'⟩
/-- a value that is no die -/
structure Odd (d : D) : Prop where
  nf : nf d = true
  part : ∀ xs, d = .tup xs → ∀ x ∈ xs, K04.nf x = true
  no : dieB d = false
theorem odd_is {d : D} (h : Odd d) : F_is_die [d] = some (.im (.bl false)) := by rw [f_is_die h.nf h.part, h.no]
theorem nodup_of_dd : ∀ {ns : List Int}, (ddI ns).length = ns.length → ns.Nodup
  | [], _ => List.nodup_nil
  | x :: ns, h => by
    unfold ddI at h
    split at h
    · have := ddI_le ns
      rw [List.length_cons] at h
      omega
    · rename_i hx
      rw [List.length_cons, List.length_cons] at h
      exact List.nodup_cons.mpr ⟨hx, nodup_of_dd (by omega)⟩
theorem die_nodup {l : List Int} (h : dieL l = true) : l.Nodup := by
  have := die_iff.mp h
  exact nodup_of_dd (by rw [this.2.2, this.1])
theorem odd_len {xs : List D} (h : xs.length ≠ 6) (hx : ∀ x ∈ xs, nf x = true) : Odd (.tup xs) := ⟨rfl, fun ys e x hx' => by injection e with e; exact hx x (e ▸ hx'), by
  unfold dieB
  dsimp only
  rw [decide_eq_false h]
  rfl⟩
theorem odd_part {xs : List D} {x : D} (h : x ∈ xs) (hw : wholeB 1 6 x = false) (hx : ∀ x ∈ xs, nf x = true) : Odd (.tup xs) := ⟨rfl, fun ys e x hx' => by injection e with e; exact hx x (e ▸ hx'), by
  have : xs.all (wholeB 1 6) = false := by
    cases e : xs.all (wholeB 1 6) with
    | false => rfl
    | true =>
      rw [List.all_eq_true.mp e x h] at hw
      cases hw
  unfold dieB
  dsimp only
  rw [this, Bool.and_false]
  rfl⟩
theorem odd_twice {l : List Int} (h : ¬ l.Nodup) : Odd (vec l) := ⟨rfl, nf_vec l, by
  cases e : dieB (vec l) with
  | false => rfl
  | true => exact absurd (die_nodup e) h⟩
theorem nf_ints (l : List Int) : ∀ x ∈ l.map D.int, nf x = true := fun x hx => by
  obtain ⟨i, _, rfl⟩ := List.mem_map.mp hx
  rfl
/-- what stands at a place of a die, and around it -/
theorem at_facts {l : List Int} (h : dieL l = true) {i : Nat} (hi : i < 6) : ∃ (p x : Int) (pre post : List Int), idxD (vec l) (.int ((i : Int) - 1)) = some (.im (.int p)) ∧ idxD (vec l) (.int i) = some (.im (.int x)) ∧
    cutD (vec l) none (some (i : Int)) = some (.im (vec pre)) ∧ cutD (vec l) (some ((i : Int) + 1)) none = some (.im (vec post)) ∧ (p ∈ pre ∨ p ∈ post) ∧ p ≠ x ∧ 1 ≤ x ∧ x ≤ 6 ∧ pre.length ≤ 6 ∧ post.length ≤ 6 := by
  have nd := die_nodup h
  have rg := (die_iff.mp h).2.1
  obtain ⟨a, b, c, d, e, f, rfl⟩ := six (die_len h)
  simp only [List.nodup_cons, List.mem_cons, List.not_mem_nil, or_false, not_or, List.mem_singleton] at nd
  have ra := rg a (by simp)
  have rb := rg b (by simp)
  have rc := rg c (by simp)
  have rd := rg d (by simp)
  have re := rg e (by simp)
  have rf := rg f (by simp)
  match i, hi with
  | 0, _ => exact ⟨f, a, [], [b, c, d, e, f], rfl, rfl, rfl, rfl, .inr (by simp), fun z => nd.1.2.2.2.2 z.symm, ra.1, ra.2, by simp, by simp⟩
  | 1, _ => exact ⟨a, b, [a], [c, d, e, f], rfl, rfl, rfl, rfl, .inl (by simp), nd.1.1, rb.1, rb.2, by simp, by simp⟩
  | 2, _ => exact ⟨b, c, [a, b], [d, e, f], rfl, rfl, rfl, rfl, .inl (by simp), nd.2.1.1, rc.1, rc.2, by simp, by simp⟩
  | 3, _ => exact ⟨c, d, [a, b, c], [e, f], rfl, rfl, rfl, rfl, .inl (by simp), nd.2.2.1.1, rd.1, rd.2, by simp, by simp⟩
  | 4, _ => exact ⟨d, e, [a, b, c, d], [f], rfl, rfl, rfl, rfl, .inl (by simp), nd.2.2.2.1.1, re.1, re.2, by simp, by simp⟩
  | 5, _ => exact ⟨e, f, [a, b, c, d, e], [], rfl, rfl, rfl, rfl, .inl (by simp), nd.2.2.2.2.1, rf.1, rf.2, by simp, by simp⟩
theorem neD_of {d e : D} (h1 : okP d = true) (h2 : okP e = true) (h : eqB d e = false) : neD d e = some (.im (.bl true)) := by
  unfold neD
  rw [h1, h2, h]
  rfl
theorem strI_ok {x : Int} (h1 : 1 ≤ x) (h2 : x ≤ 6) : okP (.str (strI x)) = true := by
  have : x = 1 ∨ x = 2 ∨ x = 3 ∨ x = 4 ∨ x = 5 ∨ x = 6 := by omega
  rcases this with rfl | rfl | rfl | rfl | rfl | rfl <;> decide +kernel
def valE : EvS := (evSeq (evSet 5 (evTup (evCons (evC (.int 0)) (evCons (evC (.int 7)) (evCons (ev2 (evName 2) (ev2 (evName 4) (evC (.int 1)) subD) idxD) (evCons (evC .non) (evCons (ev1 (ev2 (evName 2) (evName 4) idxD) strD) (evCons (evTup (evCons (ev2 (evName 2) (evName 4) idxD) evNil)) (evCons (evC (.bl true)) evNil)))))))))
  (evSet 3 (ev2 (evName 3) (evLc (evIt (evName 5)) (btName 6) (evOrB (evB (ev2 (evName 6) (ev2 (evName 2) (evName 4) idxD) neD)) (evB (ev2 (evName 6) (evC (.bl true)) isBlD))) (ev2 (ev2 (evSl (evName 2) evNoP (evP (evName 4))) (evTup (evCons (evName 6) evNil)) addD) (evSl (evName 2) (evP (ev2 (evName 4) (evC (.int 1)) addD)) evNoP) addD) [6]) addD)))
theorem val_turn {c : Ow} {o : D} {l : List Int} (h : dieL l = true) {i : Nat} (hi : i < 6) {V : List D} (hV : V.length ≤ 1000) {s5 : Slot} : ∃ (W : List D) (s5' : Slot), (∀ w ∈ W, Odd w) ∧ W.length = 7 ∧
    valE [.ow (true, c), .im o, .im (vec l), .ow (false, .lst V), .im (.int i), s5, .no, .no] = some (.nx, [.ow (true, c), .im o, .im (vec l), .ow (false, .lst (V ++ W)), .im (.int i), s5', .no, .no]) := by
  obtain ⟨p, x, pre, post, e1, e2, e3, e4, hp, hpx, x1, x6, lp, lq⟩ := at_facts h hi
  have es : strD (.int x) = some (.im (.str (strI x))) := by
    simp only [strD]
    rw [if_pos]
    have : x.natAbs ≤ 6 := by omega
    exact Nat.lt_of_le_of_lt this (by decide)
  let its : List D := [.int 0, .int 7, .int p, .non, .str (strI x), .tup [.int x], .bl true]
  let mk : D → D := fun own => .tup (pre.map D.int ++ [own] ++ post.map D.int)
  have hmk : ∀ own, addD (vec pre) (.tup [own]) = some (.im (.tup (pre.map D.int ++ [own]))) ∧ addD (.tup (pre.map D.int ++ [own])) (vec post) = some (.im (mk own)) := fun own =>
    ⟨addT (by rw [List.length_map, List.length_singleton]; omega), addT (by rw [List.length_append, List.length_map, List.length_map, List.length_singleton]; omega)⟩
  have ne : ∀ own ∈ its, neD own (.int x) = some (.im (.bl true)) ∨ (own = .bl true ∧ neD own (.int x) = some (.im (.bl false))) := fun own ho => by
    simp only [its, List.mem_cons, List.not_mem_nil, or_false] at ho
    rcases ho with rfl | rfl | rfl | rfl | rfl | rfl | rfl
    · exact .inl (by rw [neD_int]; simp; omega)
    · exact .inl (by rw [neD_int]; simp; omega)
    · exact .inl (by rw [neD_int]; simp; exact hpx)
    · exact .inl (neD_of (by decide +kernel) (okP_int x) (by simp [eqB, toP, PyData.eqv]))
    · exact .inl (neD_of (strI_ok x1 x6) (okP_int x) (by simp [eqB, toP, PyData.eqv]))
    · exact .inl (neD_of (okP_vec [x]) (okP_int x) (by simp [eqB, toP, PyData.eqv]))
    · have : neD (.bl true) (.int x) = some (.im (.bl (!eqB (.bl true) (.int x)))) := by
        unfold neD
        rw [okP_int, show okP (.bl true) = true by decide +kernel]
        rfl
      cases hb : eqB (.bl true) (.int x) with
      | false => exact .inl (by rw [this, hb]; rfl)
      | true => exact .inr ⟨rfl, by rw [this, hb]; rfl⟩
  have lc := evLc_map (fi := evIt (evName 5)) (b := btName 6) (c := (evOrB (evB (ev2 (evName 6) (ev2 (evName 2) (evName 4) idxD) neD)) (evB (ev2 (evName 6) (evC (.bl true)) isBlD)))) (f := (ev2 (ev2 (evSl (evName 2) evNoP (evP (evName 4))) (evTup (evCons (evName 6) evNil)) addD) (evSl (evName 2) (evP (ev2 (evName 4) (evC (.int 1)) addD)) evNoP) addD)) (vs := [6])
    (g := [.ow (true, c), .im o, .im (vec l), .ow (false, .lst V), .im (.int i), .im (.tup its), .no, .no]) (g1 := [.ow (true, c), .im o, .im (vec l), .ow (false, .lst V), .im (.int i), .im (.tup its), .no, .no]) (items := its) (p := fun _ => true) (h := mk) rfl rfl fun own ho => by
      obtain ⟨a1, a2⟩ := hmk own
      refine ⟨[.ow (true, c), .im o, .im (vec l), .ow (false, .lst V), .im (.int i), .im (.tup its), .im own, .no], rfl, ?_, fun _ => ?_, rfl⟩
      · generalize vec l = z at e2 ⊢
        rcases ne own ho with h1 | ⟨rfl, h1⟩
        · simp [runF, evRet, evSeq, evIfS, evNext, evSet, evAnd, evOr, evNot, evNotV, evB, evOrB, evAndB, evIf, evCall, evCons, evNil, toD, toO, evName, evC, ev1, ev2, evCh, Pu.settle, R.opd, Opd.look, Slot.look, Ow.d, e2, h1]
        · simp [runF, evRet, evSeq, evIfS, evNext, evSet, evAnd, evOr, evNot, evNotV, evB, evOrB, evAndB, evIf, evCall, evCons, evNil, toD, toO, evName, evC, ev1, ev2, evCh, Pu.settle, R.opd, Opd.look, Slot.look, Ow.d, e2, h1, isBlD]
      · generalize vec l = z at e3 e4 ⊢
        generalize vec pre = y at e3 a1
        generalize vec post = y2 at e4 a2
        generalize pre.map D.int ++ [own] = y3 at a1 a2
        generalize mk own = y4 at a2 ⊢
        simp [runF, evRet, evSeq, evIfS, evNext, evSet, evAnd, evOr, evNot, evNotV, evB, evOrB, evAndB, evIf, evCall, evCons, evNil, toD, toO, evName, evC, ev1, ev2, evCh, Pu.settle, R.opd, Opd.look, Slot.look, Ow.d, evSl, evNoP, evP, evTup, e3, e4, a1, a2]
  rw [List.filter_eq_self.mpr fun _ _ => rfl] at lc
  simp only [gw, grs] at lc
  refine ⟨its.map mk, .im (.tup its), fun w hw => ?_, rfl, ?_⟩
  · obtain ⟨own, ho, rfl⟩ := List.mem_map.mp hw
    have part : ∀ own, nf own = true → ∀ y ∈ pre.map D.int ++ [own] ++ post.map D.int, nf y = true := fun own hn y hy => by
      rcases List.mem_append.mp hy with hy | hy
      · rcases List.mem_append.mp hy with hy | hy
        · exact nf_ints pre y hy
        · rw [List.mem_singleton.mp hy]; exact hn
      · exact nf_ints post y hy
    have mem : ∀ own : D, own ∈ pre.map D.int ++ [own] ++ post.map D.int := fun own => by simp
    simp only [its, List.mem_cons, List.not_mem_nil, or_false] at ho
    rcases ho with rfl | rfl | rfl | rfl | rfl | rfl | rfl
    · exact odd_part (mem _) rfl (part _ rfl)
    · exact odd_part (mem _) rfl (part _ rfl)
    · have e : mk (.int p) = vec (pre ++ [p] ++ post) := by
        show D.tup _ = D.tup _
        rw [List.map_append, List.map_append]
        rfl
      rw [e]
      refine odd_twice fun nd => ?_
      rw [List.append_assoc, List.nodup_append] at nd
      obtain ⟨_, nd2, nd3⟩ := nd
      rcases hp with hp | hp
      · exact nd3 p hp p (by simp) rfl
      · exact (List.nodup_cons.mp nd2).1 hp
    · exact odd_part (mem _) rfl (part _ rfl)
    · exact odd_part (mem _) rfl (part _ rfl)
    · exact odd_part (mem _) rfl (part _ rfl)
    · exact odd_part (mem _) rfl (part _ rfl)
  · have a3 : addD (.lst V) (.lst (its.map mk)) = _ := addL (by rw [List.length_map]; show V.length + 7 ≤ 100000; omega)
    unfold valE
    rw [evSeq_of (g' := [.ow (true, c), .im o, .im (vec l), .ow (false, .lst V), .im (.int i), .im (.tup its), .no, .no]) (by
      generalize vec l = z at e1 e2 ⊢
      simp [runF, evRet, evSeq, evIfS, evNext, evSet, evAnd, evOr, evNot, evNotV, evB, evOrB, evAndB, evIf, evCall, evCons, evNil, toD, toO, evName, evC, ev1, ev2, evCh, Pu.settle, R.opd, Opd.look, Slot.look, Ow.d, evTup, e1, e2, es, its])]
    generalize its.map mk = ys at lc a3 ⊢
    generalize evLc (evIt (evName 5)) (btName 6) (evOrB (evB (ev2 (evName 6) (ev2 (evName 2) (evName 4) idxD) neD)) (evB (ev2 (evName 6) (evC (.bl true)) isBlD))) (ev2 (ev2 (evSl (evName 2) evNoP (evP (evName 4))) (evTup (evCons (evName 6) evNil)) addD) (evSl (evName 2) (evP (ev2 (evName 4) (evC (.int 1)) addD)) evNoP) addD) [6] = F at lc ⊢
    have lc' : F [.ow (true, c), .im o, .im (vec l), .ow (false, .lst V), .im (.int i), .im (.tup its), .no, .no] = some (.fr (.lst ys), [.ow (true, c), .im o, .im (vec l), .ow (false, .lst V), .im (.int i), .im (.tup its), .no, .no]) := lc
    simp [runF, evRet, evSeq, evIfS, evNext, evSet, evAnd, evOr, evNot, evNotV, evB, evOrB, evAndB, evIf, evCall, evCons, evNil, toD, toO, evName, evC, ev1, ev2, evCh, Pu.settle, R.opd, Opd.look, Slot.look, Ow.d, lc', a3]
theorem val_loop {c : Ow} {o : D} {l : List Int} (h : dieL l = true) : ∀ (is : List Nat) {V : List D} {s4 s5 : Slot}, (∀ i ∈ is, i < 6) → (∀ v ∈ V, Odd v) → V.length + 7 * is.length ≤ 1000 →
    ∃ (W : List D) (s4' s5' : Slot), (∀ w ∈ W, Odd w) ∧ runFor (btName 4) valE (is.map fun i => .int (i : Nat)) [.ow (true, c), .im o, .im (vec l), .ow (false, .lst V), s4, s5, .no, .no] = some (.nx, [.ow (true, c), .im o, .im (vec l), .ow (false, .lst W), s4', s5', .no, .no])
  | [], V, s4, s5, _, hv, _ => ⟨V, s4, s5, hv, rfl⟩
  | i :: is, V, s4, s5, hi, hv, hz => by
    rw [List.length_cons] at hz
    obtain ⟨W1, s5', h1, l1, e1⟩ := val_turn (c := c) (o := o) h (hi i List.mem_cons_self) (V := V) (by omega) (s5 := s5)
    obtain ⟨W, s4', s5'', h2, e2⟩ := val_loop (c := c) (o := o) h is (V := V ++ W1) (s4 := .im (.int i)) (s5 := s5') (fun j hj => hi j (List.mem_cons_of_mem _ hj)) (fun v hv' => (List.mem_append.mp hv').elim (hv v) (h1 v)) (by rw [List.length_append, l1]; omega)
    refine ⟨W, s4', s5'', h2, ?_⟩
    rw [List.map_cons, runFor_next (g1 := [.ow (true, c), .im o, .im (vec l), .ow (false, .lst V), .im (.int i), s5, .no, .no]) rfl e1, e2]
def vD : EvA := (evCons (evLst (evCons (ev1 (evName 2) listSD) (evCons (evSl (evName 2) evNoP (evP (evC (.int 5)))) (evCons (ev2 (evName 2) (evTup (evCons (evC (.int 1)) evNil)) addD) (evCons (ev2 (evName 2) (evSl (evName 2) evNoP (evP (evC (.int 1)))) addD) (evCons (evC .non) (evCons (evC (.tup [])) (evCons (evC (.int 6)) (evCons (evC (.str [49, 50, 51, 52, 53, 54])) evNil))))))))) evNil)
def v1 : EvS := (evSet 1 (evCall (evCons (evTup (evCons (evC (.int 1)) (evCons (evC (.int 2)) (evCons (evC (.int 3)) (evCons (evC (.int 4)) (evCons (evC (.int 5)) (evCons (evC (.int 6)) evNil))))))) evNil) F__law_orders))
def v2 : EvS := (evIfS (evB (ev2 (evLc (evIt (evName 1)) (btName 2) (evB (ev2 (evCall (evCons (evName 2) evNil) F_is_die) (evC (.bl true)) notBlD)) (evName 2) [2]) (evLst evNil) neD)) (evRet (evC (.bl false))) evNext)
def v3 : EvS := (evSet 2 (evCallC 0 (evCons (evName 1) evNil) F__law_some))
def v4 : EvS := (evSet 3 (evLst (evCons (ev1 (evName 2) listSD) (evCons (evSl (evName 2) evNoP (evP (evC (.int 5)))) (evCons (ev2 (evName 2) (evTup (evCons (evC (.int 1)) evNil)) addD) (evCons (ev2 (evName 2) (evSl (evName 2) evNoP (evP (evC (.int 1)))) addD) (evCons (evC .non) (evCons (evC (.tup [])) (evCons (evC (.int 6)) (evCons (evC (.str [49, 50, 51, 52, 53, 54])) evNil))))))))))
def v6 : EvE := (evAnd (ev2 (ev1 (evName 1) lenD) (evC (.int 720)) eqD) (ev2 (evLc (evIt (evName 3)) (btName 7) (evB (ev2 (evCall (evCons (evName 7) evNil) F_is_die) (evC (.bl false)) notBlD)) (evName 7) [7]) (evLst evNil) eqD))
theorem values_eq : F__law_values_right = runC (evSeq v1 (evSeq v2 (evSeq v3 (evSeq v4 (evSeq (evFor (evR1 (evC (.int 6))) (btName 4) valE) (evRet v6)))))) 0 8 := rfl
theorem filter_none {α : Type} {p : α → Bool} : ∀ {xs : List α}, (∀ x ∈ xs, p x = false) → xs.filter p = []
  | [], _ => rfl
  | x :: xs, h => by
    rw [List.filter_cons_of_neg (by rw [h x List.mem_cons_self]; exact Bool.false_ne_true), filter_none fun y hy => h y (List.mem_cons_of_mem _ hy)]
theorem set_call {i : Nat} {A : EvA} {F : List D → Option R} {g g' : G} {ds : List D} {d : D} (h : A g = some (ds, g')) (hF : F ds = some (.im d)) : evSet i (evCall A F) g = some (.nx, g'.set i (.im d)) := by
  unfold evSet evCall
  rw [h]
  dsimp only
  rw [hF]
  rfl
theorem v1_run {O : List D} (ordr : F__law_orders [vec M6] = some (.im (.lst O))) {c : Ow} : v1 [.ow (true, c), .no, .no, .no, .no, .no, .no, .no] = some (.nx, [.ow (true, c), .im (.lst O), .no, .no, .no, .no, .no, .no]) :=
  set_call (A := (evCons (evTup (evCons (evC (.int 1)) (evCons (evC (.int 2)) (evCons (evC (.int 3)) (evCons (evC (.int 4)) (evCons (evC (.int 5)) (evCons (evC (.int 6)) evNil))))))) evNil)) (ds := [vec M6]) rfl ordr
theorem values_gen {O : List D} (ordr : F__law_orders [vec M6] = some (.im (.lst O))) (h7 : O.length = 720) (od : ∀ v ∈ O, F_is_die [v] = some (.im (.bl true)))
    (so : ∀ {c : Ow}, cupOk c → ∃ (l : List Int) (c' : Ow), F__law_some c [.lst O] = some (.im (vec l), c') ∧ dieL l = true ∧ cupOk c') {c : Ow} (hc : cupOk c) : ∃ c', F__law_values_right c [] = some (.im (.bl true), c') ∧ cupOk c' := by
  obtain ⟨l, c1, e3, hl, hc1⟩ := so hc
  have nE := neD_nil (xs := []) (by simp)
  have eE := eqD_nil (xs := []) (by simp)
  have d6 := die_len hl
  obtain ⟨a, b, c2, d, e, f, el⟩ := six d6
  have o1 : Odd (.lst (l.map D.int)) := ⟨rfl, fun _ z => (by cases z), rfl⟩
  have o2 : Odd (vec [a, b, c2, d, e]) := odd_len (by simp) (nf_ints _)
  have o3 : Odd (vec [a, b, c2, d, e, f, 1]) := odd_len (by simp) (nf_ints _)
  have o4 : Odd (vec [a, b, c2, d, e, f, a]) := odd_len (by simp) (nf_ints _)
  have o5 : Odd .non := ⟨rfl, fun _ z => (by cases z), rfl⟩
  have o6 : Odd (.tup []) := odd_len (by simp) (by simp)
  have o7 : Odd (.int 6) := ⟨rfl, fun _ z => (by cases z), rfl⟩
  have o8 : Odd (.str [49, 50, 51, 52, 53, 54]) := ⟨rfl, fun _ z => (by cases z), rfl⟩
  obtain ⟨W, s4', s5', hW, eL⟩ := val_loop (c := c1) (o := .lst O) hl [0, 1, 2, 3, 4, 5] (V := [.lst (l.map D.int), vec [a, b, c2, d, e], vec [a, b, c2, d, e, f, 1], vec [a, b, c2, d, e, f, a], .non, .tup [], .int 6, .str [49, 50, 51, 52, 53, 54]]) (s4 := .no) (s5 := .no) (by decide) (fun v hv => by
    simp only [List.mem_cons, List.not_mem_nil, or_false] at hv
    rcases hv with rfl | rfl | rfl | rfl | rfl | rfl | rfl | rfl
    · exact o1
    · exact o2
    · exact o3
    · exact o4
    · exact o5
    · exact o6
    · exact o7
    · exact o8) (by simp)
  refine ⟨c1, ?_, hc1⟩
  rw [values_eq]
  have lc2 := evLc_map (fi := evIt (evName 1)) (b := btName 2) (c := (evB (ev2 (evCall (evCons (evName 2) evNil) F_is_die) (evC (.bl true)) notBlD))) (f := evName 2) (vs := [2])
    (g := [.ow (true, c), .im (.lst O), .no, .no, .no, .no, .no, .no]) (g1 := [.ow (true, c), .im (.lst O), .no, .no, .no, .no, .no, .no]) (items := O) (p := fun _ => false) (h := fun d => d) rfl rfl fun v hv =>
      ⟨[.ow (true, c), .im (.lst O), .im v, .no, .no, .no, .no, .no], rfl, by simp [runF, evRet, evSeq, evIfS, evNext, evSet, evAnd, evOr, evNot, evNotV, evB, evOrB, evAndB, evIf, evCall, evCons, evNil, toD, toO, evName, evC, ev1, ev2, evCh, Pu.settle, R.opd, Opd.look, Slot.look, Ow.d, od v hv, notBlD], fun z => (by cases z), rfl⟩
  rw [filter_none fun _ _ => rfl] at lc2
  simp only [gw, grs, List.map_nil] at lc2
  have lc6 := evLc_map (fi := evIt (evName 3)) (b := btName 7) (c := (evB (ev2 (evCall (evCons (evName 7) evNil) F_is_die) (evC (.bl false)) notBlD))) (f := evName 7) (vs := [7])
    (g := [.ow (true, c1), .im (.lst O), .im (vec l), .ow (false, .lst W), s4', s5', .no, .no]) (g1 := [.ow (true, c1), .im (.lst O), .im (vec l), .im (.lst W), s4', s5', .no, .no]) (items := W) (p := fun _ => false) (h := fun d => d) rfl rfl fun v hv =>
      ⟨[.ow (true, c1), .im (.lst O), .im (vec l), .im (.lst W), s4', s5', .no, .im v], rfl, by simp [runF, evRet, evSeq, evIfS, evNext, evSet, evAnd, evOr, evNot, evNotV, evB, evOrB, evAndB, evIf, evCall, evCons, evNil, toD, toO, evName, evC, ev1, ev2, evCh, Pu.settle, R.opd, Opd.look, Slot.look, Ow.d, odd_is (hW v hv), notBlD], fun z => (by cases z), rfl⟩
  rw [filter_none fun _ _ => rfl] at lc6
  simp only [gw, grs, List.map_nil] at lc6
  refine runC_im (g := [.ow (true, c1), .im (.lst O), .im (vec l), .im (.lst W), s4', s5', .no, .no]) rfl ?_ rfl
  show evSeq _ _ [.ow (true, c), .no, .no, .no, .no, .no, .no, .no] = _
  rw [evSeq_of (v1_run ordr)]
  rw [evSeq_of (g' := [.ow (true, c), .im (.lst O), .no, .no, .no, .no, .no, .no]) (by
    unfold v2
    generalize evLc (evIt (evName 1)) (btName 2) (evB (ev2 (evCall (evCons (evName 2) evNil) F_is_die) (evC (.bl true)) notBlD)) (evName 2) [2] = F at lc2
    have lc' : F [.ow (true, c), .im (.lst O), .no, .no, .no, .no, .no, .no] = some (.fr (.lst []), [.ow (true, c), .im (.lst O), .no, .no, .no, .no, .no, .no]) := lc2
    simp [runF, evRet, evSeq, evIfS, evNext, evSet, evAnd, evOr, evNot, evNotV, evB, evOrB, evAndB, evIf, evCall, evCons, evNil, toD, toO, evName, evC, ev1, ev2, evCh, Pu.settle, R.opd, Opd.look, Slot.look, Ow.d, evLst, lc', nE])]
  rw [evSeq_of (g' := [.ow (true, c1), .im (.lst O), .im (vec l), .no, .no, .no, .no, .no]) (by
    have := callC_run (A := evCons (evName 1) evNil) (F := F__law_some) (b := true) (t := [.im (.lst O), .no, .no, .no, .no, .no, .no]) rfl e3
    generalize vec l = z at this ⊢
    simp [v3, runF, evRet, evSeq, evIfS, evNext, evSet, evAnd, evOr, evNot, evNotV, evB, evOrB, evAndB, evIf, evCall, evCons, evNil, toD, toO, evName, evC, ev1, ev2, evCh, Pu.settle, R.opd, Opd.look, Slot.look, Ow.d, this])]
  rw [evSeq_of (g' := [.ow (true, c1), .im (.lst O), .im (vec l), .ow (false, .lst [.lst (l.map D.int), vec [a, b, c2, d, e], vec [a, b, c2, d, e, f, 1], vec [a, b, c2, d, e, f, a], .non, .tup [], .int 6, .str [49, 50, 51, 52, 53, 54]]), .no, .no, .no, .no]) (by
    have q1 : listSD (vec l) = some (.fr (.lst (l.map D.int))) := rfl
    have q2 : cutD (vec l) none (some 5) = some (.im (vec [a, b, c2, d, e])) := by rw [el]; rfl
    have q3 : cutD (vec l) none (some 1) = some (.im (vec [a])) := by rw [el]; rfl
    have q4 : addD (vec l) (.tup [.int 1]) = some (.im (vec [a, b, c2, d, e, f, 1])) := by
      rw [el]
      exact add_vec (l := [a, b, c2, d, e, f]) (m := [1]) (by simp)
    have q5 : addD (vec l) (vec [a]) = some (.im (vec [a, b, c2, d, e, f, a])) := by
      rw [el]
      exact add_vec (l := [a, b, c2, d, e, f]) (m := [a]) (by simp)
    generalize vec l = z at q1 q2 q3 q4 q5 ⊢
    simp [v4, runF, evRet, evSeq, evIfS, evNext, evSet, evAnd, evOr, evNot, evNotV, evB, evOrB, evAndB, evIf, evCall, evCons, evNil, toD, toO, evName, evC, ev1, ev2, evCh, Pu.settle, R.opd, Opd.look, Slot.look, Ow.d, evLst, evSl, evNoP, evP, evTup, q1, q2, q3, q4, q5])]
  rw [evSeq_of ((evFor_of (by simp [evR1, runF, evRet, evSeq, evIfS, evNext, evSet, evAnd, evOr, evNot, evNotV, evB, evOrB, evAndB, evIf, evCall, evCons, evNil, toD, toO, evName, evC, ev1, ev2, evCh, Pu.settle, R.opd, Opd.look, Slot.look, Ow.d, sz_eq]; rfl)).trans eL)]
  generalize vec l = z at lc6 ⊢
  unfold v6
  generalize evLc (evIt (evName 3)) (btName 7) (evB (ev2 (evCall (evCons (evName 7) evNil) F_is_die) (evC (.bl false)) notBlD)) (evName 7) [7] = F at lc6
  have lc' : F [.ow (true, c1), .im (.lst O), .im z, .ow (false, .lst W), s4', s5', .no, .no] = some (.fr (.lst []), [.ow (true, c1), .im (.lst O), .im z, .im (.lst W), s4', s5', .no, .no]) := lc6
  have q7 : eqD (.int 720) (.int 720) = some (.im (.bl true)) := by rw [eqD_int]; rfl
  simp [runF, evRet, evSeq, evIfS, evNext, evSet, evAnd, evOr, evNot, evNotV, evB, evOrB, evAndB, evIf, evCall, evCons, evNil, toD, toO, evName, evC, ev1, ev2, evCh, Pu.settle, R.opd, Opd.look, Slot.look, Ow.d, evLst, h7, q7, lc', eE]
theorem orders_isdie : ∀ v ∈ ordersP.map vec, F_is_die [v] = some (.im (.bl true)) := fun v hv => by
  obtain ⟨m, hm, rfl⟩ := List.mem_map.mp hv
  have : dieB (vec m) = true := orders_mem hm
  rw [f_is_die rfl (nf_vec m), this]
theorem orders_len : (ordersP.map vec).length = 720 := (List.length_map ..).trans orders_720
theorem values_run {c : Ow} (hc : cupOk c) : ∃ c', F__law_values_right c [] = some (.im (.bl true), c') ∧ cupOk c' := values_gen orders_run orders_len orders_isdie (fun h => some_order h) hc
end K04
end

section
set_option Elab.async false
set_option linter.all false
set_option maxRecDepth 100000
set_option maxHeartbeats 8000000
namespace K04
open PySem L2 PySem.W Pu PuT
/-! ### the sense of a die -/
def s2 (a b : Int) : List Int := if a ≤ b then [a, b] else [b, a]
theorem ordK_num (a b : Int) : ordK (.num a) (.num b) = decide (a ≤ b) := by
  rw [ordK_eq]
  have : ltK (.num b) (.num a) = decide (b < a) := by
    unfold ltK dataLt
    rw [show (NestedKey.num b).data = .int b by unfold NestedKey.data; rfl, show (NestedKey.num a).data = .int a by unfold NestedKey.data; rfl]
    unfold keyToks
    rw [PyProof.Rows.lex_cons]
    show (decide (b < a) || (!decide (a < b) && false)) = decide (b < a)
    rw [Bool.and_false, Bool.or_false]
  rw [this, Bool.eq_iff_iff, Bool.not_eq_true', decide_eq_false_iff_not, decide_eq_true_eq]
  omega
theorem alike_nums (a b : Int) : alikeB [.num a, .num b] = true := by
  unfold alikeB
  simp [NestedKey.data, alike]
theorem sort2 (a b : Int) : sortD (.tup [.int a, .int b]) = some (.fr (.lst ((s2 a b).map D.int))) := by
  have e : itemsS (.tup [.int a, .int b]) = some [.num a, .num b] := rfl
  have ok : sortOk [.num a, .num b] = true := by
    unfold sortOk
    rw [alike_nums]
    rfl
  have es : isort [.num a, .num b] = (s2 a b).map NestedKey.num := by
    show insK (.num a) [.num b] = _
    unfold insK
    rw [ordK_num]
    unfold s2
    by_cases h : a ≤ b
    · rw [if_pos (by simpa using h), if_pos h]; rfl
    · rw [if_neg (by simpa using h), if_neg h]; rfl
  unfold sortD
  rw [e]
  dsimp only
  rw [if_pos ok, es, List.map_map]
  rfl
def insL (x : List Int) : List (List Int) → List (List Int)
  | [] => [x]
  | y :: ys => if HT.lexLt y x then y :: insL x ys else x :: y :: ys
def isortL : List (List Int) → List (List Int)
  | [] => []
  | x :: xs => insL x (isortL xs)
theorem insK_kv (x : List Int) : ∀ ys : List (List Int), insK (kv x) (ys.map kv) = (insL x ys).map kv
  | [] => rfl
  | y :: ys => by
    rw [List.map_cons]
    unfold insK insL
    rw [ordK_eq, ltK_kv, insK_kv x ys]
    cases HT.lexLt y x <;> rfl
theorem isort_kv : ∀ ls : List (List Int), isort (ls.map kv) = (isortL ls).map kv
  | [] => rfl
  | x :: ls => by
    rw [List.map_cons]
    unfold isort isortL
    rw [isort_kv ls, insK_kv]
theorem sort_vecs {ls : List (List Int)} (h : ls.length ≤ 1000) (ne : ∀ l ∈ ls, l ≠ []) : sortD (.lst (ls.map vec)) = some (.fr (.lst ((isortL ls).map vec))) := by
  have e : itemsS (.lst (ls.map vec)) = some (ls.map kv) := keysOf_vecs ls
  have ok : sortOk (ls.map kv) = true := by
    unfold sortOk
    rw [alike_vecs, Bool.and_true, Bool.and_eq_true, Bool.and_eq_true, decide_eq_true_eq, List.length_map, List.all_eq_true, Bool.or_eq_true]
    refine ⟨⟨by omega, fun k hk => ?_⟩, .inl ?_⟩
    · obtain ⟨l, _, rfl⟩ := List.mem_map.mp hk
      exact decide_eq_true (depth_kv l)
    · rw [List.all_eq_true]
      intro k hk
      obtain ⟨l, hl, rfl⟩ := List.mem_map.mp hk
      cases l with
      | nil => exact absurd rfl (ne _ hl)
      | cons x l => rfl
  unfold sortD
  rw [e]
  dsimp only
  rw [if_pos ok, isort_kv, List.map_map]
  congr 3
  exact List.map_congr_left fun l _ => dOf_kv l
def b2n (b : Bool) : Nat := if b then 1 else 0
def senseP (l : List Int) : List (List Int) × Nat := match l with
  | [a, b, u, d, t, f] =>
    let X := s2 a b
    let Y := s2 u d
    let Z := s2 t f
    (isortL [X, Y, Z], (b2n (!decide (a = X.headD 0)) + b2n (!decide (u = Y.headD 0)) + b2n (!decide (t = Z.headD 0)) + (b2n (HT.lexLt Y X) + b2n (HT.lexLt Z X) + b2n (HT.lexLt Z Y))) % 2)
  | _ => ([], 0)
def senseR (l : List Int) : D := .tup [.lst ((senseP l).1.map vec), .int ((senseP l).2 : Nat)]
theorem filter3 {α : Type} (p : α → Bool) (x y z : α) : ([x, y, z].filter p).length = b2n (p x) + b2n (p y) + b2n (p z) := by
  cases h1 : p x <;> cases h2 : p y <;> cases h3 : p z <;> simp [h1, h2, h3, b2n]
theorem s2_cons (a b : Int) : ∃ x y, s2 a b = [x, y] := by
  unfold s2
  split <;> exact ⟨_, _, rfl⟩
def sn1 : EvS := (evSet 1 (evLst (evCons (ev1 (ev1 (evSl (evName 0) (evP (evC (.int 0))) (evP (evC (.int 2)))) sortD) tupleD) (evCons (ev1 (ev1 (evSl (evName 0) (evP (evC (.int 2))) (evP (evC (.int 4)))) sortD) tupleD) (evCons (ev1 (ev1 (evSl (evName 0) (evP (evC (.int 4))) (evP (evC (.int 6)))) sortD) tupleD) evNil)))))
def sn2E : EvE := (evLc (evR1 (evC (.int 3))) (btName 4) (evB (ev2 (ev2 (evName 0) (ev2 (evC (.int 2)) (evName 4) mulD) idxD) (ev2 (ev2 (evName 1) (evName 4) idxD) (evC (.int 0)) idxD) neD)) (evC (.int 1)) [4])
def sn3E : EvE := (evLc (evIt (evTup (evCons (evTup (evCons (evC (.int 0)) (evCons (evC (.int 1)) evNil))) (evCons (evTup (evCons (evC (.int 0)) (evCons (evC (.int 2)) evNil))) (evCons (evTup (evCons (evC (.int 1)) (evCons (evC (.int 2)) evNil))) evNil))))) (btTup (btCons (btName 5) (btCons (btName 6) btNil))) (evB (ev2 (ev2 (evName 1) (evName 5) idxD) (ev2 (evName 1) (evName 6) idxD) gtX)) (evC (.int 1)) [5, 6])
theorem sense_eq : F__law_sense = runF (evSeq sn1 (evSeq (evSet 2 sn2E) (evSeq (evSet 3 sn3E) (evRet (evTup (evCons (ev1 (evName 1) sortD) (evCons (ev2 (ev1 (ev2 (ev1 (evName 2) lenD) (ev1 (evName 3) lenD) addD) intD) (evC (.int 2)) modD) evNil))))))) 1 7 := rfl
theorem sense_run {l : List Int} (h : l.length = 6) : F__law_sense [vec l] = some (.im (senseR l)) := by
  obtain ⟨a, b, u, d, t, f, rfl⟩ := six h
  obtain ⟨x0, x1, eX⟩ := s2_cons a b
  obtain ⟨y0, y1, eY⟩ := s2_cons u d
  obtain ⟨z0, z1, eZ⟩ := s2_cons t f
  have c1 : cutD (vec [a, b, u, d, t, f]) (some 0) (some 2) = some (.im (.tup [.int a, .int b])) := rfl
  have c2 : cutD (vec [a, b, u, d, t, f]) (some 2) (some 4) = some (.im (.tup [.int u, .int d])) := rfl
  have c3 : cutD (vec [a, b, u, d, t, f]) (some 4) (some 6) = some (.im (.tup [.int t, .int f])) := rfl
  have i0 : idxD (vec [a, b, u, d, t, f]) (.int 0) = some (.im (.int a)) := rfl
  have i2 : idxD (vec [a, b, u, d, t, f]) (.int 2) = some (.im (.int u)) := rfl
  have i4 : idxD (vec [a, b, u, d, t, f]) (.int 4) = some (.im (.int t)) := rfl
  have q1 := sort2 a b
  have q2 := sort2 u d
  have q3 := sort2 t f
  rw [eX] at q1
  rw [eY] at q2
  rw [eZ] at q3
  have q4 := sort_vecs (ls := [[x0, x1], [y0, y1], [z0, z1]]) (by simp) (by simp)
  have g1 := gtX_vec [x0, x1] [y0, y1]
  have g2 := gtX_vec [x0, x1] [z0, z1]
  have g3 := gtX_vec [y0, y1] [z0, z1]
  have n0 := neD_int a x0
  have n1 := neD_int u y0
  have n2 := neD_int t z0
  have m0 : mulD (.int 2) (.int 0) = some (.im (.int 0)) := rfl
  have m1 : mulD (.int 2) (.int 1) = some (.im (.int 2)) := rfl
  have m2 : mulD (.int 2) (.int 2) = some (.im (.int 4)) := rfl
  let AX : List D := [vec [x0, x1], vec [y0, y1], vec [z0, z1]]
  have k0 : idxD (.lst AX) (.int 0) = some (.im (vec [x0, x1])) := rfl
  have k1 : idxD (.lst AX) (.int 1) = some (.im (vec [y0, y1])) := rfl
  have k2 : idxD (.lst AX) (.int 2) = some (.im (vec [z0, z1])) := rfl
  have j0 : idxD (vec [x0, x1]) (.int 0) = some (.im (.int x0)) := rfl
  have j1 : idxD (vec [y0, y1]) (.int 0) = some (.im (.int y0)) := rfl
  have j2 : idxD (vec [z0, z1]) (.int 0) = some (.im (.int z0)) := rfl
  have lc2 := evLc_map (fi := evR1 (evC (.int 3))) (b := btName 4) (c := (evB (ev2 (ev2 (evName 0) (ev2 (evC (.int 2)) (evName 4) mulD) idxD) (ev2 (ev2 (evName 1) (evName 4) idxD) (evC (.int 0)) idxD) neD))) (f := evC (.int 1)) (vs := [4])
    (g := [.im (vec [a, b, u, d, t, f]), .ow (false, .lst AX), .no, .no, .no, .no, .no]) (g1 := [.im (vec [a, b, u, d, t, f]), .ow (false, .lst AX), .no, .no, .no, .no, .no]) (items := [.int 0, .int 1, .int 2])
    (p := fun e => if intV e = 0 then !decide (a = x0) else if intV e = 1 then !decide (u = y0) else !decide (t = z0)) (h := fun _ => .int 1) (by simp [evR1, runF, evRet, evSeq, evIfS, evNext, evSet, evAnd, evOr, evNot, evNotV, evB, evOrB, evAndB, evIf, evCall, evCons, evNil, toD, toO, evName, evC, ev1, ev2, evCh, Pu.settle, R.opd, Opd.look, Slot.look, Ow.d, sz_eq]; rfl) rfl fun e he => by
      generalize vec [a, b, u, d, t, f] = V at i0 i2 i4 ⊢
      generalize AX = A at k0 k1 k2 ⊢
      simp only [List.mem_cons, List.not_mem_nil, or_false] at he
      rcases he with rfl | rfl | rfl
      · exact ⟨[.im V, .ow (false, .lst A), .no, .no, .im (.int 0), .no, .no], rfl, by simp [runF, evRet, evSeq, evIfS, evNext, evSet, evAnd, evOr, evNot, evNotV, evB, evOrB, evAndB, evIf, evCall, evCons, evNil, toD, toO, evName, evC, ev1, ev2, evCh, Pu.settle, R.opd, Opd.look, Slot.look, Ow.d, m0, i0, k0, j0, n0, intV], fun _ => rfl, rfl⟩
      · exact ⟨[.im V, .ow (false, .lst A), .no, .no, .im (.int 1), .no, .no], rfl, by simp [runF, evRet, evSeq, evIfS, evNext, evSet, evAnd, evOr, evNot, evNotV, evB, evOrB, evAndB, evIf, evCall, evCons, evNil, toD, toO, evName, evC, ev1, ev2, evCh, Pu.settle, R.opd, Opd.look, Slot.look, Ow.d, m1, i2, k1, j1, n1, intV], fun _ => rfl, rfl⟩
      · exact ⟨[.im V, .ow (false, .lst A), .no, .no, .im (.int 2), .no, .no], rfl, by simp [runF, evRet, evSeq, evIfS, evNext, evSet, evAnd, evOr, evNot, evNotV, evB, evOrB, evAndB, evIf, evCall, evCons, evNil, toD, toO, evName, evC, ev1, ev2, evCh, Pu.settle, R.opd, Opd.look, Slot.look, Ow.d, m2, i4, k2, j2, n2, intV], fun _ => rfl, rfl⟩
  simp only [gw, grs] at lc2
  have f2 := filter3 (fun e => if intV e = 0 then !decide (a = x0) else if intV e = 1 then !decide (u = y0) else !decide (t = z0)) (D.int 0) (D.int 1) (D.int 2)
  have lc3 := evLc_map (fi := (evIt (evTup (evCons (evTup (evCons (evC (.int 0)) (evCons (evC (.int 1)) evNil))) (evCons (evTup (evCons (evC (.int 0)) (evCons (evC (.int 2)) evNil))) (evCons (evTup (evCons (evC (.int 1)) (evCons (evC (.int 2)) evNil))) evNil)))))) (b := (btTup (btCons (btName 5) (btCons (btName 6) btNil)))) (c := (evB (ev2 (ev2 (evName 1) (evName 5) idxD) (ev2 (evName 1) (evName 6) idxD) gtX))) (f := evC (.int 1)) (vs := [5, 6])
    (g := [.im (vec [a, b, u, d, t, f]), .ow (false, .lst AX), .ow (false, .lst ((([.int 0, .int 1, .int 2] : List D).filter fun e => if intV e = 0 then !decide (a = x0) else if intV e = 1 then !decide (u = y0) else !decide (t = z0)).map fun _ => .int 1)), .no, .no, .no, .no])
    (g1 := [.im (vec [a, b, u, d, t, f]), .ow (false, .lst AX), .ow (false, .lst ((([.int 0, .int 1, .int 2] : List D).filter fun e => if intV e = 0 then !decide (a = x0) else if intV e = 1 then !decide (u = y0) else !decide (t = z0)).map fun _ => .int 1)), .no, .no, .no, .no]) (items := [vec [0, 1], vec [0, 2], vec [1, 2]])
    (p := fun e => if e matches .tup [.int 0, .int 1] then HT.lexLt [y0, y1] [x0, x1] else if e matches .tup [.int 0, .int 2] then HT.lexLt [z0, z1] [x0, x1] else HT.lexLt [z0, z1] [y0, y1]) (h := fun _ => .int 1) rfl rfl fun e he => by
      generalize ((([.int 0, .int 1, .int 2] : List D).filter fun e => if intV e = 0 then !decide (a = x0) else if intV e = 1 then !decide (u = y0) else !decide (t = z0)).map fun _ => D.int 1) = FL
      generalize vec [a, b, u, d, t, f] = V at ⊢
      generalize AX = A at k0 k1 k2 ⊢
      clear j0 j1 j2 q4 c1 c2 c3 i0 i2 i4 lc2
      generalize vec [x0, x1] = XX at k0 g1 g2
      generalize vec [y0, y1] = YY at k1 g1 g3
      generalize vec [z0, z1] = ZZ at k2 g2 g3
      simp only [List.mem_cons, List.not_mem_nil, or_false] at he
      rcases he with rfl | rfl | rfl
      · exact ⟨[.im V, .ow (false, .lst A), .ow (false, .lst FL), .no, .no, .im (.int 0), .im (.int 1)], rfl, by simp [runF, evRet, evSeq, evIfS, evNext, evSet, evAnd, evOr, evNot, evNotV, evB, evOrB, evAndB, evIf, evCall, evCons, evNil, toD, toO, evName, evC, ev1, ev2, evCh, Pu.settle, R.opd, Opd.look, Slot.look, Ow.d, k0, k1, g1, vec], fun _ => rfl, rfl⟩
      · exact ⟨[.im V, .ow (false, .lst A), .ow (false, .lst FL), .no, .no, .im (.int 0), .im (.int 2)], rfl, by simp [runF, evRet, evSeq, evIfS, evNext, evSet, evAnd, evOr, evNot, evNotV, evB, evOrB, evAndB, evIf, evCall, evCons, evNil, toD, toO, evName, evC, ev1, ev2, evCh, Pu.settle, R.opd, Opd.look, Slot.look, Ow.d, k0, k2, g2, vec], fun _ => rfl, rfl⟩
      · exact ⟨[.im V, .ow (false, .lst A), .ow (false, .lst FL), .no, .no, .im (.int 1), .im (.int 2)], rfl, by simp [runF, evRet, evSeq, evIfS, evNext, evSet, evAnd, evOr, evNot, evNotV, evB, evOrB, evAndB, evIf, evCall, evCons, evNil, toD, toO, evName, evC, ev1, ev2, evCh, Pu.settle, R.opd, Opd.look, Slot.look, Ow.d, k1, k2, g3, vec], fun _ => rfl, rfl⟩
  simp only [gw, grs] at lc3
  have f3 := filter3 (fun e : D => if e matches .tup [.int 0, .int 1] then HT.lexLt [y0, y1] [x0, x1] else if e matches .tup [.int 0, .int 2] then HT.lexLt [z0, z1] [x0, x1] else HT.lexLt [z0, z1] [y0, y1]) (vec [0, 1]) (vec [0, 2]) (vec [1, 2])
  have eP : senseP [a, b, u, d, t, f] = (isortL [[x0, x1], [y0, y1], [z0, z1]], (b2n (!decide (a = x0)) + b2n (!decide (u = y0)) + b2n (!decide (t = z0)) + (b2n (HT.lexLt [y0, y1] [x0, x1]) + b2n (HT.lexLt [z0, z1] [x0, x1]) + b2n (HT.lexLt [z0, z1] [y0, y1]))) % 2) := by
    unfold senseP
    dsimp only
    rw [eX, eY, eZ]
    rfl
  generalize ((([.int 0, .int 1, .int 2] : List D).filter fun e => if intV e = 0 then !decide (a = x0) else if intV e = 1 then !decide (u = y0) else !decide (t = z0))) = FL at lc2 lc3 f2
  generalize ((([vec [0, 1], vec [0, 2], vec [1, 2]] : List D).filter fun e : D => if e matches .tup [.int 0, .int 1] then HT.lexLt [y0, y1] [x0, x1] else if e matches .tup [.int 0, .int 2] then HT.lexLt [z0, z1] [x0, x1] else HT.lexLt [z0, z1] [y0, y1])) = GL at lc3 f3
  rw [sense_eq]
  refine runF_im (g := [.im (vec [a, b, u, d, t, f]), .ow (false, .lst AX), .ow (false, .lst (FL.map fun _ => .int 1)), .ow (false, .lst (GL.map fun _ => .int 1)), .no, .no, .no]) rfl ?_
  show evSeq _ _ [.im (vec [a, b, u, d, t, f]), .no, .no, .no, .no, .no, .no] = _
  generalize eV : vec [a, b, u, d, t, f] = V at c1 c2 c3 lc2 lc3 ⊢
  rw [evSeq_of (g' := [.im V, .ow (false, .lst AX), .no, .no, .no, .no, .no]) (by
    have t1 : tupleD (.lst ([x0, x1].map D.int)) = some (.im (vec [x0, x1])) := rfl
    have t2 : tupleD (.lst ([y0, y1].map D.int)) = some (.im (vec [y0, y1])) := rfl
    have t3 : tupleD (.lst ([z0, z1].map D.int)) = some (.im (vec [z0, z1])) := rfl
    generalize [x0, x1].map D.int = L1 at q1 t1
    generalize [y0, y1].map D.int = L2 at q2 t2
    generalize [z0, z1].map D.int = L3 at q3 t3
    simp [sn1, runF, evRet, evSeq, evIfS, evNext, evSet, evAnd, evOr, evNot, evNotV, evB, evOrB, evAndB, evIf, evCall, evCons, evNil, toD, toO, evName, evC, ev1, ev2, evCh, Pu.settle, R.opd, Opd.look, Slot.look, Ow.d, evLst, evSl, evP, c1, c2, c3, q1, q2, q3, t1, t2, t3, AX])]
  rw [evSeq_of (g' := [.im V, .ow (false, .lst AX), .ow (false, .lst (FL.map fun _ => .int 1)), .no, .no, .no, .no]) (by
    have lc2' : sn2E [.im V, .ow (false, .lst AX), .no, .no, .no, .no, .no] = some (.fr (.lst (FL.map fun _ => .int 1)), [.im V, .ow (false, .lst AX), .no, .no, .no, .no, .no]) := lc2
    generalize sn2E = F at lc2' ⊢
    simp [runF, evRet, evSeq, evIfS, evNext, evSet, evAnd, evOr, evNot, evNotV, evB, evOrB, evAndB, evIf, evCall, evCons, evNil, toD, toO, evName, evC, ev1, ev2, evCh, Pu.settle, R.opd, Opd.look, Slot.look, Ow.d, lc2'])]
  rw [evSeq_of (g' := [.im V, .ow (false, .lst AX), .ow (false, .lst (FL.map fun _ => .int 1)), .ow (false, .lst (GL.map fun _ => .int 1)), .no, .no, .no]) (by
    have lc3' : sn3E [.im V, .ow (false, .lst AX), .ow (false, .lst (FL.map fun _ => .int 1)), .no, .no, .no, .no] = some (.fr (.lst (GL.map fun _ => .int 1)), [.im V, .ow (false, .lst AX), .ow (false, .lst (FL.map fun _ => .int 1)), .no, .no, .no, .no]) := lc3
    generalize sn3E = F at lc3' ⊢
    simp [runF, evRet, evSeq, evIfS, evNext, evSet, evAnd, evOr, evNot, evNotV, evB, evOrB, evAndB, evIf, evCall, evCons, evNil, toD, toO, evName, evC, ev1, ev2, evCh, Pu.settle, R.opd, Opd.look, Slot.look, Ow.d, lc3'])]
  have q4' : sortD (.lst AX) = some (.fr (.lst ((isortL [[x0, x1], [y0, y1], [z0, z1]]).map vec))) := q4
  have l2 : ((FL.map fun _ => D.int 1).length : Int) + ((GL.map fun _ => D.int 1).length : Int) = ((b2n (!decide (a = x0)) + b2n (!decide (u = y0)) + b2n (!decide (t = z0)) + (b2n (HT.lexLt [y0, y1] [x0, x1]) + b2n (HT.lexLt [z0, z1] [x0, x1]) + b2n (HT.lexLt [z0, z1] [y0, y1])) : Nat) : Int) := by
    rw [List.length_map, List.length_map, f2, f3]
    exact (Int.natCast_add _ _).symm
  have mm : ∀ n : Nat, modD (.int (n : Int)) (.int 2) = some (.im (.int ((n % 2 : Nat) : Int))) := fun n => by
    simp only [modD]
    rw [if_pos (by omega)]
    rfl
  have mm2 := mm (b2n (!decide (a = x0)) + b2n (!decide (u = y0)) + b2n (!decide (t = z0)) + (b2n (HT.lexLt [y0, y1] [x0, x1]) + b2n (HT.lexLt [z0, z1] [x0, x1]) + b2n (HT.lexLt [z0, z1] [y0, y1])))
  rw [← l2] at mm2
  unfold senseR
  rw [eP]
  dsimp only
  generalize (b2n (!decide (a = x0)) + b2n (!decide (u = y0)) + b2n (!decide (t = z0)) + (b2n (HT.lexLt [y0, y1] [x0, x1]) + b2n (HT.lexLt [z0, z1] [x0, x1]) + b2n (HT.lexLt [z0, z1] [y0, y1]))) % 2 = PP at mm2 ⊢
  generalize (isortL [[x0, x1], [y0, y1], [z0, z1]]).map vec = SS at q4' ⊢
  generalize (FL.map fun _ => D.int 1) = L1 at mm2 ⊢
  generalize (GL.map fun _ => D.int 1) = L2 at mm2 ⊢
  generalize AX = A at q4' ⊢
  simp [runF, evRet, evSeq, evIfS, evNext, evSet, evAnd, evOr, evNot, evNotV, evB, evOrB, evAndB, evIf, evCall, evCons, evNil, toD, toO, evName, evC, ev1, ev2, evCh, Pu.settle, R.opd, Opd.look, Slot.look, Ow.d, evTup, q4', mm2]
end K04
end

section
set_option Elab.async false
set_option linter.all false
set_option maxRecDepth 100000
set_option maxHeartbeats 8000000
namespace K04
open PySem L2 PySem.W Pu PuT
/-! ### all dice -/
def all6 (P : Int → Bool) : Bool := M6.all P
theorem all6_of {P : Int → Bool} (h : all6 P = true) {x : Int} (h1 : 1 ≤ x) (h2 : x ≤ 6) : P x = true := by
  have h := List.all_eq_true.mp h
  refine h x ?_
  have : x = 1 ∨ x = 2 ∨ x = 3 ∨ x = 4 ∨ x = 5 ∨ x = 6 := by omega
  rcases this with rfl | rfl | rfl | rfl | rfl | rfl <;> decide
def eqI (a b : Int) : Bool := decide (a = b)
def allDice (P : List Int → Bool) : Bool := all6 fun a => all6 fun b => eqI b a || all6 fun c => eqI c a || eqI c b || all6 fun d => eqI d a || eqI d b || eqI d c || all6 fun e => eqI e a || eqI e b || eqI e c || eqI e d || all6 fun f => eqI f a || eqI f b || eqI f c || eqI f d || eqI f e || P [a, b, c, d, e, f]
theorem allDice_of {P : List Int → Bool} (h : allDice P = true) {l : List Int} (hl : dieL l = true) : P l = true := by
  have nd := die_nodup hl
  have rg := (die_iff.mp hl).2.1
  obtain ⟨a, b, c, d, e, f, rfl⟩ := six (die_len hl)
  have ra := rg a (by simp)
  have rb := rg b (by simp)
  have rc := rg c (by simp)
  have rd := rg d (by simp)
  have re := rg e (by simp)
  have rf := rg f (by simp)
  simp only [List.nodup_cons, List.mem_cons, List.not_mem_nil, or_false, not_or] at nd
  obtain ⟨⟨n1, n2, n3, n4, n5⟩, ⟨n6, n7, n8, n9⟩, ⟨n10, n11, n12⟩, ⟨n13, n14⟩, n15, _⟩ := nd
  have k : ∀ {x y : Int}, ¬ x = y → eqI y x = false := fun h => decide_eq_false fun e => h e.symm
  have h1 := all6_of (all6_of h ra.1 ra.2) rb.1 rb.2
  rw [k n1, Bool.false_or] at h1
  have h2 := all6_of h1 rc.1 rc.2
  rw [k n2, k n6, Bool.false_or, Bool.false_or] at h2
  have h3 := all6_of h2 rd.1 rd.2
  rw [k n3, k n7, k n10, Bool.false_or, Bool.false_or, Bool.false_or] at h3
  have h4 := all6_of h3 re.1 re.2
  rw [k n4, k n8, k n11, k n13, Bool.false_or, Bool.false_or, Bool.false_or, Bool.false_or] at h4
  have h5 := all6_of h4 rf.1 rf.2
  rw [k n5, k n9, k n12, k n14, k n15, Bool.false_or, Bool.false_or, Bool.false_or, Bool.false_or, Bool.false_or] at h5
  exact h5
theorem sense_all : allDice (fun l => ([100, 108, 114, 117] : List Nat).all fun c => decide (senseP (rollL l c) = senseP l)) = true := by decide +kernel
theorem sense_roll {l : List Int} (h : dieL l = true) {c : Nat} (hc : wayB c = true) : senseP (rollL l c) = senseP l := by
  have := List.all_eq_true.mp (allDice_of sense_all h) c (by
    unfold wayB at hc
    simp only [Bool.or_eq_true, beq_iff_eq] at hc
    rcases hc with ((rfl | rfl) | rfl) | rfl <;> decide)
  exact of_decide_eq_true this
theorem sense_after : ∀ (s : List Nat) {l : List Int}, dieL l = true → (∀ c ∈ s, wayB c = true) → senseP (afterL l s) = senseP l
  | [], _, _, _ => rfl
  | c :: s, l, h, hw => by
    rw [after_cons, sense_after s (die_roll h c) fun c' hc' => hw c' (List.mem_cons_of_mem _ hc'), sense_roll h (hw c List.mem_cons_self)]
/-! ### twenty-four lies -/
theorem roll_map (f : Int → Int) {v : List Int} (h : v.length = 6) (c : Nat) : rollL (v.map f) c = (rollL v c).map f := by
  obtain ⟨a, b, u, d, t, g, rfl⟩ := six h
  unfold rollL
  dsimp only [List.map]
  split
  · rfl
  · split
    · rfl
    · split <;> rfl
theorem after_map (f : Int → Int) : ∀ (s : List Nat) {v : List Int}, v.length = 6 → afterL (v.map f) s = (afterL v s).map f
  | [], _, _ => rfl
  | c :: s, v, h => by
    rw [after_cons, after_cons, roll_map f h, after_map f s (roll_len h c)]
def ways : List Nat := [100, 108, 114, 117]
def stepW (ws : List (List Nat)) : List (List Nat) := ws.flatMap fun w => ways.map fun c => w ++ [c]
def W4 : List (List Nat) := stepW (stepW (stepW (stepW [[]])))
def idx6 : List Int := [0, 1, 2, 3, 4, 5]
def IX : List (List Int) := W4.map (fun w => afterL idx6 w) ++ W4.map (fun w => afterL idx6 (w.drop 1))
def eqL : List Int → List Int → Bool
  | [], [] => true
  | a :: r, b :: t => eqI a b && eqL r t
  | _, _ => false
theorem eqL_iff : ∀ {a b : List Int}, eqL a b = true ↔ a = b
  | [], [] => by simp [eqL]
  | [], _ :: _ => by simp [eqL]
  | _ :: _, [] => by simp [eqL]
  | a :: r, b :: t => by
    unfold eqL eqI
    rw [Bool.and_eq_true, eqL_iff, decide_eq_true_eq, List.cons.injEq]
def memL (x : List Int) (ys : List (List Int)) : Bool := ys.any fun y => eqL y x
theorem memL_iff {x : List Int} {ys : List (List Int)} : memL x ys = true ↔ x ∈ ys := by
  unfold memL
  rw [List.any_eq_true]
  exact ⟨fun ⟨y, hy, e⟩ => eqL_iff.mp e ▸ hy, fun h => ⟨x, h, eqL_iff.mpr rfl⟩⟩
/-- each once, the first ones kept -/
def firsts : List (List Int) → List (List Int) → List (List Int)
  | acc, [] => acc
  | acc, x :: xs => if memL x acc then firsts acc xs else firsts (x :: acc) xs
theorem firsts_mem {x : List Int} : ∀ {xs acc : List (List Int)}, x ∈ firsts acc xs ↔ x ∈ acc ∨ x ∈ xs
  | [], acc => by simp [firsts]
  | y :: xs, acc => by
    unfold firsts
    split
    · rename_i h
      have h := memL_iff.mp h
      rw [firsts_mem, List.mem_cons]
      constructor
      · rintro (k | k) <;> simp [k]
      · rintro (k | k | k)
        · exact .inl k
        · exact .inl (k ▸ h)
        · exact .inr k
    · rw [firsts_mem, List.mem_cons, List.mem_cons]
      constructor
      · rintro ((k | k) | k) <;> simp [k]
      · rintro (k | k | k) <;> simp [k]
theorem firsts_nodup : ∀ {xs acc : List (List Int)}, acc.Nodup → (firsts acc xs).Nodup
  | [], acc, h => h
  | y :: xs, acc, h => by
    unfold firsts
    split
    · exact firsts_nodup h
    · rename_i hn
      exact firsts_nodup (List.nodup_cons.mpr ⟨fun z => hn (memL_iff.mpr z), h⟩)
theorem lies_24 : (firsts [] IX).length = 24 := by decide +kernel
theorem nodup_map {α β : Type} {f : α → β} : ∀ {xs : List α}, xs.Nodup → (∀ x ∈ xs, ∀ y ∈ xs, f x = f y → x = y) → (xs.map f).Nodup
  | [], _, _ => List.nodup_nil
  | x :: xs, h, inj => by
    have h := List.nodup_cons.mp h
    rw [List.map_cons]
    refine List.nodup_cons.mpr ⟨fun z => ?_, nodup_map h.2 fun a ha b hb => inj a (List.mem_cons_of_mem _ ha) b (List.mem_cons_of_mem _ hb)⟩
    obtain ⟨y, hy, e⟩ := List.mem_map.mp z
    have := inj y (List.mem_cons_of_mem _ hy) x List.mem_cons_self e
    exact h.1 (this ▸ hy)
theorem map_inj_on {f : Int → Int} : ∀ {v w : List Int}, (∀ x ∈ v, ∀ y ∈ w, f x = f y → x = y) → v.map f = w.map f → v = w
  | [], [], _, _ => rfl
  | [], _ :: _, _, e => by cases e
  | _ :: _, [], _, e => by cases e
  | x :: v, y :: w, inj, e => by
    rw [List.map_cons, List.map_cons] at e
    injection e with e1 e2
    rw [inj x List.mem_cons_self y List.mem_cons_self e1, map_inj_on (fun a ha b hb => inj a (List.mem_cons_of_mem _ ha) b (List.mem_cons_of_mem _ hb)) e2]
def atD (l : List Int) (i : Int) : Int := (l[i.toNat]?).getD 0
theorem after_mem : ∀ (s : List Nat) {l : List Int} (x : Int), l.length = 6 → (x ∈ afterL l s ↔ x ∈ l)
  | [], _, _, _ => Iff.rfl
  | c :: s, l, x, h => by rw [after_cons, after_mem s x (roll_len h c), roll_mem h c]
theorem at_inj {l : List Int} (h : dieL l = true) : ∀ x ∈ idx6, ∀ y ∈ idx6, atD l x = atD l y → x = y := by
  have nd := die_nodup h
  obtain ⟨a, b, c, d, e, f, rfl⟩ := six (die_len h)
  simp only [List.nodup_cons, List.mem_cons, List.not_mem_nil, or_false, not_or] at nd
  obtain ⟨⟨n1, n2, n3, n4, n5⟩, ⟨n6, n7, n8, n9⟩, ⟨n10, n11, n12⟩, ⟨n13, n14⟩, n15, _⟩ := nd
  intro x hx y hy
  simp only [idx6, List.mem_cons, List.not_mem_nil, or_false] at hx hy
  rcases hx with rfl | rfl | rfl | rfl | rfl | rfl <;> rcases hy with rfl | rfl | rfl | rfl | rfl | rfl <;>
    first
    | (intro _; rfl)
    | (intro z
       exfalso
       have z : (_ : Int) = _ := z
       simp [atD] at z
       first
       | exact absurd z ‹_›
       | exact absurd z.symm ‹_›)
theorem idx_apply {l : List Int} (h : l.length = 6) : idx6.map (atD l) = l := by
  obtain ⟨a, b, c, d, e, f, rfl⟩ := six h
  rfl
theorem ix_mem {v : List Int} (h : v ∈ IX) : ∀ x ∈ v, x ∈ idx6 := fun x hx => by
  rcases List.mem_append.mp h with h | h
  · obtain ⟨w, _, rfl⟩ := List.mem_map.mp h
    exact (after_mem _ x rfl).mp hx
  · obtain ⟨w, _, rfl⟩ := List.mem_map.mp h
    exact (after_mem _ x rfl).mp hx
theorem lies_count {l : List Int} (h : dieL l = true) : (dd ((IX.map fun v => v.map (atD l)).map kv)).length = 24 := by
  have p : ((firsts [] IX).map fun v => kv (v.map (atD l))).Perm (dd ((IX.map fun v => v.map (atD l)).map kv)) := by
    refine len_dd (nodup_map (firsts_nodup List.nodup_nil) fun v hv w hw e => ?_) (fun k hk => ?_) (fun k hk => ?_)
    · have hv := (firsts_mem.mp hv).resolve_left (by simp)
      have hw := (firsts_mem.mp hw).resolve_left (by simp)
      exact map_inj_on (fun x hx y hy => at_inj h x (ix_mem hv x hx) y (ix_mem hw y hy)) (kv_inj e)
    · obtain ⟨v, hv, rfl⟩ := List.mem_map.mp hk
      have hv := (firsts_mem.mp hv).resolve_left (by simp)
      exact List.mem_map.mpr ⟨_, List.mem_map.mpr ⟨v, hv, rfl⟩, rfl⟩
    · obtain ⟨m, hm, rfl⟩ := List.mem_map.mp hk
      obtain ⟨v, hv, rfl⟩ := List.mem_map.mp hm
      exact List.mem_map.mpr ⟨v, firsts_mem.mpr (.inr hv), rfl⟩
  rw [← p.length_eq, List.length_map]
  exact lies_24
end K04
end

section
set_option Elab.async false
set_option linter.all false
set_option maxRecDepth 100000
set_option maxHeartbeats 8000000
namespace K04
open PySem L2 PySem.W Pu PuT
theorem isList_of_eq {a b : List Int} (h : a = b) : vec a = vec b := h ▸ rfl
/-! ### words -/
theorem stepW_len : ∀ ws : List (List Nat), (stepW ws).length = 4 * ws.length
  | [] => rfl
  | w :: ws => by
    have e : stepW (w :: ws) = (ways.map fun c => w ++ [c]) ++ stepW ws := rfl
    rw [e, List.length_append, stepW_len ws, List.length_cons, List.length_map]
    show 4 + 4 * ws.length = _
    omega
theorem stepW_mem {ws : List (List Nat)} {n : Nat} (h : ∀ w ∈ ws, w.length ≤ n ∧ ∀ c ∈ w, wayB c = true) : ∀ w ∈ stepW ws, w.length ≤ n + 1 ∧ ∀ c ∈ w, wayB c = true := fun w hw => by
  obtain ⟨v, hv, hw⟩ := List.mem_flatMap.mp hw
  obtain ⟨c, hc, rfl⟩ := List.mem_map.mp hw
  obtain ⟨h1, h2⟩ := h v hv
  refine ⟨by rw [List.length_append, List.length_singleton]; omega, fun x hx => ?_⟩
  rcases List.mem_append.mp hx with hx | hx
  · exact h2 x hx
  · rw [List.mem_singleton.mp hx]
    have : ∀ c ∈ ways, wayB c = true := by decide
    exact this c hc
theorem stepW_cons (w : List Nat) (ws : List (List Nat)) : stepW (w :: ws) = stepW [w] ++ stepW ws := by
  unfold stepW
  rw [List.flatMap_cons, List.flatMap_cons, List.flatMap_nil, List.append_nil]
def rIn' : EvS := (evX (evExt 4 (evLc (evIt (evC (.str [100, 108, 114, 117]))) (btName 11) evTrue (ev2 (evName 5) (evName 11) addD) [11])))
def rIf : EvS := (evIfS (evB (ev2 (evLc (evIt (evName 4)) (btName 5) (evNot (evB (evCall (evCons (evCall (evCons (evName 1) (evCons (evName 5) evNil)) F_die_after) (evCons (evCall (evCons (evName 1) (evCons (evName 5) evNil)) F__law_after) evNil)) (F__law_same 3)))) (evName 5) [5]) (evLst evNil) neD)) (evRet (evC (.bl false))) evNext)
def rBody : EvS := (evSeq (evSet 4 (evLst evNil)) (evSeq (evFor (evIt (evName 2)) (btName 5) rIn') (evSeq rIf (evSet 2 (evName 4)))))
theorem r_in {c : Ow} {z : D} {s2 s3 : Slot} {w : List Nat} (hw : w.length ≤ 100) {acc : List D} (ha : acc.length ≤ 100000) :
    rIn' [.ow (true, c), .im z, s2, s3, .ow (false, .lst acc), .im (.str w), .no, .no, .no, .no, .no, .no] = some (.nx, [.ow (true, c), .im z, s2, s3, .ow (false, .lst (acc ++ (stepW [w]).map D.str)), .im (.str w), .no, .no, .no, .no, .no, .no]) := by
  have lc := evLc_map (fi := evIt (evC (.str [100, 108, 114, 117]))) (b := btName 11) (c := evTrue) (f := ev2 (evName 5) (evName 11) addD) (vs := [11])
    (g := [.ow (true, c), .im z, s2, s3, .ow (false, .lst acc), .im (.str w), .no, .no, .no, .no, .no, .no]) (g1 := [.ow (true, c), .im z, s2, s3, .ow (false, .lst acc), .im (.str w), .no, .no, .no, .no, .no, .no]) (items := ways.map fun c => .str [c]) (p := fun _ => true)
    (h := fun d => .str (w ++ (match d with | .str s => s | _ => []))) (by simp [runF, evRet, evSeq, evIfS, evNext, evSet, evAnd, evOr, evNot, evNotV, evB, evOrB, evAndB, evIf, evCall, evCons, evNil, toD, toO, evName, evC, ev1, ev2, evCh, Pu.settle, R.opd, Opd.look, Slot.look, Ow.d, evIt, itemsD, sz_eq, ways]) rfl fun d hd => by
      obtain ⟨x, _, rfl⟩ := List.mem_map.mp hd
      have e : addD (.str w) (.str [x]) = _ := addS (by rw [List.length_singleton]; omega)
      exact ⟨[.ow (true, c), .im z, s2, s3, .ow (false, .lst acc), .im (.str w), .no, .no, .no, .no, .no, .im (.str [x])], rfl, rfl, fun _ => by simp [runF, evRet, evSeq, evIfS, evNext, evSet, evAnd, evOr, evNot, evNotV, evB, evOrB, evAndB, evIf, evCall, evCons, evNil, toD, toO, evName, evC, ev1, ev2, evCh, Pu.settle, R.opd, Opd.look, Slot.look, Ow.d, e], rfl⟩
  rw [List.filter_eq_self.mpr fun _ _ => rfl] at lc
  have el : ((ways.map fun c => D.str [c]).map fun d => D.str (w ++ (match d with | .str s => s | _ => []))) = (stepW [w]).map D.str := by
    unfold stepW
    rw [List.flatMap_cons, List.flatMap_nil, List.append_nil, List.map_map, List.map_map]
    rfl
  rw [el] at lc
  simp only [gw, grs] at lc
  have hl : ((stepW [w]).map D.str).length = 4 := by rw [List.length_map, stepW_len]; rfl
  generalize (stepW [w]).map D.str = ys at lc hl ⊢
  have : ∀ F : EvE, F [.ow (true, c), .im z, s2, s3, .ow (false, .lst acc), .im (.str w), .no, .no, .no, .no, .no, .no] = some (.fr (.lst ys), [.ow (true, c), .im z, s2, s3, .ow (false, .lst acc), .im (.str w), .no, .no, .no, .no, .no, .no]) → evX (evExt 4 F) [.ow (true, c), .im z, s2, s3, .ow (false, .lst acc), .im (.str w), .no, .no, .no, .no, .no, .no] = some (.nx, [.ow (true, c), .im z, s2, s3, .ow (false, .lst (acc ++ ys)), .im (.str w), .no, .no, .no, .no, .no, .no]) := fun F e => by
    simp [evX, evExt, runF, evRet, evSeq, evIfS, evNext, evSet, evAnd, evOr, evNot, evNotV, evB, evOrB, evAndB, evIf, evCall, evCons, evNil, toD, toO, evName, evC, ev1, ev2, evCh, Pu.settle, R.opd, Opd.look, Slot.look, Ow.d, e, sz_eq]
    rw [if_pos (by omega)]
  exact this _ lc
theorem r_rows {c : Ow} {z : D} {s2 s3 : Slot} : ∀ (ws : List (List Nat)) {acc : List D} {s5 : Slot}, (∀ w ∈ ws, w.length ≤ 100) → acc.length + 4 * ws.length ≤ 100000 → pl s5 →
    ∃ s5', pl s5' ∧ runFor (btName 5) rIn' (ws.map D.str) [.ow (true, c), .im z, s2, s3, .ow (false, .lst acc), s5, .no, .no, .no, .no, .no, .no] = some (.nx, [.ow (true, c), .im z, s2, s3, .ow (false, .lst (acc ++ (stepW ws).map D.str)), s5', .no, .no, .no, .no, .no, .no])
  | [], acc, s5, _, _, h => ⟨s5, h, by simp [runFor, stepW]⟩
  | w :: ws, acc, s5, hw, hz, _ => by
    rw [List.length_cons] at hz
    have e1 := r_in (c := c) (z := z) (s2 := s2) (s3 := s3) (hw w List.mem_cons_self) (acc := acc) (by omega)
    obtain ⟨s5', hp, e2⟩ := r_rows ws (c := c) (z := z) (s2 := s2) (s3 := s3) (acc := acc ++ (stepW [w]).map D.str) (s5 := .im (.str w)) (fun v hv => hw v (List.mem_cons_of_mem _ hv)) (by rw [List.length_append, List.length_map, stepW_len, List.length_singleton]; omega) (.inr ⟨_, rfl⟩)
    refine ⟨s5', hp, ?_⟩
    rw [List.map_cons, runFor_next (g1 := [.ow (true, c), .im z, s2, s3, .ow (false, .lst acc), .im (.str w), .no, .no, .no, .no, .no, .no]) rfl e1, e2, stepW_cons w ws, List.map_append, List.append_assoc]
theorem r_if {c : Ow} {l : List Int} (h : dieL l = true) {s2 s3 s5 : Slot} (hp : pl s5) {ws : List (List Nat)} (hw : ∀ w ∈ ws, w.length ≤ 100 ∧ ∀ c ∈ w, wayB c = true) :
    rIf [.ow (true, c), .im (vec l), s2, s3, .ow (false, .lst (ws.map D.str)), s5, .no, .no, .no, .no, .no, .no] = some (.nx, [.ow (true, c), .im (vec l), s2, s3, .im (.lst (ws.map D.str)), s5, .no, .no, .no, .no, .no, .no]) := by
  have lc := evLc_map (fi := evIt (evName 4)) (b := btName 5) (c := (evNot (evB (evCall (evCons (evCall (evCons (evName 1) (evCons (evName 5) evNil)) F_die_after) (evCons (evCall (evCons (evName 1) (evCons (evName 5) evNil)) F__law_after) evNil)) (F__law_same 3))))) (f := evName 5) (vs := [5])
    (g := [.ow (true, c), .im (vec l), s2, s3, .ow (false, .lst (ws.map D.str)), s5, .no, .no, .no, .no, .no, .no]) (g1 := [.ow (true, c), .im (vec l), s2, s3, .im (.lst (ws.map D.str)), s5, .no, .no, .no, .no, .no, .no]) (items := ws.map D.str) (p := fun _ => false) (h := fun d => d) rfl (by rcases hp with rfl | ⟨d, rfl⟩ <;> rfl) fun d hd => by
      obtain ⟨w, hw', rfl⟩ := List.mem_map.mp hd
      obtain ⟨h1, h2⟩ := hw w hw'
      have e1 := die_after_run h h1 h2
      have e2 := law_after_run h1 h2 (die_len h)
      have e3 := same_vec (l := afterL l w) (by rw [after_len w (die_len h)]; omega)
      refine ⟨[.ow (true, c), .im (vec l), s2, s3, .im (.lst (ws.map D.str)), .im (.str w), .no, .no, .no, .no, .no, .no], rfl, ?_, fun z => (by cases z), rfl⟩
      generalize vec l = y at e1 e2 ⊢
      generalize vec (afterL l w) = y2 at e1 e2 e3
      simp [runF, evRet, evSeq, evIfS, evNext, evSet, evAnd, evOr, evNot, evNotV, evB, evOrB, evAndB, evIf, evCall, evCons, evNil, toD, toO, evName, evC, ev1, ev2, evCh, Pu.settle, R.opd, Opd.look, Slot.look, Ow.d, e1, e2, e3]
  rw [filter_none fun _ _ => rfl] at lc
  simp only [gw, grs, List.map_nil] at lc
  have nE := neD_nil (xs := []) (by simp)
  unfold rIf
  generalize evLc (evIt (evName 4)) (btName 5) (evNot (evB (evCall (evCons (evCall (evCons (evName 1) (evCons (evName 5) evNil)) F_die_after) (evCons (evCall (evCons (evName 1) (evCons (evName 5) evNil)) F__law_after) evNil)) (F__law_same 3)))) (evName 5) [5] = F at lc
  have lc' : F [.ow (true, c), .im (vec l), s2, s3, .ow (false, .lst (ws.map D.str)), s5, .no, .no, .no, .no, .no, .no] = some (.fr (.lst []), [.ow (true, c), .im (vec l), s2, s3, .im (.lst (ws.map D.str)), s5, .no, .no, .no, .no, .no, .no]) := lc
  generalize vec l = y at lc' ⊢
  simp [runF, evRet, evSeq, evIfS, evNext, evSet, evAnd, evOr, evNot, evNotV, evB, evOrB, evAndB, evIf, evCall, evCons, evNil, toD, toO, evName, evC, ev1, ev2, evCh, Pu.settle, R.opd, Opd.look, Slot.look, Ow.d, evLst, lc', nE]
theorem r_turn {c : Ow} {l : List Int} (h : dieL l = true) {ws : List (List Nat)} (hl : ws.length ≤ 1000) (hw : ∀ w ∈ ws, w.length ≤ 50 ∧ ∀ c ∈ w, wayB c = true) {s2 s3 s4 s5 : Slot} (h2 : s2 = .ow (false, .lst (ws.map D.str)) ∨ s2 = .im (.lst (ws.map D.str))) (hp : pl s5) :
    ∃ s4' s5', pl s5' ∧ rBody [.ow (true, c), .im (vec l), s2, s3, s4, s5, .no, .no, .no, .no, .no, .no] = some (.nx, [.ow (true, c), .im (vec l), .im (.lst ((stepW ws).map D.str)), s3, s4', s5', .no, .no, .no, .no, .no, .no]) := by
  obtain ⟨s5', hp', e1⟩ := r_rows (c := c) (z := vec l) (s2 := .im (.lst (ws.map D.str))) (s3 := s3) ws (acc := []) (s5 := s5) (fun w h => by have := (hw w h).1; omega) (by rw [List.length_nil]; omega) hp
  have hw2 : ∀ w ∈ stepW ws, w.length ≤ 100 ∧ ∀ c ∈ w, wayB c = true := fun w h => by
    have := stepW_mem hw w h
    exact ⟨by omega, this.2⟩
  have e2 := r_if (c := c) h (s2 := .im (.lst (ws.map D.str))) (s3 := s3) hp' hw2
  refine ⟨.im (.lst ((stepW ws).map D.str)), s5', hp', ?_⟩
  unfold rBody
  rw [evSeq_of (g' := [.ow (true, c), .im (vec l), s2, s3, .ow (false, .lst []), s5, .no, .no, .no, .no, .no, .no]) rfl]
  rw [evSeq_of ((evFor_of (g1 := [.ow (true, c), .im (vec l), .im (.lst (ws.map D.str)), s3, .ow (false, .lst []), s5, .no, .no, .no, .no, .no, .no]) (ds := ws.map D.str) (by rcases h2 with rfl | rfl <;> rfl)).trans e1)]
  rw [List.nil_append, evSeq_of e2]
  rfl
theorem r_loop {c : Ow} {l : List Int} (h : dieL l = true) : ∃ s3 s4 s5, pl s3 ∧ pl s5 ∧ runFor (btName 3) rBody ([0, 1, 2, 3].map fun i => .int ((i : Nat) : Int)) [.ow (true, c), .im (vec l), .ow (false, .lst [.str []]), .no, .no, .no, .no, .no, .no, .no, .no, .no] = some (.nx, [.ow (true, c), .im (vec l), .im (.lst (W4.map D.str)), s3, s4, s5, .no, .no, .no, .no, .no, .no]) := by
  have w0 : ∀ w ∈ ([[]] : List (List Nat)), w.length ≤ 0 ∧ ∀ c ∈ w, wayB c = true := by simp
  have w1 := stepW_mem w0
  have w2 := stepW_mem w1
  have w3 := stepW_mem w2
  have up : ∀ {ws : List (List Nat)} {n : Nat}, n ≤ 50 → (∀ w ∈ ws, w.length ≤ n ∧ ∀ c ∈ w, wayB c = true) → ∀ w ∈ ws, w.length ≤ 50 ∧ ∀ c ∈ w, wayB c = true := fun hn h w hw => ⟨Nat.le_trans (h w hw).1 hn, (h w hw).2⟩
  obtain ⟨a4, a5, p1, e1⟩ := r_turn (c := c) h (ws := [[]]) (by simp) (up (by omega) w0) (s2 := .ow (false, .lst [.str []])) (s3 := .im (.int ((0 : Nat) : Int))) (s4 := .no) (s5 := .no) (.inl rfl) (.inl rfl)
  obtain ⟨b4, b5, p2, e2⟩ := r_turn (c := c) h (ws := stepW [[]]) (by rw [stepW_len]; simp) (up (by omega) w1) (s3 := .im (.int ((1 : Nat) : Int))) (s4 := a4) (s5 := a5) (.inr rfl) p1
  obtain ⟨c4, c5, p3, e3⟩ := r_turn (c := c) h (ws := stepW (stepW [[]])) (by rw [stepW_len, stepW_len]; simp) (up (by omega) w2) (s3 := .im (.int ((2 : Nat) : Int))) (s4 := b4) (s5 := b5) (.inr rfl) p2
  obtain ⟨d4, d5, p4, e4⟩ := r_turn (c := c) h (ws := stepW (stepW (stepW [[]]))) (by rw [stepW_len, stepW_len, stepW_len]; simp) (up (by omega) w3) (s3 := .im (.int ((3 : Nat) : Int))) (s4 := c4) (s5 := c5) (.inr rfl) p3
  refine ⟨.im (.int ((3 : Nat) : Int)), d4, d5, .inr ⟨_, rfl⟩, p4, ?_⟩
  rw [List.map_cons, List.map_cons, List.map_cons, List.map_cons, List.map_nil]
  generalize vec l = z at e1 e2 e3 e4 ⊢
  rw [runFor_next rfl e1, runFor_next rfl e2, runFor_next rfl e3, runFor_next rfl e4]
  rfl
theorem W4_mem : ∀ w ∈ W4, w.length ≤ 4 ∧ ∀ c ∈ w, wayB c = true := stepW_mem (stepW_mem (stepW_mem (stepW_mem (n := 0) (by simp))))
theorem W4_len : W4.length = 256 := by
  unfold W4
  rw [stepW_len, stepW_len, stepW_len, stepW_len]
  rfl
theorem cut_take {α : Type} (xs : List α) (k : Nat) : cutL xs none (some (k : Int)) = xs.take k := by
  unfold cutL
  rw [HT.sIx_none, HT.sIx_nat, List.drop_zero]
  by_cases h : k ≤ xs.length
  · rw [Nat.min_eq_left h]; rfl
  · rw [Nat.min_eq_right (by omega), List.take_of_length_le (by omega : xs.length ≤ k)]
    exact List.take_of_length_le (Nat.le_refl _)
theorem cut_drop {α : Type} (xs : List α) (k : Nat) : cutL xs (some (k : Int)) none = xs.drop k := by
  unfold cutL
  rw [HT.sIx_none, HT.sIx_nat]
  by_cases h : k ≤ xs.length
  · rw [Nat.min_eq_left h]
    exact List.take_of_length_le (by rw [List.length_drop]; omega)
  · rw [Nat.min_eq_right (by omega), List.drop_of_length_le (by omega : xs.length ≤ k), List.drop_of_length_le (Nat.le_refl _), List.take_nil]
def rSet : EvS := (evIfS (evB (ev2 (ev1 (ev2 (evLc (evIt (evName 2)) (btName 5) evTrue (evCall (evCons (evName 1) (evCons (evName 5) evNil)) F_die_after) [5]) (evLc (evIt (evName 2)) (btName 5) evTrue (evCall (evCons (evName 1) (evCons (evSl (evName 5) (evP (evC (.int 1))) evNoP) evNil)) F_die_after) [5]) addD) lensetX) (evC (.int 24)) neD)) (evRet (evC (.bl false))) evNext)
theorem r_set {c : Ow} {l : List Int} (h : dieL l = true) {s3 s4 s5 : Slot} (hp : pl s5) {WS : List D} (hWS : WS = W4.map D.str) :
    rSet [.ow (true, c), .im (vec l), .im (.lst WS), s3, s4, s5, .no, .no, .no, .no, .no, .no] = some (.nx, [.ow (true, c), .im (vec l), .im (.lst WS), s3, s4, s5, .no, .no, .no, .no, .no, .no]) := by
  have lenS : (WS.map fun d => (match d with | .str w => vec (afterL l w) | _ => .non)).length ≤ 256 := by rw [List.length_map, hWS, List.length_map, W4_len]; omega
  have lenT : (WS.map fun d => (match d with | .str w => vec (afterL l (w.drop 1)) | _ => .non)).length ≤ 256 := by rw [List.length_map, hWS, List.length_map, W4_len]; omega
  have lc1 := evLc_map (fi := evIt (evName 2)) (b := btName 5) (c := evTrue) (f := (evCall (evCons (evName 1) (evCons (evName 5) evNil)) F_die_after)) (vs := [5])
    (g := [.ow (true, c), .im (vec l), .im (.lst WS), s3, s4, s5, .no, .no, .no, .no, .no, .no]) (g1 := [.ow (true, c), .im (vec l), .im (.lst WS), s3, s4, s5, .no, .no, .no, .no, .no, .no]) (items := WS) (p := fun _ => true) (h := fun d => (match d with | .str w => vec (afterL l w) | _ => .non)) rfl (by rcases hp with rfl | ⟨d, rfl⟩ <;> rfl) fun d hd => by
      rw [hWS] at hd
      obtain ⟨w, hw, rfl⟩ := List.mem_map.mp hd
      obtain ⟨h1, h2⟩ := W4_mem w hw
      have e := die_after_run h (s := w) (by omega) h2
      refine ⟨[.ow (true, c), .im (vec l), .im (.lst WS), s3, s4, .im (.str w), .no, .no, .no, .no, .no, .no], rfl, rfl, fun _ => ?_, rfl⟩
      generalize vec l = y at e ⊢
      simp [runF, evRet, evSeq, evIfS, evNext, evSet, evAnd, evOr, evNot, evNotV, evB, evOrB, evAndB, evIf, evCall, evCons, evNil, toD, toO, evName, evC, ev1, ev2, evCh, Pu.settle, R.opd, Opd.look, Slot.look, Ow.d, e]
  have lc2 := evLc_map (fi := evIt (evName 2)) (b := btName 5) (c := evTrue) (f := (evCall (evCons (evName 1) (evCons (evSl (evName 5) (evP (evC (.int 1))) evNoP) evNil)) F_die_after)) (vs := [5])
    (g := [.ow (true, c), .im (vec l), .im (.lst WS), s3, s4, s5, .no, .no, .no, .no, .no, .no]) (g1 := [.ow (true, c), .im (vec l), .im (.lst WS), s3, s4, s5, .no, .no, .no, .no, .no, .no]) (items := WS) (p := fun _ => true) (h := fun d => (match d with | .str w => vec (afterL l (w.drop 1)) | _ => .non)) rfl (by rcases hp with rfl | ⟨d, rfl⟩ <;> rfl) fun d hd => by
      rw [hWS] at hd
      obtain ⟨w, hw, rfl⟩ := List.mem_map.mp hd
      obtain ⟨h1, h2⟩ := W4_mem w hw
      have ec : cutD (.str w) (some 1) none = some (.im (.str (w.drop 1))) := by rw [Pu.cutS (by omega), show (1 : Int) = ((1 : Nat) : Int) from rfl, cut_drop]
      have e := die_after_run h (s := w.drop 1) (by rw [List.length_drop]; omega) fun x hx => h2 x (List.mem_of_mem_drop hx)
      refine ⟨[.ow (true, c), .im (vec l), .im (.lst WS), s3, s4, .im (.str w), .no, .no, .no, .no, .no, .no], rfl, rfl, fun _ => ?_, rfl⟩
      show toD _ _ = some (vec (afterL l (w.drop 1)), _)
      generalize vec (afterL l (w.drop 1)) = z at e ⊢
      generalize vec l = y at e ⊢
      generalize w.drop 1 = w1 at ec e
      simp [runF, evRet, evSeq, evIfS, evNext, evSet, evAnd, evOr, evNot, evNotV, evB, evOrB, evAndB, evIf, evCall, evCons, evNil, toD, toO, evName, evC, ev1, ev2, evCh, Pu.settle, R.opd, Opd.look, Slot.look, Ow.d, evSl, evP, evNoP, ec, e]
  rw [List.filter_eq_self.mpr fun _ _ => rfl] at lc1 lc2
  simp only [gw, grs] at lc1 lc2
  have eI : (WS.map fun d => (match d with | .str w => vec (afterL l w) | _ => .non)) ++ (WS.map fun d => (match d with | .str w => vec (afterL l (w.drop 1)) | _ => .non)) = (IX.map fun v => v.map (atD l)).map vec := by
    have am : ∀ w, afterL l w = (afterL idx6 w).map (atD l) := fun w => by
      rw [← after_map (atD l) w (v := idx6) rfl, idx_apply (die_len h)]
    rw [hWS]
    unfold IX
    rw [List.map_map, List.map_map, List.map_append, List.map_append, List.map_map, List.map_map, List.map_map, List.map_map]
    congr 1
    · exact List.map_congr_left fun w _ => isList_of_eq (am w)
    · exact List.map_congr_left fun w _ => isList_of_eq (am (w.drop 1))
  have cnt := lies_count h
  have ixl : IX.length = 512 := by
    unfold IX
    rw [List.length_append, List.length_map, List.length_map, W4_len]
  have ixm : ∀ v ∈ IX, v.length = 6 := fun v hv => by
    rcases List.mem_append.mp hv with hv | hv
    · obtain ⟨w, _, rfl⟩ := List.mem_map.mp hv
      exact after_len w rfl
    · obtain ⟨w, _, rfl⟩ := List.mem_map.mp hv
      exact after_len _ rfl
  have ls : lensetX (.lst ((IX.map fun v => v.map (atD l)).map vec)) = some (.im (.int 24)) := by
    show lensetD (.lst ((IX.map fun v => v.map (atD l)).map vec)) = _
    unfold lensetD
    rw [show itemsS (.lst ((IX.map fun v => v.map (atD l)).map vec)) = some ((IX.map fun v => v.map (atD l)).map kv) from keysOf_vecs _]
    dsimp only
    rw [if_pos (setOk_vecs (by rw [List.length_map, ixl]; omega) fun m hm => by
      obtain ⟨v, hv, rfl⟩ := List.mem_map.mp hm
      intro z
      have := congrArg List.length z
      rw [List.length_map, ixm v hv] at this
      cases this), cnt]
    rfl
  rw [← eI] at ls
  have n24 : neD (.int 24) (.int 24) = some (.im (.bl false)) := by rw [neD_int]; rfl
  generalize (WS.map fun d => (match d with | .str w => vec (afterL l w) | _ => .non)) = A1 at lc1 ls lenS
  generalize (WS.map fun d => (match d with | .str w => vec (afterL l (w.drop 1)) | _ => .non)) = A2 at lc2 ls lenT
  have aA : addD (.lst A1) (.lst A2) = _ := addL (by omega)
  generalize A1 ++ A2 = A3 at aA ls
  unfold rSet
  generalize evLc (evIt (evName 2)) (btName 5) evTrue (evCall (evCons (evName 1) (evCons (evName 5) evNil)) F_die_after) [5] = F1 at lc1 ⊢
  generalize evLc (evIt (evName 2)) (btName 5) evTrue (evCall (evCons (evName 1) (evCons (evSl (evName 5) (evP (evC (.int 1))) evNoP) evNil)) F_die_after) [5] = F2 at lc2 ⊢
  have lc1' : F1 [.ow (true, c), .im (vec l), .im (.lst WS), s3, s4, s5, .no, .no, .no, .no, .no, .no] = some (.fr (.lst A1), [.ow (true, c), .im (vec l), .im (.lst WS), s3, s4, s5, .no, .no, .no, .no, .no, .no]) := lc1
  have lc2' : F2 [.ow (true, c), .im (vec l), .im (.lst WS), s3, s4, s5, .no, .no, .no, .no, .no, .no] = some (.fr (.lst A2), [.ow (true, c), .im (vec l), .im (.lst WS), s3, s4, s5, .no, .no, .no, .no, .no, .no]) := lc2
  generalize vec l = y at lc1' lc2' ⊢
  simp [runF, evRet, evSeq, evIfS, evNext, evSet, evAnd, evOr, evNot, evNotV, evB, evOrB, evAndB, evIf, evCall, evCons, evNil, toD, toO, evName, evC, ev1, ev2, evCh, Pu.settle, R.opd, Opd.look, Slot.look, Ow.d, lc1', lc2', aA, ls, n24]
def dl : List Nat := [100, 108, 114, 117]
def rLong : EvS := (evSet 6 (ev1 (evLc (evR1 (evCallC 0 (evCons (evLst (evCons (evC (.int 5)) (evCons (evC (.int 40)) (evCons (evC (.int 100)) evNil)))) evNil) F__law_some)) (btName 3) evTrue (evCallC 0 (evCons (evC (.str dl)) evNil) F__law_some) [3]) (joinD [])))
theorem dl_way : ∀ x ∈ dl, wayB x = true := by decide
theorem way_small {c : Nat} (h : wayB c = true) : c < 1114112 := by
  unfold wayB at h
  simp only [Bool.or_eq_true, beq_iff_eq] at h
  omega
theorem r_long {c : Ow} (hc : cupOk c) {z w2 : D} {s3 s4 s5 : Slot} (h3 : pl s3) : ∃ (c' : Ow) (n : List Nat), cupOk c' ∧ n.length ≤ 100 ∧ (∀ x ∈ n, wayB x = true) ∧
    rLong [.ow (true, c), .im z, .im w2, s3, s4, s5, .no, .no, .no, .no, .no, .no] = some (.nx, [.ow (true, c'), .im z, .im w2, s3, s4, s5, .im (.str n), .no, .no, .no, .no, .no]) := by
  obtain ⟨v, c1, e, hv, hc1⟩ := some_lst (roll := F__law_roll) roll_ok hc (xs := [.int 5, .int 40, .int 100]) (by simp) (by simp)
  have hk : ∃ k : Nat, v = .int k ∧ k ≤ 100 := by
    simp only [List.mem_cons, List.not_mem_nil, or_false] at hv
    rcases hv with rfl | rfl | rfl
    · exact ⟨5, rfl, by omega⟩
    · exact ⟨40, rfl, by omega⟩
    · exact ⟨100, rfl, by omega⟩
  obtain ⟨k, rfl, hk⟩ := hk
  have e1 := callC_run (A := (evCons (evLst (evCons (evC (.int 5)) (evCons (evC (.int 40)) (evCons (evC (.int 100)) evNil)))) evNil)) (F := F__law_some) (b := true) (t := [.im z, .im w2, s3, s4, s5, .no, .no, .no, .no, .no, .no]) rfl e
  obtain ⟨ys, g', e2, l, p, c', hc', rfl⟩ := evLc_inv (fi := (evR1 (evCallC 0 (evCons (evLst (evCons (evC (.int 5)) (evCons (evC (.int 40)) (evCons (evC (.int 100)) evNil)))) evNil) F__law_some))) (b := btName 3) (c := evTrue) (f := (evCallC 0 (evCons (evC (.str dl)) evNil) F__law_some)) (vs := [3])
    (g := [.ow (true, c), .im z, .im w2, s3, s4, s5, .no, .no, .no, .no, .no, .no]) (g1 := [.ow (true, c1), .im z, .im w2, s3, s4, s5, .no, .no, .no, .no, .no, .no])
    (items := (List.range k).map fun i => .int (i : Nat))
    (fun g => ∃ c, cupOk c ∧ g = [.ow (true, c), .im z, .im w2, .no, s4, s5, .no, .no, .no, .no, .no, .no]) (fun d => ∃ x ∈ dl, d = .str [x])
    (by simp [evR1, runF, evRet, evSeq, evIfS, evNext, evSet, evAnd, evOr, evNot, evNotV, evB, evOrB, evAndB, evIf, evCall, evCons, evNil, toD, toO, evName, evC, ev1, ev2, evCh, Pu.settle, R.opd, Opd.look, Slot.look, Ow.d, e1, sz_eq]; omega) (by rcases h3 with rfl | ⟨d, rfl⟩ <;> rfl) ⟨c1, hc1, rfl⟩ fun d hd g hg => by
      obtain ⟨c, hc, rfl⟩ := hg
      obtain ⟨x, c', e, hx, hc'⟩ := some_str (roll := F__law_roll) roll_ok hc (xs := dl) (by decide) (by decide)
      have e2 := callC_run (A := evCons (evC (.str dl)) evNil) (F := F__law_some) (b := true) (t := [.im z, .im w2, .im d, s4, s5, .no, .no, .no, .no, .no, .no]) rfl e
      refine ⟨_, _, .str [x], [.ow (true, c'), .im z, .im w2, .im d, s4, s5, .no, .no, .no, .no, .no, .no], rfl, rfl, ?_, ⟨c', hc', rfl⟩, ⟨x, hx, rfl⟩⟩
      unfold toD
      show (match evCallC 0 (evCons (evC (.str dl)) evNil) F__law_some [.ow (true, c), .im z, .im w2, .im d, s4, s5, .no, .no, .no, .no, .no, .no] with | none => none | some p => settle p) = _
      rw [e2]
      rfl
  have key : ∀ ys : List D, (∀ y ∈ ys, ∃ x ∈ dl, y = .str [x]) → ∃ n : List Nat, ys = n.map (fun c => .str [c]) ∧ ∀ x ∈ n, x ∈ dl := fun ys => by
    induction ys with
    | nil => exact fun _ => ⟨[], rfl, by simp⟩
    | cons y ys ih =>
      intro h
      obtain ⟨n, rfl, hn⟩ := ih fun y hy => h y (List.mem_cons_of_mem _ hy)
      obtain ⟨x, hx, rfl⟩ := h y List.mem_cons_self
      exact ⟨x :: n, rfl, fun z hz => (List.mem_cons.mp hz).elim (fun e => e ▸ hx) (hn z)⟩
  obtain ⟨n, rfl, hn⟩ := key ys p
  rw [List.length_map, List.length_map, List.length_range] at l
  have e3 := join_signs n (by omega)
  refine ⟨c', n, hc', by omega, fun x hx => dl_way x (hn x hx), ?_⟩
  simp only [gw, grs] at e2
  generalize (n.map fun c => D.str [c]) = N at e2 e3
  unfold rLong
  generalize evLc (evR1 (evCallC 0 (evCons (evLst (evCons (evC (.int 5)) (evCons (evC (.int 40)) (evCons (evC (.int 100)) evNil)))) evNil) F__law_some)) (btName 3) evTrue (evCallC 0 (evCons (evC (.str dl)) evNil) F__law_some) [3] = F at e2 ⊢
  have e2' : F [.ow (true, c), .im z, .im w2, s3, s4, s5, .no, .no, .no, .no, .no, .no] = some (.fr (.lst N), [.ow (true, c'), .im z, .im w2, s3, s4, s5, .no, .no, .no, .no, .no, .no]) := e2
  simp [runF, evRet, evSeq, evIfS, evNext, evSet, evAnd, evOr, evNot, evNotV, evB, evOrB, evAndB, evIf, evCall, evCons, evNil, toD, toO, evName, evC, ev1, ev2, evCh, Pu.settle, R.opd, Opd.look, Slot.look, Ow.d, e2', e3]
def rAt : EvS := (evSet 7 (evCallC 0 (evCons (ev2 (ev1 (evName 6) lenD) (evC (.int 1)) addD) evNil) F__law_roll))
theorem lenW {n : List Nat} (h : n.length ≤ 100) : lenD (.str n) = some (.im (.int n.length)) := by
  simp only [lenD]
  rw [if_pos (by rw [sz_eq]; omega)]
theorem r_at {c : Ow} (hc : cupOk c) {z w2 : D} {s3 s4 s5 : Slot} {n : List Nat} (hn : n.length ≤ 100) : ∃ (c' : Ow) (a : Nat), cupOk c' ∧ a ≤ n.length ∧
    rAt [.ow (true, c), .im z, .im w2, s3, s4, s5, .im (.str n), .no, .no, .no, .no, .no] = some (.nx, [.ow (true, c'), .im z, .im w2, s3, s4, s5, .im (.str n), .im (.int a), .no, .no, .no, .no]) := by
  obtain ⟨v, c', e, h0, h1, hc'⟩ := roll_ok hc (n := (n.length : Int) + 1) (by omega) (by omega)
  obtain ⟨a, rfl⟩ := Int.eq_ofNat_of_zero_le h0
  refine ⟨c', a, hc', by omega, ?_⟩
  have e2 := callC_run (A := (evCons (ev2 (ev1 (evName 6) lenD) (evC (.int 1)) addD) evNil)) (b := true) (t := [.im z, .im w2, s3, s4, s5, .im (.str n), .no, .no, .no, .no, .no]) (by simp [runF, evRet, evSeq, evIfS, evNext, evSet, evAnd, evOr, evNot, evNotV, evB, evOrB, evAndB, evIf, evCall, evCons, evNil, toD, toO, evName, evC, ev1, ev2, evCh, Pu.settle, R.opd, Opd.look, Slot.look, Ow.d, lenW hn]) e
  simp [rAt, runF, evRet, evSeq, evIfS, evNext, evSet, evAnd, evOr, evNot, evNotV, evB, evOrB, evAndB, evIf, evCall, evCons, evNil, toD, toO, evName, evC, ev1, ev2, evCh, Pu.settle, R.opd, Opd.look, Slot.look, Ow.d, e2]
def tabO : List (List Nat × D) := [([100], (.str [117])), ([117], (.str [100])), ([108], (.str [114])), ([114], (.str [108]))]
def rBk : EvS := (evSet 8 (ev1 (evLc (evIt (ev1 (evName 6) revX)) (btName 11) evTrue (ev1 (evName 11) (ixT tabO)) [11]) (joinD [])))
theorem ix_opp {c : Nat} (h : wayB c = true) : ixT tabO (.str [c]) = some (.im (.str [opp c])) := by
  unfold wayB at h
  simp only [Bool.or_eq_true, beq_iff_eq] at h
  rcases h with ((rfl | rfl) | rfl) | rfl <;> rfl
theorem r_bk {c : Ow} {z w2 a : D} {s3 s4 s5 : Slot} {n : List Nat} (hn : n.length ≤ 100) (hw : ∀ x ∈ n, wayB x = true) :
    rBk [.ow (true, c), .im z, .im w2, s3, s4, s5, .im (.str n), .im a, .no, .no, .no, .no] = some (.nx, [.ow (true, c), .im z, .im w2, s3, s4, s5, .im (.str n), .im a, .im (.str (n.reverse.map opp)), .no, .no, .no]) := by
  have rv : revX (.str n) = some (.im (.str n.reverse)) := by
    simp only [revX]
    rw [if_pos (by rw [sz_eq]; omega)]
  have it : itemsD (.str n.reverse) = _ := itemsW (by rw [List.length_reverse]; exact hn)
  have lc := evLc_map (fi := evIt (ev1 (evName 6) revX)) (b := btName 11) (c := evTrue) (f := (ev1 (evName 11) (ixT tabO))) (vs := [11])
    (g := [.ow (true, c), .im z, .im w2, s3, s4, s5, .im (.str n), .im a, .no, .no, .no, .no]) (g1 := [.ow (true, c), .im z, .im w2, s3, s4, s5, .im (.str n), .im a, .no, .no, .no, .no]) (items := n.reverse.map fun c => .str [c]) (p := fun _ => true)
    (h := fun d => .str (match d with | .str s => s.map opp | _ => [])) (by simp [runF, evRet, evSeq, evIfS, evNext, evSet, evAnd, evOr, evNot, evNotV, evB, evOrB, evAndB, evIf, evCall, evCons, evNil, toD, toO, evName, evC, ev1, ev2, evCh, Pu.settle, R.opd, Opd.look, Slot.look, Ow.d, evIt, rv, it]) rfl fun d hd => by
      obtain ⟨x, hx, rfl⟩ := List.mem_map.mp hd
      have e := ix_opp (hw x (List.mem_reverse.mp hx))
      exact ⟨[.ow (true, c), .im z, .im w2, s3, s4, s5, .im (.str n), .im a, .no, .no, .no, .im (.str [x])], rfl, rfl, fun _ => by simp [runF, evRet, evSeq, evIfS, evNext, evSet, evAnd, evOr, evNot, evNotV, evB, evOrB, evAndB, evIf, evCall, evCons, evNil, toD, toO, evName, evC, ev1, ev2, evCh, Pu.settle, R.opd, Opd.look, Slot.look, Ow.d, e], rfl⟩
  rw [List.filter_eq_self.mpr fun _ _ => rfl] at lc
  simp only [gw, grs] at lc
  have el : ((n.reverse.map fun c => D.str [c]).map fun d => D.str (match d with | .str s => s.map opp | _ => [])) = (n.reverse.map opp).map fun c => D.str [c] := by
    rw [List.map_map, List.map_map]
    rfl
  rw [el] at lc
  have e3 := join_signs (n.reverse.map opp) (by rw [List.length_map, List.length_reverse]; omega)
  generalize ((n.reverse.map opp).map fun c => D.str [c]) = N at lc e3
  unfold rBk
  generalize evLc (evIt (ev1 (evName 6) revX)) (btName 11) evTrue (ev1 (evName 11) (ixT tabO)) [11] = F at lc ⊢
  have lc' : F [.ow (true, c), .im z, .im w2, s3, s4, s5, .im (.str n), .im a, .no, .no, .no, .no] = some (.fr (.lst N), [.ow (true, c), .im z, .im w2, s3, s4, s5, .im (.str n), .im a, .no, .no, .no, .no]) := lc
  simp [runF, evRet, evSeq, evIfS, evNext, evSet, evAnd, evOr, evNot, evNotV, evB, evOrB, evAndB, evIf, evCall, evCons, evNil, toD, toO, evName, evC, ev1, ev2, evCh, Pu.settle, R.opd, Opd.look, Slot.look, Ow.d, lc', e3]
end K04
end

section
set_option Elab.async false
set_option linter.all false
set_option maxRecDepth 100000
set_option maxHeartbeats 8000000
namespace K04
open PySem L2 PySem.W Pu PuT
def rLate : EvS := (evSet 9 (evCall (evCons (evName 1) (evCons (evName 6) evNil)) F_die_after))
def rTold : EvS := (evSet 10 (evTup (evCons (evName 9) (evCons (evCall (evCons (evName 9) (evCons (evName 8) evNil)) F_die_after) (evCons (evCall (evCons (evCall (evCons (evName 1) (evCons (evSl (evName 6) evNoP (evP (evName 7))) evNil)) F_die_after) (evCons (evSl (evName 6) (evP (evName 7)) evNoP) evNil)) F_die_after) evNil)))))
def rEnd : EvE := (evAnd (evCall (evCons (evName 10) (evCons (evTup (evCons (evCall (evCons (evName 1) (evCons (evName 6) evNil)) F__law_after) (evCons (evName 1) (evCons (evName 9) evNil)))) evNil)) (F__law_same 3)) (ev2 (evCall (evCons (evName 9) evNil) F__law_sense) (evCall (evCons (evName 1) evNil) F__law_sense) eqD))
theorem rolls_eq : F__law_rolls_right = runC (evSeq (evSet 2 (evLst (evCons (evC (.str [])) evNil))) (evSeq (evFor (evR1 (evC (.int 4))) (btName 3) rBody) (evSeq rSet (evSeq rLong (evSeq rAt (evSeq rBk (evSeq rLate (evSeq rTold (evRet rEnd))))))))) 1 12 := rfl
theorem same_tup {xs : List (List Int)} (h : xs.length ≤ 1000) (h2 : ∀ l ∈ xs, l.length ≤ 1000) : F__law_same 3 [.tup (xs.map vec), .tup (xs.map vec)] = some (.im (.bl true)) := by
  rw [same_eq]
  refine same_self 3 _ ?_
  unfold smOk
  rw [Bool.and_eq_true, decide_eq_true_eq, List.length_map, List.all_eq_true]
  refine ⟨by omega, fun x hx => ?_⟩
  obtain ⟨l, hl, rfl⟩ := List.mem_map.mp hx
  exact smOk_vec 0 (h2 l hl)
theorem senseR_ok (l : List Int) : okP (senseR l) = true := by
  refine okP_of (n := 3) (okN_tup (n := 2) fun x hx => ?_) (by omega)
  simp only [List.mem_cons, List.not_mem_nil, or_false] at hx
  rcases hx with rfl | rfl
  · exact okN_lst fun y hy => by
      obtain ⟨m, _, rfl⟩ := List.mem_map.mp hy
      exact okN_vec m
  · exact okN_le (okN_int _) (by omega)
theorem rolls_run {c : Ow} (hc : cupOk c) {l : List Int} (h : dieL l = true) : ∃ c', F__law_rolls_right c [vec l] = some (.im (.bl true), c') ∧ cupOk c' := by
  have hl := die_len h
  obtain ⟨s3, s4, s5, p3, p5, e1⟩ := r_loop (c := c) h
  obtain ⟨WS, hWS⟩ : ∃ WS, WS = W4.map D.str := ⟨_, rfl⟩
  rw [← hWS] at e1
  have e2 := r_set (c := c) h (s3 := s3) (s4 := s4) p5 hWS
  clear hWS
  obtain ⟨c1, n, hc1, ln, wn, e3⟩ := r_long hc (z := vec l) (w2 := .lst WS) (s4 := s4) (s5 := s5) p3
  obtain ⟨c2, a, hc2, la, e4⟩ := r_at hc1 (z := vec l) (w2 := .lst WS) (s3 := s3) (s4 := s4) (s5 := s5) ln
  have e5 := r_bk (c := c2) (z := vec l) (w2 := .lst WS) (a := .int a) (s3 := s3) (s4 := s4) (s5 := s5) ln wn
  have d1 := die_after_run h ln wn
  have hA := die_after_die n h
  have bw : ∀ x ∈ n.reverse.map opp, wayB x = true := fun x hx => by
    obtain ⟨y, _, rfl⟩ := List.mem_map.mp hx
    exact opp_way y
  have d2 := die_after_run hA (s := n.reverse.map opp) (by rw [List.length_map, List.length_reverse]; exact ln) bw
  rw [after_back n hl wn] at d2
  have d3 := die_after_run h (s := n.take a) (by rw [List.length_take]; omega) fun x hx => wn x (List.mem_of_mem_take hx)
  have d4 := die_after_run (die_after_die (n.take a) h) (s := n.drop a) (by rw [List.length_drop]; omega) fun x hx => wn x (List.mem_of_mem_drop hx)
  rw [← after_app, List.take_append_drop] at d4
  have d5 := law_after_run ln wn hl
  have q1 : cutD (.str n) none (some (a : Int)) = some (.im (.str (n.take a))) := by rw [Pu.cutS (by omega), cut_take]
  have q2 : cutD (.str n) (some (a : Int)) none = some (.im (.str (n.drop a))) := by rw [Pu.cutS (by omega), cut_drop]
  have sm : F__law_same 3 [.tup [vec (afterL l n), vec l, vec (afterL l n)], .tup [vec (afterL l n), vec l, vec (afterL l n)]] = some (.im (.bl true)) := same_tup (xs := [afterL l n, l, afterL l n]) (by simp) fun m hm => by
    have lA := after_len n hl
    simp only [List.mem_cons, List.not_mem_nil, or_false] at hm
    rcases hm with rfl | rfl | rfl <;> omega
  have n1 := sense_run (after_len n hl)
  have n2 := sense_run hl
  have es : senseR (afterL l n) = senseR l := by
    unfold senseR
    rw [sense_after n h wn]
  rw [es] at n1
  have n3 := eqD_self (senseR_ok l)
  refine ⟨c2, ?_, hc2⟩
  rw [rolls_eq]
  refine runC_im (g := [.ow (true, c2), .im (vec l), .im (.lst WS), s3, s4, s5, .im (.str n), .im (.int a), .im (.str (n.reverse.map opp)), .im (vec (afterL l n)), .im (.tup [vec (afterL l n), vec l, vec (afterL l n)]), .no]) rfl ?_ rfl
  show evSeq _ _ [.ow (true, c), .im (vec l), .no, .no, .no, .no, .no, .no, .no, .no, .no, .no] = _
  generalize n.reverse.map opp = bk at e5 d2 ⊢
  generalize n.take a = nt at q1 d3 d4
  generalize n.drop a = nd at q2 d4
  generalize afterL l nt = ld at d3 d4
  generalize senseR l = SR at n1 n2 n3
  generalize vec (afterL l n) = zA at d1 d2 d4 d5 sm n1 ⊢
  generalize vec l = z at e1 e2 e3 e4 e5 d1 d2 d3 d5 sm n2 ⊢
  generalize vec ld = zd at d3 d4
  rw [evSeq_of (g' := [.ow (true, c), .im z, .ow (false, .lst [.str []]), .no, .no, .no, .no, .no, .no, .no, .no, .no]) rfl]
  rw [evSeq_of ((evFor_of (by simp [evR1, runF, evRet, evSeq, evIfS, evNext, evSet, evAnd, evOr, evNot, evNotV, evB, evOrB, evAndB, evIf, evCall, evCons, evNil, toD, toO, evName, evC, ev1, ev2, evCh, Pu.settle, R.opd, Opd.look, Slot.look, Ow.d, sz_eq]; rfl)).trans e1)]
  rw [evSeq_of e2, evSeq_of e3, evSeq_of e4, evSeq_of e5]
  rw [evSeq_of (g' := [.ow (true, c2), .im z, .im (.lst WS), s3, s4, s5, .im (.str n), .im (.int a), .im (.str bk), .im zA, .no, .no]) (by simp [rLate, runF, evRet, evSeq, evIfS, evNext, evSet, evAnd, evOr, evNot, evNotV, evB, evOrB, evAndB, evIf, evCall, evCons, evNil, toD, toO, evName, evC, ev1, ev2, evCh, Pu.settle, R.opd, Opd.look, Slot.look, Ow.d, d1])]
  rw [evSeq_of (g' := [.ow (true, c2), .im z, .im (.lst WS), s3, s4, s5, .im (.str n), .im (.int a), .im (.str bk), .im zA, .im (.tup [zA, z, zA]), .no]) (by simp [rTold, runF, evRet, evSeq, evIfS, evNext, evSet, evAnd, evOr, evNot, evNotV, evB, evOrB, evAndB, evIf, evCall, evCons, evNil, toD, toO, evName, evC, ev1, ev2, evCh, Pu.settle, R.opd, Opd.look, Slot.look, Ow.d, evTup, evSl, evP, evNoP, q1, q2, d2, d3, d4])]
  simp [rEnd, runF, evRet, evSeq, evIfS, evNext, evSet, evAnd, evOr, evNot, evNotV, evB, evOrB, evAndB, evIf, evCall, evCons, evNil, toD, toO, evName, evC, ev1, ev2, evCh, Pu.settle, R.opd, Opd.look, Slot.look, Ow.d, evTup, d5, sm, n1, n2, n3]
/-! ### the law -/
theorem cup_eq : F__law_cup = runF (cupX 2317 3309 9227 2077519049 2427) 1 2 := rfl
def lA : EvS := (evSet 2 (evTup (evCons (evC (.int 3)) (evCons (evC (.int 4)) (evCons (evC (.int 2)) (evCons (evC (.int 5)) (evCons (evC (.int 1)) (evCons (evC (.int 6)) evNil))))))))
def lB : EvS := (evSet 3 (ev1 (evLc (evIt (evTup (evCons (evC (.str [])) (evCons (evC (.str [114])) (evCons (evC (.str [108])) (evCons (evC (.str [117])) (evCons (evC (.str [100])) (evCons (evC (.str [114, 114, 114, 114])) (evCons (evC (.str [114, 117, 108, 100])) evNil))))))))) (btName 7) evTrue (evCall (evCons (evName 2) (evCons (evName 7) evNil)) F_die_after) [7]) tupleD))
def lC : EvS := (evSet 4 (evTup (evCons (evName 2) (evCons (evTup (evCons (evC (.int 1)) (evCons (evC (.int 6)) (evCons (evC (.int 2)) (evCons (evC (.int 5)) (evCons (evC (.int 4)) (evCons (evC (.int 3)) evNil))))))) (evCons (evTup (evCons (evC (.int 6)) (evCons (evC (.int 1)) (evCons (evC (.int 2)) (evCons (evC (.int 5)) (evCons (evC (.int 3)) (evCons (evC (.int 4)) evNil))))))) (evCons (evTup (evCons (evC (.int 3)) (evCons (evC (.int 4)) (evCons (evC (.int 1)) (evCons (evC (.int 6)) (evCons (evC (.int 5)) (evCons (evC (.int 2)) evNil))))))) (evCons (evTup (evCons (evC (.int 3)) (evCons (evC (.int 4)) (evCons (evC (.int 6)) (evCons (evC (.int 1)) (evCons (evC (.int 2)) (evCons (evC (.int 5)) evNil))))))) (evCons (evName 2) (evCons (evTup (evCons (evC (.int 2)) (evCons (evC (.int 5)) (evCons (evC (.int 6)) (evCons (evC (.int 1)) (evCons (evC (.int 4)) (evCons (evC (.int 3)) evNil))))))) evNil)))))))))
def lD : EvS := (evSet 3 (ev2 (evName 3) (ev1 (evLc (evIt (evTup (evCons (evTup (evCons (evC (.int 1)) (evCons (evC (.int 2)) (evCons (evC (.int 3)) (evCons (evC (.int 4)) (evCons (evC (.int 5)) (evCons (evC (.int 6)) evNil))))))) (evCons (evTup (evCons (evC (.int 6)) (evCons (evC (.int 6)) (evCons (evC (.int 1)) (evCons (evC (.int 2)) (evCons (evC (.int 3)) (evCons (evC (.int 4)) evNil))))))) (evCons (evTup (evCons (evC (.bl true)) (evCons (evC (.int 2)) (evCons (evC (.int 3)) (evCons (evC (.int 4)) (evCons (evC (.int 5)) (evCons (evC (.int 6)) evNil))))))) evNil))))) (btName 8) evTrue (evCall (evCons (evName 8) evNil) F_is_die) [8]) tupleD) addD))
def lE : EvS := (evIfS (evNot (evB (evCall (evCons (evName 3) (evCons (ev2 (evName 4) (evTup (evCons (evC (.bl true)) (evCons (evC (.bl false)) (evCons (evC (.bl false)) evNil)))) addD) evNil)) (F__law_same 3)))) (evRet (evC (.bl false))) evNext)
def lFp (V : Ow → List D → Option (R × Ow)) : EvS := (evIfS (evOrB (evNot (evB (evCallC 1 evNil V))) (evNot (evB (evCall (evCons (evCall (evCons (evName 2) (evCons (ev2 (ev2 (evC (.str [117])) (evC (.int 99)) mulD) (evC (.str [114])) addD) evNil)) F_die_after) (evCons (evTup (evCons (evC (.int 2)) (evCons (evC (.int 5)) (evCons (evC (.int 6)) (evCons (evC (.int 1)) (evCons (evC (.int 4)) (evCons (evC (.int 3)) evNil))))))) evNil)) (F__law_same 3))))) (evRet (evC (.bl false))) evNext)
def lF : EvS := lFp F__law_values_right
def lG : EvS := (evSet 5 (evCall (evCons (evTup (evCons (evC (.int 1)) (evCons (evC (.int 2)) (evCons (evC (.int 3)) (evCons (evC (.int 4)) (evCons (evC (.int 5)) (evCons (evC (.int 6)) evNil))))))) evNil) F__law_orders))
def lHp (S V : Ow → List D → Option (R × Ow)) : EvS := (evIfS (evNot (evB (evCallC 1 (evCons (evCallC 1 (evCons (evName 5) evNil) S) evNil) V))) (evRet (evC (.bl false))) evNext)
def lH : EvS := lHp F__law_some F__law_rolls_right
theorem law_eq : F_law = runF (evSeq (evSet 1 (evCall (evCons (evName 0) evNil) F__law_cup)) (evSeq lA (evSeq lB (evSeq lC (evSeq lD (evSeq lE (evSeq lF (evSeq lG (evSeq (evFor (evR1 (evC (.int 4))) (btName 6) lH) (evRet (evC (.bl true))))))))))) ) 1 9 := rfl
def dA : D := vec [3, 4, 2, 5, 1, 6]
def due7 : List D := [vec [3, 4, 2, 5, 1, 6], vec [1, 6, 2, 5, 4, 3], vec [6, 1, 2, 5, 3, 4], vec [3, 4, 1, 6, 5, 2], vec [3, 4, 6, 1, 2, 5], vec [3, 4, 2, 5, 1, 6], vec [2, 5, 6, 1, 4, 3]]
def told10 : List D := [vec [3, 4, 2, 5, 1, 6], vec [1, 6, 2, 5, 4, 3], vec [6, 1, 2, 5, 3, 4], vec [3, 4, 1, 6, 5, 2], vec [3, 4, 6, 1, 2, 5], vec [3, 4, 2, 5, 1, 6], vec [2, 5, 6, 1, 4, 3], .bl true, .bl false, .bl false]
section
variable {c : Ow} {f : D}
theorem lA_run : lA [.im f, .ow (false, c), .no, .no, .no, .no, .no, .no, .no] = some (.nx, [.im f, .ow (false, c), .im dA, .no, .no, .no, .no, .no, .no]) := by kernel_rfl
theorem lB_run : lB [.im f, .ow (false, c), .im dA, .no, .no, .no, .no, .no, .no] = some (.nx, [.im f, .ow (false, c), .im dA, .im (.tup due7), .no, .no, .no, .no, .no]) := by kernel_rfl
theorem lC_run : lC [.im f, .ow (false, c), .im dA, .im (.tup due7), .no, .no, .no, .no, .no] = some (.nx, [.im f, .ow (false, c), .im dA, .im (.tup due7), .im (.tup due7), .no, .no, .no, .no]) := by kernel_rfl
theorem lD_run : lD [.im f, .ow (false, c), .im dA, .im (.tup due7), .im (.tup due7), .no, .no, .no, .no] = some (.nx, [.im f, .ow (false, c), .im dA, .im (.tup told10), .im (.tup due7), .no, .no, .no, .no]) := by kernel_rfl
theorem lE_run : lE [.im f, .ow (false, c), .im dA, .im (.tup told10), .im (.tup due7), .no, .no, .no, .no] = some (.nx, [.im f, .ow (false, c), .im dA, .im (.tup told10), .im (.tup due7), .no, .no, .no, .no]) := by kernel_rfl
theorem roll99 : F_die_after [dA, .str (List.replicate 99 117 ++ [114])] = some (.im (vec [2, 5, 6, 1, 4, 3])) := by
  have := die_after_run (l := [3, 4, 2, 5, 1, 6]) (by decide +kernel) (s := List.replicate 99 117 ++ [114]) (by decide) (by decide)
  rw [show afterL [3, 4, 2, 5, 1, 6] (List.replicate 99 117 ++ [114]) = [2, 5, 6, 1, 4, 3] by decide +kernel] at this
  unfold dA
  exact this
theorem lF_m1 : mulD (.str [117]) (.int 99) = some (.im (.str (List.replicate 99 117))) := by kernel_rfl
theorem lF_m2 : addD (.str (List.replicate 99 117)) (.str [114]) = some (.im (.str (List.replicate 99 117 ++ [114]))) := addS (by decide)
theorem lF_m4 : F__law_same 3 [vec [2, 5, 6, 1, 4, 3], vec [2, 5, 6, 1, 4, 3]] = some (.im (.bl true)) := same_vec (l := [2, 5, 6, 1, 4, 3]) (by decide)
theorem lF_gen {V : Ow → List D → Option (R × Ow)} {c' : Ow} {z Z : D} {S1 S2 : List Nat} (e : V c [] = some (.im (.bl true), c')) (m1 : mulD (.str [117]) (.int 99) = some (.im (.str S1))) (m2 : addD (.str S1) (.str [114]) = some (.im (.str S2)))
    (m3 : F_die_after [z, .str S2] = some (.im Z)) (m4 : F__law_same 3 [Z, .tup [.int 2, .int 5, .int 6, .int 1, .int 4, .int 3]] = some (.im (.bl true))) {a b : D} :
    lFp V [.im f, .ow (false, c), .im z, .im a, .im b, .no, .no, .no, .no] = some (.nx, [.im f, .ow (false, c'), .im z, .im a, .im b, .no, .no, .no, .no]) := by
  simp [lFp, runF, evRet, evSeq, evIfS, evNext, evSet, evAnd, evOr, evNot, evNotV, evB, evOrB, evAndB, evIf, evCall, evCons, evNil, toD, toO, evName, evC, ev1, ev2, evCh, Pu.settle, R.opd, Opd.look, Slot.look, Ow.d, evTup, evCallC, e, m1, m2, m3, m4]
theorem six_eq : (D.tup [.int 2, .int 5, .int 6, .int 1, .int 4, .int 3] : D) = vec [2, 5, 6, 1, 4, 3] := rfl
theorem lF_run (hc : cupOk c) : ∃ c', cupOk c' ∧ lF [.im f, .ow (false, c), .im dA, .im (.tup told10), .im (.tup due7), .no, .no, .no, .no] = some (.nx, [.im f, .ow (false, c'), .im dA, .im (.tup told10), .im (.tup due7), .no, .no, .no, .no]) := by
  obtain ⟨c', e, hc'⟩ := values_run hc
  exact ⟨c', hc', lF_gen e lF_m1 lF_m2 roll99 (six_eq ▸ lF_m4)⟩
theorem lG_run {O : List D} (ordr : F__law_orders [vec M6] = some (.im (.lst O))) {a b d : D} : lG [.im f, .ow (false, c), .im a, .im b, .im d, .no, .no, .no, .no] = some (.nx, [.im f, .ow (false, c), .im a, .im b, .im d, .im (.lst O), .no, .no, .no]) :=
  set_call (A := (evCons (evTup (evCons (evC (.int 1)) (evCons (evC (.int 2)) (evCons (evC (.int 3)) (evCons (evC (.int 4)) (evCons (evC (.int 5)) (evCons (evC (.int 6)) evNil))))))) evNil)) (ds := [vec M6]) rfl ordr
theorem lH_gen {S V : Ow → List D → Option (R × Ow)} {c1 c2 : Ow} {z : D} {O : List D} (e1 : S c [.lst O] = some (.im z, c1)) (e2 : V c1 [z] = some (.im (.bl true), c2)) {a b d t : D} :
    lHp S V [.im f, .ow (false, c), .im a, .im b, .im d, .im (.lst O), .im t, .no, .no] = some (.nx, [.im f, .ow (false, c2), .im a, .im b, .im d, .im (.lst O), .im t, .no, .no]) := by
  simp [lHp, runF, evRet, evSeq, evIfS, evNext, evSet, evAnd, evOr, evNot, evNotV, evB, evOrB, evAndB, evIf, evCall, evCons, evNil, toD, toO, evName, evC, ev1, ev2, evCh, Pu.settle, R.opd, Opd.look, Slot.look, Ow.d, evCallC, e1, e2]
theorem lH_run (hc : cupOk c) {O : List D} (so : ∀ {c : Ow}, cupOk c → ∃ (l : List Int) (c' : Ow), F__law_some c [.lst O] = some (.im (vec l), c') ∧ dieL l = true ∧ cupOk c') {a b d t : D} : ∃ c', cupOk c' ∧
    lH [.im f, .ow (false, c), .im a, .im b, .im d, .im (.lst O), .im t, .no, .no] = some (.nx, [.im f, .ow (false, c'), .im a, .im b, .im d, .im (.lst O), .im t, .no, .no]) := by
  obtain ⟨l, c1, e1, hl, hc1⟩ := so hc
  obtain ⟨c2, e2, hc2⟩ := rolls_run hc1 hl
  exact ⟨c2, hc2, lH_gen e1 e2⟩
end
theorem law_gen {O : List D} (ordr : F__law_orders [vec M6] = some (.im (.lst O))) (so : ∀ {c : Ow}, cupOk c → ∃ (l : List Int) (c' : Ow), F__law_some c [.lst O] = some (.im (vec l), c') ∧ dieL l = true ∧ cupOk c')
    (ns : List Int) (h : ns.length ≤ 63) : F_law [.fz (ns.map D.int)] = some (.im (.bl true)) := by
  obtain ⟨c, e1, hc⟩ := cupX_run (k1 := 2317) (k2 := 3309) (k3 := 9227) (m := 2077519049) (k4 := 2427) (by decide) ns h
  rw [← cup_eq] at e1
  generalize D.fz (ns.map D.int) = f at e1 ⊢
  obtain ⟨c1, hc1, e2⟩ := lF_run (f := f) hc
  obtain ⟨g', e3, s, c', hc', rfl⟩ := runFor_inv (b := btName 6) (body := lH) (fun g => ∃ s c, cupOk c ∧ g = [.im f, .ow (false, c), .im dA, .im (.tup told10), .im (.tup due7), .im (.lst O), s, .no, .no])
    (ds := (List.range 4).map fun i => .int (i : Nat)) (g := [.im f, .ow (false, c1), .im dA, .im (.tup told10), .im (.tup due7), .im (.lst O), .no, .no, .no]) (fun d hd g hg => by
      obtain ⟨s, c, hc, rfl⟩ := hg
      obtain ⟨c', hc', e⟩ := lH_run (f := f) hc so (a := dA) (b := .tup told10) (d := .tup due7) (t := d)
      exact ⟨_, _, rfl, e, _, c', hc', rfl⟩) ⟨_, c1, hc1, rfl⟩
  rw [law_eq]
  refine runF_im (g := [.im f, .ow (false, c'), .im dA, .im (.tup told10), .im (.tup due7), .im (.lst O), s, .no, .no]) rfl ?_
  show evSeq _ _ [.im f, .no, .no, .no, .no, .no, .no, .no, .no] = _
  rw [evSeq_of (g' := [.im f, .ow (false, c), .no, .no, .no, .no, .no, .no, .no]) (by simp [runF, evRet, evSeq, evIfS, evNext, evSet, evAnd, evOr, evNot, evNotV, evB, evOrB, evAndB, evIf, evCall, evCons, evNil, toD, toO, evName, evC, ev1, ev2, evCh, Pu.settle, R.opd, Opd.look, Slot.look, Ow.d, e1])]
  rw [evSeq_of lA_run, evSeq_of lB_run, evSeq_of lC_run, evSeq_of lD_run, evSeq_of lE_run, evSeq_of e2, evSeq_of (lG_run ordr)]
  rw [evSeq_of ((evFor_of (by simp [evR1, runF, evRet, evSeq, evIfS, evNext, evSet, evAnd, evOr, evNot, evNotV, evB, evOrB, evAndB, evIf, evCall, evCons, evNil, toD, toO, evName, evC, ev1, ev2, evCh, Pu.settle, R.opd, Opd.look, Slot.look, Ow.d, sz_eq])).trans e3)]
  rfl
theorem law_true (ns : List Int) (h : ns.length ≤ 63) : F_law [.fz (ns.map D.int)] = some (.im (.bl true)) := law_gen orders_run (fun h => some_order h) ns h
end K04
end

section
set_option Elab.async false
set_option linter.all false
set_option maxRecDepth 100000
set_option maxHeartbeats 8000000
/-! K04: the law, from its run. -/
namespace K04
open PySem L2 Pu
theorem all_mk {l : PySem.W.OpenLaw} {w : World} {K : PySem.W.Frag} {h : Heap} {mg : Str → Option Value} {fa f1 f2 f3 f4 f5 f6 f7 f8 f9 f10 f11 f12 f13 f14 f15 f16 f17 f18 f19 f20 f21 f22 f23 : Addr} (X : K.In h) (G : h.Ns mainGlobals mg) (hfa : mg "law" = some (.ref fa))
    {od1 an1 od2 an2 od3 an3 od4 an4 od5 an5 od6 an6 od7 an7 od8 an8 od9 an9 od10 an10 od11 an11 od12 an12 od13 an13 od14 an14 od15 an15 od16 an16 od17 an17 od18 an18 od19 an19 od20 an20 od21 an21 od22 an22 od23 an23 : Option Addr} {sl1 sl2 sl3 sl4 sl5 sl6 sl7 sl8 sl9 sl10 sl11 sl12 sl13 sl14 sl15 sl16 sl17 sl18 sl19 sl20 sl21 sl22 sl23 : Array (Option Value)} {oc1 kV1 dc1 pm1 cd1 ct1 oc2 kV2 dc2 pm2 cd2 ct2 oc3 kV3 dc3 pm3 cd3 ct3 oc4 kV4 dc4 pm4 cd4 ct4 oc5 kV5 dc5 pm5 cd5 ct5 oc6 kV6 dc6 pm6 cd6 ct6 oc7 kV7 dc7 pm7 cd7 ct7 oc8 kV8 dc8 pm8 cd8 ct8 oc9 kV9 dc9 pm9 cd9 ct9 oc10 kV10 dc10 pm10 cd10 ct10 oc11 kV11 dc11 pm11 cd11 ct11 oc12 kV12 dc12 pm12 cd12 ct12 oc13 kV13 dc13 pm13 cd13 ct13 oc14 kV14 dc14 pm14 cd14 ct14 oc15 kV15 dc15 pm15 cd15 ct15 oc16 kV16 dc16 pm16 cd16 ct16 oc17 kV17 dc17 pm17 cd17 ct17 oc18 kV18 dc18 pm18 cd18 ct18 oc19 kV19 dc19 pm19 cd19 ct19 oc20 kV20 dc20 pm20 cd20 ct20 oc21 kV21 dc21 pm21 cd21 ct21 oc22 kV22 dc22 pm22 cd22 ct22 oc23 kV23 dc23 pm23 cd23 ct23 : Value}
    {t_ROLLS : Tok}
    {kt2 : Tok} {kt3 : Tok} {kt4 : Tok} {kt5 : Tok} {kt6 : Tok} {kt7 : Tok} {ka1 : Addr} {kn1 : Nat} {kd1 : Option Addr} {ks1 : Array (Option Value)} {kt9 : Tok} {kt10 : Tok} {kt11 : Tok} {kt12 : Tok} {kt13 : Tok} {kt14 : Tok} {ka8 : Addr} {kn8 : Nat} {kd8 : Option Addr} {ks8 : Array (Option Value)} {kt16 : Tok} {kt17 : Tok} {kt18 : Tok} {kt19 : Tok} {kt20 : Tok} {kt21 : Tok} {ka15 : Addr} {kn15 : Nat} {kd15 : Option Addr} {ks15 : Array (Option Value)} {kt23 : Tok} {kt24 : Tok} {kt25 : Tok} {kt26 : Tok} {kt27 : Tok} {kt28 : Tok} {ka22 : Addr} {kn22 : Nat} {kd22 : Option Addr} {ks22 : Array (Option Value)} {ka29 : Addr} {kn29 : Nat} {kh29_0 : Int} {kh29_1 : Int} {kh29_2 : Int} {kh29_3 : Int} {kk29_0 : Tok} {kk29_1 : Tok} {kk29_2 : Tok} {kk29_3 : Tok} {kt31 : Tok} {kt32 : Tok} {ka30 : Addr} {kn30 : Nat} {kd30 : Option Addr} {ks30 : Array (Option Value)} {kt34 : Tok} {kt35 : Tok} {ka33 : Addr} {kn33 : Nat} {kd33 : Option Addr} {ks33 : Array (Option Value)} {kt37 : Tok} {kt38 : Tok} {ka36 : Addr} {kn36 : Nat} {kd36 : Option Addr} {ks36 : Array (Option Value)} {kt40 : Tok} {kt41 : Tok} {ka39 : Addr} {kn39 : Nat} {kd39 : Option Addr} {ks39 : Array (Option Value)} {ka42 : Addr} {kn42 : Nat} {kh42_0 : Int} {kh42_1 : Int} {kh42_2 : Int} {kh42_3 : Int} {kk42_0 : Tok} {kk42_1 : Tok} {kk42_2 : Tok} {kk42_3 : Tok}
    (a1 : PySem.W.nsIn K mainGlobals "is_whole" = some (some (.ref f1))) (l1 : K.lookup f1 = some ⟨oc1, od1, .func (PySem.W.fnOf "is_whole" "is_whole" (defArgs s_is_whole) (defBody s_is_whole) (defScope s_is_whole) .none kV1 dc1 pm1 an1 cd1 ct1), sl1⟩) (c1 : PySem.W.codeIn K cd1 "is_whole" = true) (k1 : PySem.W.keepIn K (.ref f1) = true)
    (a2 : PySem.W.nsIn K mainGlobals "fits_whole" = some (some (.ref f2))) (l2 : K.lookup f2 = some ⟨oc2, od2, .func (PySem.W.fnOf "fits_whole" "fits_whole" (defArgs s_fits_whole) (defBody s_fits_whole) (defScope s_fits_whole) .none kV2 dc2 pm2 an2 cd2 ct2), sl2⟩) (c2 : PySem.W.codeIn K cd2 "fits_whole" = true) (k2 : PySem.W.keepIn K (.ref f2) = true)
    (a3 : PySem.W.nsIn K mainGlobals "is_tuple_of" = some (some (.ref f3))) (l3 : K.lookup f3 = some ⟨oc3, od3, .func (PySem.W.fnOf "is_tuple_of" "is_tuple_of" (defArgs s_is_tuple_of) (defBody s_is_tuple_of) (defScope s_is_tuple_of) .none kV3 dc3 pm3 an3 cd3 ct3), sl3⟩) (c3 : PySem.W.codeIn K cd3 "is_tuple_of" = true) (k3 : PySem.W.keepIn K (.ref f3) = true)
    (a4 : PySem.W.nsIn K mainGlobals "fits_die" = some (some (.ref f4))) (l4 : K.lookup f4 = some ⟨oc4, od4, .func (PySem.W.fnOf "fits_die" "fits_die" (defArgs s_fits_die) (defBody s_fits_die) (defScope s_fits_die) .none kV4 dc4 pm4 an4 cd4 ct4), sl4⟩) (c4 : PySem.W.codeIn K cd4 "fits_die" = true) (k4 : PySem.W.keepIn K (.ref f4) = true)
    (a5 : PySem.W.nsIn K mainGlobals "need_die" = some (some (.ref f5))) (l5 : K.lookup f5 = some ⟨oc5, od5, .func (PySem.W.fnOf "need_die" "need_die" (defArgs s_need_die) (defBody s_need_die) (defScope s_need_die) .none kV5 dc5 pm5 an5 cd5 ct5), sl5⟩) (c5 : PySem.W.codeIn K cd5 "need_die" = true) (k5 : PySem.W.keepIn K (.ref f5) = true)
    (a6 : PySem.W.nsIn K mainGlobals "fits_rolls" = some (some (.ref f6))) (l6 : K.lookup f6 = some ⟨oc6, od6, .func (PySem.W.fnOf "fits_rolls" "fits_rolls" (defArgs s_fits_rolls) (defBody s_fits_rolls) (defScope s_fits_rolls) .none kV6 dc6 pm6 an6 cd6 ct6), sl6⟩) (c6 : PySem.W.codeIn K cd6 "fits_rolls" = true) (k6 : PySem.W.keepIn K (.ref f6) = true)
    (a7 : PySem.W.nsIn K mainGlobals "need_rolls" = some (some (.ref f7))) (l7 : K.lookup f7 = some ⟨oc7, od7, .func (PySem.W.fnOf "need_rolls" "need_rolls" (defArgs s_need_rolls) (defBody s_need_rolls) (defScope s_need_rolls) .none kV7 dc7 pm7 an7 cd7 ct7), sl7⟩) (c7 : PySem.W.codeIn K cd7 "need_rolls" = true) (k7 : PySem.W.keepIn K (.ref f7) = true)
    (a8 : PySem.W.nsIn K mainGlobals "rolled" = some (some (.ref f8))) (l8 : K.lookup f8 = some ⟨oc8, od8, .func (PySem.W.fnOf "rolled" "rolled" (defArgs s_rolled) (defBody s_rolled) (defScope s_rolled) .none kV8 dc8 pm8 an8 cd8 ct8), sl8⟩) (c8 : PySem.W.codeIn K cd8 "rolled" = true) (k8 : PySem.W.keepIn K (.ref f8) = true)
    (a9 : PySem.W.nsIn K mainGlobals "moved" = some (some (.ref f9))) (l9 : K.lookup f9 = some ⟨oc9, od9, .func (PySem.W.fnOf "moved" "moved" (defArgs s_moved) (defBody s_moved) (defScope s_moved) .none kV9 dc9 pm9 an9 cd9 ct9), sl9⟩) (c9 : PySem.W.codeIn K cd9 "moved" = true) (k9 : PySem.W.keepIn K (.ref f9) = true)
    (a10 : PySem.W.nsIn K mainGlobals "led" = some (some (.ref f10))) (l10 : K.lookup f10 = some ⟨oc10, od10, .func (PySem.W.fnOf "led" "led" (defArgs s_led) (defBody s_led) (defScope s_led) .none kV10 dc10 pm10 an10 cd10 ct10), sl10⟩) (c10 : PySem.W.codeIn K cd10 "led" = true) (k10 : PySem.W.keepIn K (.ref f10) = true)
    (a11 : PySem.W.nsIn K mainGlobals "is_die" = some (some (.ref f11))) (l11 : K.lookup f11 = some ⟨oc11, od11, .func (PySem.W.fnOf "is_die" "is_die" (defArgs s_is_die) (defBody s_is_die) (defScope s_is_die) .none kV11 dc11 pm11 an11 cd11 ct11), sl11⟩) (c11 : PySem.W.codeIn K cd11 "is_die" = true) (k11 : PySem.W.keepIn K (.ref f11) = true)
    (a12 : PySem.W.nsIn K mainGlobals "die_after" = some (some (.ref f12))) (l12 : K.lookup f12 = some ⟨oc12, od12, .func (PySem.W.fnOf "die_after" "die_after" (defArgs s_die_after) (defBody s_die_after) (defScope s_die_after) .none kV12 dc12 pm12 an12 cd12 ct12), sl12⟩) (c12 : PySem.W.codeIn K cd12 "die_after" = true) (k12 : PySem.W.keepIn K (.ref f12) = true)
    (a13 : PySem.W.nsIn K mainGlobals "_law_cup" = some (some (.ref f13))) (l13 : K.lookup f13 = some ⟨oc13, od13, .func (PySem.W.fnOf "_law_cup" "_law_cup" (defArgs s__law_cup) (defBody s__law_cup) (defScope s__law_cup) .none kV13 dc13 pm13 an13 cd13 ct13), sl13⟩) (c13 : PySem.W.codeIn K cd13 "_law_cup" = true) (k13 : PySem.W.keepIn K (.ref f13) = true)
    (a14 : PySem.W.nsIn K mainGlobals "_law_roll" = some (some (.ref f14))) (l14 : K.lookup f14 = some ⟨oc14, od14, .func (PySem.W.fnOf "_law_roll" "_law_roll" (defArgs s__law_roll) (defBody s__law_roll) (defScope s__law_roll) .none kV14 dc14 pm14 an14 cd14 ct14), sl14⟩) (c14 : PySem.W.codeIn K cd14 "_law_roll" = true) (k14 : PySem.W.keepIn K (.ref f14) = true)
    (a15 : PySem.W.nsIn K mainGlobals "_law_some" = some (some (.ref f15))) (l15 : K.lookup f15 = some ⟨oc15, od15, .func (PySem.W.fnOf "_law_some" "_law_some" (defArgs s__law_some) (defBody s__law_some) (defScope s__law_some) .none kV15 dc15 pm15 an15 cd15 ct15), sl15⟩) (c15 : PySem.W.codeIn K cd15 "_law_some" = true) (k15 : PySem.W.keepIn K (.ref f15) = true)
    (a16 : PySem.W.nsIn K mainGlobals "_law_same" = some (some (.ref f16))) (l16 : K.lookup f16 = some ⟨oc16, od16, .func (PySem.W.fnOf "_law_same" "_law_same" (defArgs s__law_same) (defBody s__law_same) (defScope s__law_same) .none kV16 dc16 pm16 an16 cd16 ct16), sl16⟩) (c16 : PySem.W.codeIn K cd16 "_law_same" = true) (k16 : PySem.W.keepIn K (.ref f16) = true)
    (a17 : PySem.W.nsIn K mainGlobals "_law_rolled" = some (some (.ref f17))) (l17 : K.lookup f17 = some ⟨oc17, od17, .func (PySem.W.fnOf "_law_rolled" "_law_rolled" (defArgs s__law_rolled) (defBody s__law_rolled) (defScope s__law_rolled) .none kV17 dc17 pm17 an17 cd17 ct17), sl17⟩) (c17 : PySem.W.codeIn K cd17 "_law_rolled" = true) (k17 : PySem.W.keepIn K (.ref f17) = true)
    (a18 : PySem.W.nsIn K mainGlobals "_law_after" = some (some (.ref f18))) (l18 : K.lookup f18 = some ⟨oc18, od18, .func (PySem.W.fnOf "_law_after" "_law_after" (defArgs s__law_after) (defBody s__law_after) (defScope s__law_after) .none kV18 dc18 pm18 an18 cd18 ct18), sl18⟩) (c18 : PySem.W.codeIn K cd18 "_law_after" = true) (k18 : PySem.W.keepIn K (.ref f18) = true)
    (a19 : PySem.W.nsIn K mainGlobals "_law_orders" = some (some (.ref f19))) (l19 : K.lookup f19 = some ⟨oc19, od19, .func (PySem.W.fnOf "_law_orders" "_law_orders" (defArgs s__law_orders) (defBody s__law_orders) (defScope s__law_orders) .none kV19 dc19 pm19 an19 cd19 ct19), sl19⟩) (c19 : PySem.W.codeIn K cd19 "_law_orders" = true) (k19 : PySem.W.keepIn K (.ref f19) = true)
    (a20 : PySem.W.nsIn K mainGlobals "_law_sense" = some (some (.ref f20))) (l20 : K.lookup f20 = some ⟨oc20, od20, .func (PySem.W.fnOf "_law_sense" "_law_sense" (defArgs s__law_sense) (defBody s__law_sense) (defScope s__law_sense) .none kV20 dc20 pm20 an20 cd20 ct20), sl20⟩) (c20 : PySem.W.codeIn K cd20 "_law_sense" = true) (k20 : PySem.W.keepIn K (.ref f20) = true)
    (a21 : PySem.W.nsIn K mainGlobals "_law_values_right" = some (some (.ref f21))) (l21 : K.lookup f21 = some ⟨oc21, od21, .func (PySem.W.fnOf "_law_values_right" "_law_values_right" (defArgs s__law_values_right) (defBody s__law_values_right) (defScope s__law_values_right) .none kV21 dc21 pm21 an21 cd21 ct21), sl21⟩) (c21 : PySem.W.codeIn K cd21 "_law_values_right" = true) (k21 : PySem.W.keepIn K (.ref f21) = true)
    (a22 : PySem.W.nsIn K mainGlobals "_law_rolls_right" = some (some (.ref f22))) (l22 : K.lookup f22 = some ⟨oc22, od22, .func (PySem.W.fnOf "_law_rolls_right" "_law_rolls_right" (defArgs s__law_rolls_right) (defBody s__law_rolls_right) (defScope s__law_rolls_right) .none kV22 dc22 pm22 an22 cd22 ct22), sl22⟩) (c22 : PySem.W.codeIn K cd22 "_law_rolls_right" = true) (k22 : PySem.W.keepIn K (.ref f22) = true)
    (a23 : PySem.W.nsIn K mainGlobals "law" = some (some (.ref f23))) (l23 : K.lookup f23 = some ⟨oc23, od23, .func (PySem.W.fnOf "law" "law" (defArgs s_law) (defBody s_law) (defScope s_law) .none kV23 dc23 pm23 an23 cd23 ct23), sl23⟩) (c23 : PySem.W.codeIn K cd23 "law" = true) (k23 : PySem.W.keepIn K (.ref f23) = true)
    (z_abs : PySem.W.nsIn K mainGlobals "abs" = some none)
    (z_all : PySem.W.nsIn K mainGlobals "all" = some none)
    (z_bool : PySem.W.nsIn K mainGlobals "bool" = some none)
    (z_int : PySem.W.nsIn K mainGlobals "int" = some none)
    (z_isinstance : PySem.W.nsIn K mainGlobals "isinstance" = some none)
    (z_len : PySem.W.nsIn K mainGlobals "len" = some none)
    (z_list : PySem.W.nsIn K mainGlobals "list" = some none)
    (z_range : PySem.W.nsIn K mainGlobals "range" = some none)
    (z_set : PySem.W.nsIn K mainGlobals "set" = some none)
    (z_sorted : PySem.W.nsIn K mainGlobals "sorted" = some none)
    (z_str : PySem.W.nsIn K mainGlobals "str" = some none)
    (z_tuple : PySem.W.nsIn K mainGlobals "tuple" = some none)
    (q1 : K.lookup ka1 = some ⟨.type "tuple", kd1, .seq ([(.int 4 kt2), (.int 5 kt3), (.int 2 kt4), (.int 3 kt5), (.int 1 kt6), (.int 0 kt7)] : List Value).toArray kn1, ks1⟩)
    (q8 : K.lookup ka8 = some ⟨.type "tuple", kd8, .seq ([(.int 5 kt9), (.int 4 kt10), (.int 2 kt11), (.int 3 kt12), (.int 0 kt13), (.int 1 kt14)] : List Value).toArray kn8, ks8⟩)
    (q15 : K.lookup ka15 = some ⟨.type "tuple", kd15, .seq ([(.int 0 kt16), (.int 1 kt17), (.int 4 kt18), (.int 5 kt19), (.int 3 kt20), (.int 2 kt21)] : List Value).toArray kn15, ks15⟩)
    (q22 : K.lookup ka22 = some ⟨.type "tuple", kd22, .seq ([(.int 0 kt23), (.int 1 kt24), (.int 5 kt25), (.int 4 kt26), (.int 2 kt27), (.int 3 kt28)] : List Value).toArray kn22, ks22⟩)
    (q29 : K.lookup ka29 = some ⟨.type "dict", none, .dict ([⟨kh29_0, .str ⟨#[114]⟩ kk29_0, (.ref ka1)⟩, ⟨kh29_1, .str ⟨#[108]⟩ kk29_1, (.ref ka8)⟩, ⟨kh29_2, .str ⟨#[117]⟩ kk29_2, (.ref ka15)⟩, ⟨kh29_3, .str ⟨#[100]⟩ kk29_3, (.ref ka22)⟩] : List DictEntry).toArray kn29, #[]⟩)
    (ql29 : PySem.W.KeysLit w.params ([⟨kh29_0, .str ⟨#[114]⟩ kk29_0, (.ref ka1)⟩, ⟨kh29_1, .str ⟨#[108]⟩ kk29_1, (.ref ka8)⟩, ⟨kh29_2, .str ⟨#[117]⟩ kk29_2, (.ref ka15)⟩, ⟨kh29_3, .str ⟨#[100]⟩ kk29_3, (.ref ka22)⟩] : List DictEntry))
    (qs29 : (ka29 == sysModules) = false)
    (q30 : K.lookup ka30 = some ⟨.type "tuple", kd30, .seq ([(.int 0 kt31), (.int (-1) kt32)] : List Value).toArray kn30, ks30⟩)
    (q33 : K.lookup ka33 = some ⟨.type "tuple", kd33, .seq ([(.int (-1) kt34), (.int 0 kt35)] : List Value).toArray kn33, ks33⟩)
    (q36 : K.lookup ka36 = some ⟨.type "tuple", kd36, .seq ([(.int 1 kt37), (.int 0 kt38)] : List Value).toArray kn36, ks36⟩)
    (q39 : K.lookup ka39 = some ⟨.type "tuple", kd39, .seq ([(.int 0 kt40), (.int 1 kt41)] : List Value).toArray kn39, ks39⟩)
    (q42 : K.lookup ka42 = some ⟨.type "dict", none, .dict ([⟨kh42_0, .str ⟨#[100]⟩ kk42_0, (.ref ka30)⟩, ⟨kh42_1, .str ⟨#[108]⟩ kk42_1, (.ref ka33)⟩, ⟨kh42_2, .str ⟨#[114]⟩ kk42_2, (.ref ka36)⟩, ⟨kh42_3, .str ⟨#[117]⟩ kk42_3, (.ref ka39)⟩] : List DictEntry).toArray kn42, #[]⟩)
    (ql42 : PySem.W.KeysLit w.params ([⟨kh42_0, .str ⟨#[100]⟩ kk42_0, (.ref ka30)⟩, ⟨kh42_1, .str ⟨#[108]⟩ kk42_1, (.ref ka33)⟩, ⟨kh42_2, .str ⟨#[114]⟩ kk42_2, (.ref ka36)⟩, ⟨kh42_3, .str ⟨#[117]⟩ kk42_3, (.ref ka39)⟩] : List DictEntry))
    (qs42 : (ka42 == sysModules) = false)
    (y_ROLLS : PySem.W.nsIn K mainGlobals "ROLLS" = some (some (.int 100 t_ROLLS)))
    (y_TURNED : PySem.W.nsIn K mainGlobals "TURNED" = some (some (.ref ka29)))
    (y_WAYS : PySem.W.nsIn K mainGlobals "WAYS" = some (some (.ref ka42)))
    : ∃ fd : FuncData, (∀ (s : Shared) (v : Value), BindsTo s fd ⟨[v], []⟩ [("script", v)]) ∧ ∀ base : Heap, K.In base → base.Ns mainGlobals mg → FnOk l.prog w K mg base CX0 7 fa fd ["script"] (spF K 1 F_law) := by
  have e := hfa.symm.trans (PySem.W.mg_of X G a23)
  cases e
  have T : Tx mg K w := ⟨PySem.W.mg_none_of X G z_abs, PySem.W.mg_none_of X G z_all, PySem.W.mg_none_of X G z_bool, PySem.W.mg_none_of X G z_int, PySem.W.mg_none_of X G z_isinstance, PySem.W.mg_none_of X G z_len, PySem.W.mg_none_of X G z_list, PySem.W.mg_none_of X G z_range, PySem.W.mg_none_of X G z_set, PySem.W.mg_none_of X G z_sorted, PySem.W.mg_none_of X G z_str, PySem.W.mg_none_of X G z_tuple, ⟨_, PySem.W.mg_of X G y_ROLLS⟩, ⟨_, _, _, PySem.W.mg_of X G y_TURNED, ⟨q29, ql29, qs29⟩, (.cons rfl (rel_ref _) (cst_tup q1 (vs_cons (rel_int _ _) (vs_cons (rel_int _ _) (vs_cons (rel_int _ _) (vs_cons (rel_int _ _) (vs_cons (rel_int _ _) (vs_cons (rel_int _ _) vs_nil)))))) (cst_cons (cst_int 4) (cst_cons (cst_int 5) (cst_cons (cst_int 2) (cst_cons (cst_int 3) (cst_cons (cst_int 1) (cst_cons (cst_int 0) cst_nil)))))) (by simp)) (.cons rfl (rel_ref _) (cst_tup q8 (vs_cons (rel_int _ _) (vs_cons (rel_int _ _) (vs_cons (rel_int _ _) (vs_cons (rel_int _ _) (vs_cons (rel_int _ _) (vs_cons (rel_int _ _) vs_nil)))))) (cst_cons (cst_int 5) (cst_cons (cst_int 4) (cst_cons (cst_int 2) (cst_cons (cst_int 3) (cst_cons (cst_int 0) (cst_cons (cst_int 1) cst_nil)))))) (by simp)) (.cons rfl (rel_ref _) (cst_tup q15 (vs_cons (rel_int _ _) (vs_cons (rel_int _ _) (vs_cons (rel_int _ _) (vs_cons (rel_int _ _) (vs_cons (rel_int _ _) (vs_cons (rel_int _ _) vs_nil)))))) (cst_cons (cst_int 0) (cst_cons (cst_int 1) (cst_cons (cst_int 4) (cst_cons (cst_int 5) (cst_cons (cst_int 3) (cst_cons (cst_int 2) cst_nil)))))) (by simp)) (.cons rfl (rel_ref _) (cst_tup q22 (vs_cons (rel_int _ _) (vs_cons (rel_int _ _) (vs_cons (rel_int _ _) (vs_cons (rel_int _ _) (vs_cons (rel_int _ _) (vs_cons (rel_int _ _) vs_nil)))))) (cst_cons (cst_int 0) (cst_cons (cst_int 1) (cst_cons (cst_int 5) (cst_cons (cst_int 4) (cst_cons (cst_int 2) (cst_cons (cst_int 3) cst_nil)))))) (by simp)) .nil))))⟩, ⟨_, _, _, PySem.W.mg_of X G y_WAYS, ⟨q42, ql42, qs42⟩, (.cons rfl (rel_ref _) (cst_tup q30 (vs_cons (rel_int _ _) (vs_cons (rel_int _ _) vs_nil)) (cst_cons (cst_int 0) (cst_cons (cst_int (-1)) cst_nil)) (by simp)) (.cons rfl (rel_ref _) (cst_tup q33 (vs_cons (rel_int _ _) (vs_cons (rel_int _ _) vs_nil)) (cst_cons (cst_int (-1)) (cst_cons (cst_int 0) cst_nil)) (by simp)) (.cons rfl (rel_ref _) (cst_tup q36 (vs_cons (rel_int _ _) (vs_cons (rel_int _ _) vs_nil)) (cst_cons (cst_int 1) (cst_cons (cst_int 0) cst_nil)) (by simp)) (.cons rfl (rel_ref _) (cst_tup q39 (vs_cons (rel_int _ _) (vs_cons (rel_int _ _) vs_nil)) (cst_cons (cst_int 0) (cst_cons (cst_int 1) cst_nil)) (by simp)) .nil))))⟩⟩
  have F1 := fun_mk (st := s_is_whole) l1 c1 k1
  have b1 := F1.binds (ps := ["value"]) fun _ _ _ _ _ _ us hl => match us, hl with | [_], _ => rfl
  have F2 := fun_mk (st := s_fits_whole) l2 c2 k2
  have b2 := F2.binds (ps := ["value", "low", "high"]) fun _ _ _ _ _ _ us hl => match us, hl with | [_, _, _], _ => rfl
  have F3 := fun_mk (st := s_is_tuple_of) l3 c3 k3
  have b3 := F3.binds (ps := ["value", "least", "most"]) fun _ _ _ _ _ _ us hl => match us, hl with | [_, _, _], _ => rfl
  have F4 := fun_mk (st := s_fits_die) l4 c4 k4
  have b4 := F4.binds (ps := ["value"]) fun _ _ _ _ _ _ us hl => match us, hl with | [_], _ => rfl
  have F5 := fun_mk (st := s_need_die) l5 c5 k5
  have b5 := F5.binds (ps := ["value"]) fun _ _ _ _ _ _ us hl => match us, hl with | [_], _ => rfl
  have F6 := fun_mk (st := s_fits_rolls) l6 c6 k6
  have b6 := F6.binds (ps := ["value"]) fun _ _ _ _ _ _ us hl => match us, hl with | [_], _ => rfl
  have F7 := fun_mk (st := s_need_rolls) l7 c7 k7
  have b7 := F7.binds (ps := ["value"]) fun _ _ _ _ _ _ us hl => match us, hl with | [_], _ => rfl
  have F8 := fun_mk (st := s_rolled) l8 c8 k8
  have b8 := F8.binds (ps := ["die", "way"]) fun _ _ _ _ _ _ us hl => match us, hl with | [_, _], _ => rfl
  have F9 := fun_mk (st := s_moved) l9 c9 k9
  have b9 := F9.binds (ps := ["square", "way"]) fun _ _ _ _ _ _ us hl => match us, hl with | [_, _], _ => rfl
  have F10 := fun_mk (st := s_led) l10 c10 k10
  have b10 := F10.binds (ps := ["floor", "square", "die", "rolls"]) fun _ _ _ _ _ _ us hl => match us, hl with | [_, _, _, _], _ => rfl
  have F11 := fun_mk (st := s_is_die) l11 c11 k11
  have b11 := F11.binds (ps := ["value"]) fun _ _ _ _ _ _ us hl => match us, hl with | [_], _ => rfl
  have F12 := fun_mk (st := s_die_after) l12 c12 k12
  have b12 := F12.binds (ps := ["die", "rolls"]) fun _ _ _ _ _ _ us hl => match us, hl with | [_, _], _ => rfl
  have F13 := fun_mk (st := s__law_cup) l13 c13 k13
  have b13 := F13.binds (ps := ["script"]) fun _ _ _ _ _ _ us hl => match us, hl with | [_], _ => rfl
  have F14 := fun_mk (st := s__law_roll) l14 c14 k14
  have b14 := F14.binds (ps := ["cup", "many"]) fun _ _ _ _ _ _ us hl => match us, hl with | [_, _], _ => rfl
  have F15 := fun_mk (st := s__law_some) l15 c15 k15
  have b15 := F15.binds (ps := ["cup", "things"]) fun _ _ _ _ _ _ us hl => match us, hl with | [_, _], _ => rfl
  have F16 := fun_mk (st := s__law_same) l16 c16 k16
  have b16 := F16.binds (ps := ["told", "due"]) fun _ _ _ _ _ _ us hl => match us, hl with | [_, _], _ => rfl
  have F17 := fun_mk (st := s__law_rolled) l17 c17 k17
  have b17 := F17.binds (ps := ["die", "way"]) fun _ _ _ _ _ _ us hl => match us, hl with | [_, _], _ => rfl
  have F18 := fun_mk (st := s__law_after) l18 c18 k18
  have b18 := F18.binds (ps := ["die", "rolls"]) fun _ _ _ _ _ _ us hl => match us, hl with | [_, _], _ => rfl
  have F19 := fun_mk (st := s__law_orders) l19 c19 k19
  have b19 := F19.binds (ps := ["marks"]) fun _ _ _ _ _ _ us hl => match us, hl with | [_], _ => rfl
  have F20 := fun_mk (st := s__law_sense) l20 c20 k20
  have b20 := F20.binds (ps := ["die"]) fun _ _ _ _ _ _ us hl => match us, hl with | [_], _ => rfl
  have F21 := fun_mk (st := s__law_values_right) l21 c21 k21
  have b21 := F21.binds (ps := ["cup"]) fun _ _ _ _ _ _ us hl => match us, hl with | [_], _ => rfl
  have F22 := fun_mk (st := s__law_rolls_right) l22 c22 k22
  have b22 := F22.binds (ps := ["cup", "die"]) fun _ _ _ _ _ _ us hl => match us, hl with | [_, _], _ => rfl
  have F23 := fun_mk (st := s_law) l23 c23 k23
  have b23 := F23.binds (ps := ["script"]) fun _ _ _ _ _ _ us hl => match us, hl with | [_], _ => rfl
  refine ⟨PySem.W.fnOf "law" "law" (defArgs s_law) (defBody s_law) (defScope s_law) .none kV23 dc23 pm23 an23 cd23 ct23, fun s v => .of_eq rfl, fun base _ _ => ?_⟩
  have d_is_whole : DefAt l.prog w K mg base 1 "is_whole" 1 (spF K 1 F_is_whole) := ⟨_, _, _, rfl, ok_is_whole T F1 , PySem.W.mg_of X G a1, F1.kp, b1⟩
  have d_fits_whole : DefAt l.prog w K mg base 2 "fits_whole" 3 (spF K 3 F_fits_whole) := ⟨_, _, _, rfl, ok_fits_whole T F2 d_is_whole, PySem.W.mg_of X G a2, F2.kp, b2⟩
  have d_is_tuple_of : DefAt l.prog w K mg base 1 "is_tuple_of" 3 (spF K 3 F_is_tuple_of) := ⟨_, _, _, rfl, ok_is_tuple_of T F3 , PySem.W.mg_of X G a3, F3.kp, b3⟩
  have d_fits_die : DefAt l.prog w K mg base 3 "fits_die" 1 (spF K 1 F_fits_die) := ⟨_, _, _, rfl, ok_fits_die T F4 d_is_tuple_of d_fits_whole, PySem.W.mg_of X G a4, F4.kp, b4⟩
  have d_need_die : DefAt l.prog w K mg base 4 "need_die" 1 (spF K 1 F_need_die) := ⟨_, _, _, rfl, ok_need_die T F5 d_fits_die, PySem.W.mg_of X G a5, F5.kp, b5⟩
  have d_fits_rolls : DefAt l.prog w K mg base 1 "fits_rolls" 1 (spF K 1 F_fits_rolls) := ⟨_, _, _, rfl, ok_fits_rolls T F6 , PySem.W.mg_of X G a6, F6.kp, b6⟩
  have d_need_rolls : DefAt l.prog w K mg base 2 "need_rolls" 1 (spF K 1 F_need_rolls) := ⟨_, _, _, rfl, ok_need_rolls T F7 d_fits_rolls, PySem.W.mg_of X G a7, F7.kp, b7⟩
  have d_rolled : DefAt l.prog w K mg base 1 "rolled" 2 (spF K 2 F_rolled) := ⟨_, _, _, rfl, ok_rolled T F8 , PySem.W.mg_of X G a8, F8.kp, b8⟩
  have d_moved : DefAt l.prog w K mg base 1 "moved" 2 (spF K 2 F_moved) := ⟨_, _, _, rfl, ok_moved T F9 , PySem.W.mg_of X G a9, F9.kp, b9⟩
  have d_led : DefAt l.prog w K mg base 2 "led" 4 (spF K 4 F_led) := ⟨_, _, _, rfl, ok_led T F10 d_moved d_rolled, PySem.W.mg_of X G a10, F10.kp, b10⟩
  have d_is_die : DefAt l.prog w K mg base 4 "is_die" 1 (spF K 1 F_is_die) := ⟨_, _, _, rfl, ok_is_die T F11 d_fits_die, PySem.W.mg_of X G a11, F11.kp, b11⟩
  have d_die_after : DefAt l.prog w K mg base 5 "die_after" 2 (spF K 2 F_die_after) := ⟨_, _, _, rfl, ok_die_after T F12 d_need_die d_need_rolls d_led, PySem.W.mg_of X G a12, F12.kp, b12⟩
  have d__law_cup : DefAt l.prog w K mg base 1 "_law_cup" 1 (spF K 1 F__law_cup) := ⟨_, _, _, rfl, ok__law_cup T F13 , PySem.W.mg_of X G a13, F13.kp, b13⟩
  have d__law_roll : DefAt l.prog w K mg base 1 "_law_roll" 2 (spC K 1 F__law_roll) := ⟨_, _, _, rfl, ok__law_roll T F14 , PySem.W.mg_of X G a14, F14.kp, b14⟩
  have d__law_some : DefAt l.prog w K mg base 2 "_law_some" 2 (spC K 1 F__law_some) := ⟨_, _, _, rfl, ok__law_some T F15 d__law_roll, PySem.W.mg_of X G a15, F15.kp, b15⟩
  have d__law_same : DefAt l.prog w K mg base 3 "_law_same" 2 (spF K 2 (F__law_same 3)) := ⟨_, _, _, rfl, ok__law_same T F16  b16 (PySem.W.mg_of X G a16) 3, PySem.W.mg_of X G a16, F16.kp, b16⟩
  have d__law_rolled : DefAt l.prog w K mg base 1 "_law_rolled" 2 (spF K 2 F__law_rolled) := ⟨_, _, _, rfl, ok__law_rolled T F17 , PySem.W.mg_of X G a17, F17.kp, b17⟩
  have d__law_after : DefAt l.prog w K mg base 2 "_law_after" 2 (spF K 2 F__law_after) := ⟨_, _, _, rfl, ok__law_after T F18 d__law_rolled, PySem.W.mg_of X G a18, F18.kp, b18⟩
  have d__law_orders : DefAt l.prog w K mg base 1 "_law_orders" 1 (spF K 1 F__law_orders) := ⟨_, _, _, rfl, ok__law_orders T F19 , PySem.W.mg_of X G a19, F19.kp, b19⟩
  have d__law_sense : DefAt l.prog w K mg base 1 "_law_sense" 1 (spF K 1 F__law_sense) := ⟨_, _, _, rfl, ok__law_sense T F20 , PySem.W.mg_of X G a20, F20.kp, b20⟩
  have d__law_values_right : DefAt l.prog w K mg base 5 "_law_values_right" 1 (spC K 0 F__law_values_right) := ⟨_, _, _, rfl, ok__law_values_right T F21 d__law_orders d_is_die d__law_some, PySem.W.mg_of X G a21, F21.kp, b21⟩
  have d__law_rolls_right : DefAt l.prog w K mg base 6 "_law_rolls_right" 2 (spC K 1 F__law_rolls_right) := ⟨_, _, _, rfl, ok__law_rolls_right T F22 d__law_same d__law_after d_die_after d__law_some d__law_roll d__law_sense, PySem.W.mg_of X G a22, F22.kp, b22⟩
  exact ok_law T F23 d__law_cup d_die_after d_is_die d__law_same d__law_values_right d__law_orders d__law_rolls_right d__law_some
end K04
open PySem PySem.W PyProof.Rows
set_option maxHeartbeats 0 in
theorem PySem.Challenge.cw_cubegrounds_k04_whole_dice_by_their_corn_holds : PySem.Challenge.rw_cubegrounds_k04_whole_dice_by_their_corn.Holds := by
  w_on; o_law; k_head; (case hw => w_witness2)
  k_fill
  refine L2.walk_of (l := PySem.Challenge.rw_cubegrounds_k04_whole_dice_by_their_corn) (n := 63) (k := 7) (x := "script") (CX := fun _ => L2.CX0) (sp := fun w => Pu.spF _ 1 K04.F_law) rfl (by decide) rfl ⟨rfl, by decide, by decide⟩ (fun w h Y => PySem.W.kIn_of Y) ?F (fun _ _ a ns hl _ hS => Pu.law_sp hl hS (K04.law_true ns hl)) (fun _ _ _ _ _ h => h)
  case F =>
    intro w mg fa h KX G hmg
    refine' K04.all_mk KX G hmg ?a1 ?l1 ?c1 ?k1 ?a2 ?l2 ?c2 ?k2 ?a3 ?l3 ?c3 ?k3 ?a4 ?l4 ?c4 ?k4 ?a5 ?l5 ?c5 ?k5 ?a6 ?l6 ?c6 ?k6 ?a7 ?l7 ?c7 ?k7 ?a8 ?l8 ?c8 ?k8 ?a9 ?l9 ?c9 ?k9 ?a10 ?l10 ?c10 ?k10 ?a11 ?l11 ?c11 ?k11 ?a12 ?l12 ?c12 ?k12 ?a13 ?l13 ?c13 ?k13 ?a14 ?l14 ?c14 ?k14 ?a15 ?l15 ?c15 ?k15 ?a16 ?l16 ?c16 ?k16 ?a17 ?l17 ?c17 ?k17 ?a18 ?l18 ?c18 ?k18 ?a19 ?l19 ?c19 ?k19 ?a20 ?l20 ?c20 ?k20 ?a21 ?l21 ?c21 ?k21 ?a22 ?l22 ?c22 ?k22 ?a23 ?l23 ?c23 ?k23 ?z_abs ?z_all ?z_bool ?z_int ?z_isinstance ?z_len ?z_list ?z_range ?z_set ?z_sorted ?z_str ?z_tuple ?q1 ?q8 ?q15 ?q22 ?q29 ?ql29 ?qs29 ?q30 ?q33 ?q36 ?q39 ?q42 ?ql42 ?qs42 ?y_ROLLS ?y_TURNED ?y_WAYS
    (case a1 => k_is); (case l1 => k_is); (case c1 => k_is); (case k1 => k_is)
    (case a2 => k_is); (case l2 => k_is); (case c2 => k_is); (case k2 => k_is)
    (case a3 => k_is); (case l3 => k_is); (case c3 => k_is); (case k3 => k_is)
    (case a4 => k_is); (case l4 => k_is); (case c4 => k_is); (case k4 => k_is)
    (case a5 => k_is); (case l5 => k_is); (case c5 => k_is); (case k5 => k_is)
    (case a6 => k_is); (case l6 => k_is); (case c6 => k_is); (case k6 => k_is)
    (case a7 => k_is); (case l7 => k_is); (case c7 => k_is); (case k7 => k_is)
    (case a8 => k_is); (case l8 => k_is); (case c8 => k_is); (case k8 => k_is)
    (case a9 => k_is); (case l9 => k_is); (case c9 => k_is); (case k9 => k_is)
    (case a10 => k_is); (case l10 => k_is); (case c10 => k_is); (case k10 => k_is)
    (case a11 => k_is); (case l11 => k_is); (case c11 => k_is); (case k11 => k_is)
    (case a12 => k_is); (case l12 => k_is); (case c12 => k_is); (case k12 => k_is)
    (case a13 => k_is); (case l13 => k_is); (case c13 => k_is); (case k13 => k_is)
    (case a14 => k_is); (case l14 => k_is); (case c14 => k_is); (case k14 => k_is)
    (case a15 => k_is); (case l15 => k_is); (case c15 => k_is); (case k15 => k_is)
    (case a16 => k_is); (case l16 => k_is); (case c16 => k_is); (case k16 => k_is)
    (case a17 => k_is); (case l17 => k_is); (case c17 => k_is); (case k17 => k_is)
    (case a18 => k_is); (case l18 => k_is); (case c18 => k_is); (case k18 => k_is)
    (case a19 => k_is); (case l19 => k_is); (case c19 => k_is); (case k19 => k_is)
    (case a20 => k_is); (case l20 => k_is); (case c20 => k_is); (case k20 => k_is)
    (case a21 => k_is); (case l21 => k_is); (case c21 => k_is); (case k21 => k_is)
    (case a22 => k_is); (case l22 => k_is); (case c22 => k_is); (case k22 => k_is)
    (case a23 => k_is); (case l23 => k_is); (case c23 => k_is); (case k23 => k_is)
    (case z_abs => k_is)
    (case z_all => k_is)
    (case z_bool => k_is)
    (case z_int => k_is)
    (case z_isinstance => k_is)
    (case z_len => k_is)
    (case z_list => k_is)
    (case z_range => k_is)
    (case z_set => k_is)
    (case z_sorted => k_is)
    (case z_str => k_is)
    (case z_tuple => k_is)
    (case y_ROLLS => k_is)
    (case y_TURNED => k_is)
    (case y_WAYS => k_is)
    (case q42 => k_is)
    (case q39 => k_is)
    (case q36 => k_is)
    (case q33 => k_is)
    (case q30 => k_is)
    (case q29 => k_is)
    (case q22 => k_is)
    (case q15 => k_is)
    (case q8 => k_is)
    (case q1 => k_is)
    (case ql29 => exact ⟨⟨_, _, rfl, rfl⟩, ⟨_, _, rfl, rfl⟩, ⟨_, _, rfl, rfl⟩, ⟨_, _, rfl, rfl⟩, trivial⟩)
    (case qs29 => decide +kernel)
    (case ql42 => exact ⟨⟨_, _, rfl, rfl⟩, ⟨_, _, rfl, rfl⟩, ⟨_, _, rfl, rfl⟩, ⟨_, _, rfl, rfl⟩, trivial⟩)
    (case qs42 => decide +kernel)
end
