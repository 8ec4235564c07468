import PyProof.Rows.All
import Wide.All
import OpenK.AllK
import Wide.FinOn
import HandS.ForMost
import HandS.Exc
import HandS.Deep
import HandS.TryOnly
import HandS.TryMany
import HandS.ExcOwn
import HandS.WordsExc
import HandS.TupAny
import HandS.TupMul
import HandS.IsInst
import HandS.WordsDict
import HandS.RaiseMore
import HandS.Text
import HandS.Words
import HandS.Defaults
import HandS.Style
import HandS.HeadHook1
import HandS.HeadHook2
import HandS.Comp
import HandS.SortInts
import HandS.Iter
import HandS.Zip
import HandS.Rev
import PyProof.ZipIter
import HandS.Zip0
import HandS.ExcInit
import HandS.ExcIs
import KE.KExcSuper
import HandS.HeadWalk
import HandS.ExcField
import HandS.HeadHook4
import HandS.EndTab
import HandS.AnyAll
import HandS.Dict
import HandS.DictTup
import HandS.DictComp
import HandS.SortRule
import HandS.Conv
import HandS.More
import PyProof.SumAny
import HandS.Flt
import PyProof.MaxThree
import HandS.OwnEq
import HandS.Codes
import HandS.DictSub
import PyProof.InstNe
import PyProof.WalkInts
import PyProof.WalksMore
import PyProof.GenCompT
import PyProof.TupleOfSeq
import KE.KDictCopyH
import HandS.Gcd
import PyProof.DictMoreH
import PyProof.AutoSeq1
import HandS.TupLen
import HandS.Records
import HandS.Head0
import HandS.Head1
import HandS.Head2
import HandS.Head3
import HandS.HeadEnd
import PySem.Challenge.RW_partloft_k12_bodies_without_sketches
set_option Elab.async false
set_option linter.all false
set_option maxRecDepth 100000
set_option maxHeartbeats 0
set_option autoImplicit false
namespace PF
open PySem PySem.Spec PyProof.Rows L2
/-- values as trees -/
inductive D where
  | non | bl (b : Bool) | int (i : Int) | str (x : Str)
  | tup (ds : List D) | lst (ds : List D)
  /-- a dict: its keys ints and texts (false), or tuples of 2 to 4 ints (true) -/
  | dct (z : Bool) (kvs : List (D × D))
  | obj (c : Nat) (fs : List (Nat × D))
  | raw (v : V)
  | scr (is : List Int)
  deriving Inhabited
/-- what of a tree is owned: F nothing (shared, never changed); L, M, R the list, the dict, the object itself -/
inductive T where
  | F | L (t : T) | M (t : T) | R (ts : List T)
  deriving Inhabited
abbrev TD := T × D
/-- the text's tables: where the classes stand, the attributes' names -/
structure Tb where
  cls : Nat → Addr
  nm : Nat → Str
  /-- what besides holds of the shared part, however it grows (tables of code objects; an exception's dict) -/
  gx : Hp → Prop := fun _ => True
  /-- names that keep their value (the exception of an except suite) -/
  xp : List (Nat × V) := []
def keyD : Key → D
  | .inl i => .int i
  | .inr x => .str x
/-- a key that is a tuple of ints -/
def keyT (k : List Int) : D := .tup (k.map .int)
def keyI : D → Bool
  | .int _ => true
  | _ => false
/-- tuples that may be keys: they stand in the heap that is tracked -/
def keyable (ds : List D) : Bool := ds.all keyI && (decide (2 ≤ ds.length) && decide (ds.length ≤ 4))
def dtK (ks : List (List Int × V)) : List (List Key × V) := ks.map fun p => (p.1.map Sum.inl, p.2)
/-- the dict at a, its keys as trees -/
def DctAt (G : Hp) (a : Addr) (z : Bool) (kvs : List (D × V)) : Prop := match z with
  | false => ∃ ks : List (Key × V), Rd G a (.dK ks) ∧ kvs = ks.map fun p => (keyD p.1, p.2)
  | true => ∃ ks : List (List Int × V), Rd G a (.dT (dtK ks)) ∧ kvs = ks.map fun p => (keyT p.1, p.2)
def DctOf (H : Hp) (a : Addr) (z : Bool) (kvs : List (D × V)) : Prop := match z with
  | false => ∃ ks : List (Key × V), H a = some (.dK ks) ∧ kvs = ks.map fun p => (keyD p.1, p.2)
  | true => ∃ ks : List (List Int × V), H a = some (.dT (dtK ks)) ∧ kvs = ks.map fun p => (keyT p.1, p.2)
theorem DctOf.at {H : Hp} {a : Addr} {z : Bool} {kvs : List (D × V)} (h : DctOf H a z kvs) : DctAt H a z kvs := by
  cases z <;> (obtain ⟨ks, h1, h2⟩ := h; exact ⟨ks, .inl h1, h2⟩)
/-- what may be owned -/
def boxH : HO → Prop
  | .lst _ => True
  | .dK _ => True
  | .dT _ => True
  | .ins _ _ _ => True
  | _ => False
theorem DctOf.some {H : Hp} {a : Addr} {z : Bool} {kvs : List (D × V)} (h : DctOf H a z kvs) : ∃ o, H a = some o ∧ boxH o := by
  cases z <;> (obtain ⟨ks, h1, _⟩ := h; exact ⟨_, h1, True.intro⟩)
section
variable (K : PySem.W.Frag) (B : Tb)
mutual
def Rep (G : Hp) : D → V → Prop
  | .non, v => v = .non
  | .bl b, v => v = .bl b
  | .int i, v => v = .int i
  | .str x, v => v = .str x
  | .raw w, v => v = w
  | .scr is, v => ∃ a, v = .ref a ∧ SqL K G a (is.map V.int)
  | .tup ds, v => ∃ a vs, v = .ref a ∧ (SqT K G a vs ∧ (keyable ds = true → G a = some (.tup vs))) ∧ Reps G ds vs
  | .lst ds, v => ∃ a vs, v = .ref a ∧ G a = some (.lst vs) ∧ Reps G ds vs
  | .dct z kvs, v => ∃ a ks, v = .ref a ∧ DctAt G a z ks ∧ RepP G kvs ks
  | .obj c fs, v => ∃ a dx vs, v = .ref a ∧ G a = some (.ins (B.cls c) dx vs) ∧ RepF G fs vs
def Reps (G : Hp) : List D → List V → Prop
  | [], vs => vs = []
  | d :: ds, vs => ∃ v r, vs = v :: r ∧ Rep G d v ∧ Reps G ds r
def RepP (G : Hp) : List (D × D) → List (D × V) → Prop
  | [], ks => ks = []
  | (k, d) :: r, ks => ∃ v ks', ks = (k, v) :: ks' ∧ Rep G d v ∧ RepP G r ks'
def RepF (G : Hp) : List (Nat × D) → List (Str × V) → Prop
  | [], vs => vs = []
  | (n, d) :: r, vs => ∃ v vs', vs = (B.nm n, v) :: vs' ∧ Rep G d v ∧ RepF G r vs'
end
mutual
def Own (G H : Hp) : D → T → V → List Addr → Prop
  | .non, _, v, l => v = .non ∧ l = []
  | .bl b, _, v, l => v = .bl b ∧ l = []
  | .int i, _, v, l => v = .int i ∧ l = []
  | .str x, _, v, l => v = .str x ∧ l = []
  | .raw w, _, v, l => v = w ∧ l = []
  | .scr is, _, v, l => Rep K B G (.scr is) v ∧ l = []
  | .tup ds, _, v, l => Rep K B G (.tup ds) v ∧ l = []
  | .lst ds, t, v, l => match t with
    | .L t' => ∃ a vs l', v = .ref a ∧ H a = some (.lst vs) ∧ l = a :: l' ∧ Owns G H ds t' vs l'
    | _ => Rep K B G (.lst ds) v ∧ l = []
  | .dct z kvs, t, v, l => match t with
    | .M t' => ∃ a ks l', v = .ref a ∧ DctOf H a z ks ∧ l = a :: l' ∧ OwnP G H kvs t' ks l'
    | _ => Rep K B G (.dct z kvs) v ∧ l = []
  | .obj c fs, t, v, l => match t with
    | .R ts => ∃ a dx vs l', v = .ref a ∧ H a = some (.ins (B.cls c) dx vs) ∧ l = a :: l' ∧ OwnF G H fs ts vs l'
    | _ => Rep K B G (.obj c fs) v ∧ l = []
def Owns (G H : Hp) : List D → T → List V → List Addr → Prop
  | [], _, vs, l => vs = [] ∧ l = []
  | d :: ds, t, vs, l => ∃ v r l1 l2, vs = v :: r ∧ l = l1 ++ l2 ∧ Own G H d t v l1 ∧ Owns G H ds t r l2
def OwnP (G H : Hp) : List (D × D) → T → List (D × V) → List Addr → Prop
  | [], _, ks, l => ks = [] ∧ l = []
  | (k, d) :: r, t, ks, l => ∃ v ks' l1 l2, ks = (k, v) :: ks' ∧ l = l1 ++ l2 ∧ Own G H d t v l1 ∧ OwnP G H r t ks' l2
def OwnF (G H : Hp) : List (Nat × D) → List T → List (Str × V) → List Addr → Prop
  | [], _, vs, l => vs = [] ∧ l = []
  | (n, d) :: r, ts, vs, l => ∃ v vs' l1 l2, vs = (B.nm n, v) :: vs' ∧ l = l1 ++ l2 ∧ Own G H d (ts.headD .F) v l1 ∧ OwnF G H r ts.tail vs' l2
end
end
/-- what may change of a thing that is shared: a table grows, a dict is locked -/
def Gw (o o' : HO) : Prop := match o with
  | .tbl ps => ∃ ps', o' = .tbl ps' ∧ (TriplesOk ps.toList → TriplesOk ps'.toList)
  | .dK ks => o' = .dK ks ∨ ∃ od, o' = .frz od (.dK ks)
  | .dT ks => o' = .dT ks ∨ ∃ od, o' = .frz od (.dT ks)
  | o => o' = o
theorem Gw.refl : ∀ {o : HO}, Gw o o := fun {o} => by
  cases o with
  | tbl ps => exact ⟨ps, rfl, id⟩
  | dK ks => exact .inl rfl
  | dT ks => exact .inl rfl
  | _ => rfl
theorem Gw.trans {o p q : HO} (a : Gw o p) (b : Gw p q) : Gw o q := by
  cases o with
  | tbl ps =>
    obtain ⟨ps', e, f⟩ := a
    subst e
    obtain ⟨ps2, e, g⟩ := b
    exact ⟨ps2, e, fun h => g (f h)⟩
  | dK ks =>
    rcases a with e | ⟨od, e⟩
    · subst e; exact b
    · subst e
      have e : q = _ := b
      exact .inr ⟨od, e⟩
  | dT ks =>
    rcases a with e | ⟨od, e⟩
    · subst e; exact b
    · subst e
      have e : q = _ := b
      exact .inr ⟨od, e⟩
  | _ =>
    have e : p = _ := a
    subst e
    exact b
/-- things that stay as they are -/
def rigid : HO → Prop
  | .tbl _ => False
  | .dK _ => False
  | .dT _ => False
  | _ => True
/-- all that stands in G stands in H; a table may have grown, a dict may be locked -/
def Le (G H : Hp) : Prop := ∀ a o, G a = some o → ∃ o', H a = some o' ∧ Gw o o'
theorem Le.at {G H : Hp} (l : Le G H) {a : Addr} {o : HO} (e : G a = some o) (nt : rigid o := by exact True.intro) : H a = some o := by
  obtain ⟨o', e', g⟩ := l a o e
  cases o with
  | tbl ps => exact nt.elim
  | dK ps => exact nt.elim
  | dT ps => exact nt.elim
  | _ =>
    have q : o' = _ := g
    rw [q] at e'
    exact e'
theorem Le.of {G H : Hp} (h : ∀ a o, G a = some o → H a = some o) : Le G H := fun a o e => ⟨o, h a o e, .refl⟩
theorem Le.refl {G : Hp} : Le G G := .of fun _ _ h => h
theorem Le.trans {G H I : Hp} (a : Le G H) (b : Le H I) : Le G I := fun x o h => by
  obtain ⟨p, e, f⟩ := a x o h
  obtain ⟨q, e', f'⟩ := b x p e
  exact ⟨q, e', f.trans f'⟩
theorem Le.rd {G H : Hp} (l : Le G H) {a : Addr} {o : HO} (r : Rd G a o) (nt : ∀ ps, o ≠ .tbl ps := by intro _ h; cases h) : Rd H a o := by
  rcases r with r | ⟨q, r⟩
  · obtain ⟨o', e', g⟩ := l a o r
    cases o with
    | tbl ps => exact absurd rfl (nt ps)
    | dK ks =>
      rcases g with e | ⟨od, e⟩
      · subst e; exact .inl e'
      · subst e; exact .inr ⟨od, e'⟩
    | dT ks =>
      rcases g with e | ⟨od, e⟩
      · subst e; exact .inl e'
      · subst e; exact .inr ⟨od, e'⟩
    | _ =>
      have q : o' = _ := g
      rw [q] at e'
      exact .inl e'
  · exact .inr ⟨q, l.at r⟩
/-- all that stands in H stands in H', as it was; a table may have grown -/
def Ls (H H' : Hp) : Prop := ∀ a o, H a = some o → ∃ o', H' a = some o' ∧ (o' = o ∨ ∃ ps, o = .tbl ps ∧ Gw o o')
theorem Ls.at {G H : Hp} (l : Ls G H) {a : Addr} {o : HO} (e : G a = some o) (nt : ∀ ps, o ≠ .tbl ps := by intro _ h; cases h) : H a = some o := by
  obtain ⟨o', e', g⟩ := l a o e
  rcases g with g | ⟨ps, g, _⟩
  · rw [e', g]
  · exact absurd g (nt ps)
theorem Ls.of {G H : Hp} (h : ∀ a o, G a = some o → H a = some o) : Ls G H := fun a o e => ⟨o, h a o e, .inl rfl⟩
theorem Ls.refl {G : Hp} : Ls G G := .of fun _ _ h => h
theorem Ls.trans {G H I : Hp} (a : Ls G H) (b : Ls H I) : Ls G I := fun x o h => by
  obtain ⟨p, e, f⟩ := a x o h
  obtain ⟨q, e', f'⟩ := b x p e
  refine ⟨q, e', ?_⟩
  rcases f with f | ⟨ps, f, g⟩
  · subst f; exact f'
  · subst f
    obtain ⟨ps', f2, g2⟩ := id g
    subst f2
    rcases f' with f' | ⟨ps2, f', g'⟩
    · subst f'; exact .inr ⟨ps, rfl, g⟩
    · exact .inr ⟨ps, rfl, g.trans g'⟩
theorem Le.sqL {G H : Hp} (l : Le G H) {K : PySem.W.Frag} {a : Addr} {xs : List V} (r : SqL K G a xs) : SqL K H a xs := by
  rcases r with r | r
  · exact .inl (l.rd r)
  · exact .inr r
theorem Le.sqT {G H : Hp} (l : Le G H) {K : PySem.W.Frag} {a : Addr} {xs : List V} (r : SqT K G a xs) : SqT K H a xs := by
  rcases r with r | r
  · exact .inl (l.rd r)
  · exact .inr r
theorem Le.dct {G H : Hp} (l : Le G H) {a : Addr} {z : Bool} {ks : List (D × V)} (r : DctAt G a z ks) : DctAt H a z ks := by
  cases z <;> (obtain ⟨k, h1, h2⟩ := r; exact ⟨k, l.rd h1, h2⟩)
section
variable {K : PySem.W.Frag} {B : Tb} {G G' H H' : Hp}
mutual
theorem Rep.mono (l : Le G G') : ∀ {d : D} {v : V}, Rep K B G d v → Rep K B G' d v
  | .non, _, h => h
  | .bl _, _, h => h
  | .int _, _, h => h
  | .str _, _, h => h
  | .raw _, _, h => h
  | .scr _, v, h => by
    simp only [Rep] at h ⊢
    obtain ⟨a, e, s⟩ := h
    exact ⟨a, e, l.sqL s⟩
  | .tup ds, v, h => by
    simp only [Rep] at h ⊢
    obtain ⟨a, vs, e, s, r⟩ := h
    exact ⟨a, vs, e, ⟨l.sqT s.1, fun k => l.at (s.2 k)⟩, Reps.mono l r⟩
  | .lst ds, v, h => by
    simp only [Rep] at h ⊢
    obtain ⟨a, vs, e, s, r⟩ := h
    exact ⟨a, vs, e, l.at s, Reps.mono l r⟩
  | .dct z kvs, v, h => by
    simp only [Rep] at h ⊢
    obtain ⟨a, ks, e, s, r⟩ := h
    exact ⟨a, ks, e, l.dct s, RepP.mono l r⟩
  | .obj c fs, v, h => by
    simp only [Rep] at h ⊢
    obtain ⟨a, dx, vs, e, s, r⟩ := h
    exact ⟨a, dx, vs, e, l.at s, RepF.mono l r⟩
theorem Reps.mono (l : Le G G') : ∀ {ds : List D} {vs : List V}, Reps K B G ds vs → Reps K B G' ds vs
  | [], _, h => by simp only [Reps] at h ⊢; exact h
  | d :: ds, vs, h => by
    simp only [Reps] at h ⊢
    obtain ⟨v, r, e, h1, h2⟩ := h
    exact ⟨v, r, e, Rep.mono l h1, Reps.mono l h2⟩
theorem RepP.mono (l : Le G G') : ∀ {ds : List (D × D)} {vs : List (D × V)}, RepP K B G ds vs → RepP K B G' ds vs
  | [], _, h => by simp only [RepP] at h ⊢; exact h
  | (k, d) :: ds, vs, h => by
    simp only [RepP] at h ⊢
    obtain ⟨v, r, e, h1, h2⟩ := h
    exact ⟨v, r, e, Rep.mono l h1, RepP.mono l h2⟩
theorem RepF.mono (l : Le G G') : ∀ {ds : List (Nat × D)} {vs : List (Str × V)}, RepF K B G ds vs → RepF K B G' ds vs
  | [], _, h => by simp only [RepF] at h ⊢; exact h
  | (k, d) :: ds, vs, h => by
    simp only [RepF] at h ⊢
    obtain ⟨v, r, e, h1, h2⟩ := h
    exact ⟨v, r, e, Rep.mono l h1, RepF.mono l h2⟩
end
/-- the heap is as it was at these places -/
def At (l : List Addr) (H H' : Hp) : Prop := ∀ a ∈ l, H' a = H a
theorem At.left {l m : List Addr} (h : At (l ++ m) H H') : At l H H' := fun a ha => h a (List.mem_append_left _ ha)
theorem At.right {l m : List Addr} (h : At (l ++ m) H H') : At m H H' := fun a ha => h a (List.mem_append_right _ ha)
theorem At.head {a : Addr} {l : List Addr} (h : At (a :: l) H H') : H' a = H a := h a List.mem_cons_self
theorem At.tail {a : Addr} {l : List Addr} (h : At (a :: l) H H') : At l H H' := fun b hb => h b (List.mem_cons_of_mem _ hb)
theorem DctOf.keep {a : Addr} {z : Bool} {ks : List (D × V)} (h : DctOf H a z ks) (e : H' a = H a) : DctOf H' a z ks := by
  cases z <;> (obtain ⟨k, h1, h2⟩ := h; exact ⟨k, e.trans h1, h2⟩)
mutual
theorem Own.mono (le : Le G G') : ∀ {d : D} {t : T} {v : V} {l : List Addr}, Own K B G H d t v l → At l H H' → Own K B G' H' d t v l
  | .non, _, _, _, h, _ => by simp only [Own] at h ⊢; exact h
  | .bl _, _, _, _, h, _ => by simp only [Own] at h ⊢; exact h
  | .int _, _, _, _, h, _ => by simp only [Own] at h ⊢; exact h
  | .str _, _, _, _, h, _ => by simp only [Own] at h ⊢; exact h
  | .raw _, _, _, _, h, _ => by simp only [Own] at h ⊢; exact h
  | .tup ds, _, _, _, h, _ => by simp only [Own] at h ⊢; exact ⟨h.1.mono le, h.2⟩
  | .scr _, _, _, _, h, _ => by simp only [Own] at h ⊢; exact ⟨h.1.mono le, h.2⟩
  | .lst ds, t, v, l, h, k => by
    cases t with
    | L t' =>
      simp only [Own] at h ⊢
      obtain ⟨a, vs, l', e, ha, el, r⟩ := h
      subst el
      exact ⟨a, vs, l', e, k.head.trans ha, rfl, Owns.mono le r k.tail⟩
    | _ => simp only [Own] at h ⊢; exact ⟨h.1.mono le, h.2⟩
  | .dct z kvs, t, v, l, h, k => by
    cases t with
    | M t' =>
      simp only [Own] at h ⊢
      obtain ⟨a, ks, l', e, ha, el, r⟩ := h
      subst el
      exact ⟨a, ks, l', e, ha.keep k.head, rfl, OwnP.mono le r k.tail⟩
    | _ => simp only [Own] at h ⊢; exact ⟨h.1.mono le, h.2⟩
  | .obj c fs, t, v, l, h, k => by
    cases t with
    | R ts =>
      simp only [Own] at h ⊢
      obtain ⟨a, dx, vs, l', e, ha, el, r⟩ := h
      subst el
      exact ⟨a, dx, vs, l', e, k.head.trans ha, rfl, OwnF.mono le r k.tail⟩
    | _ => simp only [Own] at h ⊢; exact ⟨h.1.mono le, h.2⟩
theorem Owns.mono (le : Le G G') : ∀ {ds : List D} {t : T} {vs : List V} {l : List Addr}, Owns K B G H ds t vs l → At l H H' → Owns K B G' H' ds t vs l
  | [], _, _, _, h, _ => by simp only [Owns] at h ⊢; exact h
  | d :: ds, t, vs, l, h, k => by
    simp only [Owns] at h ⊢
    obtain ⟨v, r, l1, l2, e, el, h1, h2⟩ := h
    subst el
    exact ⟨v, r, l1, l2, e, rfl, Own.mono le h1 k.left, Owns.mono le h2 k.right⟩
theorem OwnP.mono (le : Le G G') : ∀ {ds : List (D × D)} {t : T} {vs : List (D × V)} {l : List Addr}, OwnP K B G H ds t vs l → At l H H' → OwnP K B G' H' ds t vs l
  | [], _, _, _, h, _ => by simp only [OwnP] at h ⊢; exact h
  | (k', d) :: ds, t, vs, l, h, k => by
    simp only [OwnP] at h ⊢
    obtain ⟨v, r, l1, l2, e, el, h1, h2⟩ := h
    subst el
    exact ⟨v, r, l1, l2, e, rfl, Own.mono le h1 k.left, OwnP.mono le h2 k.right⟩
theorem OwnF.mono (le : Le G G') : ∀ {ds : List (Nat × D)} {t : List T} {vs : List (Str × V)} {l : List Addr}, OwnF K B G H ds t vs l → At l H H' → OwnF K B G' H' ds t vs l
  | [], _, _, _, h, _ => by simp only [OwnF] at h ⊢; exact h
  | (k', d) :: ds, t, vs, l, h, k => by
    simp only [OwnF] at h ⊢
    obtain ⟨v, r, l1, l2, e, el, h1, h2⟩ := h
    subst el
    exact ⟨v, r, l1, l2, e, rfl, Own.mono le h1 k.left, OwnF.mono le h2 k.right⟩
end
mutual
/-- what is owned stands in the heap -/
theorem Own.there : ∀ {d : D} {t : T} {v : V} {l : List Addr}, Own K B G H d t v l → ∀ a ∈ l, ∃ o, H a = some o ∧ boxH o
  | .non, _, _, _, h, a, ha => by simp only [Own] at h; rw [h.2] at ha; cases ha
  | .bl _, _, _, _, h, a, ha => by simp only [Own] at h; rw [h.2] at ha; cases ha
  | .int _, _, _, _, h, a, ha => by simp only [Own] at h; rw [h.2] at ha; cases ha
  | .str _, _, _, _, h, a, ha => by simp only [Own] at h; rw [h.2] at ha; cases ha
  | .raw _, _, _, _, h, a, ha => by simp only [Own] at h; rw [h.2] at ha; cases ha
  | .tup ds, _, _, _, h, a, ha => by simp only [Own] at h; rw [h.2] at ha; cases ha
  | .scr _, _, _, _, h, a, ha => by simp only [Own] at h; rw [h.2] at ha; cases ha
  | .lst ds, t, v, l, h, b, hb => by
    cases t with
    | L t' =>
      simp only [Own] at h
      obtain ⟨a, vs, l', e, ha, el, r⟩ := h
      subst el
      rcases List.mem_cons.mp hb with q | q
      · subst q; exact ⟨_, ha, True.intro⟩
      · exact Owns.there r b q
    | _ => simp only [Own] at h; rw [h.2] at hb; cases hb
  | .dct z kvs, t, v, l, h, b, hb => by
    cases t with
    | M t' =>
      simp only [Own] at h
      obtain ⟨a, ks, l', e, ha, el, r⟩ := h
      subst el
      rcases List.mem_cons.mp hb with q | q
      · exact q ▸ ha.some
      · exact OwnP.there r b q
    | _ => simp only [Own] at h; rw [h.2] at hb; cases hb
  | .obj c fs, t, v, l, h, b, hb => by
    cases t with
    | R ts =>
      simp only [Own] at h
      obtain ⟨a, dx, vs, l', e, ha, el, r⟩ := h
      subst el
      rcases List.mem_cons.mp hb with q | q
      · subst q; exact ⟨_, ha, True.intro⟩
      · exact OwnF.there r b q
    | _ => simp only [Own] at h; rw [h.2] at hb; cases hb
theorem Owns.there : ∀ {ds : List D} {t : T} {vs : List V} {l : List Addr}, Owns K B G H ds t vs l → ∀ a ∈ l, ∃ o, H a = some o ∧ boxH o
  | [], _, _, _, h, a, ha => by simp only [Owns] at h; rw [h.2] at ha; cases ha
  | d :: ds, t, vs, l, h, a, ha => by
    simp only [Owns] at h
    obtain ⟨v, r, l1, l2, e, el, h1, h2⟩ := h
    subst el
    rcases List.mem_append.mp ha with q | q
    · exact Own.there h1 a q
    · exact Owns.there h2 a q
theorem OwnP.there : ∀ {ds : List (D × D)} {t : T} {vs : List (D × V)} {l : List Addr}, OwnP K B G H ds t vs l → ∀ a ∈ l, ∃ o, H a = some o ∧ boxH o
  | [], _, _, _, h, a, ha => by simp only [OwnP] at h; rw [h.2] at ha; cases ha
  | (k, d) :: ds, t, vs, l, h, a, ha => by
    simp only [OwnP] at h
    obtain ⟨v, r, l1, l2, e, el, h1, h2⟩ := h
    subst el
    rcases List.mem_append.mp ha with q | q
    · exact Own.there h1 a q
    · exact OwnP.there h2 a q
theorem OwnF.there : ∀ {ds : List (Nat × D)} {t : List T} {vs : List (Str × V)} {l : List Addr}, OwnF K B G H ds t vs l → ∀ a ∈ l, ∃ o, H a = some o ∧ boxH o
  | [], _, _, _, h, a, ha => by simp only [OwnF] at h; rw [h.2] at ha; cases ha
  | (k, d) :: ds, t, vs, l, h, a, ha => by
    simp only [OwnF] at h
    obtain ⟨v, r, l1, l2, e, el, h1, h2⟩ := h
    subst el
    rcases List.mem_append.mp ha with q | q
    · exact Own.there h1 a q
    · exact OwnF.there h2 a q
end
end
abbrev Rs := T × D × V
section
variable (K : PySem.W.Frag) (B : Tb)
def OwnAll (G H : Hp) : List Rs → List Addr → Prop
  | [], l => l = []
  | (t, d, v) :: r, l => ∃ l1 l2, l = l1 ++ l2 ∧ Own K B G H d t v l1 ∧ OwnAll G H r l2
/-- what is said of the heap: the shared part G of H, and of the rest every resource its own places -/
def Okx (G H : Hp) (xs : List Rs) : Prop := Le G H ∧ (∀ G', Le G G' → B.gx G') ∧ ∃ l, OwnAll K B G H xs l ∧ l.Nodup ∧ ∀ a ∈ l, G a = none
end
section
variable {K : PySem.W.Frag} {B : Tb} {G G' H H' : Hp}
theorem OwnAll.mono (le : Le G G') : ∀ {xs : List Rs} {l : List Addr}, OwnAll K B G H xs l → At l H H' → OwnAll K B G' H' xs l
  | [], _, h, _ => h
  | (t, d, v) :: r, _, ⟨l1, l2, e, h1, h2⟩, k => by
    subst e
    exact ⟨l1, l2, rfl, h1.mono le k.left, OwnAll.mono le h2 k.right⟩
theorem OwnAll.there : ∀ {xs : List Rs} {l : List Addr}, OwnAll K B G H xs l → ∀ a ∈ l, ∃ o, H a = some o ∧ boxH o
  | [], _, h, a, ha => by rw [show _ = [] from h] at ha; cases ha
  | (t, d, v) :: r, _, ⟨l1, l2, e, h1, h2⟩, a, ha => by
    subst e
    rcases List.mem_append.mp ha with q | q
    · exact h1.there a q
    · exact OwnAll.there h2 a q
theorem OwnAll.perm {xs ys : List Rs} (p : xs.Perm ys) : ∀ {l : List Addr}, OwnAll K B G H xs l → ∃ m, OwnAll K B G H ys m ∧ l.Perm m := by
  induction p with
  | nil => intro l h; exact ⟨l, h, .refl _⟩
  | cons x _ ih =>
    obtain ⟨t, d, v⟩ := x
    rintro l ⟨l1, l2, e, h1, h2⟩
    obtain ⟨m, h3, q⟩ := ih h2
    exact ⟨l1 ++ m, ⟨l1, m, rfl, h1, h3⟩, e ▸ List.Perm.append_left _ q⟩
  | swap x y r =>
    obtain ⟨t, d, v⟩ := x
    obtain ⟨t', d', v'⟩ := y
    rintro l ⟨l1, l2, e, h1, l3, l4, e2, h2, h3⟩
    subst e e2
    refine ⟨l3 ++ (l1 ++ l4), ⟨l3, _, rfl, h2, l1, l4, rfl, h1, h3⟩, ?_⟩
    rw [← List.append_assoc, ← List.append_assoc]
    exact List.Perm.append_right _ List.perm_append_comm
  | trans _ _ ih1 ih2 =>
    intro l h
    obtain ⟨m, h1, q1⟩ := ih1 h
    obtain ⟨m', h2, q2⟩ := ih2 h1
    exact ⟨m', h2, q1.trans q2⟩
theorem OwnAll.split : ∀ {xs ys : List Rs} {l : List Addr}, OwnAll K B G H (xs ++ ys) l → ∃ l1 l2, l = l1 ++ l2 ∧ OwnAll K B G H xs l1 ∧ OwnAll K B G H ys l2
  | [], ys, l, h => ⟨[], l, rfl, rfl, h⟩
  | (t, d, v) :: r, ys, _, ⟨l1, l2, e, h1, h2⟩ => by
    obtain ⟨m1, m2, e2, h3, h4⟩ := OwnAll.split h2
    subst e e2
    exact ⟨l1 ++ m1, m2, by rw [List.append_assoc], ⟨l1, m1, rfl, h1, h3⟩, h4⟩
theorem Okx.le {xs : List Rs} (h : Okx K B G H xs) : Le G H := h.1
theorem Okx.perm {xs ys : List Rs} (h : Okx K B G H xs) (p : xs.Perm ys) : Okx K B G H ys := by
  obtain ⟨le, gx, l, h1, nd, dj⟩ := h
  obtain ⟨m, h2, q⟩ := h1.perm p
  exact ⟨le, gx, m, h2, q.nodup nd, fun a ha => dj a (q.mem_iff.mpr ha)⟩
theorem Okx.tail {x : Rs} {xs : List Rs} (h : Okx K B G H (x :: xs)) : Okx K B G H xs := by
  obtain ⟨t, d, v⟩ := x
  obtain ⟨le, gx, l, ⟨l1, l2, e, h1, h2⟩, nd, dj⟩ := h
  subst e
  exact ⟨le, gx, l2, h2, (List.nodup_append.mp nd).2.1, fun a ha => dj a (List.mem_append_right _ ha)⟩
theorem Okx.drop {xs ys : List Rs} (h : Okx K B G H (xs ++ ys)) : Okx K B G H ys := by
  induction xs with
  | nil => exact h
  | cons x r ih => exact ih h.tail
theorem Okx.head {t : T} {d : D} {v : V} {xs : List Rs} (h : Okx K B G H ((t, d, v) :: xs)) : ∃ l, Own K B G H d t v l := by
  obtain ⟨le, gx, l, ⟨l1, l2, e, h1, h2⟩, nd, dj⟩ := h
  exact ⟨l1, h1⟩
/-- a resource that owns nothing may be added -/
theorem Okx.add {t : T} {d : D} {v : V} {xs : List Rs} (h : Okx K B G H xs) (q : Own K B G H d t v []) : Okx K B G H ((t, d, v) :: xs) := by
  obtain ⟨le, gx, l, h1, nd, dj⟩ := h
  exact ⟨le, gx, l, ⟨[], l, rfl, q, h1⟩, nd, dj⟩
theorem Rep.own {d : D} {v : V} (h : Rep K B G d v) : Own K B G H d .F v [] := by
  cases d <;> simp only [Own, Rep] at h ⊢ <;> exact ⟨h, trivial⟩
theorem Okx.addF {d : D} {v : V} {xs : List Rs} (h : Okx K B G H xs) (q : Rep K B G d v) : Okx K B G H ((.F, d, v) :: xs) := h.add q.own
theorem Okx.mono {xs : List Rs} (h : Okx K B G H xs) (le : Le G H') (k : ∀ a o, H a = some o → G a = none → H' a = H a) : Okx K B G H' xs := by
  obtain ⟨_, gx, l, h1, nd, dj⟩ := h
  refine ⟨le, gx, l, h1.mono .refl fun a ha => ?_, nd, dj⟩
  obtain ⟨o, ho, _⟩ := h1.there a ha
  exact k a o ho (dj a ha)
end
section
variable {K : PySem.W.Frag} {B B' : Tb} {G H : Hp}
mutual
theorem Rep.tb (h1 : B'.cls = B.cls) (h2 : B'.nm = B.nm) : ∀ {d : D} {v : V}, Rep K B G d v → Rep K B' G d v
  | .non, _, h => h
  | .bl _, _, h => h
  | .int _, _, h => h
  | .str _, _, h => h
  | .raw _, _, h => h
  | .scr _, v, h => by simp only [Rep] at h ⊢; exact h
  | .tup ds, v, h => by
    simp only [Rep] at h ⊢
    obtain ⟨a, vs, e, s, r⟩ := h
    exact ⟨a, vs, e, s, Reps.tb h1 h2 r⟩
  | .lst ds, v, h => by
    simp only [Rep] at h ⊢
    obtain ⟨a, vs, e, s, r⟩ := h
    exact ⟨a, vs, e, s, Reps.tb h1 h2 r⟩
  | .dct z kvs, v, h => by
    simp only [Rep] at h ⊢
    obtain ⟨a, ks, e, s, r⟩ := h
    exact ⟨a, ks, e, s, RepP.tb h1 h2 r⟩
  | .obj c fs, v, h => by
    simp only [Rep] at h ⊢
    obtain ⟨a, dx, vs, e, s, r⟩ := h
    exact ⟨a, dx, vs, e, by rw [h1]; exact s, RepF.tb h1 h2 r⟩
theorem Reps.tb (h1 : B'.cls = B.cls) (h2 : B'.nm = B.nm) : ∀ {ds : List D} {vs : List V}, Reps K B G ds vs → Reps K B' G ds vs
  | [], _, h => by simp only [Reps] at h ⊢; exact h
  | d :: ds, vs, h => by
    simp only [Reps] at h ⊢
    obtain ⟨v, r, e, k1, k2⟩ := h
    exact ⟨v, r, e, Rep.tb h1 h2 k1, Reps.tb h1 h2 k2⟩
theorem RepP.tb (h1 : B'.cls = B.cls) (h2 : B'.nm = B.nm) : ∀ {ds : List (D × D)} {vs : List (D × V)}, RepP K B G ds vs → RepP K B' G ds vs
  | [], _, h => by simp only [RepP] at h ⊢; exact h
  | (k, d) :: ds, vs, h => by
    simp only [RepP] at h ⊢
    obtain ⟨v, r, e, k1, k2⟩ := h
    exact ⟨v, r, e, Rep.tb h1 h2 k1, RepP.tb h1 h2 k2⟩
theorem RepF.tb (h1 : B'.cls = B.cls) (h2 : B'.nm = B.nm) : ∀ {ds : List (Nat × D)} {vs : List (Str × V)}, RepF K B G ds vs → RepF K B' G ds vs
  | [], _, h => by simp only [RepF] at h ⊢; exact h
  | (k, d) :: ds, vs, h => by
    simp only [RepF] at h ⊢
    obtain ⟨v, r, e, k1, k2⟩ := h
    exact ⟨v, r, by rw [h2]; exact e, Rep.tb h1 h2 k1, RepF.tb h1 h2 k2⟩
end
mutual
theorem Own.tb (h1 : B'.cls = B.cls) (h2 : B'.nm = B.nm) : ∀ {d : D} {t : T} {v : V} {l : List Addr}, Own K B G H d t v l → Own K B' G H d t v l
  | .non, _, _, _, h => by simp only [Own] at h ⊢; exact h
  | .bl _, _, _, _, h => by simp only [Own] at h ⊢; exact h
  | .int _, _, _, _, h => by simp only [Own] at h ⊢; exact h
  | .str _, _, _, _, h => by simp only [Own] at h ⊢; exact h
  | .raw _, _, _, _, h => by simp only [Own] at h ⊢; exact h
  | .tup ds, _, _, _, h => by simp only [Own] at h ⊢; exact ⟨h.1.tb h1 h2, h.2⟩
  | .scr _, _, _, _, h => by simp only [Own] at h ⊢; exact ⟨h.1.tb h1 h2, h.2⟩
  | .lst ds, t, v, l, h => by
    cases t with
    | L t' =>
      simp only [Own] at h ⊢
      obtain ⟨a, vs, l', e, ha, el, r⟩ := h
      exact ⟨a, vs, l', e, ha, el, Owns.tb h1 h2 r⟩
    | _ => simp only [Own] at h ⊢; exact ⟨h.1.tb h1 h2, h.2⟩
  | .dct z kvs, t, v, l, h => by
    cases t with
    | M t' =>
      simp only [Own] at h ⊢
      obtain ⟨a, ks, l', e, ha, el, r⟩ := h
      exact ⟨a, ks, l', e, ha, el, OwnP.tb h1 h2 r⟩
    | _ => simp only [Own] at h ⊢; exact ⟨h.1.tb h1 h2, h.2⟩
  | .obj c fs, t, v, l, h => by
    cases t with
    | R ts =>
      simp only [Own] at h ⊢
      obtain ⟨a, dx, vs, l', e, ha, el, r⟩ := h
      exact ⟨a, dx, vs, l', e, by rw [h1]; exact ha, el, OwnF.tb h1 h2 r⟩
    | _ => simp only [Own] at h ⊢; exact ⟨h.1.tb h1 h2, h.2⟩
theorem Owns.tb (h1 : B'.cls = B.cls) (h2 : B'.nm = B.nm) : ∀ {ds : List D} {t : T} {vs : List V} {l : List Addr}, Owns K B G H ds t vs l → Owns K B' G H ds t vs l
  | [], _, _, _, h => by simp only [Owns] at h ⊢; exact h
  | d :: ds, t, vs, l, h => by
    simp only [Owns] at h ⊢
    obtain ⟨v, r, l1, l2, e, el, k1, k2⟩ := h
    exact ⟨v, r, l1, l2, e, el, Own.tb h1 h2 k1, Owns.tb h1 h2 k2⟩
theorem OwnP.tb (h1 : B'.cls = B.cls) (h2 : B'.nm = B.nm) : ∀ {ds : List (D × D)} {t : T} {vs : List (D × V)} {l : List Addr}, OwnP K B G H ds t vs l → OwnP K B' G H ds t vs l
  | [], _, _, _, h => by simp only [OwnP] at h ⊢; exact h
  | (k', d) :: ds, t, vs, l, h => by
    simp only [OwnP] at h ⊢
    obtain ⟨v, r, l1, l2, e, el, k1, k2⟩ := h
    exact ⟨v, r, l1, l2, e, el, Own.tb h1 h2 k1, OwnP.tb h1 h2 k2⟩
theorem OwnF.tb (h1 : B'.cls = B.cls) (h2 : B'.nm = B.nm) : ∀ {ds : List (Nat × D)} {t : List T} {vs : List (Str × V)} {l : List Addr}, OwnF K B G H ds t vs l → OwnF K B' G H ds t vs l
  | [], _, _, _, h => by simp only [OwnF] at h ⊢; exact h
  | (k', d) :: ds, t, vs, l, h => by
    simp only [OwnF] at h ⊢
    obtain ⟨v, r, l1, l2, e, el, k1, k2⟩ := h
    exact ⟨v, r, l1, l2, by rw [h2]; exact e, el, Own.tb h1 h2 k1, OwnF.tb h1 h2 k2⟩
end
theorem OwnAll.tb (h1 : B'.cls = B.cls) (h2 : B'.nm = B.nm) : ∀ {xs : List Rs} {l : List Addr}, OwnAll K B G H xs l → OwnAll K B' G H xs l
  | [], _, h => h
  | (t, d, v) :: r, _, ⟨l1, l2, e, k1, k2⟩ => ⟨l1, l2, e, k1.tb h1 h2, OwnAll.tb h1 h2 k2⟩
theorem Okx.tb (h1 : B'.cls = B.cls) (h2 : B'.nm = B.nm) {xs : List Rs} (h : Okx K B G H xs) (h3 : ∀ G', Le G G' → B.gx G' → B'.gx G') : Okx K B' G H xs := by
  obtain ⟨le, gx, l, k1, nd, dj⟩ := h
  exact ⟨le, fun G' l' => h3 G' l' (gx G' l'), l, k1.tb h1 h2, nd, dj⟩
theorem Okx.gx {xs : List Rs} (h : Okx K B G H xs) : ∀ G', Le G G' → B.gx G' := h.2.1
end
end PF
namespace PF
open PySem L2
abbrev Env := List (Option TD)
/-- a result: an answer and the names behind it; an exception of the class c with attributes; or no word -/
inductive R (α : Type) where
  | ok (a : α) (ρ : Env)
  | exc (c : Nat) (fs : List (Nat × D)) (ρ : Env)
  | stuck
def R.wp {α : Type} (r : R α) (Q : α → Env → Prop) (E : Nat → List (Nat × D) → Env → Prop) : Prop := match r with
  | .ok a ρ => Q a ρ
  | .exc c fs ρ => E c fs ρ
  | .stuck => False
theorem R.wp_mono {α : Type} {r : R α} {Q Q' : α → Env → Prop} {E E' : Nat → List (Nat × D) → Env → Prop} (h : r.wp Q E) (q : ∀ a ρ, Q a ρ → Q' a ρ) (e : ∀ c fs ρ, E c fs ρ → E' c fs ρ) : r.wp Q' E' := by
  cases r with
  | ok a ρ => exact q _ _ h
  | exc c fs ρ => exact e _ _ _ h
  | stuck => exact h
def ent (sv : Option V) (r : Option TD) : Rs := match r, sv with
  | some (t, d), some v => (t, d, v)
  | _, _ => (.F, .non, .non)
def ents (σ : St) (ρ : Env) : List Rs := List.zipWith ent σ ρ
section
variable (K : PySem.W.Frag) (B : Tb)
/-- the names' values are what the trees say; κ: what else is held; pv: names that keep their value (an argument that is lent) -/
structure StOk (G H : Hp) (σ : St) (ρ : Env) (κ : List Rs) (pv : List (Nat × V)) : Prop where
  len : σ.length = ρ.length
  val : ∀ (i : Nat) (t : T) (d : D), ρ[i]? = some (some (t, d)) → ∃ v, σ[i]? = some (some v)
  ok : Okx K B G H (ents σ ρ ++ κ)
  pvs : ∀ p ∈ pv, σ[p.1]? = some (some p.2)
  xps : ∀ p ∈ B.xp, p ∈ pv
end
section
variable {K : PySem.W.Frag} {B : Tb} {G G' H H' : Hp} {σ : St} {ρ : Env} {κ κ' : List Rs} {pv : List (Nat × V)}
/-- the names stay, what is held besides changes -/
theorem StOk.with {G' H' : Hp} (h : StOk K B G H σ ρ κ pv) (o : Okx K B G' H' (ents σ ρ ++ κ')) : StOk K B G' H' σ ρ κ' pv := ⟨h.len, h.val, o, h.pvs, h.xps⟩
theorem StOk.rot {ys : List Rs} (h : StOk K B G H σ ρ (ys ++ κ) pv) : Okx K B G H (ys ++ (ents σ ρ ++ κ)) :=
  h.ok.perm (by rw [← List.append_assoc, ← List.append_assoc]; exact List.perm_append_comm.append_right κ)
theorem Okx.unrot {E ys : List Rs} (h : Okx K B G H (ys ++ (E ++ κ))) : Okx K B G H (E ++ (ys ++ κ)) :=
  h.perm (by rw [← List.append_assoc, ← List.append_assoc]; exact List.perm_append_comm.append_right κ)
theorem StOk.swap {ys zs : List Rs} (h : StOk K B G H σ ρ (ys ++ κ) pv) (k : Okx K B G H (ys ++ (ents σ ρ ++ κ)) → Okx K B G' H' (zs ++ (ents σ ρ ++ κ))) : StOk K B G' H' σ ρ (zs ++ κ) pv :=
  h.with (k h.rot).unrot
theorem StOk.drop {ys : List Rs} (h : StOk K B G H σ ρ (ys ++ κ) pv) : StOk K B G H σ ρ κ pv := h.with (h.rot.drop)
theorem StOk.tail {y : Rs} (h : StOk K B G H σ ρ (y :: κ) pv) : StOk K B G H σ ρ κ pv := h.drop (ys := [y])
theorem StOk.addF {d : D} {v : V} (h : StOk K B G H σ ρ κ pv) (q : Rep K B G d v) : StOk K B G H σ ρ ((.F, d, v) :: κ) pv :=
  h.with (Okx.unrot (ys := [(T.F, d, v)]) (h.ok.addF q))
theorem StOk.head {t : T} {d : D} {v : V} (h : StOk K B G H σ ρ ((t, d, v) :: κ) pv) : ∃ l, Own K B G H d t v l := (h.rot (ys := [(t, d, v)])).head
theorem ents_at : ∀ {σ : St} {ρ : Env} {i : Nat} {t : T} {d : D} {v : V}, ρ[i]? = some (some (t, d)) → σ[i]? = some (some v) → (ents σ ρ)[i]? = some (t, d, v) := by
  intro σ ρ i t d v h1 h2
  unfold ents
  rw [List.getElem?_zipWith, h1, h2]
  rfl
/-- a name's resource is taken to the front -/
theorem perm_front {α : Type} {l : List α} {i : Nat} {x : α} (h : l[i]? = some x) : l.Perm (x :: l.eraseIdx i) := by
  induction l generalizing i with
  | nil => cases h
  | cons a l ih => cases i with
    | zero =>
      simp only [List.getElem?_cons_zero, Option.some.injEq] at h
      subst h
      exact .refl _
    | succ i =>
      simp only [List.getElem?_cons_succ] at h
      simp only [List.eraseIdx_cons_succ]
      exact ((ih h).cons a).trans (List.Perm.swap _ _ _)
theorem set_perm {α : Type} : ∀ {l : List α} {i : Nat} (x : α), i < l.length → (l.set i x).Perm (x :: l.eraseIdx i)
  | [], i, x, h => by cases h
  | a :: l, 0, x, h => by simp
  | a :: l, i + 1, x, h => by
    simp only [List.set_cons_succ, List.eraseIdx_cons_succ]
    exact ((set_perm x (Nat.lt_of_succ_lt_succ h)).cons a).trans (List.Perm.swap _ _ _)
theorem ents_set {σ : St} {ρ : Env} {i : Nat} (sv : Option V) (r : Option TD) : ents (σ.set i sv) (ρ.set i r) = (ents σ ρ).set i (ent sv r) := by
  unfold ents
  induction σ generalizing ρ i with
  | nil => simp
  | cons a σ ih => cases ρ with
    | nil => simp
    | cons b ρ => cases i with
      | zero => simp
      | succ i => simp [ih]
theorem set_self {α : Type} : ∀ {l : List α} {i : Nat} {x : α}, l[i]? = some x → l.set i x = l := by
  intro l i x h
  obtain ⟨hi, e⟩ := List.getElem?_eq_some_iff.mp h
  subst e
  exact List.set_getElem_self hi
theorem StOk.lenE (h : StOk K B G H σ ρ κ pv) : (ents σ ρ).length = ρ.length := by
  unfold ents; rw [List.length_zipWith, h.len, Nat.min_self]
/-- a name's resource, to be looked at -/
theorem StOk.at {i : Nat} {t : T} {d : D} (h : StOk K B G H σ ρ κ pv) (e : ρ[i]? = some (some (t, d))) : ∃ v l, σ[i]? = some (some v) ∧ Own K B G H d t v l := by
  obtain ⟨v, hv⟩ := h.val _ _ _ e
  have p := (perm_front (ents_at e hv)).append_right κ
  obtain ⟨l, q⟩ := (h.ok.perm p).head
  exact ⟨v, l, hv, q⟩
/-- a name is forgotten -/
theorem StOk.forget {i : Nat} (h : StOk K B G H σ ρ κ pv) : StOk K B G H σ (ρ.set i none) κ pv := by
  by_cases hi : i < ρ.length
  · refine ⟨by simpa using h.len, fun j t1 d1 e1 => ?_, ?_, h.pvs, h.xps⟩
    · by_cases q : j = i
      · subst q
        rw [List.getElem?_set_self hi] at e1
        cases e1
      · rw [List.getElem?_set_ne (Ne.symm q)] at e1
        exact h.val _ _ _ e1
    · have hs : i < σ.length := by rw [h.len]; exact hi
      have e : ents σ (ρ.set i none) = (ents σ ρ).set i (.F, .non, .non) := by
        have q := ents_set (σ := σ) (ρ := ρ) (i := i) (σ[i]) none
        rw [set_self (List.getElem?_eq_getElem hs)] at q
        rw [q]
        rfl
      rw [e]
      have hl : i < (ents σ ρ).length := by rw [h.lenE]; exact hi
      have p1 : (ents σ ρ).Perm ((ents σ ρ)[i] :: (ents σ ρ).eraseIdx i) := perm_front (List.getElem?_eq_getElem hl)
      have o := (h.ok.perm (p1.append_right κ)).tail
      refine (o.addF (d := .non) (v := .non) (by simp only [Rep])).perm (List.Perm.symm ?_)
      exact (set_perm (T.F, D.non, V.non) hl).append_right κ
  · rw [List.set_eq_of_length_le (by omega)]
    exact h
end
end PF
namespace L2
open PySem
end L2
namespace PF
open PySem L2
/-- an exception of the class c: its class, its attributes in its own dict -/
def ExcIs (K : PySem.W.Frag) (B : Tb) (xc : Nat → Value) (G : Hp) (c : Nat) (fs : List (Nat × D)) (cls : Value) (dO : Option Addr) : Prop :=
  cls = xc c ∧ ((dO = none ∧ fs = []) ∨ ∃ d vs, dO = some d ∧ G d = some (.xd vs) ∧ RepF K B G fs vs)
/-- the text's context for the rules: the class tables -/
structure Ct where
  B : Tb
  xc : Nat → Value
  nn : Nat
def Step (q : Bool) (G H : Hp) (ρ : Env) (G' H' : Hp) (ρ' : Env) : Prop := Le G G' ∧ (q = true → Ls H H' ∧ ρ' = ρ)
theorem Step.refl {q : Bool} {G H : Hp} {ρ : Env} : Step q G H ρ G H ρ := ⟨.refl, fun _ => ⟨.refl, rfl⟩⟩
theorem Step.trans {q q' : Bool} {G H G' H' G2 H2 : Hp} {ρ ρ' ρ2 : Env} (a : Step q G H ρ G' H' ρ') (b : Step q' G' H' ρ' G2 H2 ρ2) (hq : q = true → q' = true) : Step q G H ρ G2 H2 ρ2 :=
  ⟨a.1.trans b.1, fun z => ⟨(a.2 z).1.trans (b.2 (hq z)).1, (b.2 (hq z)).2.trans (a.2 z).2⟩⟩
/-- a kind of answers: α as trees, β as values -/
structure Kd (α β : Type) where
  rs : α → β → List Rs
  rel : PySem.W.Frag → Tb → L2.St → α → β → Hp → Hp → Prop
section
variable {α β γ δ : Type}
/-- what is wanted of a part that is left to do: g; tmp: what is held for it -/
def Fin (k : Kd α β) (X : Cx) (C : Ct) (q : Bool) (G0 H0 : Hp) (ρ0 : Env) (σ : L2.St) (H : Hp) (Q : β → Hp → Prop) (P : Hp → Hp → Prop) (tmp : List Rs) (g : Env → R α) : Prop :=
  ∃ (G : Hp) (ρ : Env) (κ : List Rs) (W : WX) (pv : List (Nat × V)), Step q G0 H0 ρ0 G H ρ ∧ P G H ∧ StOk X.K C.B G H σ ρ (tmp ++ κ) pv ∧ Takes X W ∧
    (g ρ).wp (fun a ρ' => ∀ b G' H', k.rel X.K C.B σ a b G' H' → Step q G0 H0 ρ0 G' H' ρ' → StOk X.K C.B G' H' σ ρ' (k.rs a b ++ κ) pv → Q b H')
      (fun c fs ρ' => ∀ cls dO G' H', Le G0 G' → ExcIs X.K C.B C.xc G' c fs cls dO → StOk X.K C.B G' H' σ ρ' κ pv → W cls dO σ H')
def RT (k : Kd α β) (X : Cx) (C : Ct) (q : Bool) (f : Env → R α) : L2.St → Hp → (β → Hp → Prop) → Prop :=
  fun σ H Q => ∃ G0 H0 ρ0, Fin k X C q G0 H0 ρ0 σ H Q (fun _ _ => True) [] f
theorem RT.mono {k : Kd α β} {X : Cx} {C : Ct} {q : Bool} {σ : L2.St} {H : Hp} {Q Q' : β → Hp → Prop} {f : Env → R α} (h : RT k X C q f σ H Q) (m : ∀ b H, Q b H → Q' b H) : RT k X C q f σ H Q' := by
  obtain ⟨G0, H0, ρ0, G, ρ, κ, W, pv, st, p, ok, tk, w⟩ := h
  exact ⟨G0, H0, ρ0, G, ρ, κ, W, pv, st, p, ok, tk, R.wp_mono w (fun a ρ' w1 b G' H' r s o => m _ _ (w1 b G' H' r s o)) fun _ _ _ z => z⟩
end
/-- a value; a value that is only looked at; a truth; arguments -/
def kE : Kd TD V := ⟨fun td v => [(td.1, td.2, v)], fun _ _ _ _ _ _ _ => True⟩
section
variable {X : Cx} {C : Ct} {q qa qb : Bool} {e a b : Expr} {f fa fb : Env → R TD} {pos : Pos}
variable {K : PySem.W.Frag} {B : Tb} {G H : Hp}
/-- a constant -/
def primV : D → Option V
  | .non => some .non
  | .bl b => some (.bl b)
  | .int i => some (.int i)
  | .str x => some (.str x)
  | .raw v => some v
  | _ => none
end
end PF
namespace L2
open PySem
end L2
namespace PF
open PySem L2
section
variable {X : Cx} {C : Ct} {q qa qb : Bool} {e a b : Expr} {f fa fb : Env → R TD} {pos : Pos}
theorem Own.prim {K : PySem.W.Frag} {B : Tb} {G H : Hp} {d : D} {t : T} {v x : V} {l : List Addr} (h : Own K B G H d t v l) (p : primV d = some x) : v = x := by
  cases d <;> simp only [primV, Option.some.injEq] at p <;> first | (subst p; simp only [Own] at h; exact h.1) | cases p
theorem Okx.own2 {K : PySem.W.Frag} {B : Tb} {G H : Hp} {r : Rs} {xs : List Rs} (h : Okx K B G H xs) (m : r ∈ xs) : ∃ l, Own K B G H r.2.1 r.1 r.2.2 l := by
  obtain ⟨t, d, v⟩ := r
  obtain ⟨i, hi⟩ := List.getElem?_of_mem m
  exact (h.perm (perm_front hi)).head
theorem StOk.mem {K : PySem.W.Frag} {B : Tb} {G H : Hp} {σ : L2.St} {ρ : Env} {κ : List Rs} {pv : List (Nat × V)} {r : Rs} (h : StOk K B G H σ ρ κ pv) (m : r ∈ κ) : ∃ l, Own K B G H r.2.1 r.1 r.2.2 l :=
  h.ok.own2 (List.mem_append_right _ m)
end
end PF
namespace PF
open PySem L2
section
variable {X : Cx} {C : Ct} {q qa qb : Bool} {e a b c : Expr} {f fa fb fc : Env → R TD} {pos : Pos}
variable {K : PySem.W.Frag} {B : Tb} {G G' H H' : Hp}
theorem Fin.tail {α β : Type} {k : Kd α β} {Q : β → Hp → Prop} {q q' : Bool} {G0 H0 : Hp} {ρ0 : Env} {σ : L2.St} {P : Hp → Hp → Prop} {tmp : List Rs} {g : Env → R α}
    (h : Fin k X C q G0 H0 ρ0 σ H Q P tmp g) (hq : q = true → q' = true) : RT k X C q' g σ H Q := by
  obtain ⟨G, ρ, κ, W, pv, st, p, ok, tk, w⟩ := h
  refine ⟨G, H, ρ, G, ρ, κ, W, pv, .refl, trivial, ok.drop, tk, R.wp_mono w (fun a ρ1 w1 b G' H' r st' ok' => w1 b G' H' r (st.trans st' hq) ok') fun c fs ρ1 w1 cls dO G' H' l x ok' => w1 cls dO G' H' (st.1.trans l) x ok'⟩
theorem Fin.bl {Q : VK} {q : Bool} {G0 H0 : Hp} {ρ0 : Env} {σ : L2.St} {P : Hp → Hp → Prop} {tmp : List Rs} {g : Env → R TD} {x : TD} {v : V} {k : Bool}
    (h : Fin kE X C q G0 H0 ρ0 σ H Q P ((x.1, x.2, v) :: tmp) g) (e : x.2 = .bl k) : v = .bl k := by
  obtain ⟨G, ρ, κ, W, pv, st, p, ok, tk, w⟩ := h
  obtain ⟨l, o⟩ := ok.mem (r := (x.1, x.2, v)) (by simp)
  exact Own.prim (x := V.bl k) o (by show primV x.2 = _; rw [e]; rfl)
theorem Fin.int {Q : VK} {q : Bool} {G0 H0 : Hp} {ρ0 : Env} {σ : L2.St} {P : Hp → Hp → Prop} {tmp : List Rs} {g : Env → R TD} {x : TD} {v : V} {k : Int}
    (h : Fin kE X C q G0 H0 ρ0 σ H Q P ((x.1, x.2, v) :: tmp) g) (e : x.2 = .int k) : v = .int k := by
  obtain ⟨G, ρ, κ, W, pv, st, p, ok, tk, w⟩ := h
  obtain ⟨l, o⟩ := ok.mem (r := (x.1, x.2, v)) (by simp)
  exact Own.prim (x := V.int k) o (by show primV x.2 = _; rw [e]; rfl)
theorem Reps.length {ds : List D} : ∀ {vs : List V}, Reps K B G ds vs → ds.length = vs.length := by
  induction ds with
  | nil => intro vs h; simp only [Reps] at h; subst h; rfl
  | cons d r ih =>
    intro vs h
    simp only [Reps] at h
    obtain ⟨v, r', e, h1, h2⟩ := h
    subst e
    simp [ih h2]
theorem Reps.at {ds : List D} : ∀ {vs : List V} {i : Nat} {d : D}, Reps K B G ds vs → ds[i]? = some d → ∃ v, vs[i]? = some v ∧ Rep K B G d v := by
  induction ds with
  | nil => intro vs i d h e; simp at e
  | cons x r ih =>
    intro vs i d h e
    simp only [Reps] at h
    obtain ⟨v, r', e1, h1, h2⟩ := h
    subst e1
    cases i with
    | zero => simp at e; subst e; exact ⟨v, rfl, h1⟩
    | succ i => simpa using ih h2 (by simpa using e)
end
end PF
namespace PF
open PySem L2
section
variable {X : Cx} {C : Ct} {q qa qb : Bool} {e a b c : Expr} {f fa fb fc : Env → R TD} {pos : Pos}
variable {K : PySem.W.Frag} {B : Tb} {G G' H H' : Hp} {σ : L2.St} {ρ : Env} {κ κ' : List Rs} {pv : List (Nat × V)}
theorem Rep.obj {c : Nat} {fs : List (Nat × D)} {v : V} (h : Rep K B G (.obj c fs) v) : ∃ a dx vs, v = .ref a ∧ G a = some (.ins (B.cls c) dx vs) ∧ RepF K B G fs vs := by
  simp only [Rep] at h; exact h
end
end PF
namespace PF
open PySem L2
section
variable {X : Cx} {C : Ct} {q qa qb : Bool} {e a b c : Expr} {f fa fb fc : Env → R TD} {pos pos' : Pos}
variable {K : PySem.W.Frag} {B : Tb} {G G' H H' : Hp} {σ : L2.St} {ρ : Env} {κ κ' : List Rs} {pv : List (Nat × V)}
def fldTs (n : Nat) : List (Nat × D) → List T → T
  | [], _ => .F
  | (m, _) :: r, ts => if m = n then ts.headD .F else fldTs n r ts.tail
theorem RepF.at (inj : ∀ n m, B.nm n = B.nm m → n = m) {n : Nat} {d : D} : ∀ {fs : List (Nat × D)} {vs : List (PySem.Str × V)}, RepF K B G fs vs → fs.lookup n = some d → ∃ v, vs.lookup (B.nm n) = some v ∧ Rep K B G d v
  | [], vs, h, e => by cases e
  | (m, d') :: r, vs, h, e => by
    simp only [RepF] at h
    obtain ⟨v, vs', e1, h1, h2⟩ := h
    subst e1
    rw [List.lookup_cons] at e ⊢
    cases hb : n == m with
    | true =>
      rw [hb] at e
      cases e
      rw [beq_iff_eq.mp hb, beq_self_eq_true]
      exact ⟨v, rfl, h1⟩
    | false =>
      rw [hb] at e
      have : (B.nm n == B.nm m) = false := beq_eq_false_iff_ne.mpr fun z => (beq_eq_false_iff_ne.mp hb) (inj _ _ z)
      rw [this]
      exact RepF.at inj h2 e
theorem OwnF.at (inj : ∀ n m, B.nm n = B.nm m → n = m) {n : Nat} {d : D} : ∀ {fs : List (Nat × D)} {ts : List T} {vs : List (PySem.Str × V)} {l : List Addr}, OwnF K B G H fs ts vs l → fs.lookup n = some d →
    ∃ v l', vs.lookup (B.nm n) = some v ∧ Own K B G H d (fldTs n fs ts) v l'
  | [], ts, vs, l, h, e => by cases e
  | (m, d') :: r, ts, vs, l, h, e => by
    simp only [OwnF] at h
    obtain ⟨v, vs', l1, l2, e1, el, h1, h2⟩ := h
    subst e1
    rw [List.lookup_cons] at e ⊢
    unfold fldTs
    by_cases hb : n = m
    · subst hb
      rw [beq_self_eq_true] at e ⊢
      cases e
      rw [if_pos rfl]
      exact ⟨v, l1, rfl, h1⟩
    · rw [beq_eq_false_iff_ne.mpr hb] at e
      rw [beq_eq_false_iff_ne.mpr fun z => hb (inj _ _ z), if_neg (Ne.symm hb)]
      exact OwnF.at inj h2 e
inductive Fl where
  | nx | bk | ct
  | rt (td : TD)
  | me (i : Nat)
/-- what is wanted behind a statement -/
def QF (X : Cx) (C : Ct) (D : Ends) (G : Hp) (κ : List Rs) (pv : List (Nat × V)) (fl : Fl) (ρ' : Env) : Prop := match fl with
  | .nx => ∀ σ' G' H', Le G G' → StOk X.K C.B G' H' σ' ρ' κ pv → D.nx σ' H'
  | .bk => ∀ σ' G' H', Le G G' → StOk X.K C.B G' H' σ' ρ' κ pv → D.bk σ' H'
  | .ct => ∀ σ' G' H', Le G G' → StOk X.K C.B G' H' σ' ρ' κ pv → D.ct σ' H'
  | .rt td => ∀ v σ' G' H', Le G G' → StOk X.K C.B G' H' σ' ρ' ((td.1, td.2, v) :: κ) pv → D.rt v H'
  | .me i => ∀ v σ' G' H', Le G G' → StOk X.K C.B G' H' σ' ρ' κ pv → σ'[i]? = some (some v) → D.rt v H'
def EF (X : Cx) (C : Ct) (W : WX) (G : Hp) (κ : List Rs) (pv : List (Nat × V)) (c : Nat) (fs : List (Nat × D)) (ρ' : Env) : Prop :=
  ∀ cls dO σ' G' H', Le G G' → ExcIs X.K C.B C.xc G' c fs cls dO → StOk X.K C.B G' H' σ' ρ' κ pv → W cls dO σ' H'
theorem QF.le {D : Ends} {fl : Fl} {ρ' : Env} (h : QF X C D G κ pv fl ρ') (l : Le G G') : QF X C D G' κ pv fl ρ' := by
  cases fl with
  | nx => exact fun σ2 G2 H2 l2 o2 => h σ2 G2 H2 (l.trans l2) o2
  | bk => exact fun σ2 G2 H2 l2 o2 => h σ2 G2 H2 (l.trans l2) o2
  | ct => exact fun σ2 G2 H2 l2 o2 => h σ2 G2 H2 (l.trans l2) o2
  | rt td => exact fun v σ2 G2 H2 l2 o2 => h v σ2 G2 H2 (l.trans l2) o2
  | me i => exact fun v σ2 G2 H2 l2 o2 => h v σ2 G2 H2 (l.trans l2) o2
/-- pr: the names that must keep their value -/
def TSd (X : Cx) (C : Ct) (pr : Nat → Bool) (f : Env → R Fl) : TS := fun D σ H => ∃ (G : Hp) (ρ : Env) (κ : List Rs) (W : WX) (pv : List (Nat × V)), StOk X.K C.B G H σ ρ κ pv ∧ (∀ p ∈ pv, pr p.1 = true) ∧ Takes X W ∧
  (f ρ).wp (QF X C D G κ pv) (EF X C W G κ pv)
abbrev DSs (X : Cx) (C : Ct) (pr : Nat → Bool) (st : List Stmt) (f : Env → R Fl) : Prop := PSs X st (TSd X C pr f)
variable {pr : Nat → Bool}
theorem TSd.mono {f : Env → R Fl} {D D' : Ends} (h : TSd X C pr f D σ H) (h1 : ∀ σ H, D.nx σ H → D'.nx σ H) (h2 : ∀ v H, D.rt v H → D'.rt v H) (h3 : ∀ σ H, D.bk σ H → D'.bk σ H) (h4 : ∀ σ H, D.ct σ H → D'.ct σ H) : TSd X C pr f D' σ H := by
  obtain ⟨G, ρ, κ, W, pv, ok, hp, tk, w⟩ := h
  refine ⟨G, ρ, κ, W, pv, ok, hp, tk, R.wp_mono w (fun fl ρ' w1 => ?_) fun _ _ _ z => z⟩
  cases fl with
  | nx => exact fun σ' G' H' l o => h1 _ _ (w1 σ' G' H' l o)
  | bk => exact fun σ' G' H' l o => h3 _ _ (w1 σ' G' H' l o)
  | ct => exact fun σ' G' H' l o => h4 _ _ (w1 σ' G' H' l o)
  | rt td => exact fun v σ' G' H' l o => h2 _ _ (w1 v σ' G' H' l o)
  | me i => exact fun v σ' G' H' l o e => h2 _ _ (w1 v σ' G' H' l o e)
theorem ne_of_pr {i : Nat} (hp : ∀ p ∈ pv, pr p.1 = true) (h : pr i = false) : ∀ p ∈ pv, p.1 ≠ i := fun p m z => by
  have := hp p m
  rw [z, h] at this; cases this
end
end PF
namespace PF
open PySem L2
section
variable {X : Cx} {C : Ct} {q qa qb : Bool} {e a b c : Expr} {f fa fb fc : Env → R TD} {pos pos' : Pos}
variable {K : PySem.W.Frag} {B : Tb} {G G' H H' : Hp} {σ : L2.St} {ρ : Env} {κ κ' : List Rs} {pv : List (Nat × V)} {pr : Nat → Bool}
def putD (n : Nat) (d : D) : List (Nat × D) → List (Nat × D)
  | [] => [(n, d)]
  | (m, x) :: r => if m = n then (n, d) :: r else (m, x) :: putD n d r
def putTs (n : Nat) (t : T) : List (Nat × D) → List T → List T
  | [], _ => [t]
  | (m, _) :: r, ts => if m = n then t :: ts.tail else ts.headD .F :: putTs n t r ts.tail
theorem OwnF.len : ∀ {fs : List (Nat × D)} {ts : List T} {vs : List (PySem.Str × V)} {l : List Addr}, OwnF K B G H fs ts vs l → fs.length = vs.length
  | [], _, _, _, h => by simp only [OwnF] at h; rw [h.1]; rfl
  | (m, x) :: r, ts, vs, l, h => by
    simp only [OwnF] at h
    obtain ⟨w, vs', l1, lr, e1, el, h1, h2⟩ := h
    subst e1
    simp [OwnF.len h2]
end
end PF
namespace L2
open PySem
end L2
namespace PF
open PySem PySem.Spec L2
open PyProof.Rows hiding St
section
variable {X : Cx} {C : Ct} {q qa qb : Bool} {e a b c : Expr} {f fa fb fc : Env → R TD} {pos pos' : Pos}
variable {K : PySem.W.Frag} {B : Tb} {G G' H H' : Hp} {σ : L2.St} {ρ : Env} {κ κ' : List Rs} {pv : List (Nat × V)} {pr P : Nat → Bool}
/-- only these names' values have changed -/
def Chg (P : Nat → Bool) (σ σ' : L2.St) : Prop := σ'.length = σ.length ∧ ∀ j, P j = false → σ'[j]? = σ[j]?
theorem Chg.refl {P : Nat → Bool} {σ : L2.St} : Chg P σ σ := ⟨rfl, fun _ _ => rfl⟩
theorem Chg.trans {P : Nat → Bool} {σ σ' σ2 : L2.St} (a : Chg P σ σ') (b : Chg P σ' σ2) : Chg P σ σ2 := ⟨b.1.trans a.1, fun j h => (b.2 j h).trans (a.2 j h)⟩
theorem Chg.set {P : Nat → Bool} {σ : L2.St} {i : Nat} (v : Option V) (h : P i = true) : Chg P σ (σ.set i v) := ⟨by simp, fun j hj => by
  have : i ≠ j := fun e => by rw [e, hj] at h; cases h
  exact List.getElem?_set_ne this⟩
end
end PF
namespace PF
open PySem PySem.Spec L2
open PyProof.Rows hiding St
end PF
namespace L2
open PySem
end L2
namespace PF
open PySem PySem.Spec L2
open PyProof.Rows hiding St
section
variable {X : Cx} {C : Ct} {q qa qb qc : Bool} {e a b c : Expr} {f fa fb fc : Env → R TD} {pos pos' p : Pos}
variable {K : PySem.W.Frag} {B : Tb} {G G' H H' : Hp} {σ : L2.St} {ρ : Env} {κ κ' : List Rs} {pv : List (Nat × V)} {pr : Nat → Bool}
theorem Reps.nil {vs : List V} (h : Reps K B G [] vs) : vs = [] := by simp only [Reps] at h; exact h
theorem Reps.drop : ∀ {ds : List D} {vs : List V} (n : Nat), Reps K B G ds vs → Reps K B G (ds.drop n) (vs.drop n)
  | ds, vs, 0, h => by simpa using h
  | [], vs, n + 1, h => by simp only [Reps] at h; subst h; simp only [List.drop_nil, Reps]
  | d :: r, vs, n + 1, h => by
    simp only [Reps] at h
    obtain ⟨v, r', e1, h1, h3⟩ := h
    subst e1
    simpa using Reps.drop n h3
end
end PF
namespace PF
open PySem PySem.Spec L2
open PyProof.Rows hiding St
section
variable {X : Cx} {C : Ct} {q qa qb qc : Bool} {e a b c : Expr} {f fa fb fc : Env → R TD} {pos pos' p : Pos}
variable {K : PySem.W.Frag} {B : Tb} {G G' H H' : Hp} {σ : L2.St} {ρ : Env} {κ κ' : List Rs} {pv : List (Nat × V)} {pr : Nat → Bool}
theorem OwnF.split (inj : ∀ n m, B.nm n = B.nm m → n = m) {n : Nat} {d : D} : ∀ {fs : List (Nat × D)} {ts : List T} {vs : List (PySem.Str × V)} {l : List Addr}, OwnF K B G H fs ts vs l → fs.lookup n = some d →
    ∃ w l1 l2, vs.lookup (B.nm n) = some w ∧ l.Perm (l1 ++ l2) ∧ Own K B G H d (fldTs n fs ts) w l1 ∧ OwnF K B G H (putD n (.raw w) fs) (putTs n .F fs ts) vs l2
  | [], ts, vs, l, h, e => by cases e
  | (m, d') :: r, ts, vs, l, h, e => by
    simp only [OwnF] at h
    obtain ⟨v, vs', l1, l2, e1, el, h1, h2⟩ := h
    subst e1 el
    rw [List.lookup_cons] at e ⊢
    unfold fldTs putD putTs
    by_cases hb : n = m
    · subst hb
      rw [beq_self_eq_true] at e ⊢
      cases e
      simp only [eq_self, if_true]
      refine ⟨v, l1, l2, rfl, .refl _, h1, ?_⟩
      simp only [OwnF]
      exact ⟨v, vs', [], l2, rfl, rfl, by simp only [Own, List.headD_cons]; exact ⟨trivial, trivial⟩, h2⟩
    · rw [beq_eq_false_iff_ne.mpr hb] at e
      simp only [beq_eq_false_iff_ne.mpr fun z => hb (inj _ _ z), if_neg (Ne.symm hb)]
      obtain ⟨w, m1, m2, h3, pm, h4, h5⟩ := OwnF.split inj h2 e
      refine ⟨w, m1, l1 ++ m2, h3, ?_, h4, ?_⟩
      · refine (pm.append_left l1).trans ?_
        exact List.perm_append_comm_assoc ..
      · simp only [OwnF]
        exact ⟨v, vs', l1, m2, rfl, rfl, h1, h5⟩
theorem Owns.split : ∀ {ds : List D} {t : T} {vs : List V} {l : List Addr} {j : Nat} {d : D}, Owns K B G H ds t vs l → ds[j]? = some d →
    ∃ w l1 l2, vs[j]? = some w ∧ l.Perm (l1 ++ l2) ∧ Own K B G H d t w l1 ∧ Owns K B G H (ds.set j (.raw w)) t vs l2
  | [], t, vs, l, j, d, h, e => by simp at e
  | x :: r, t, vs, l, 0, d, h, e => by
    simp only [List.getElem?_cons_zero, Option.some.injEq] at e
    subst e
    simp only [Owns] at h
    obtain ⟨v, r', l1, l2, e1, el, h1, h2⟩ := h
    subst e1 el
    refine ⟨v, l1, l2, rfl, .refl _, h1, ?_⟩
    simp only [List.set_cons_zero, Owns]
    exact ⟨v, r', [], l2, rfl, rfl, by simp only [Own]; exact ⟨trivial, trivial⟩, h2⟩
  | x :: r, t, vs, l, j + 1, d, h, e => by
    simp only [List.getElem?_cons_succ] at e
    simp only [Owns] at h
    obtain ⟨v, r', l1, l2, e1, el, h1, h2⟩ := h
    subst e1 el
    obtain ⟨w, m1, m2, h3, pm, h4, h5⟩ := Owns.split h2 e
    refine ⟨w, m1, l1 ++ m2, by simpa using h3, ?_, h4, ?_⟩
    · exact (pm.append_left l1).trans (List.perm_append_comm_assoc ..)
    · simp only [List.set_cons_succ, Owns]
      exact ⟨v, r', l1, m2, rfl, rfl, h1, h5⟩
end
end PF
namespace PF
open PySem PySem.Spec L2
open PyProof.Rows hiding St
section
variable {X : Cx} {C : Ct} {q qa qb qc : Bool} {e a b c : Expr} {f fa fb fc : Env → R TD} {pos pos' p : Pos}
variable {K : PySem.W.Frag} {B : Tb} {G G' H H' : Hp} {σ : L2.St} {ρ : Env} {κ κ' : List Rs} {pv : List (Nat × V)} {pr : Nat → Bool}
theorem Owns.len : ∀ {ds : List D} {t : T} {vs : List V} {l : List Addr}, Owns K B G H ds t vs l → ds.length = vs.length
  | [], t, vs, l, h => by simp only [Owns] at h; rw [h.1]; rfl
  | d :: r, t, vs, l, h => by
    simp only [Owns] at h
    obtain ⟨v, r', l1, l2, e1, el, h1, h3⟩ := h
    subst e1
    simp [Owns.len h3]
theorem Owns.erase : ∀ {ds : List D} {t : T} {vs : List V} {l : List Addr} {k : Nat} {d : D}, Owns K B G H ds t vs l → ds[k]? = some d →
    ∃ w l1 l2, vs[k]? = some w ∧ l.Perm (l1 ++ l2) ∧ Own K B G H d t w l1 ∧ Owns K B G H (ds.eraseIdx k) t (vs.eraseIdx k) l2
  | [], t, vs, l, k, d, h, e => by simp at e
  | x :: r, t, vs, l, 0, d, h, e => by
    simp only [List.getElem?_cons_zero, Option.some.injEq] at e
    subst e
    simp only [Owns] at h
    obtain ⟨v, r', l1, l2, e1, el, h1, h2⟩ := h
    subst e1 el
    exact ⟨v, l1, l2, rfl, .refl _, h1, h2⟩
  | x :: r, t, vs, l, k + 1, d, h, e => by
    simp only [List.getElem?_cons_succ] at e
    simp only [Owns] at h
    obtain ⟨v, r', l1, l2, e1, el, h1, h2⟩ := h
    subst e1 el
    obtain ⟨w, m1, m2, h3, pm, h4, h5⟩ := Owns.erase h2 e
    refine ⟨w, m1, l1 ++ m2, by simpa using h3, (pm.append_left l1).trans (List.perm_append_comm_assoc ..), h4, ?_⟩
    simp only [List.eraseIdx_cons_succ, Owns]
    exact ⟨v, _, l1, m2, rfl, rfl, h1, h5⟩
theorem Owns.set : ∀ {ds : List D} {t : T} {vs : List V} {l : List Addr} {k : Nat} {d' : D} {u : V} {l1 : List Addr}, Owns K B G H ds t vs l → k < ds.length → Own K B G H d' t u l1 →
    ∃ m lx, Owns K B G H (ds.set k d') t (vs.set k u) m ∧ (l ++ l1).Perm (m ++ lx)
  | [], t, vs, l, k, d', u, l1, h, hk, ho => by cases hk
  | x :: r, t, vs, l, 0, d', u, l1, h, hk, ho => by
    simp only [Owns] at h
    obtain ⟨v, r', m1, m2, e1, el, h1, h2⟩ := h
    subst e1 el
    refine ⟨l1 ++ m2, m1, ?_, ?_⟩
    · simp only [List.set_cons_zero, Owns]
      exact ⟨u, r', l1, m2, rfl, rfl, ho, h2⟩
    · rw [List.append_assoc]
      refine List.perm_append_comm.trans ?_
      exact List.Perm.append_right m1 List.perm_append_comm
  | x :: r, t, vs, l, k + 1, d', u, l1, h, hk, ho => by
    simp only [Owns] at h
    obtain ⟨v, r', m1, m2, e1, el, h1, h2⟩ := h
    subst e1 el
    obtain ⟨m, lx, h3, pm⟩ := Owns.set h2 (Nat.lt_of_succ_lt_succ hk) ho
    refine ⟨m1 ++ m, lx, ?_, ?_⟩
    · simp only [List.set_cons_succ, Owns]
      exact ⟨v, _, m1, m, rfl, rfl, h1, h3⟩
    · rw [List.append_assoc, List.append_assoc]
      exact pm.append_left m1
end
end PF
namespace PF
open PySem PySem.Spec L2
open PyProof.Rows hiding St
end PF
namespace PF
open PySem PySem.Spec L2
open PyProof.Rows hiding St
section
variable {X : Cx} {C : Ct} {q qa qb qc : Bool} {e a b c : Expr} {f fa fb fc : Env → R TD} {pos pos' p : Pos}
variable {K : PySem.W.Frag} {B : Tb} {G G' H H' : Hp} {σ : L2.St} {ρ : Env} {κ κ' : List Rs} {pv : List (Nat × V)} {pr : Nat → Bool}
theorem Owns.at : ∀ {ds : List D} {t : T} {vs : List V} {l : List Addr} {i : Nat} {d : D}, Owns K B G H ds t vs l → ds[i]? = some d → ∃ v l', vs[i]? = some v ∧ Own K B G H d t v l' := by
  intro ds t vs l i d h e
  obtain ⟨w, l1, l2, h1, _, h2, _⟩ := h.split e
  exact ⟨w, l1, h1, h2⟩
theorem Reps.isEmpty {ds : List D} {vs : List V} (h : Reps K B G ds vs) : vs.isEmpty = ds.isEmpty := by
  cases ds with
  | nil => rw [h.nil]; rfl
  | cons d r =>
    simp only [Reps] at h
    obtain ⟨v, r', e, _⟩ := h
    rw [e]; rfl
end
end PF
namespace PF
open PySem PySem.Spec L2
open PyProof.Rows hiding St
def padN (n : Nat) : PySem.Str := ⟨Array.replicate (n + 1) 35⟩
def nmOf (tab : List PySem.Str) (n : Nat) : PySem.Str := tab.getD n (padN n)
def clsOf (cs : List Addr) (c : Nat) : Addr := cs.getD c (cs.headD 0)
end PF
namespace PF
open PySem PySem.Spec L2
open PyProof.Rows hiding St
end PF
namespace L2
open PySem
end L2
namespace PF
open PySem PySem.Spec L2
open PyProof.Rows hiding St
section
variable {X : Cx} {C : Ct} {q qa qb qc : Bool} {e a b c : Expr} {f fa fb fc : PF.Env → R TD} {pos pos' p : Pos}
variable {K : PySem.W.Frag} {B : Tb} {G G' H H' : Hp} {σ : L2.St} {ρ : PF.Env} {κ κ' : List Rs} {pv : List (Nat × V)} {pr : Nat → Bool}
/-- where no name is read the values may be others -/
theorem StOk.resig {σ' : L2.St} (h : StOk K B G H σ ρ κ pv) (hl : σ'.length = σ.length) (hs : ∀ (i : Nat) (x : TD), ρ[i]? = some (some x) → σ'[i]? = σ[i]?) (hp : ∀ p ∈ pv, σ'[p.1]? = some (some p.2)) (hx : ∀ p ∈ B.xp, p ∈ pv := by exact h.xps) : StOk K B G H σ' ρ κ pv := by
  refine ⟨hl.trans h.len, fun i t d e => ?_, ?_, hp, hx⟩
  · obtain ⟨v, hv⟩ := h.val i t d e
    exact ⟨v, (hs i _ e).trans hv⟩
  · have e : ents σ' ρ = ents σ ρ := by
      apply List.ext_getElem?
      intro i
      unfold ents
      rw [List.getElem?_zipWith, List.getElem?_zipWith]
      have hlen := h.len
      cases er : ρ[i]? with
      | none =>
        cases σ'[i]? <;> cases σ[i]? <;> rfl
      | some o =>
        have hi : i < ρ.length := (List.getElem?_eq_some_iff.mp er).1
        have h1 : σ'[i]? = some σ'[i] := List.getElem?_eq_getElem (by omega)
        have h2 : σ[i]? = some σ[i] := List.getElem?_eq_getElem (by omega)
        cases o with
        | none => rw [h1, h2]; rfl
        | some x =>
          rw [hs i x er, h2]
    rw [e]
    exact h.ok
def RT0 {α β : Type} (k : Kd α β) (K : PySem.W.Frag) (C : Ct) (f : PF.Env → R α) : L2.St → Hp → (β → Hp → Prop) → Prop := fun σ H Q => ∃ (G : Hp) (ρ : PF.Env) (κ : List Rs) (a : α) (ρ' : PF.Env), StOk K C.B G H σ ρ κ [] ∧ f ρ = .ok a ρ' ∧
  ∀ b G' H', k.rel K C.B σ a b G' H' → Le G G' → StOk K C.B G' H' σ ρ' (k.rs a b ++ κ) [] → Q b H'
theorem RT0.rt {α β : Type} {k : Kd α β} {f : PF.Env → R α} {Q : β → Hp → Prop} (h : RT0 k X.K C f σ H Q) : RT k X C q f σ H Q := by
  obtain ⟨G, ρ, κ, a, ρ', ok, e, w⟩ := h
  refine ⟨G, H, ρ, G, ρ, κ, _, [], .refl, trivial, ok, L2.takes0, ?_⟩
  rw [e]
  exact fun b G' H' r st o => w b G' H' r st.1 o
end
end PF
namespace PF
open PySem PySem.Spec L2
open PyProof.Rows hiding St
mutual
def kD (K : PySem.W.Frag) : D → Value → Bool
  | .non, u => match u with
    | .none => true
    | _ => false
  | .bl b, u => match u with
    | .bool c => b == c
    | _ => false
  | .int i, u => match u with
    | .int j _ => decide (i = j)
    | _ => false
  | .str x, u => match u with
    | .str y _ => decide (x = y)
    | _ => false
  | .tup ds, u => match u with
    | .ref a => match K.lookup a with
      | some ⟨.type T, _, .seq its _, _⟩ => decide (T = "tuple") && (decide (its.size ≤ 16777216) && (kDs K ds its.toList && !keyable ds))
      | _ => false
    | _ => false
  | _, _ => false
def kDs (K : PySem.W.Frag) : List D → List Value → Bool
  | [], us => us.isEmpty
  | d :: r, us => match us with
    | u :: us => kD K d u && kDs K r us
    | [] => false
end
def conB (K : PySem.W.Frag) (x : PySem.Str) (d : D) : Bool := match PySem.W.nsIn K mainGlobals x with
  | some (some u) => kD K d u
  | _ => false
abbrev AlX : Type := Bool × He.AlD
end PF
namespace PF
open PySem PySem.Spec L2
open PyProof.Rows hiding St
end PF
namespace PF
open PySem PySem.Spec L2
open PyProof.Rows hiding St
end PF
namespace PF
open PySem PySem.Spec L2
open PyProof.Rows hiding St
end PF
namespace PF
open PySem PySem.Spec L2
open PyProof.Rows hiding St
end PF
namespace PF
open PySem PySem.Spec
def SrO (t : Bool) (h : Heap) (l : Addr) (xs : Array Value) : Prop := match t with
  | true => h.IsTuple l xs
  | false => h.IsList l xs
def SrI (t : Bool) (h : Heap) (i l : Addr) (k : Nat) : Prop := match t with
  | true => h.IsTupleIter i l k
  | false => h.IsListIter i l k
theorem SrO.at {t : Bool} {h h' : Heap} {l : Addr} {xs : Array Value} (x : SrO t h l xs) (e : ∀ o, h.get? l = some o → h'.get? l = some o) : SrO t h' l xs := by
  cases t
  · obtain ⟨o, ho, r⟩ := x; exact ⟨o, e o ho, r⟩
  · obtain ⟨o, ho, r⟩ := x; exact ⟨o, e o ho, r⟩
theorem SrI.at {t : Bool} {h h' : Heap} {i l : Addr} {k : Nat} (x : SrI t h i l k) (e : ∀ o, h.get? i = some o → h'.get? i = some o) : SrI t h' i l k := by
  cases t
  · obtain ⟨o, ho, r⟩ := x; exact ⟨o, e o ho, r⟩
  · obtain ⟨o, ho, r⟩ := x; exact ⟨o, e o ho, r⟩
theorem SrI.obj {t : Bool} {h : Heap} {i l : Addr} {k : Nat} (x : SrI t h i l k) : ∃ o, h.get? i = some o ∧ ∃ fs, o.data = .fields fs := by
  cases t
  · obtain ⟨o, ho, _, r⟩ := x; exact ⟨o, ho, _, r⟩
  · obtain ⟨o, ho, _, r⟩ := x; exact ⟨o, ho, _, r⟩
end PF
namespace PF
open PySem PySem.Spec L2
open PyProof.Rows hiding St
end PF
namespace L2
open PySem PySem.Spec PyProof.Rows
end L2
namespace L2
open PySem PySem.Spec PyProof.Rows
abbrev TSx := Addr → Value → Option Addr → TS
def Ends.un (D : Ends) (i : Nat) : Ends := { nx := fun σ' H' => D.nx (σ'.set i none) H', rt := D.rt, bk := fun σ' H' => D.bk (σ'.set i none) H', ct := fun σ' H' => D.ct (σ'.set i none) H' }
def wG (K : PySem.W.Frag) (Wout : WX) (D : Ends) : List (Value × Option Nat × TSx) → WX
  | [] => Wout
  | (c, none, ts) :: r => fun cls d σ H => ∃ b, PySem.W.exmOne K cls c = some b ∧ (b = true → ∀ a, H a = none → ts a cls d D σ H) ∧ (b = false → wG K Wout D r cls d σ H)
  | (c, some i, ts) :: r => fun cls d σ H => ∃ b, PySem.W.exmOne K cls c = some b ∧ (b = true → ∀ a, H a = none → ts a cls d (D.un i) (σ.set i (some (.ref a))) H) ∧ (b = false → wG K Wout D r cls d σ H)
inductive HdG (X : Cx) : List ExceptHandler → List (Value × Option Nat × TSx) → Prop
  | nil : HdG X [] []
  | cons {x : Str} {c : Value} {ts : TSx} {b₀ : Stmt} {suite : List Stmt} {np pos' : Pos} {hds : List ExceptHandler} {l : List (Value × Option Nat × TSx)} (hc : Names X x c)
      (hsu : ∀ (a : Addr) (oe : Obj) (cls : Value) (d : Option Addr) (pn : List (Addr × Obj)), Zc cls d oe → (∃ vs, oe.data = .fields vs) → PSs (X.suite a ((a, oe) :: pn)) (b₀ :: suite) (ts a cls d)) (r : HdG X hds l) :
      HdG X (.ExceptHandler (some (.Name x np)) none (b₀ :: suite) pos' :: hds) ((c, none, ts) :: l)
  | as_ {x n : Str} {i : Nat} {c : Value} {ts : TSx} {b₀ : Stmt} {suite : List Stmt} {np pos' : Pos} {hds : List ExceptHandler} {l : List (Value × Option Nat × TSx)} (hN : X.N.Nodup) (hi : X.N[i]? = some n) (hln : X.env.kindOf n = some .local) (hc : Names X x c)
      (hsu : ∀ (a : Addr) (oe : Obj) (cls : Value) (d : Option Addr) (pn : List (Addr × Obj)), Zc cls d oe → (∃ vs, oe.data = .fields vs) → PSs (X.suite a ((a, oe) :: pn)) (b₀ :: suite) (ts a cls d)) (r : HdG X hds l) :
      HdG X (.ExceptHandler (some (.Name x np)) (some n) (b₀ :: suite) pos' :: hds) ((c, some i, ts) :: l)
end L2
namespace PF
open PySem PySem.Spec L2
open PyProof.Rows hiding St
section
variable {X : Cx} {C : Ct} {q qa qb : Bool} {e a b c : Expr} {f fa fb : PF.Env → R TD} {pos pos' p : Pos}
variable {K : PySem.W.Frag} {B : Tb} {G G' H H' : Hp} {σ : L2.St} {ρ : PF.Env} {κ κ' : List Rs} {pv : List (Nat × V)} {pr : Nat → Bool}
theorem ExcIs.mono {xc : Nat → Value} {c : Nat} {fs : List (Nat × D)} {cls : Value} {dO : Option Addr} (l : Le G G') (h : ExcIs K B xc G c fs cls dO) : ExcIs K B xc G' c fs cls dO := by
  obtain ⟨h1, h2⟩ := h
  refine ⟨h1, h2.imp id fun ⟨d, vs, e, hd, r⟩ => ⟨d, vs, e, l.at hd, RepF.mono l r⟩⟩
/-- within an except suite: e stands at the name i -/
def inS (K : PySem.W.Frag) (C : Ct) (i : Nat) (a : Addr) (c : Nat) (fs : List (Nat × D)) (cls : Value) (dO : Option Addr) : Ct :=
  { C with B := { C.B with gx := fun G => C.B.gx G ∧ ExcIs K C.B C.xc G c fs cls dO, xp := [(i, .ref a)] } }
def prX (pr : Nat → Bool) (i : Nat) : Nat → Bool := fun j => pr j || decide (j = i)
structure HdS where
  sub : Nat → Option Bool
  i : Option Nat
  s : Nat → List (Nat × D) → PF.Env → R Fl
/-- a suite lets nothing out; its name is gone behind it -/
def unS (i : Nat) (r : R Fl) : R Fl := match r with
  | .ok (.me _) _ => .stuck
  | .ok fl ρ => .ok fl (ρ.set i none)
  | _ => .stuck
def noX (r : R Fl) : R Fl := match r with
  | .ok fl ρ => .ok fl ρ
  | _ => .stuck
def hdsD (pr : Nat → Bool) : List HdS → Nat → List (Nat × D) → PF.Env → R Fl
  | [], c, fs, ρ => .exc c fs ρ
  | h :: r, c, fs, ρ => match h.sub c with
    | some true => (match h.i with
      | none => noX (h.s c fs ρ)
      | some i => if pr i || decide (ρ.length ≤ i) then .stuck else unS i (h.s c fs (ρ.set i none)))
    | some false => hdsD pr r c fs ρ
    | none => .stuck
inductive HdD (X : Cx) (C : Ct) (pr : Nat → Bool) : List ExceptHandler → List HdS → Prop
  | nil : HdD X C pr [] []
  | cons {x : PySem.Str} {cv : Value} {sub : Nat → Option Bool} {s : Nat → List (Nat × D) → PF.Env → R Fl} {b₀ : Stmt} {suite : List Stmt} {np pos' : Pos} {hds : List ExceptHandler} {l : List HdS} (hc : Names X x cv)
      (hsub : ∀ c b, sub c = some b → PySem.W.exmOne X.K (C.xc c) cv = some b)
      (hsu : ∀ (a : Addr) (oe : Obj) (cls : Value) (d : Option Addr) (pn : List (Addr × Obj)) (c : Nat) (fs : List (Nat × D)), sub c = some true → Zc cls d oe → (∃ vs, oe.data = .fields vs) → DSs (X.suite a ((a, oe) :: pn)) C pr (b₀ :: suite) (s c fs)) (r : HdD X C pr hds l) :
      HdD X C pr (.ExceptHandler (some (.Name x np)) none (b₀ :: suite) pos' :: hds) (⟨sub, none, s⟩ :: l)
  | as_ {x n : PySem.Str} {i : Nat} {cv : Value} {sub : Nat → Option Bool} {s : Nat → List (Nat × D) → PF.Env → R Fl} {b₀ : Stmt} {suite : List Stmt} {np pos' : Pos} {hds : List ExceptHandler} {l : List HdS} (hN : X.N.Nodup) (hi : X.N[i]? = some n) (hln : X.env.kindOf n = some .local) (hc : Names X x cv)
      (hsub : ∀ c b, sub c = some b → PySem.W.exmOne X.K (C.xc c) cv = some b)
      (hsu : ∀ (a : Addr) (oe : Obj) (cls : Value) (d : Option Addr) (pn : List (Addr × Obj)) (c : Nat) (fs : List (Nat × D)), sub c = some true → Zc cls d oe → (∃ vs, oe.data = .fields vs) → DSs (X.suite a ((a, oe) :: pn)) (inS X.K C i a c fs cls d) (prX pr i) (b₀ :: suite) (s c fs)) (r : HdD X C pr hds l) :
      HdD X C pr (.ExceptHandler (some (.Name x np)) (some n) (b₀ :: suite) pos' :: hds) (⟨sub, some i, s⟩ :: l)
/-- back out of a suite -/
theorem StOk.unset {C : Ct} {i : Nat} {av : Addr} {cc : Nat} {fs : List (Nat × D)} {cls : Value} {dO : Option Addr} (hxp : C.B.xp = []) (hp : ∀ p ∈ pv, p.1 ≠ i)
    (h : StOk K (inS K C i av cc fs cls dO).B G H σ ρ κ ((i, .ref av) :: pv)) : StOk K C.B G H (σ.set i none) (ρ.set i none) κ pv := by
  have h1 : StOk K C.B G H σ ρ κ pv := ⟨h.len, h.val, Okx.tb (B := (inS K C i av cc fs cls dO).B) (B' := C.B) rfl rfl h.ok fun G' _ z => z.1, fun p hp' => h.pvs p (List.mem_cons_of_mem _ hp'), fun p hp' => by rw [hxp] at hp'; cases hp'⟩
  have h2 := h1.forget (i := i)
  refine h2.resig (σ' := σ.set i none) (by simp) (fun j x ej => ?_) (fun p hp' => ?_) ?_
  · have hj : i ≠ j := fun z => by
      rw [← z] at ej
      by_cases hi : i < ρ.length
      · rw [List.getElem?_set_self hi] at ej; cases ej
      · rw [List.getElem?_eq_none (by simp; omega)] at ej; cases ej
    exact List.getElem?_set_ne hj
  · rw [List.getElem?_set_ne (Ne.symm (hp p hp'))]
    exact h1.pvs p hp'
  · exact h1.xps
/-- what a suite asks, without its context -/
def tsD (X : Cx) (C : Ct) (pr : Nat → Bool) (sub : Nat → Option Bool) (s : Nat → List (Nat × D) → PF.Env → R Fl) : TSx := fun _ cls d D σ H => ∃ (c : Nat) (fs : List (Nat × PF.D)) (G : Hp) (ρ : PF.Env) (κ : List Rs) (pv : List (Nat × V)), sub c = some true ∧ StOk X.K C.B G H σ ρ κ pv ∧ (∀ p ∈ pv, pr p.1 = true) ∧ (s c fs ρ).wp (QF X C D G κ pv) (fun _ _ _ => False)
def tsA (X : Cx) (C : Ct) (pr : Nat → Bool) (i : Nat) (sub : Nat → Option Bool) (s : Nat → List (Nat × D) → PF.Env → R Fl) : TSx := fun a cls d D σ H => ∃ (c : Nat) (fs : List (Nat × PF.D)) (G : Hp) (ρ : PF.Env) (κ : List Rs) (pv : List (Nat × V)), sub c = some true ∧ StOk X.K (inS X.K C i a c fs cls d).B G H σ ρ κ pv ∧ (∀ p ∈ pv, prX pr i p.1 = true) ∧ (s c fs ρ).wp (QF X (inS X.K C i a c fs cls d) D G κ pv) (fun _ _ _ => False)
theorem HdD.ok (hxp : C.B.xp = []) {hds : List ExceptHandler} {hs : List HdS} (h : HdD X C pr hds hs) : ∃ l, HdG X hds l ∧ ∀ (Wout : WX) (D : Ends) (G : Hp) (κ : List Rs) (pv : List (Nat × V)) (c : Nat) (fs : List (Nat × PF.D)) (ρ : PF.Env), (∀ p ∈ pv, pr p.1 = true) →
    (hdsD pr hs c fs ρ).wp (QF X C D G κ pv) (EF X C Wout G κ pv) → EF X C (wG X.K Wout D l) G κ pv c fs ρ := by
  induction h with
  | nil => exact ⟨[], .nil, fun Wout D G κ pv c fs ρ hp w => w⟩
  | @cons x cv sub s b₀ suite np pos' hds l hc hsub hsu r ih =>
    obtain ⟨l', g, k⟩ := ih
    refine ⟨(cv, none, tsD X C pr sub s) :: l', .cons hc (fun a oe cls d pn hz hf => ⟨fun pins s1 σ H D I z => ?_⟩) g, fun Wout D G κ pv c fs ρ hp w => ?_⟩
    · obtain ⟨c, fs, G, ρ, κ, pv, hc, ok, hp, w⟩ := z
      exact (hsu a oe cls d pn c fs hc hz hf).run pins s1 σ H D I ⟨G, ρ, κ, fun _ _ _ _ => False, pv, ok, hp, takes_none5, R.wp_mono w (fun _ _ z => z) fun _ _ _ z => z.elim⟩
    · unfold hdsD at w
      intro cls dO σ' G' H' le x ok
      dsimp only at w
      cases es : sub c with
      | none => rw [es] at w; exact w.elim
      | some b =>
        rw [es] at w
        refine ⟨b, by rw [x.1]; exact hsub _ _ es, fun hb a na => ?_, fun hb => ?_⟩
        · subst hb
          dsimp only at w
          refine ⟨c, fs, G', ρ, κ, pv, es, ok, hp, ?_⟩
          cases er : s c fs ρ with
          | ok fl ρ1 => rw [er] at w; exact QF.le w le
          | exc _ _ _ => rw [er] at w; exact w.elim
          | stuck => rw [er] at w; exact w.elim
        · subst hb
          exact k Wout D G κ pv c fs ρ hp w cls dO σ' G' H' le x ok
  | @as_ x n i cv sub s b₀ suite np pos' hds l hN hi hln hc hsub hsu r ih =>
    obtain ⟨l', g, k⟩ := ih
    refine ⟨(cv, some i, tsA X C pr i sub s) :: l', .as_ hN hi hln hc (fun a oe cls d pn hz hf => ⟨fun pins s1 σ H D I z => ?_⟩) g, fun Wout D G κ pv c fs ρ hp w => ?_⟩
    · obtain ⟨c, fs, G, ρ, κ, pv, hc, ok, hp, w⟩ := z
      exact (hsu a oe cls d pn c fs hc hz hf).run pins s1 σ H D I ⟨G, ρ, κ, fun _ _ _ _ => False, pv, ok, hp, takes_none5, R.wp_mono w (fun _ _ z => z) fun _ _ _ z => z.elim⟩
    · unfold hdsD at w
      intro cls dO σ' G' H' le x ok
      dsimp only at w
      cases es : sub c with
      | none => rw [es] at w; exact w.elim
      | some b =>
        rw [es] at w
        refine ⟨b, by rw [x.1]; exact hsub _ _ es, fun hb a na => ?_, fun hb => ?_⟩
        · subst hb
          dsimp only at w
          cases hpr : (pr i || decide (ρ.length ≤ i)) with
          | true => rw [hpr, if_pos rfl] at w; exact w.elim
          | false =>
            rw [hpr, if_neg (by decide)] at w
            obtain ⟨hpr, hil⟩ := Bool.or_eq_false_iff.mp hpr
            have hil : i < ρ.length := Nat.lt_of_not_le (of_decide_eq_false hil)
            have hne : ∀ p ∈ pv, p.1 ≠ i := ne_of_pr hp hpr
            have ok1 : StOk X.K C.B G' H' (σ'.set i (some (.ref a))) (ρ.set i none) κ pv := by
              refine (ok.forget (i := i)).resig (σ' := σ'.set i (some (.ref a))) (by simp) (fun j x ej => ?_) (fun p hp' => ?_) ok.xps
              · have hj : i ≠ j := fun z => by
                  rw [← z, List.getElem?_set_self hil] at ej; cases ej
                exact List.getElem?_set_ne hj
              · rw [List.getElem?_set_ne (Ne.symm (hne p hp'))]
                exact ok.pvs p hp'
            have ok2 : StOk X.K (inS X.K C i a c fs cls dO).B G' H' (σ'.set i (some (.ref a))) (ρ.set i none) κ ((i, .ref a) :: pv) := by
              refine ⟨ok1.len, ok1.val, Okx.tb (B := C.B) (B' := (inS X.K C i a c fs cls dO).B) rfl rfl ok1.ok fun G2 l2 z => ⟨z, x.mono l2⟩, fun p hp' => ?_, fun p hp' => ?_⟩
              · rcases List.mem_cons.mp hp' with z | z
                · subst z
                  exact List.getElem?_set_self (by rw [ok.len]; exact hil)
                · exact ok1.pvs p z
              · have hp' : p ∈ [(i, V.ref a)] := hp'
                rw [List.mem_singleton.mp hp']
                exact List.mem_cons_self
            refine ⟨c, fs, G', ρ.set i none, κ, (i, .ref a) :: pv, es, ok2, fun p hp' => ?_, ?_⟩
            · unfold prX
              rcases List.mem_cons.mp hp' with z | z
              · subst z; simp
              · rw [hp p z]; rfl
            · cases er : s c fs (ρ.set i none) with
              | exc _ _ _ => rw [er] at w; exact w.elim
              | stuck => rw [er] at w; exact w.elim
              | ok fl ρ1 =>
                rw [er] at w
                cases fl with
                | me j => exact w.elim
                | nx => exact fun σ2 G2 H2 l2 o2 => w (σ2.set i none) G2 H2 (le.trans l2) (StOk.unset hxp hne o2)
                | bk => exact fun σ2 G2 H2 l2 o2 => w (σ2.set i none) G2 H2 (le.trans l2) (StOk.unset hxp hne o2)
                | ct => exact fun σ2 G2 H2 l2 o2 => w (σ2.set i none) G2 H2 (le.trans l2) (StOk.unset hxp hne o2)
                | rt td => exact fun v σ2 G2 H2 l2 o2 => w v (σ2.set i none) G2 H2 (le.trans l2) (StOk.unset hxp hne o2)
        · subst hb
          exact k Wout D G κ pv c fs ρ hp w cls dO σ' G' H' le x ok
end
end PF
namespace PySem.W
open PySem PySem.Spec PySem.Calls PyProof.Rows L2
end PySem.W
namespace L2
open PySem PySem.Spec PyProof.Rows
end L2
namespace PF
open PySem PySem.Spec L2
open PyProof.Rows hiding St
end PF
namespace PF
open PySem PySem.Spec L2
open PyProof.Rows hiding St
def oclB (K : PySem.W.Frag) (C : Addr) : Bool := match K.lookup C with
  | some ⟨.type t, _, .cls cd, sl⟩ => (match cd.mro, sl.toList with
    | .ref C' :: bm, [_, _, _, _, some (.builtin n), _] => decide (t = "type") && (decide (C' = C) && (decide (n = "ValueError.__new__") && (!cd.hasDel && (cd.hasDict && PySem.HandSPX.refsVE bm))))
    | _, _ => false)
  | _ => false
abbrev FnY : Type := Option (PySem.Str × PySem.Str × Arguments × FuncBody × Scope × Addr × Addr)
/-- an exception class with an __init__: its name, the __init__'s qualified name, parameters, body, scope, its fields -/
structure XD where
  cls : PySem.Str
  qual : PySem.Str
  params : Arguments
  body : List Stmt
  scope : Scope
  fs : List PySem.Str
def xIn (K : PySem.W.Frag) (cls : PySem.Str) : Addr := He.ma K (He.ga K cls) "__init__"
def fnY (K : PySem.W.Frag) (cls : PySem.Str) : FnY := match K.lookup (xIn K cls) with
  | some ⟨_, _, .func fd, _⟩ => some (fd.name, fd.qualname, fd.params, fd.body, fd.scope, fd.globals, fd.builtins)
  | _ => none
def XD.val (d : XD) : FnY := some ("__init__", d.qual, d.params, .stmts d.body, d.scope, mainGlobals, builtinsNs)
def lkB (K : PySem.W.Frag) (C f : Addr) (qual file : PySem.Str) : Bool := match K.lookup f with
  | some ⟨_, _, .func fd, _⟩ => (match fd.closure, fd.code, fd.defaults, fd.kwdefaults with
    | [(n, cc)], .ref cda, .none, .none => decide (n = "__class__") && (PySem.W.codeIn K (.ref cda) qual && ((match K.lookup cc with
        | some ⟨_, _, .cell (some (.ref C')), _⟩ => decide (C' = C)
        | _ => false) && (match K.lookup cda with
        | some ⟨_, _, .fields (vs : Array Value), _⟩ => (match (vs[2]? : Option Value) with
          | some (Value.str z _) => file == z
          | _ => false)
        | _ => false)))
    | _, _, _, _ => false)
  | _ => false
def exkB (file : PySem.Str) (K : PySem.W.Frag) (d : XD) : Bool :=
  let C := He.ga K d.cls
  let f := xIn K d.cls
  oclB K C && (He.eqO (PySem.W.findIn K (.ref C) "__setattr__") (some (some (.builtin "object.__setattr__"))) && (decide (PySem.W.subIn K (.ref C) (.type "BaseException") = some true) && (decide (PySem.W.subIn K (.ref C) (.type "ValueError") = some true) &&
    (decide (PySem.W.mroIn K C (.ref C) = some true) && (decide (PySem.W.typeIn K (.ref C) = some (.type "type")) && (PySem.W.keepIn K (.ref C) && (He.eqO (PySem.W.findIn K (.ref C) "__init__") (some (some (.ref f))) &&
    (decide (PySem.W.typeIn K (.ref f) = some (.type "function")) && (He.eqO (PySem.W.ks_superIn K C C "__init__") (some (some (.builtin "ValueError.__init__"))) && (He.eqO (PySem.W.nsIn K cStatics "thirdparty.any") (some none) &&
    (lkB K C f d.qual file && (d.fs.all (fun n => He.eqO (PySem.W.findIn K (.ref C) n) (some none)) && xfB K C))))))))))))
end PF
namespace PF
open PySem PySem.Spec L2
open PyProof.Rows hiding St
def subOf (l : List (Option Bool)) (c : Nat) : Option Bool := l.getD c none
def xmB (K : PySem.W.Frag) (xc : Nat → Value) (l : List (Option Bool)) (cv : Value) : Bool := (List.range l.length).all fun c => match subOf l c with
  | some b => decide (PySem.W.exmOne K (xc c) cv = some b)
  | none => true
/-- isinstance of an exception at hand -/
def xiB (K : PySem.W.Frag) (xc : Nat → Value) (l : List (Option Bool)) (cv : Value) : Bool := (List.range l.length).all fun c => match subOf l c with
  | some b => decide (PySem.W.kitOne K (xc c) cv = some b)
  | none => true
/-- e.f may be read at every class that the clause takes -/
def xfLB (K : PySem.W.Frag) (xa : Nat → Addr) (l : List (Option Bool)) (f : PySem.Str) : Bool := (List.range l.length).all fun c => match subOf l c with
  | some true => xfB K (xa c) && He.eqO (PySem.W.findIn K (.ref (xa c)) f) (some none)
  | _ => true
def excCB (K : PySem.W.Frag) (D : Addr) : Bool := He.eqO (PySem.W.findIn K (.ref D) "__getattribute__") (some (some (.builtin "BaseException.__getattribute__"))) && (He.eqO (PySem.W.findIn K (.ref D) "__getattr__") (some none) && (decide (PySem.W.subIn K (.ref D) (.type "BaseException") = some true) && (PySem.W.hasDictIn K D &&
  (He.eqO (PySem.W.findIn K (.ref D) "__class__") (some (some (.builtin "object.__class__"))) && (He.eqO (PySem.W.specialIn K (.builtin "object.__class__") "__get__") (some (some (.builtin "getset_descriptor.__get__"))) && (decide (PySem.W.takesIn K (.builtin "object.__class__") = some true) && decide (PySem.W.mroIn K D (.type "object") = some true)))))))
def exLB (K : PySem.W.Frag) (xa : Nat → Addr) (l : List (Option Bool)) : Bool := (List.range l.length).all fun c => match subOf l c with
  | some true => excCB K (xa c)
  | _ => true
abbrev AlY : Type := He.AlX × List FnY
def obsYK (fa : List He.Fa) (fn : List He.DefD) (ts : List He.Tab) (tf : List He.Defn) (ex : PySem.W.Frag → Bool) (xs : List XD) (g : Addr → Option Obj) (K : PySem.W.Frag) : AlY := ((He.obsT fa fn ts K, ex K && He.tabsB g tf K), xs.map fun d => fnY K d.cls)
theorem saysY {as : List Addr} {fa : List He.Fa} {fn : List He.DefD} {ts : List He.Tab} {tf : List He.Defn} {ex : PySem.W.Frag → Bool} {xs : List XD} {w : World} {h : Heap} {K : PySem.W.Frag} (ek : K = He.frT h.get? as) (e : (obsYK fa fn ts tf ex xs h.get? K).1 = He.valX fn ts w) : He.SaysX fa fn ts tf ex w h K := by
  obtain ⟨e1, e2⟩ := Prod.mk.inj e
  obtain ⟨h1, h2⟩ := Bool.and_eq_true_iff.mp e2
  have all : ∀ p ∈ tf, PySem.W.codeHdIn K (He.cT K p).1 (He.cT K p).2 = true ∧ ∃ o, h.get? (He.cT K p).2 = some o ∧ He.emptyTab o = true := fun p hp => by
    have z := List.all_eq_true.mp h2 p hp
    obtain ⟨z1, z2⟩ := Bool.and_eq_true_iff.mp z
    refine ⟨z1, ?_⟩
    split at z2
    · rename_i o ho
      exact ⟨o, ho, z2⟩
    · cases z2
  refine ⟨e1, h1, fun p hp => (all p hp).1, fun p hp => ?_, fun p hp => ?_⟩ <;> obtain ⟨_, o, ho, ht⟩ := all p hp
  · have := He.frT_none (as := as) ho ht
    rw [← ek] at this
    exact this
  · rw [ho, He.emptyTab_eq ht]
theorem map_all {α β : Type} {f g : α → β} : ∀ {l : List α}, l.map f = l.map g → ∀ a ∈ l, f a = g a
  | [], _, a, h => by cases h
  | x :: r, e, a, h => by
    simp only [List.map_cons, List.cons.injEq] at e
    rcases List.mem_cons.mp h with z | z
    · rw [z]; exact e.1
    · exact map_all e.2 a z
/-- all the tables are there -/
def gxOf (cs : List (Addr × Addr)) (G : Hp) : Prop := ∀ p ∈ cs, GxR.TabG G p.2
end PF
namespace PF
open PySem PySem.Spec L2
open PyProof.Rows hiding St
end PF
namespace PF
open PySem PySem.Spec L2
end PF
namespace PF
open PySem PySem.Spec L2
open PyProof.Rows hiding St
section
variable {K : PySem.W.Frag} {B : Tb} {G H : Hp} {κ : Type} [DecidableEq κ] {e : κ → D}
theorem RepP.len : ∀ {kvs : List (D × D)} {ks : List (D × V)}, RepP K B G kvs ks → kvs.length = ks.length
  | [], ks, h => by simp only [RepP] at h; subst h; rfl
  | (k, d) :: r, ks, h => by
    simp only [RepP] at h
    obtain ⟨v, ks', e1, _, h2⟩ := h
    subst e1
    simp [h2.len]
theorem RepP.own : ∀ {kvs : List (D × D)} {ks : List (D × V)}, RepP K B G kvs ks → OwnP K B G H kvs .F ks []
  | [], ks, h => by simp only [RepP] at h; simp only [OwnP]; exact ⟨h, trivial⟩
  | (k, d) :: r, ks, h => by
    simp only [RepP] at h
    obtain ⟨v, ks', e1, h1, h2⟩ := h
    simp only [OwnP]
    exact ⟨v, ks', [], [], e1, rfl, h1.own, h2.own⟩
end
end PF
namespace PF
open PySem PySem.Spec L2
open PyProof.Rows hiding St
end PF
namespace PF
open PySem PySem.Spec L2
open PyProof.Rows hiding St
end PF
namespace PFD
open PySem PySem.Spec L2
open PyProof.Rows hiding St
end PFD
namespace PFD
open PySem PySem.Spec L2
open PyProof.Rows hiding St
end PFD
namespace PFD
open PySem PySem.Spec L2
open PyProof.Rows hiding St
end PFD
namespace PF
open PySem PySem.Spec L2
open PyProof.Rows hiding St
end PF
namespace PF
open PySem PySem.Spec L2
open PyProof.Rows hiding St
end PF
namespace PF
open PySem PySem.Spec L2
open PyProof.Rows hiding St
end PF
namespace PF
open PySem PySem.Spec L2
open PyProof.Rows hiding St
end PF
namespace PFD
open PySem PySem.Spec L2
open PyProof.Rows hiding St
end PFD
namespace PF
open PySem PySem.Spec L2
open PyProof.Rows hiding St
end PF
namespace PF
open PySem PySem.Spec L2
open PyProof.Rows hiding St
end PF
namespace PF
open PySem PySem.Spec L2
open PyProof.Rows hiding St
end PF
namespace PFD
open PySem PySem.Spec PyProof.Rows SrtO Srt
/-- a tuple of ints, not empty -/
def IsTupI (h : Heap) (v : Value) (ks : List Int) : Prop := ks ≠ [] ∧ ∃ a o its n, v = .ref a ∧ h.get? a = some o ∧ o.cls = .type "tuple" ∧ o.data = .seq its n ∧ IntsAre its.toList ks
theorem IsTupI.keeps {h h' : Heap} {v : Value} {ks : List Int} (p : IsTupI h v ks) (k : ∀ b o, h.get? b = some o → o.cls = .type "tuple" → h'.get? b = some o) : IsTupI h' v ks := by
  obtain ⟨h0, a, o, its, n, e, ho, hc, hd, hi⟩ := p
  exact ⟨h0, a, o, its, n, e, k a o ho hc, hc, hd, hi⟩
end PFD
namespace PFD
open PySem PySem.Spec L2
open PyProof.Rows hiding St
end PFD
namespace PF
open PySem PySem.Spec L2
open PyProof.Rows hiding St
end PF
namespace PF
open PySem PySem.Spec L2
open PyProof.Rows hiding St
end PF
namespace PF
open PySem PySem.Spec L2
open PyProof.Rows hiding St
/-- an int or a truth value, as it is in the machine -/
def PV (y : D) (u : Value) : Prop := match y with
  | .int j => ∃ t, u = .int j t
  | .bl b => u = .bool b
  | _ => False
/-- where the element is evaluated: its own names, the captured ones, the module -/
structure QW (X : Cx) (scope : Scope) (ns : List PySem.Str) (cenv : PySem.Env) (ρ : PF.Env) (own : List Int) (s : Shared) : Prop where
  sc : cenv.scope = scope
  gl : cenv.globals = mainGlobals
  ns : ∃ m, s.heap.Ns cenv.locals m ∧ ∀ (k : Nat) (n : PySem.Str) (j : Int), ns[k]? = some n → own[k]? = some j → ∃ t, m n = some (.int j t)
  cap : ∀ (i : Nat) (n : PySem.Str) (t : T) (j : Int), X.N[i]? = some n → ρ[i]? = some (some (t, .int j)) → scope.names.lookup n = some .free → ∃ c tk, cenv.cells.lookup n = some c ∧ s.heap.IsCell c (some (.int j tk))
  md : s.heap.Ns mainGlobals X.mg
  kin : X.K.In s.heap
theorem QW.keep {X : Cx} {scope : Scope} {ns : List PySem.Str} {cenv : PySem.Env} {ρ : PF.Env} {own : List Int} {s s' : Shared} (h : QW X scope ns cenv ρ own s) (k : Keeps s s') : QW X scope ns cenv ρ own s' := by
  obtain ⟨h', tk, rfl, hk⟩ := k
  obtain ⟨m, hm, hv⟩ := h.ns
  refine ⟨h.sc, h.gl, ⟨m, hm.keeps hk, hv⟩, fun i n t j e1 e2 e3 => ?_, h.md.keeps hk, PySem.W.Frag.In.keeps h.kin hk⟩
  obtain ⟨c, tk, h1, h2⟩ := h.cap i n t j e1 e2 e3
  exact ⟨c, tk, h1, h2.keeps hk⟩
abbrev QF_ : Type := PF.Env → List Int → Option D
section
variable {X : Cx} {scope : Scope} {ns : List PySem.Str} {a b c : Expr} {qa qb qc : QF_} {pos p : Pos}
theorem PV.int {y : D} {j : Int} {u : Value} (h : PV y u) (e : y = .int j) : ∃ t, u = .int j t := by subst e; exact h
end
end PF
namespace PF
open PySem PySem.Spec L2
open PyProof.Rows hiding St
end PF
namespace PySem.W
open PySem PySem.Spec PySem.Calls PyProof.Rows Builtin
end PySem.W
namespace PF
open PySem PySem.Spec L2
open PyProof.Rows hiding St
end PF
namespace PF
open PySem PySem.Spec L2
open PyProof.Rows hiding St
end PF
namespace PF
open PySem PySem.Spec L2
open PyProof.Rows hiding St
end PF
namespace PF
open PySem PySem.Spec L2
open PyProof.Rows hiding St
end PF
namespace PF
open PySem PySem.Spec L2
open PyProof.Rows hiding St
end PF
namespace PF
open PySem PySem.Spec L2
open PyProof.Rows hiding St
end PF
namespace PF
open PySem PySem.Spec L2
open PyProof.Rows hiding St
end PF
namespace PFD
open PySem PySem.Spec L2
open PyProof.Rows hiding St
end PFD
namespace PF
open PySem PySem.Spec L2
open PyProof.Rows hiding St
end PF
namespace PF
open PySem PySem.Spec L2
open PyProof.Rows hiding St
def rowB (K : PySem.W.Frag) (is : List Int) (u : Value) : Bool := match u with
  | .ref a => match K.lookup a with
    | some ⟨.type T, _, .seq its _, _⟩ => decide (T = "tuple") && (decide (its.size ≤ 16777216) && kDs K (is.map D.int) its.toList)
    | _ => false
  | _ => false
def rowsB (K : PySem.W.Frag) : List (List Int) → List Value → Bool
  | [], us => us.isEmpty
  | is :: r, us => match us with
    | u :: us => rowB K is u && rowsB K r us
    | [] => false
end PF
namespace PF
open PySem PySem.Spec L2
open PyProof.Rows hiding St
end PF
namespace PF
open PySem PySem.Spec L2
open PyProof.Rows hiding St
end PF
namespace PF
open PySem PySem.Spec L2
open PyProof.Rows hiding St
end PF
namespace PF
open PySem PySem.Spec L2
open PyProof.Rows hiding St
end PF
namespace PFD
open PySem PySem.Spec L2
open PyProof.Rows hiding St
end PFD
namespace PF
open PySem PySem.Spec L2
open PyProof.Rows hiding St
end PF
namespace PF
open PySem PySem.Spec L2
open PyProof.Rows hiding St
end PF
namespace PF
open PySem PySem.Spec L2
open PyProof.Rows hiding St
end PF
namespace PF
open PySem PySem.Spec L2
open PyProof.Rows hiding St
/-- a table's values: plain, or a tuple of tuples of ints -/
inductive KV where
  | dv (x : D)
  | tv (iss : List (List Int))
def ttB (K : PySem.W.Frag) (iss : List (List Int)) (u : Value) : Bool := match u with
  | .ref a => match K.lookup a with
    | some ⟨.type T, _, .seq its _, _⟩ => decide (T = "tuple") && (decide (its.size ≤ 16777216) && rowsB K iss its.toList)
    | _ => false
  | _ => false
def kvB (K : PySem.W.Frag) : KV → Value → Bool
  | .dv x, u => PF.kD K x u
  | .tv iss, u => ttB K iss u
abbrev KTb := List (PySem.Str × KV)
def tabVB (K : PySem.W.Frag) (x : PySem.Str) (tab : KTb) : Bool := tab.all fun q => match PySem.W.nsIn K (He.ga K x) q.1 with
  | some (some u) => kvB K q.2 u
  | _ => false
end PF
namespace PF
open PySem PySem.Spec L2
open PyProof.Rows hiding St
end PF
namespace PF
open PySem PySem.Spec L2
open PyProof.Rows hiding St
end PF
namespace PF
open PySem PySem.Spec L2
open PyProof.Rows hiding St
/-- what an object names, but the module's dict -/
def refsZ (o : Obj) : List Addr := (He.refsD o).filter fun b => !(Nat.beq b mainGlobals)
def growZ (g : Addr → Option Obj) (as : List Addr) : List Addr := (as ++ as.flatMap fun a => match g a with
  | some o => refsZ o
  | none => []).eraseDups
/-- the module's values of these names -/
def namedZ (g : Addr → Option Obj) (nm : List PySem.Str) : List Addr := match g mainGlobals with
  | some ⟨_, _, .dict es _, _⟩ => nm.filterMap fun x => match es.toList.find? (·.key.isStr x) with
    | some ⟨_, _, .ref a⟩ => some a
    | _ => none
  | _ => []
def asZ (nm : List PySem.Str) (g : Addr → Option Obj) : Nat → List Addr
  | 0 => namedZ g nm
  | n + 1 => growZ g (asZ nm g n)
def obsZG (nm : List PySem.Str) (n : Nat) (fa : List He.Fa) (fn : List He.DefD) (ts : List He.Tab) (tf : List He.Defn) (ex : PySem.W.Frag → Bool) (xs : List XD) (g : Addr → Option Obj) : AlY := obsYK fa fn ts tf ex xs g (He.frT g (cStatics :: mainGlobals :: asZ nm g n))
def hookZ (nm : List PySem.Str) (n : Nat) (fa : List He.Fa) (fn : List He.DefD) (ts : List He.Tab) (tf : List He.Defn) (ex : PySem.W.Frag → Bool) (xs : List XD) : PySem.W.Hook where
  α := AlY
  obs := fun s => obsZG nm n fa fn ts tf ex xs s.heap.get?
  val := fun w => (He.valX fn ts w, xs.map XD.val)
  says := fun w h => ∃ K : PySem.W.Frag, K.In h ∧ He.SaysX fa fn ts tf ex w h K ∧ ∀ d ∈ xs, fnY K d.cls = d.val
  of := fun _ _ e => ⟨_, He.frT_in, saysY (xs := xs) rfl (Prod.mk.inj e).1, map_all (Prod.mk.inj e).2⟩
  keeps := fun _ _ _ ⟨K, hK, c, cx⟩ k => ⟨K, PySem.W.Frag.In.keeps hK k, ⟨c.t, c.more, c.hd, c.out, fun p hp => k _ _ (c.empty p hp)⟩, cx⟩
end PF
namespace LK12
open PySem PySem.Spec L2 PF
open PyProof.Rows hiding St
def kt_FIELD_COUNTS : KTb := [(PySem.Str.ofString "block", .dv (.int 6)), (PySem.Str.ofString "wedge", .dv (.int 7)), (PySem.Str.ofString "hole", .dv (.int 5)), (PySem.Str.ofString "step", .dv (.int 7)), (PySem.Str.ofString "sink", .dv (.int 5)), (PySem.Str.ofString "prism", .dv (.int 2)), (PySem.Str.ofString "taper", .dv (.int 2)), (PySem.Str.ofString "turn", .dv (.int 1)), (PySem.Str.ofString "wall", .dv (.int 3))]
def kt_BOUNDS : KTb := [(PySem.Str.ofString "wedge", .tv [[6, 0, 11]]), (PySem.Str.ofString "hole", .tv [[4, 1, 64]]), (PySem.Str.ofString "step", .tv [[4, 1, 64], [6, 1, 64]]), (PySem.Str.ofString "sink", .tv [[4, 1, 64]]), (PySem.Str.ofString "wall", .tv [[0, 1, 64]])]
def kEIGHTHS : D := .int 8
def kLAYERS : D := .tup [.int 0, .int 4, .int 4, .int 0, .int 8, .int 0, .int 4, .int 4]
def kLEAST : D := .int 2
def kMOST : D := .int 6
def kRANKS_grains : D := .tup [.non, .int 2, .int 1, .non, .int 0, .non, .int 1, .int 2]
def kSHARES : D := .int 24
def kSKETCH_KINDS : D := .tup [.str (PySem.Str.ofString "prism"), .str (PySem.Str.ofString "taper"), .str (PySem.Str.ofString "turn"), .str (PySem.Str.ofString "wall")]
def h_FieldFault : List (Option Bool) := [some false, some true, some false, some false]
def i_LoftError : List (Option Bool) := [some true, some true, some true, some true]
abbrev noSt : Stmt := .Pass ⟨0, 0, 0, 0⟩
abbrev top (i : Nat) : Stmt := PySem.Challenge.pw_partloft_k12_bodies_without_sketches.main.body.getD i noSt
def cBody : Stmt → List Stmt
  | .ClassDef (body := b) .. => b
  | _ => []
abbrev s0 : Stmt := top 12
abbrev s1 : Stmt := top 13
abbrev s2 : Stmt := top 14
abbrev s3 : Stmt := top 17
abbrev s4 : Stmt := top 97
abbrev s5 : Stmt := top 98
abbrev s6 : Stmt := top 113
abbrev s7 : Stmt := top 114
abbrev s8 : Stmt := top 115
abbrev s9 : Stmt := (cBody (top 117)).getD 0 noSt
abbrev s10 : Stmt := (cBody (top 117)).getD 3 noSt
abbrev s11 : Stmt := top 124
abbrev s12 : Stmt := top 125
abbrev s13 : Stmt := top 127
abbrev s14 : Stmt := top 128
abbrev s15 : Stmt := top 129
abbrev s16 : Stmt := top 130
abbrev s17 : Stmt := top 131
abbrev s18 : Stmt := top 132
abbrev s19 : Stmt := top 133
abbrev s20 : Stmt := top 134
abbrev s21 : Stmt := top 144
abbrev s22 : Stmt := top 146
abbrev s23 : Stmt := top 147
abbrev s24 : Stmt := top 148
abbrev s25 : Stmt := top 149
abbrev s26 : Stmt := top 150
abbrev s27 : Stmt := top 151
abbrev s28 : Stmt := top 152
abbrev s29 : Stmt := top 153
def nmT : List PySem.Str := [(PySem.Str.ofString "size"), (PySem.Str.ofString "_mask"), (PySem.Str.ofString "field"), (PySem.Str.ofString "grain")]
def at0 : PySem.Str × Option PySem.Str := ("rank", none)
def at1 : PySem.Str × Option PySem.Str := ("grain_count", none)
def at2 : PySem.Str × Option PySem.Str := ("row_middles", none)
def at3 : PySem.Str × Option PySem.Str := ("middle_of", none)
def at4 : PySem.Str × Option PySem.Str := ("disc_bound", none)
def at5 : PySem.Str × Option PySem.Str := ("in_disc", none)
def at6 : PySem.Str × Option PySem.Str := ("check_size", none)
def at7 : PySem.Str × Option PySem.Str := ("mask_of", none)
def at8 : PySem.Str × Option PySem.Str := ("bits_of", none)
def at9 : PySem.Str × Option PySem.Str := ("Solid", some "__init__")
def at10 : PySem.Str × Option PySem.Str := ("Solid", some "grains")
def at11 : PySem.Str × Option PySem.Str := ("field_count", none)
def at12 : PySem.Str × Option PySem.Str := ("check_fields", none)
def at13 : PySem.Str × Option PySem.Str := ("other_axes", none)
def at14 : PySem.Str × Option PySem.Str := ("is_from_to", none)
def at15 : PySem.Str × Option PySem.Str := ("in_block", none)
def at16 : PySem.Str × Option PySem.Str := ("in_wedge", none)
def at17 : PySem.Str × Option PySem.Str := ("in_hole", none)
def at18 : PySem.Str × Option PySem.Str := ("in_step", none)
def at19 : PySem.Str × Option PySem.Str := ("in_sink", none)
def at20 : PySem.Str × Option PySem.Str := ("is_plain", none)
def at21 : PySem.Str × Option PySem.Str := ("body_of", none)
def at22 : PySem.Str × Option PySem.Str := ("_law_cell", none)
def at23 : PySem.Str × Option PySem.Str := ("_law_middles", none)
def at24 : PySem.Str × Option PySem.Str := ("_law_others", none)
def at25 : PySem.Str × Option PySem.Str := ("_law_within", none)
def at26 : PySem.Str × Option PySem.Str := ("_law_round", none)
def at27 : PySem.Str × Option PySem.Str := ("_law_has", none)
def at28 : PySem.Str × Option PySem.Str := ("_law_made", none)
def at29 : PySem.Str × Option PySem.Str := ("law", none)
def tf : List He.Defn := []
def cs (K : PySem.W.Frag) : List (Addr × Addr) := tf.map (He.cT K)
def xa (K : PySem.W.Frag) : Nat → Addr := fun c => [He.ga K "LoftError", He.ga K "FieldFault", He.ga K "InvalidSize", He.ga K "NoSuchGrain"].getD c 0
def ct (K : PySem.W.Frag) : Ct := ⟨{ cls := clsOf [He.ga K "Solid"], nm := nmOf nmT, gx := gxOf (cs K) }, fun c => .ref (xa K c), 2⟩
def dd0 : He.DefD := ⟨at0, "rank", "rank", defArgs s0, defBody s0, defScope s0, [], []⟩
def dd1 : He.DefD := ⟨at1, "grain_count", "grain_count", defArgs s1, defBody s1, defScope s1, [], []⟩
def dd2 : He.DefD := ⟨at2, "row_middles", "row_middles", defArgs s2, defBody s2, defScope s2, [], []⟩
def dd3 : He.DefD := ⟨at3, "middle_of", "middle_of", defArgs s3, defBody s3, defScope s3, [], []⟩
def dd4 : He.DefD := ⟨at4, "disc_bound", "disc_bound", defArgs s4, defBody s4, defScope s4, [], []⟩
def dd5 : He.DefD := ⟨at5, "in_disc", "in_disc", defArgs s5, defBody s5, defScope s5, [], []⟩
def dd6 : He.DefD := ⟨at6, "check_size", "check_size", defArgs s6, defBody s6, defScope s6, [], []⟩
def dd7 : He.DefD := ⟨at7, "mask_of", "mask_of", defArgs s7, defBody s7, defScope s7, [], []⟩
def dd8 : He.DefD := ⟨at8, "bits_of", "bits_of", defArgs s8, defBody s8, defScope s8, [], []⟩
def dd9 : He.DefD := ⟨at9, "__init__", "Solid.__init__", defArgs s9, defBody s9, defScope s9, [], []⟩
def dd10 : He.DefD := ⟨at10, "grains", "Solid.grains", defArgs s10, defBody s10, defScope s10, [], []⟩
def dd11 : He.DefD := ⟨at11, "field_count", "field_count", defArgs s11, defBody s11, defScope s11, [], []⟩
def dd12 : He.DefD := ⟨at12, "check_fields", "check_fields", defArgs s12, defBody s12, defScope s12, [], []⟩
def dd13 : He.DefD := ⟨at13, "other_axes", "other_axes", defArgs s13, defBody s13, defScope s13, [], []⟩
def dd14 : He.DefD := ⟨at14, "is_from_to", "is_from_to", defArgs s14, defBody s14, defScope s14, [], []⟩
def dd15 : He.DefD := ⟨at15, "in_block", "in_block", defArgs s15, defBody s15, defScope s15, [], []⟩
def dd16 : He.DefD := ⟨at16, "in_wedge", "in_wedge", defArgs s16, defBody s16, defScope s16, [], []⟩
def dd17 : He.DefD := ⟨at17, "in_hole", "in_hole", defArgs s17, defBody s17, defScope s17, [], []⟩
def dd18 : He.DefD := ⟨at18, "in_step", "in_step", defArgs s18, defBody s18, defScope s18, [], []⟩
def dd19 : He.DefD := ⟨at19, "in_sink", "in_sink", defArgs s19, defBody s19, defScope s19, [], []⟩
def dd20 : He.DefD := ⟨at20, "is_plain", "is_plain", defArgs s20, defBody s20, defScope s20, [], []⟩
def dd21 : He.DefD := ⟨at21, "body_of", "body_of", defArgs s21, defBody s21, defScope s21, [], []⟩
def dd22 : He.DefD := ⟨at22, "_law_cell", "_law_cell", defArgs s22, defBody s22, defScope s22, [], []⟩
def dd23 : He.DefD := ⟨at23, "_law_middles", "_law_middles", defArgs s23, defBody s23, defScope s23, [], []⟩
def dd24 : He.DefD := ⟨at24, "_law_others", "_law_others", defArgs s24, defBody s24, defScope s24, [], []⟩
def dd25 : He.DefD := ⟨at25, "_law_within", "_law_within", defArgs s25, defBody s25, defScope s25, [], []⟩
def dd26 : He.DefD := ⟨at26, "_law_round", "_law_round", defArgs s26, defBody s26, defScope s26, [], []⟩
def dd27 : He.DefD := ⟨at27, "_law_has", "_law_has", defArgs s27, defBody s27, defScope s27, [], []⟩
def dd28 : He.DefD := ⟨at28, "_law_made", "_law_made", defArgs s28, defBody s28, defScope s28, [], []⟩
def dd29 : He.DefD := ⟨at29, "law", "law", defArgs s29, defBody s29, defScope s29, [], []⟩
def fn : List He.DefD := [dd0, dd1, dd2, dd3, dd4, dd5, dd6, dd7, dd8, dd9, dd10, dd11, dd12, dd13, dd14, dd15, dd16, dd17, dd18, dd19, dd20, dd21, dd22, dd23, dd24, dd25, dd26, dd27, dd28, dd29]
abbrev sx_FieldFault : Stmt := (cBody (top 5)).getD 0 noSt
def xd_FieldFault : XD := ⟨"FieldFault", "FieldFault.__init__", defArgs sx_FieldFault, defBody sx_FieldFault, defScope sx_FieldFault, [(PySem.Str.ofString "field")]⟩
abbrev sx_InvalidSize : Stmt := (cBody (top 105)).getD 0 noSt
def xd_InvalidSize : XD := ⟨"InvalidSize", "InvalidSize.__init__", defArgs sx_InvalidSize, defBody sx_InvalidSize, defScope sx_InvalidSize, [(PySem.Str.ofString "size")]⟩
abbrev sx_NoSuchGrain : Stmt := (cBody (top 106)).getD 0 noSt
def xd_NoSuchGrain : XD := ⟨"NoSuchGrain", "NoSuchGrain.__init__", defArgs sx_NoSuchGrain, defBody sx_NoSuchGrain, defScope sx_NoSuchGrain, [(PySem.Str.ofString "grain")]⟩
def xs : List XD := [xd_FieldFault, xd_InvalidSize, xd_NoSuchGrain]
def fa : List He.Fa := [.glo "rank", .glo "grain_count", .glo "row_middles", .glo "middle_of", .glo "disc_bound", .glo "in_disc", .glo "check_size", .glo "mask_of", .glo "bits_of", .glo "field_count", .glo "check_fields", .glo "other_axes", .glo "is_from_to", .glo "in_block", .glo "in_wedge", .glo "in_hole", .glo "in_step", .glo "in_sink", .glo "is_plain", .glo "body_of", .glo "_law_cell", .glo "_law_middles", .glo "_law_others", .glo "_law_within", .glo "_law_round", .glo "_law_has", .glo "_law_made", .glo "law", .glo "Solid", .free "abs", .free "all", .free "int", .free "isinstance", .free "len", .free "list", .free "max", .free "min", .free "range", .free "super", .glo "FieldFault", .glo "InvalidSize", .glo "NoSuchGrain", .glo "FIELD_COUNTS", .glo "BOUNDS", .glo "LoftError", .cls "Solid", .noat "Solid" "size", .noat "Solid" "_mask", .mkr "Solid", .meth "Solid" "grains"]
abbrev Rw_ : PySem.W.OpenRow := PySem.W.OpenLaw.row PySem.Challenge.rw_partloft_k12_bodies_without_sketches
def exs (K : PySem.W.Frag) : List Bool := [conB K "EIGHTHS" kEIGHTHS, conB K "LAYERS" kLAYERS, conB K "LEAST" kLEAST, conB K "MOST" kMOST, conB K "RANKS_grains" kRANKS_grains, conB K "SHARES" kSHARES, conB K "SKETCH_KINDS" kSKETCH_KINDS, exkB PySem.Challenge.pw_partloft_k12_bodies_without_sketches.main.file K xd_FieldFault, exkB PySem.Challenge.pw_partloft_k12_bodies_without_sketches.main.file K xd_InvalidSize, exkB PySem.Challenge.pw_partloft_k12_bodies_without_sketches.main.file K xd_NoSuchGrain, tabVB K "FIELD_COUNTS" kt_FIELD_COUNTS, tabVB K "BOUNDS" kt_BOUNDS, xmB K (ct K).xc h_FieldFault (.ref (He.ga K "FieldFault")), xfLB K (xa K) h_FieldFault "field", exLB K (xa K) h_FieldFault, xiB K (ct K).xc i_LoftError (.ref (He.ga K "LoftError"))]
def ex (K : PySem.W.Frag) : Bool := (exs K).all fun b => b
def ts : List He.Tab := [(fun K => He.ga K "FIELD_COUNTS", [PySem.Str.ofString "block", PySem.Str.ofString "wedge", PySem.Str.ofString "hole", PySem.Str.ofString "step", PySem.Str.ofString "sink", PySem.Str.ofString "prism", PySem.Str.ofString "taper", PySem.Str.ofString "turn", PySem.Str.ofString "wall"]), (fun K => He.ga K "BOUNDS", [PySem.Str.ofString "wedge", PySem.Str.ofString "hole", PySem.Str.ofString "step", PySem.Str.ofString "sink", PySem.Str.ofString "wall"])]
/-- the names that the walk sees: the head looks at what these reach -/
def nm : List PySem.Str := (["LoftError", "FieldFault", "SHARES", "EIGHTHS", "LAYERS", "RANKS_grains", "rank", "grain_count", "row_middles", "middle_of", "disc_bound", "in_disc", "InvalidSize", "NoSuchGrain", "LEAST", "MOST", "check_size", "mask_of", "bits_of", "Solid", "FIELD_COUNTS", "BOUNDS", "SKETCH_KINDS", "field_count", "check_fields", "other_axes", "is_from_to", "in_block", "in_wedge", "in_hole"] : List PySem.Str) ++ (["in_step", "in_sink", "is_plain", "body_of", "_law_cell", "_law_middles", "_law_others", "_law_within", "_law_round", "_law_has", "_law_made", "law"] : List PySem.Str)
abbrev hk : PySem.W.Hook := PF.hookZ nm 6 fa fn ts tf ex xs
def ob (s : PySem.W.SharedT) : AlY := obsZG nm 6 fa fn ts tf ex xs (HandSHeadRun.getT s)
def loose : List PySem.Str := (["_wall", "LoftError", "InvalidFormula", "Fault", "FieldFault", "ProfileFault", "SHARES", "EIGHTHS", "LAYERS", "RANKS_grains", "rank", "grain_count", "row_middles", "middles", "numbers", "middle_of", "BOUND", "KIND_BOUND", "COMPARISONS", "greatest_divisor", "make_quantity", "need_same_kinds", "need_plain", "difference", "truth", "is_true", "compare", "operate", "minus", "negation"] : List PySem.Str) ++ (["whole_quotient", "remainder", "sign_of", "middle", "call_one", "call", "LETTERS", "DIGITS", "WORD_CHARACTERS", "LONG_SIGNS", "SHORT_SIGNS", "UNITS", "WORD_LIMIT", "WHOLE_LIMIT", "DECIMAL_LIMIT", "run_end", "scan_number", "scan_token", "scan", "LENGTH_LIMIT", "OPEN_LIMIT", "RANKS_formulas", "ARGUMENTS", "number_quantity", "FormulaReader", "read_whole", "read_formula", "WITH_FORMULA", "GIVEN_LIMIT", "SIGNS"] : List PySem.Str) ++ (["evaluate_choice", "evaluate", "evaluate_row", "whole_number", "POINT_EQUATIONS", "LINE_EQUATIONS", "Solution", "point_coefficients", "line_coefficients", "equations_of", "Space", "first_unknown", "combined", "space_of", "settled", "lowest", "solve", "whole_places", "is_in_room", "has_direction", "disc_radius", "line_ends", "side", "is_between", "have_wrong_point", "end_counts", "line_profile", "profile", "need_profile", "disc_bound"] : List PySem.Str) ++ (["in_disc", "is_crossed", "lines_and_discs", "is_inside", "quarter_place", "is_straight", "InvalidSize", "NoSuchGrain", "InvalidWay", "LEAST", "MOST", "WAYS", "TURNS", "check_size", "mask_of", "bits_of", "turn_point", "Solid", "FIELD_COUNTS", "BOUNDS", "STRAIGHT_KINDS", "SKETCH_KINDS", "WALL_PROFILES", "field_count", "check_fields", "check_sketch", "other_axes", "is_from_to", "in_block", "in_wedge"] : List PySem.Str) ++ (["in_hole", "in_step", "in_sink", "is_plain", "Plane", "in_prism", "squares_between", "in_taper", "turn_radius", "in_turn", "is_near", "in_wall", "is_sketched", "body_of", "_law_cell", "_law_middles", "_law_others", "_law_within", "_law_round", "_law_has", "_law_made"] : List PySem.Str)
theorem run_f1 (w : World) (os : PySem.OsState) : (HandSHeadRun.endF (HandSHeadRun.stepQ (HandSHeadRun.denQ HandSHeadRun.tabQ) Rw_.prog (w.withFollow "special-get-raises" false)) 20000 Rw_.prog (w.withFollow "special-get-raises" false) os).map (fun x => HandSHeadRun.looksF Rw_.prog (PySem.W.boot_heap ((w.withFollow "special-get-raises" false)).params) x.abs) = some true := by kernel_rfl
theorem run_f2 (w : World) (os : PySem.OsState) : (HandSHeadRun.endF (HandSHeadRun.stepQ (HandSHeadRun.denQ HandSHeadRun.tabQ) Rw_.prog (w.withFollow "special-get-raises" false)) 20000 Rw_.prog (w.withFollow "special-get-raises" false) os).map (fun x => HandSHeadRun.seenQ (PySem.W.view Rw_.prog [153]) loose (importedModules Rw_.prog.main.body) (fun s => PySem.W.xlAt (PySem.W.view Rw_.prog [153]) [] s && PySem.W.recOk Rw_.toRowW.records s) x.abs) = some (PySem.W.openGood (PySem.W.view Rw_.prog [153]) loose) := by kernel_rfl
theorem run_f3 (w : World) (os : PySem.OsState) : (HandSHeadRun.endF (HandSHeadRun.stepQ (HandSHeadRun.denQ HandSHeadRun.tabQ) Rw_.prog (w.withFollow "special-get-raises" false)) 20000 Rw_.prog (w.withFollow "special-get-raises" false) os).map (fun x => (ob x).1.1) = some (hk.val (w.withFollow "special-get-raises" false)).1.1 := by kernel_rfl
theorem run_f4 (w : World) (os : PySem.OsState) : (HandSHeadRun.endF (HandSHeadRun.stepQ (HandSHeadRun.denQ HandSHeadRun.tabQ) Rw_.prog (w.withFollow "special-get-raises" false)) 20000 Rw_.prog (w.withFollow "special-get-raises" false) os).map (fun x => (ob x).1.2) = some (hk.val (w.withFollow "special-get-raises" false)).1.2 := by kernel_rfl
theorem run_f5 (w : World) (os : PySem.OsState) : (HandSHeadRun.endF (HandSHeadRun.stepQ (HandSHeadRun.denQ HandSHeadRun.tabQ) Rw_.prog (w.withFollow "special-get-raises" false)) 20000 Rw_.prog (w.withFollow "special-get-raises" false) os).map (fun x => (ob x).2) = some (hk.val (w.withFollow "special-get-raises" false)).2 := by kernel_rfl
theorem run_f (w : World) : HandSHeadRun.RunEq Rw_ (PySem.W.view Rw_.prog [153]) hk ob 20000 loose (w.withFollow "special-get-raises" false) := by
  intro os
  have h1 := run_f1 w os
  have h2 := run_f2 w os
  have h3 := run_f3 w os
  have h4 := run_f4 w os
  have h5 := run_f5 w os
  revert h1 h2 h3 h4 h5
  generalize (HandSHeadRun.endF (HandSHeadRun.stepQ (HandSHeadRun.denQ HandSHeadRun.tabQ) Rw_.prog (w.withFollow "special-get-raises" false)) 20000 Rw_.prog (w.withFollow "special-get-raises" false) os) = W
  intro h1 h2 h3 h4 h5
  obtain ⟨x, e, e1⟩ := Option.map_eq_some_iff.mp h1
  subst e
  have e2 := Option.some.inj h2
  have e3 := Option.some.inj h3
  have e4 := Option.some.inj h4
  have e5 := Option.some.inj h5
  exact congrArg some (Prod.ext e1 (Prod.ext e2 (Prod.ext (Prod.ext e3 e4) e5)))
theorem run_t1 (w : World) (os : PySem.OsState) : (HandSHeadRun.endF (HandSHeadRun.stepQ (HandSHeadRun.denQ HandSHeadRun.tabQ) Rw_.prog (w.withFollow "special-get-raises" true)) 20000 Rw_.prog (w.withFollow "special-get-raises" true) os).map (fun x => HandSHeadRun.looksF Rw_.prog (PySem.W.boot_heap ((w.withFollow "special-get-raises" true)).params) x.abs) = some true := by kernel_rfl
theorem run_t2 (w : World) (os : PySem.OsState) : (HandSHeadRun.endF (HandSHeadRun.stepQ (HandSHeadRun.denQ HandSHeadRun.tabQ) Rw_.prog (w.withFollow "special-get-raises" true)) 20000 Rw_.prog (w.withFollow "special-get-raises" true) os).map (fun x => HandSHeadRun.seenQ (PySem.W.view Rw_.prog [153]) loose (importedModules Rw_.prog.main.body) (fun s => PySem.W.xlAt (PySem.W.view Rw_.prog [153]) [] s && PySem.W.recOk Rw_.toRowW.records s) x.abs) = some (PySem.W.openGood (PySem.W.view Rw_.prog [153]) loose) := by kernel_rfl
theorem run_t3 (w : World) (os : PySem.OsState) : (HandSHeadRun.endF (HandSHeadRun.stepQ (HandSHeadRun.denQ HandSHeadRun.tabQ) Rw_.prog (w.withFollow "special-get-raises" true)) 20000 Rw_.prog (w.withFollow "special-get-raises" true) os).map (fun x => (ob x).1.1) = some (hk.val (w.withFollow "special-get-raises" true)).1.1 := by kernel_rfl
theorem run_t4 (w : World) (os : PySem.OsState) : (HandSHeadRun.endF (HandSHeadRun.stepQ (HandSHeadRun.denQ HandSHeadRun.tabQ) Rw_.prog (w.withFollow "special-get-raises" true)) 20000 Rw_.prog (w.withFollow "special-get-raises" true) os).map (fun x => (ob x).1.2) = some (hk.val (w.withFollow "special-get-raises" true)).1.2 := by kernel_rfl
theorem run_t5 (w : World) (os : PySem.OsState) : (HandSHeadRun.endF (HandSHeadRun.stepQ (HandSHeadRun.denQ HandSHeadRun.tabQ) Rw_.prog (w.withFollow "special-get-raises" true)) 20000 Rw_.prog (w.withFollow "special-get-raises" true) os).map (fun x => (ob x).2) = some (hk.val (w.withFollow "special-get-raises" true)).2 := by kernel_rfl
theorem run_t (w : World) : HandSHeadRun.RunEq Rw_ (PySem.W.view Rw_.prog [153]) hk ob 20000 loose (w.withFollow "special-get-raises" true) := by
  intro os
  have h1 := run_t1 w os
  have h2 := run_t2 w os
  have h3 := run_t3 w os
  have h4 := run_t4 w os
  have h5 := run_t5 w os
  revert h1 h2 h3 h4 h5
  generalize (HandSHeadRun.endF (HandSHeadRun.stepQ (HandSHeadRun.denQ HandSHeadRun.tabQ) Rw_.prog (w.withFollow "special-get-raises" true)) 20000 Rw_.prog (w.withFollow "special-get-raises" true) os) = W
  intro h1 h2 h3 h4 h5
  obtain ⟨x, e, e1⟩ := Option.map_eq_some_iff.mp h1
  subst e
  have e2 := Option.some.inj h2
  have e3 := Option.some.inj h3
  have e4 := Option.some.inj h4
  have e5 := Option.some.inj h5
  exact congrArg some (Prod.ext e1 (Prod.ext e2 (Prod.ext (Prod.ext e3 e4) e5)))
theorem run (w : World) : HandSHeadRun.RunEq Rw_ (PySem.W.view Rw_.prog [153]) hk ob 20000 loose w := PySem.W.byRow2 (P := fun w => HandSHeadRun.RunEq Rw_ (PySem.W.view Rw_.prog [153]) hk ob 20000 loose w) "special-get-raises" run_f run_t w
end LK12
namespace Rm
abbrev P3 := Int × Int × Int
def rk (x : Int) : Option Int := [none, some 2, some 1, none, some 0, none, some 1, some 2].getD (x % 8).toNat none
def rng (n : Nat) : List Int := (List.range (8 * n)).map fun k : Nat => (k : Int)
def good (n : Nat) : List Int := (rng n).filter fun x => (rk x).isSome
def rowM (n : Nat) (z y : Int) : List P3 := if rk y ≠ rk z then ((rng n).filter fun x => decide (rk x = some (3 - (rk y).getD 0 - (rk z).getD 0))).map fun x => (x, y, z) else []
def mids (n : Nat) : List P3 := (good n).flatMap fun z => (good n).flatMap fun y => rowM n z y
abbrev St := P3 → Prop
def inS (n M : Nat) : St := fun p => ∃ i : Nat, (mids n)[i]? = some p ∧ M.testBit i = true
end Rm
namespace PF
end PF
namespace Rm
open PF
def pD (p : P3) : D := .tup [.int p.1, .int p.2.1, .int p.2.2]
def kD (K : List P3) : List (D × D) := K.map fun p => (pD p, .bl true)
theorem nd_len : ∀ (l m : List P3), l.Nodup → (∀ x ∈ l, x ∈ m) → l.length ≤ m.length
  | [], m, _, _ => by simp
  | x :: r, m, h, hs => by
    have h' := List.nodup_cons.mp h
    have hx := hs x List.mem_cons_self
    have ih := nd_len r (m.erase x) h'.2 (fun y hy => by
      rw [List.mem_erase_of_ne (fun e => h'.1 (by rw [← e]; exact hy))]
      exact hs y (List.mem_cons_of_mem _ hy))
    rw [List.length_erase_of_mem hx] at ih
    have := List.length_pos_of_mem hx
    rw [List.length_cons]
    omega
def insK (K : List P3) (p : P3) : List P3 := if p ∈ K then K else K ++ [p]
theorem mem_insK {K : List P3} {p q : P3} : q ∈ insK K p ↔ q ∈ K ∨ q = p := by
  unfold insK
  split
  · rename_i h
    exact ⟨.inl, fun z => z.elim id fun e => by rw [e]; exact h⟩
  · simp
theorem insK_nd {K : List P3} (h : K.Nodup) (p : P3) : (insK K p).Nodup := by
  unfold insK
  split
  · exact h
  · rename_i hp
    rw [List.nodup_append]
    refine ⟨h, by simp, ?_⟩
    intro a ha b hb e
    rw [List.mem_singleton] at hb
    rw [e, hb] at ha
    exact hp ha
/-- a set of middles of a room -/
def OKK (n : Nat) (K : List P3) : Prop := K.Nodup ∧ ∀ p ∈ K, p ∈ mids n
theorem OKK.len {n : Nat} {K : List P3} (h : OKK n K) : K.length ≤ (mids n).length := nd_len _ _ h.1 h.2
theorem OKK.nil (n : Nat) : OKK n [] := ⟨List.nodup_nil, fun _ h => nomatch h⟩
theorem OKK.ins {n : Nat} {K : List P3} {p : P3} (h : OKK n K) (hp : p ∈ mids n) : OKK n (insK K p) := ⟨insK_nd h.1 p, fun q hq => by
  rcases mem_insK.mp hq with z | z
  · exact h.2 q z
  · rw [z]; exact hp⟩
end Rm
namespace Rm
end Rm
namespace Rm
end Rm
namespace PF
end PF
namespace Rm
end Rm
namespace PF
open Rm
end PF
namespace Rm
end Rm
namespace Rm
def cd (p : P3) : Nat → Int
  | 0 => p.1
  | 1 => p.2.1
  | _ => p.2.2
end Rm
set_option Elab.async false
set_option linter.all false
set_option maxRecDepth 100000
set_option maxHeartbeats 0
set_option autoImplicit false
namespace PF
open PySem PySem.Spec PyProof.Rows L2
theorem boxH.nt {o : HO} (h : boxH o) : ∀ ps, o ≠ .tbl ps := fun ps e => by subst e; exact h
theorem Ls.le {G H : Hp} (l : Ls G H) : Le G H := fun a o e => by
  obtain ⟨o', e', g⟩ := l a o e
  refine ⟨o', e', ?_⟩
  rcases g with g | ⟨ps, g, q⟩
  · rw [g]; exact .refl
  · exact q
theorem upd_keep {G : Hp} {p : Addr} {o : HO} (h : G p = none) : ∀ a u, G a = some u → L2.upd G p o a = some u := fun a u e => by
  rw [upd_ne (ne_of_none e h)]; exact e
theorem Le.upd {G : Hp} {p : Addr} {o : HO} (h : G p = none) : Le G (upd G p o) := .of fun a u e => by
  rw [upd_ne (ne_of_none e h)]; exact e
theorem Ls.upd {G : Hp} {p : Addr} {o : HO} (h : G p = none) : Ls G (L2.upd G p o) := .of fun a u e => by
  rw [upd_ne (by rintro rfl; rw [h] at e; cases e)]; exact e
theorem Le.upd2 {G H : Hp} {p : Addr} {o : HO} (l : Le G H) : Le (L2.upd G p o) (L2.upd H p o) := fun a u e => by
  by_cases h : a = p
  · subst h; rw [upd_same] at e ⊢; exact ⟨u, e, .refl⟩
  · rw [upd_ne h] at e ⊢; exact l _ _ e
theorem Le.updR {G H : Hp} {p : Addr} {o : HO} (l : Le G H) (h : G p = none) : Le G (L2.upd H p o) := fun a u e => by
  rw [upd_ne (ne_of_none e h)]; exact l _ _ e
section
variable {K : PySem.W.Frag} {B : Tb} {G G' H H' : Hp}
mutual
/-- what is owned, read over a heap that says no less than the shared part and the owned places -/
theorem Own.rep (le : Le G G') : ∀ {d : D} {t : T} {v : V} {l : List Addr}, Own K B G H d t v l → At l H G' → Rep K B G' d v
  | .non, _, _, _, h, _ => by simp only [Own] at h; simp only [Rep]; exact h.1
  | .bl _, _, _, _, h, _ => by simp only [Own] at h; simp only [Rep]; exact h.1
  | .int _, _, _, _, h, _ => by simp only [Own] at h; simp only [Rep]; exact h.1
  | .str _, _, _, _, h, _ => by simp only [Own] at h; simp only [Rep]; exact h.1
  | .raw _, _, _, _, h, _ => by simp only [Own] at h; simp only [Rep]; exact h.1
  | .tup ds, _, _, _, h, _ => by simp only [Own] at h; exact h.1.mono le
  | .scr _, _, _, _, h, _ => by simp only [Own] at h; exact h.1.mono le
  | .lst ds, t, v, l, h, k => by
    cases t with
    | L t' =>
      simp only [Own] at h
      obtain ⟨a, vs, l', e, ha, el, r⟩ := h
      subst el
      simp only [Rep]
      exact ⟨a, vs, e, k.head.trans ha, Owns.rep le r k.tail⟩
    | _ => simp only [Own] at h; exact h.1.mono le
  | .dct z kvs, t, v, l, h, k => by
    cases t with
    | M t' =>
      simp only [Own] at h
      obtain ⟨a, ks, l', e, ha, el, r⟩ := h
      subst el
      simp only [Rep]
      exact ⟨a, ks, e, (ha.keep k.head).at, OwnP.rep le r k.tail⟩
    | _ => simp only [Own] at h; exact h.1.mono le
  | .obj c fs, t, v, l, h, k => by
    cases t with
    | R ts =>
      simp only [Own] at h
      obtain ⟨a, dx, vs, l', e, ha, el, r⟩ := h
      subst el
      simp only [Rep]
      exact ⟨a, dx, vs, e, k.head.trans ha, OwnF.rep le r k.tail⟩
    | _ => simp only [Own] at h; exact h.1.mono le
theorem Owns.rep (le : Le G G') : ∀ {ds : List D} {t : T} {vs : List V} {l : List Addr}, Owns K B G H ds t vs l → At l H G' → Reps K B G' ds vs
  | [], _, _, _, h, _ => by simp only [Owns] at h; simp only [Reps]; exact h.1
  | d :: ds, t, vs, l, h, k => by
    simp only [Owns] at h
    obtain ⟨v, r, l1, l2, e, el, h1, h2⟩ := h
    subst el
    simp only [Reps]
    exact ⟨v, r, e, Own.rep le h1 k.left, Owns.rep le h2 k.right⟩
theorem OwnP.rep (le : Le G G') : ∀ {ds : List (D × D)} {t : T} {vs : List (D × V)} {l : List Addr}, OwnP K B G H ds t vs l → At l H G' → RepP K B G' ds vs
  | [], _, _, _, h, _ => by simp only [OwnP] at h; simp only [RepP]; exact h.1
  | (k', d) :: ds, t, vs, l, h, k => by
    simp only [OwnP] at h
    obtain ⟨v, r, l1, l2, e, el, h1, h2⟩ := h
    subst el
    simp only [RepP]
    exact ⟨v, r, e, Own.rep le h1 k.left, OwnP.rep le h2 k.right⟩
theorem OwnF.rep (le : Le G G') : ∀ {ds : List (Nat × D)} {t : List T} {vs : List (Str × V)} {l : List Addr}, OwnF K B G H ds t vs l → At l H G' → RepF K B G' ds vs
  | [], _, _, _, h, _ => by simp only [OwnF] at h; simp only [RepF]; exact h.1
  | (k', d) :: ds, t, vs, l, h, k => by
    simp only [OwnF] at h
    obtain ⟨v, r, l1, l2, e, el, h1, h2⟩ := h
    subst el
    simp only [RepF]
    exact ⟨v, r, e, Own.rep le h1 k.left, OwnF.rep le h2 k.right⟩
end
end
section
variable {K : PySem.W.Frag} {B : Tb} {G G' H H' : Hp}
theorem OwnAll.append : ∀ {xs ys : List Rs} {l m : List Addr}, OwnAll K B G H xs l → OwnAll K B G H ys m → OwnAll K B G H (xs ++ ys) (l ++ m)
  | [], ys, _, m, h, h2 => by rw [show _ = [] from h]; exact h2
  | (t, d, v) :: r, ys, _, m, ⟨l1, l2, e, h1, h2⟩, h3 => by
    subst e
    exact ⟨l1, l2 ++ m, by rw [List.append_assoc], h1, OwnAll.append h2 h3⟩
/-- read over the whole heap -/
theorem Own.see (le : Le G H) {d : D} {t : T} {v : V} {l : List Addr} (h : Own K B G H d t v l) : Rep K B H d v := h.rep le fun _ _ => rfl
theorem Okx.see {t : T} {d : D} {v : V} {xs : List Rs} (h : Okx K B G H ((t, d, v) :: xs)) : Rep K B H d v := by
  obtain ⟨l, q⟩ := h.head
  exact q.see h.le
theorem Own.repF {d : D} {v : V} {l : List Addr} (h : Own K B G H d .F v l) : Rep K B G d v ∧ l = [] := by
  cases d <;> simp only [Own, Rep] at h ⊢ <;> exact h
theorem Okx.headF {d : D} {v : V} {xs : List Rs} (h : Okx K B G H ((.F, d, v) :: xs)) : Rep K B G d v := by
  obtain ⟨l, q⟩ := h.head
  exact q.repF.1
/-- a resource is shared: its places go to the shared part -/
theorem Okx.freeze {t : T} {d : D} {v : V} {xs : List Rs} (h : Okx K B G H ((t, d, v) :: xs)) : ∃ G', Le G G' ∧ Okx K B G' H ((.F, d, v) :: xs) := by
  obtain ⟨le, gx, l, ⟨l1, l2, e, h1, h2⟩, nd, dj⟩ := h
  subst e
  have nd' := List.nodup_append.mp nd
  have leG : Le G (fun a => if a ∈ l1 then H a else G a) := by
    intro a o ha
    show ∃ o', (if a ∈ l1 then H a else G a) = some o' ∧ Gw o o'
    split
    · exact le a o ha
    · exact ⟨o, ha, .refl⟩
  refine ⟨fun a => if a ∈ l1 then H a else G a, leG, ?_, fun G' l' => gx G' (leG.trans l'), l2, ⟨[], l2, rfl, Rep.own (h1.rep ?_ ?_), h2.mono ?_ fun _ _ => rfl⟩, nd'.2.1, fun a ha => ?_⟩
  · intro a o ha
    have ha : (if a ∈ l1 then H a else G a) = some o := ha
    split at ha
    · exact ⟨o, ha, .refl⟩
    · exact le a o ha
  · intro a o ha
    show ∃ o', (if a ∈ l1 then H a else G a) = some o' ∧ Gw o o'
    split
    · exact le a o ha
    · exact ⟨o, ha, .refl⟩
  · intro a ha
    show (if a ∈ l1 then H a else G a) = H a
    rw [if_pos ha]
  · intro a o ha
    show ∃ o', (if a ∈ l1 then H a else G a) = some o' ∧ Gw o o'
    split
    · exact le a o ha
    · exact ⟨o, ha, .refl⟩
  · show (if a ∈ l1 then H a else G a) = none
    rw [if_neg (fun q => nd'.2.2 a q a ha rfl)]
    exact dj a (List.mem_append_right _ ha)
/-- all resources at the head are shared -/
theorem Okx.freezes {xs : List Rs} : ∀ {ys : List Rs} {G : Hp}, Okx K B G H (ys ++ xs) → ∃ G', Le G G' ∧ Okx K B G' H (ys.map (fun y => (T.F, y.2)) ++ xs)
  | [], G, h => ⟨G, .refl, h⟩
  | (t, d, v) :: r, G, h => by
    obtain ⟨G1, l1, h1⟩ := Okx.freeze h
    have h2 := h1.perm (ys := r ++ ((.F, d, v) :: xs)) (List.perm_middle.symm)
    obtain ⟨G2, l2, h3⟩ := Okx.freezes h2
    exact ⟨G2, l1.trans l2, h3.perm List.perm_middle⟩
/-- the heap has grown -/
theorem Okx.grow {xs : List Rs} (h : Okx K B G H xs) (k : ∀ a o, H a = some o → H' a = some o) : Okx K B G H' xs :=
  h.mono (h.le.trans (.of k)) fun a o ho _ => by rw [ho]; exact k _ _ ho
theorem Okx.new {xs : List Rs} {p : Addr} (h : Okx K B G H xs) (hp : H p = none) : G p = none := by
  cases e : G p with
  | none => rfl
  | some u =>
    obtain ⟨_, q, _⟩ := h.le _ _ e
    rw [q] at hp
    cases hp
/-- a shared object is laid -/
theorem Okx.layF {xs : List Rs} {p : Addr} {o : HO} (h : Okx K B G H xs) (hp : H p = none) : Le G (upd G p o) ∧ Okx K B (upd G p o) (upd H p o) xs := by
  have gp := h.new hp
  obtain ⟨le, gx, l, h1, nd, dj⟩ := h
  have np : ∀ a ∈ l, a ≠ p := fun a ha => by
    obtain ⟨u, hu, _⟩ := h1.there a ha
    exact ne_of_none hu hp
  exact ⟨.upd gp, le.upd2, fun G' l' => gx G' ((Le.upd gp).trans l'), l, h1.mono (.upd gp) fun a ha => upd_ne (np a ha), nd, fun a ha => by rw [upd_ne (np a ha)]; exact dj a ha⟩
/-- an object is laid that is owned, of what is owned -/
theorem Okx.layO {xs ys : List Rs} {p : Addr} {o : HO} {t : T} {d : D} {v : V} (h : Okx K B G H (ys ++ xs)) (hp : H p = none)
    (k : ∀ (G' H' : Hp) (l : List Addr), Le G G' → H' p = some o → OwnAll K B G' H' ys l → ∃ m, Own K B G' H' d t v m ∧ (p :: l).Perm m) : Okx K B G (upd H p o) ((t, d, v) :: xs) := by
  have gp := h.new hp
  obtain ⟨le, gx, l, h1, nd, dj⟩ := h
  have np : ∀ a ∈ l, a ≠ p := fun a ha => by
    obtain ⟨u, hu, _⟩ := h1.there a ha
    exact ne_of_none hu hp
  have h2 : OwnAll K B G (upd H p o) (ys ++ xs) l := h1.mono .refl fun a ha => upd_ne (np a ha)
  obtain ⟨l1, l2, e, h3, h4⟩ := h2.split
  subst e
  obtain ⟨m, h5, q⟩ := k G (upd H p o) l1 .refl upd_same h3
  have q2 : (p :: (l1 ++ l2)).Perm (m ++ l2) := List.Perm.append_right l2 q
  refine ⟨le.updR gp, gx, m ++ l2, ⟨m, l2, rfl, h5, h4⟩, q2.nodup (List.nodup_cons.mpr ⟨fun z => np p z rfl, nd⟩), fun a ha => ?_⟩
  rcases List.mem_cons.mp (q2.mem_iff.mpr ha) with z | z
  · rw [z]; exact gp
  · exact dj a z
/-- an owned object is changed: what stood before, with what is put in, makes what stands behind, with what is let go -/
theorem Okx.write {xs ys zs : List Rs} {p : Addr} {o : HO} (h : Okx K B G H (ys ++ xs)) 
    (k : ∀ (l : List Addr), OwnAll K B G H ys l → l.Nodup → p ∈ l ∧ ∃ m l', OwnAll K B G (upd H p o) zs m ∧ l.Perm (m ++ l')) : Okx K B G (upd H p o) (zs ++ xs) := by
  obtain ⟨le, gx, l, h1, nd, dj⟩ := h
  obtain ⟨l1, l2, e, h3, h4⟩ := h1.split
  subst e
  have nd1 := List.nodup_append.mp nd
  obtain ⟨hp, m, l', h5, q⟩ := k l1 h3 nd1.1
  have h6 : OwnAll K B G (upd H p o) xs l2 := h4.mono .refl fun a ha => upd_ne fun z => nd1.2.2 p hp a ha z.symm
  have q2 : (l1 ++ l2).Perm (m ++ l' ++ l2) := List.Perm.append_right l2 q
  have nd2 := q2.nodup nd
  have gp : G p = none := dj p (List.mem_append_left _ hp)
  refine ⟨le.updR gp, gx, m ++ l2, h5.append h6, ?_, fun a ha => dj a (q2.mem_iff.mpr ?_)⟩
  · rw [List.append_assoc] at nd2
    exact nd2.sublist (List.Sublist.append_left (List.sublist_append_right _ _) _)
  · rcases List.mem_append.mp ha with z | z
    · exact List.mem_append_left _ (List.mem_append_left _ z)
    · exact List.mem_append_right _ z
end
end PF
namespace PF
open PySem L2
def R.bind {α β : Type} (r : R α) (k : α → Env → R β) : R β := match r with
  | .ok a ρ => k a ρ
  | .exc c fs ρ => .exc c fs ρ
  | .stuck => .stuck
theorem R.wp_bind {α β : Type} {r : R α} {k : α → Env → R β} {Q : β → Env → Prop} {E : Nat → List (Nat × D) → Env → Prop} :
    (r.bind k).wp Q E = r.wp (fun a ρ => (k a ρ).wp Q E) E := by
  cases r <;> rfl
section
variable {K : PySem.W.Frag} {B : Tb} {G G' H H' : Hp} {σ : St} {ρ : Env} {κ κ' : List Rs} {pv : List (Nat × V)}
theorem StOk.le (h : StOk K B G H σ ρ κ pv) : Le G H := h.ok.le
theorem StOk.permK (h : StOk K B G H σ ρ κ pv) (p : κ.Perm κ') : StOk K B G H σ ρ κ' pv := h.with (h.ok.perm (p.append_left _))
theorem StOk.grow (h : StOk K B G H σ ρ κ pv) (k : ∀ a o, H a = some o → H' a = some o) : StOk K B G H' σ ρ κ pv := h.with (h.ok.grow k)
theorem StOk.headF {d : D} {v : V} (h : StOk K B G H σ ρ ((.F, d, v) :: κ) pv) : Rep K B G d v := (h.rot (ys := [(.F, d, v)])).headF
theorem StOk.see {t : T} {d : D} {v : V} (h : StOk K B G H σ ρ ((t, d, v) :: κ) pv) : Rep K B H d v := (h.rot (ys := [(t, d, v)])).see
theorem StOk.freeze {t : T} {d : D} {v : V} (h : StOk K B G H σ ρ ((t, d, v) :: κ) pv) : ∃ G', Le G G' ∧ StOk K B G' H σ ρ ((.F, d, v) :: κ) pv := by
  obtain ⟨G', l, o⟩ := (h.rot (ys := [(t, d, v)])).freeze
  exact ⟨G', l, h.with (Okx.unrot (ys := [(T.F, d, v)]) o)⟩
theorem StOk.freezes {ys : List Rs} (h : StOk K B G H σ ρ (ys ++ κ) pv) : ∃ G', Le G G' ∧ StOk K B G' H σ ρ (ys.map (fun y => (T.F, y.2)) ++ κ) pv := by
  obtain ⟨G', l, o⟩ := h.rot.freezes
  exact ⟨G', l, h.with o.unrot⟩
theorem ents_setR {σ : St} {ρ : Env} {i : Nat} {v : V} (r : Option TD) (h : σ[i]? = some (some v)) : ents σ (ρ.set i r) = (ents σ ρ).set i (ent (some v) r) := by
  rw [← ents_set, set_self h]
/-- the resource of the name i, and what comes of it, in its place -/
theorem StOk.turn {i : Nat} {t t' : T} {d d' : D} {v : V} {ys zs : List Rs} (h : StOk K B G H σ ρ (ys ++ κ) pv) (e : ρ[i]? = some (some (t, d))) (hv : σ[i]? = some (some v))
    (k : ∀ xs, Okx K B G H ((t, d, v) :: ys ++ xs) → Okx K B G' H' ((t', d', v) :: zs ++ xs)) : StOk K B G' H' σ (ρ.set i (some (t', d'))) (zs ++ κ) pv := by
  have hi : i < ρ.length := (List.getElem?_eq_some_iff.mp e).1
  have p := perm_front (ents_at e hv)
  have o : Okx K B G H (((t, d, v) :: ys) ++ ((ents σ ρ).eraseIdx i ++ κ)) := h.ok.perm (by
    refine (p.append_right _).trans ?_
    rw [List.cons_append, List.cons_append, ← List.append_assoc, ← List.append_assoc]
    exact (List.perm_append_comm.append_right κ).cons _)
  have o2 := k _ o
  refine ⟨by simpa using h.len, fun j t1 d1 e1 => ?_, o2.perm ?_, h.pvs, h.xps⟩
  · by_cases q : j = i
    · subst q; exact ⟨v, hv⟩
    · rw [List.getElem?_set_ne (Ne.symm q)] at e1
      exact h.val _ _ _ e1
  · rw [ents_setR _ hv]
    have p2 : ((ents σ ρ).set i (ent (some v) (some (t', d')))).Perm ((t', d', v) :: (ents σ ρ).eraseIdx i) := set_perm _ (by rw [h.lenE]; exact hi)
    refine List.Perm.symm ((p2.append_right (zs ++ κ)).trans ?_)
    rw [List.cons_append, List.cons_append, ← List.append_assoc, ← List.append_assoc]
    exact (List.perm_append_comm.append_right κ).cons _
/-- a name is stored: the resource at the front goes there, what was there is let go -/
theorem StOk.store {i : Nat} {t : T} {d : D} {v : V} (h : StOk K B G H σ ρ ((t, d, v) :: κ) pv) (hi : i < ρ.length) (hp : ∀ p ∈ pv, p.1 ≠ i) : StOk K B G H (σ.set i (some v)) (ρ.set i (some (t, d))) κ pv := by
  refine ⟨by simpa using h.len, fun j t1 d1 e1 => ?_, ?_, fun p hp' => ?_, h.xps⟩
  · by_cases q : j = i
    · subst q
      exact ⟨v, List.getElem?_set_self (by rw [h.len]; exact hi)⟩
    · rw [List.getElem?_set_ne (Ne.symm q)] at e1 ⊢
      exact h.val _ _ _ e1
  · rw [ents_set]
    have hl : i < (ents σ ρ).length := by rw [h.lenE]; exact hi
    have p1 : (ents σ ρ).Perm ((ents σ ρ)[i] :: (ents σ ρ).eraseIdx i) := perm_front (List.getElem?_eq_getElem hl)
    have o := h.ok.perm (ys := (ents σ ρ)[i] :: ((t, d, v) :: ((ents σ ρ).eraseIdx i ++ κ))) (by
      refine (p1.append_right _).trans ?_
      rw [List.cons_append]
      exact List.perm_middle.cons _)
    refine o.tail.perm (List.Perm.symm ?_)
    exact ((set_perm (ent (some v) (some (t, d))) hl).append_right κ)
  · rw [List.getElem?_set_ne (Ne.symm (hp p hp'))]
    exact h.pvs p hp'
end
end PF
namespace L2
open PySem
/-- a weaker reading -/
theorem PE.weak {X : Cx} {e : Expr} {t t' : TE} (h : PE X e t) (k : ∀ σ H Q, t' σ H Q → t σ H Q) : PE X e t' := ⟨fun pins s σ H Q I q => h.run pins s σ H Q I (k _ _ _ q)⟩
theorem PT.weak {X : Cx} {e : Expr} {t t' : TT} (h : PT X e t) (k : ∀ σ H Q, t' σ H Q → t σ H Q) : PT X e t' := ⟨fun pins s σ H Q I q => h.run pins s σ H Q I (k _ _ _ q)⟩
theorem PW.weak {X : Cx} {e : Expr} {t t' : TT} (h : PW X e t) (k : ∀ σ H Q, t' σ H Q → t σ H Q) : PW X e t' := ⟨fun w pins s σ H Q I q => h.run w pins s σ H Q I (k _ _ _ q)⟩
theorem PA.weak {X : Cx} {e : List Expr} {t t' : TA} (h : PA X e t) (k : ∀ σ H Q, t' σ H Q → t σ H Q) : PA X e t' := ⟨fun pos pins s σ H Q I q => h.run pos pins s σ H Q I (k _ _ _ q)⟩
theorem PS.weak {X : Cx} {e : Stmt} {t t' : TS} (h : PS X e t) (k : ∀ D σ H, t' D σ H → t D σ H) : PS X e t' := ⟨fun pins s σ H D I q => h.run pins s σ H D I (k _ _ _ q)⟩
theorem PSs.weak {X : Cx} {e : List Stmt} {t t' : TS} (h : PSs X e t) (k : ∀ D σ H, t' D σ H → t D σ H) : PSs X e t' := ⟨fun pins s σ H D I q => h.run pins s σ H D I (k _ _ _ q)⟩
end L2
namespace PF
open PySem L2
section
variable {α β γ δ : Type}
theorem Fin.bind {k : Kd α β} {ka : Kd γ δ} {X : Cx} {C : Ct} {q qa : Bool} {G0 H0 : Hp} {ρ0 : Env} {σ : L2.St} {H : Hp} {Q : β → Hp → Prop} {P : Hp → Hp → Prop} {tmp : List Rs} {fa : Env → R γ} {g : γ → Env → R α}
    (h : Fin k X C q G0 H0 ρ0 σ H Q P tmp fun ρ => (fa ρ).bind g) (hq : q = true → qa = true) :
    RT ka X C qa fa σ H fun b H1 => ∃ a, Fin k X C q G0 H0 ρ0 σ H1 Q (fun G H => ka.rel X.K C.B σ a b G H) (ka.rs a b ++ tmp) (g a) := by
  obtain ⟨G, ρ, κ, W, pv, st, _, ok, tk, w⟩ := h
  rw [R.wp_bind] at w
  refine ⟨G, H, ρ, G, ρ, tmp ++ κ, W, pv, .refl, trivial, ok, tk, R.wp_mono w (fun a ρ1 w1 => ?_) fun c fs ρ1 w1 => ?_⟩
  · intro b G' H' r st' ok'
    exact ⟨a, G', ρ1, κ, W, pv, st.trans st' hq, r, by rw [List.append_assoc]; exact ok', tk, w1⟩
  · intro cls dO G' H' l x ok'
    exact w1 cls dO G' H' (st.1.trans l) x ok'.drop
/-- a first part, then the rest: the form of most rules -/
theorem RT.bind {k : Kd α β} {ka : Kd γ δ} {X : Cx} {C : Ct} {q qa : Bool} {σ : L2.St} {H : Hp} {Q : β → Hp → Prop} {fa : Env → R γ} {g : γ → Env → R α}
    (h : RT k X C q (fun ρ => (fa ρ).bind g) σ H Q) (hq : q = true → qa = true) {Q' : δ → Hp → Prop}
    (m : ∀ a b H1 G0 H0 ρ0, Fin k X C q G0 H0 ρ0 σ H1 Q (fun G H => ka.rel X.K C.B σ a b G H) (ka.rs a b) (g a) → Q' b H1) : RT ka X C qa fa σ H Q' := by
  obtain ⟨G0, H0, ρ0, f⟩ := h
  refine (f.bind (ka := ka) hq).mono fun b H1 ⟨a, z⟩ => m a b H1 G0 H0 ρ0 ?_
  rw [List.append_nil] at z
  exact z
theorem Fin.next {k : Kd α β} {ka : Kd γ δ} {X : Cx} {C : Ct} {q qa : Bool} {G0 H0 : Hp} {ρ0 : Env} {σ : L2.St} {H : Hp} {Q : β → Hp → Prop} {P : Hp → Hp → Prop} {tmp : List Rs} {fa : Env → R γ} {g : γ → Env → R α}
    (h : Fin k X C q G0 H0 ρ0 σ H Q P tmp fun ρ => (fa ρ).bind g) (hq : q = true → qa = true) {Q' : δ → Hp → Prop}
    (m : ∀ a b H1, Fin k X C q G0 H0 ρ0 σ H1 Q (fun G H => ka.rel X.K C.B σ a b G H) (ka.rs a b ++ tmp) (g a) → Q' b H1) : RT ka X C qa fa σ H Q' :=
  (h.bind (ka := ka) hq).mono fun b H1 ⟨a, z⟩ => m a b H1 z
end
def kB : Kd TD V := ⟨fun _ _ => [], fun K B _ td v G H => ∃ l, Own K B G H td.2 td.1 v l⟩
def kT : Kd Bool Bool := ⟨fun _ _ => [], fun _ _ _ a b _ _ => a = b⟩
def rsL : List TD → List V → List Rs
  | td :: r, v :: vs => (td.1, td.2, v) :: rsL r vs
  | _, _ => []
def kA : Kd (List TD) (List V) := ⟨rsL, fun _ _ _ tds vs _ _ => tds.length = vs.length⟩
abbrev DE (X : Cx) (C : Ct) (q : Bool) (e : Expr) (f : Env → R TD) : Prop := PE X e (RT kE X C q f)
abbrev DB (X : Cx) (C : Ct) (q : Bool) (e : Expr) (f : Env → R TD) : Prop := PE X e (RT kB X C q f)
abbrev DT (X : Cx) (C : Ct) (q : Bool) (e : Expr) (f : Env → R Bool) : Prop := PT X e (RT kT X C q f)
abbrev DW (X : Cx) (C : Ct) (q : Bool) (e : Expr) (f : Env → R Bool) : Prop := PW X e (RT kT X C q f)
abbrev DA (X : Cx) (C : Ct) (q : Bool) (es : List Expr) (f : Env → R (List TD)) : Prop := PA X es (RT kA X C q f)
def ret (td : TD) : Env → R TD := fun ρ => .ok td ρ
def retP (d : D) : Env → R TD := fun ρ => .ok (.F, d) ρ
def fC (d : D) : Env → R TD := fun ρ => .ok (.F, d) ρ
def isBox : D → Bool
  | .lst _ => true
  | .dct _ _ => true
  | .obj _ _ => true
  | _ => false
/-- a name, looked at -/
def bV (i : Nat) : Env → R TD := fun ρ => match ρ[i]? with
  | some (some td) => .ok td ρ
  | _ => .stuck
def isF : T → Bool
  | .F => true
  | _ => false
/-- a name, whose value goes on: what it owned is shared from now on -/
def fV (i : Nat) : Env → R TD := fun ρ => match ρ[i]? with
  | some (some (t, d)) => .ok (.F, d) (if isF t || !isBox d then ρ else ρ.set i (some (.F, d)))
  | _ => .stuck
/-- a name whose value is shared or plain -/
def qV (i : Nat) : Env → R TD := fun ρ => match ρ[i]? with
  | some (some (t, d)) => if isF t || !isBox d then .ok (.F, d) ρ else .stuck
  | _ => .stuck
section
variable {X : Cx} {C : Ct} {q qa qb : Bool} {e a b : Expr} {f fa fb : Env → R TD} {pos : Pos}
variable {K : PySem.W.Frag} {B : Tb} {G H : Hp}
theorem Own.plain {d : D} {t : T} {v : V} {l : List Addr} (h : Own K B G H d t v l) (p : isBox d = false) : Rep K B G d v := by
  cases d <;> simp only [Own, Rep, isBox] at h p ⊢ <;> first | exact h.1 | exact absurd p (by decide)
theorem isF_eq {t : T} (h : isF t = true) : t = .F := by cases t <;> first | rfl | cases h
theorem Own.shared {d : D} {t : T} {v : V} {l : List Addr} (h : Own K B G H d t v l) (p : (isF t || !isBox d) = true) : Rep K B G d v := by
  rcases Bool.or_eq_true_iff.mp p with z | z
  · rw [isF_eq z] at h; exact h.repF.1
  · exact h.plain (by simpa using z)
/-- a value may be looked at -/
theorem DE.db (h : DE X C q e f) : DB X C q e f := h.weak fun σ H Q z => by
  obtain ⟨G0, H0, ρ0, G, ρ, κ, W, pv, st, p, ok, tk, w⟩ := z
  refine ⟨G0, H0, ρ0, G, ρ, κ, W, pv, st, p, ok, tk, R.wp_mono w (fun td ρ' w1 v G' H' _ s o => ?_) fun _ _ _ z => z⟩
  exact w1 v G' H' o.head s o.tail
theorem primV_rep {d : D} {v : V} (h : primV d = some v) : Rep K B G d v := by
  cases d <;> simp only [primV, Option.some.injEq, Rep] at h ⊢ <;> first | exact h.symm | cases h
theorem Fin.ret {k : Kd TD V} {Q : VK} {G0 H0 : Hp} {ρ0 : Env} {σ : L2.St} {P : Hp → Hp → Prop} {tmp : List Rs} {d : D} {v : V} (hk : k = kE)
    (h : Fin k X C q G0 H0 ρ0 σ H Q P tmp (retP d)) (r : primV d = some v) : Q v H := by
  subst hk
  obtain ⟨G, ρ, κ, W, pv, st, p, ok, tk, w⟩ := h
  exact w v G H trivial st (ok.drop.addF (primV_rep r))
theorem de_const {v : V} {d : D} (h : PE X e (tC v)) (r : primV d = some v) : DE X C true e (fC d) := h.weak fun σ H Q z => by
  obtain ⟨G0, H0, ρ0, f⟩ := z
  exact f.ret rfl r
theorem de_int {i : Int} {j : Nat} : DE X C true (.Constant (.int i) j pos) (fC (.int i)) := de_const pe_int rfl
theorem de_bl {b : Bool} {j : Nat} : DE X C true (.Constant (.bool b) j pos) (fC (.bl b)) := de_const pe_bl rfl
theorem de_non {j : Nat} : DE X C true (.Constant .none j pos) (fC .non) := de_const pe_non rfl
theorem de_str {x : PySem.Str} {j : Nat} : DE X C true (.Constant (.str x) j pos) (fC (.str x)) := de_const pe_str rfl
/-- names -/
theorem db_var {i : Nat} {x : PySem.Str} (h : PE X (.Name x pos) (tVar i)) : DB X C true (.Name x pos) (bV i) := h.weak fun σ H Q z => by
  obtain ⟨G0, H0, ρ0, G, ρ, κ, W, pv, st, p, ok, tk, w⟩ := z
  unfold bV at w
  cases e : ρ[i]? with
  | none => rw [e] at w; exact w.elim
  | some o => cases o with
    | none => rw [e] at w; exact w.elim
    | some td =>
      rw [e] at w
      obtain ⟨v, l, hv, q⟩ := ok.at (i := i) (t := td.1) (d := td.2) e
      exact ⟨v, hv, w v G H ⟨l, q⟩ st ok⟩
theorem de_qvar {i : Nat} {x : PySem.Str} (h : PE X (.Name x pos) (tVar i)) : DE X C true (.Name x pos) (qV i) := h.weak fun σ H Q z => by
  obtain ⟨G0, H0, ρ0, G, ρ, κ, W, pv, st, p, ok, tk, w⟩ := z
  unfold qV at w
  cases e : ρ[i]? with
  | none => rw [e] at w; exact w.elim
  | some o => cases o with
    | none => rw [e] at w; exact w.elim
    | some td =>
      obtain ⟨t, d⟩ := td
      rw [e] at w
      obtain ⟨v, l, hv, q⟩ := ok.at e
      dsimp only at w
      cases hb : (isF t || !isBox d) with
      | false => rw [hb] at w; exact w.elim
      | true =>
        rw [hb, if_pos rfl] at w
        exact ⟨v, hv, w v G H trivial st (ok.addF (q.shared hb))⟩
theorem de_var {i : Nat} {x : PySem.Str} (h : PE X (.Name x pos) (tVar i)) : DE X C false (.Name x pos) (fV i) := h.weak fun σ H Q z => by
  obtain ⟨G0, H0, ρ0, G, ρ, κ, W, pv, st, p, ok, tk, w⟩ := z
  unfold fV at w
  cases e : ρ[i]? with
  | none => rw [e] at w; exact w.elim
  | some o => cases o with
    | none => rw [e] at w; exact w.elim
    | some td =>
      obtain ⟨t, d⟩ := td
      rw [e] at w
      obtain ⟨v, l, hv, q⟩ := ok.at e
      refine ⟨v, hv, ?_⟩
      dsimp only at w
      cases hb : (isF t || !isBox d) with
      | true =>
        rw [hb, if_pos rfl] at w
        exact w v G H trivial st (ok.addF (q.shared hb))
      | false =>
        rw [hb, if_neg (by decide)] at w
        -- the resource is shared
        have hi : i < ρ.length := (List.getElem?_eq_some_iff.mp e).1
        have pm := (perm_front (ents_at e hv)).append_right κ
        obtain ⟨G', le, o⟩ := (ok.ok.perm pm).freeze
        have hr := o.headF
        have ok2 : StOk X.K C.B G' H σ (ρ.set i (some (.F, d))) κ pv := by
          refine ⟨by simpa using ok.len, fun j t1 d1 e1 => ?_, o.perm ?_, ok.pvs, ok.xps⟩
          · by_cases qq : j = i
            · subst qq; exact ⟨v, hv⟩
            · rw [List.getElem?_set_ne (Ne.symm qq)] at e1
              exact ok.val _ _ _ e1
          · rw [ents_setR _ hv]
            exact (List.Perm.append_right κ (set_perm (T.F, d, v) (by rw [ok.lenE]; exact hi))).symm
        exact w v G' H trivial ⟨st.1.trans le, fun z => nomatch z⟩ (ok2.addF hr)
end
end PF
namespace L2
open PySem
theorem OpR.weak {X : Cx} {f : Value → Value → Sem Value} {r r' : R2} (h : OpR X f r) (k : ∀ x y H Q, r' x y H Q → r x y H Q) : OpR X f r' := fun pins s σ H x y v u Q I rx ry q => h pins s σ H x y v u Q I rx ry (k _ _ _ _ q)
theorem CallR.weak {X : Cx} {f : Value} {r r' : List V → Hp → VK → Prop} (h : CallR X f r) (k : ∀ xs H Q, r' xs H Q → r xs H Q) : CallR X f r' := fun pins s σ H xs us Q I rx q => h pins s σ H xs us Q I rx (k _ _ _ q)
end L2
namespace PF
open PySem L2
abbrev SZ : Nat := sizeLine
section
variable {X : Cx} {C : Ct} {q qa qb : Bool} {e a b : Expr} {f fa fb : Env → R TD} {pos : Pos}
def fBin (g : D → D → Option D) (fa fb : Env → R TD) : Env → R TD := fun ρ =>
  (fa ρ).bind fun x ρ1 => (fb ρ1).bind fun y ρ2 => match g x.2 y.2 with | some d => .ok (.F, d) ρ2 | none => .stuck
/-- an operator upon plain values -/
def rPrim (g : D → D → Option D) : R2 := fun x y H Q => ∃ d d' d2 v, primV d = some x ∧ primV d' = some y ∧ g d d' = some d2 ∧ primV d2 = some v ∧ Q v H
/-- the operator's trees are plain -/
def PrimOp (g : D → D → Option D) : Prop := ∀ d d' d2, g d d' = some d2 → (∃ x, primV d = some x) ∧ (∃ y, primV d' = some y) ∧ ∃ v, primV d2 = some v
theorem Rep.prim {K : PySem.W.Frag} {B : Tb} {G : Hp} {d : D} {v x : V} (h : Rep K B G d v) (p : primV d = some x) : v = x := h.own.prim (H := G) p
theorem de_bin {op : Operator} {g : D → D → Option D} (ho : OpR X (binaryOp op) (rPrim g)) (hg : PrimOp g) (ha : DE X C qa a fa) (hb : DE X C qb b fb) : DE X C (qa && qb) (.BinOp a op b pos) (fBin g fa fb) := by
  refine (pe_op ho ha hb).weak fun σ H Q z => ?_
  refine RT.bind (ka := kE) z (fun h => (Bool.and_eq_true_iff.mp h).1) fun x v1 H1 G0 H0 ρ0 z1 => ?_
  refine z1.next (ka := kE) (fun h => (Bool.and_eq_true_iff.mp h).2) fun y v2 H2 z2 => ?_
  cases e : g x.2 y.2 with
  | none =>
    simp only [e] at z2
    obtain ⟨G, ρ, κ, W, pv, st, p, ok, tk, w⟩ := z2
    exact w.elim
  | some d2 =>
    simp only [e] at z2
    obtain ⟨⟨x1, e1⟩, ⟨y1, e2⟩, ⟨v, e3⟩⟩ := hg _ _ _ e
    obtain ⟨G, ρ, κ, W, pv, st, p, ok, tk, w⟩ := id z2
    obtain ⟨l1, o1⟩ := ok.mem (r := (x.1, x.2, v1)) (by simp [kE])
    obtain ⟨l2, o2⟩ := ok.mem (r := (y.1, y.2, v2)) (by simp [kE])
    have h1 := o1.prim e1
    have h2 := o2.prim e2
    subst h1 h2
    exact ⟨_, _, _, v, e1, e2, e, e3, w v G H2 trivial st (ok.drop.addF (primV_rep e3))⟩
def gI (f : Int → Int → Option D) : D → D → Option D
  | .int i, .int j => f i j
  | _, _ => none
theorem gI_prim {f : Int → Int → Option D} (h : ∀ i j d, f i j = some d → ∃ v, primV d = some v) : PrimOp (gI f) := by
  intro d d' d2 e
  cases d with
  | int i => cases d' with
    | int j => exact ⟨⟨_, rfl⟩, ⟨_, rfl⟩, h i j d2 e⟩
    | _ => cases e
  | _ => cases e
theorem op_int {op : Operator} {P : Int → Int → Prop} {F : Int → Int → V} {f : Int → Int → Option D} (h : OpR X (binaryOp op) (rI P F)) (k : ∀ i j d, f i j = some d → P i j ∧ primV d = some (F i j)) : OpR X (binaryOp op) (rPrim (gI f)) :=
  h.weak fun x y H Q ⟨d, d', d2, v, e1, e2, e3, e4, q⟩ => by
    cases d with
    | int i => cases d' with
      | int j =>
        obtain ⟨p, e5⟩ := k i j d2 e3
        have e6 := e5.symm.trans e4
        cases e1; cases e2; cases e6
        exact ⟨i, j, rfl, rfl, p, q⟩
      | _ => cases e3
    | _ => cases e3
theorem op_int0 {op : Operator} {F : Int → Int → V} {f : Int → Int → Option D} (h : OpR X (binaryOp op) (rI0 F)) (k : ∀ i j d, f i j = some d → primV d = some (F i j)) : OpR X (binaryOp op) (rPrim (gI f)) :=
  h.weak fun x y H Q ⟨d, d', d2, v, e1, e2, e3, e4, q⟩ => by
    cases d with
    | int i => cases d' with
      | int j =>
        have e6 := (k i j d2 e3).symm.trans e4
        cases e1; cases e2; cases e6
        exact ⟨i, j, rfl, rfl, q⟩
      | _ => cases e3
    | _ => cases e3
def mulOk (i j : Int) : Bool := decide (i.natAbs < 2 ^ 64) || decide (j.natAbs < 2 ^ 64)
theorem mulOk_c {i j : Int} (h : mulOk i j = true) : CMul i j := by
  rcases Bool.or_eq_true_iff.mp h with z | z
  · have := of_decide_eq_true z
    exact .inl ⟨by omega, by omega⟩
  · have := of_decide_eq_true z
    exact .inr ⟨by omega, by omega⟩
def gAdd : D → D → Option D
  | .int i, .int j => some (.int (i + j))
  | .str x, .str y => if x.length + y.length ≤ SZ then some (.str (x ++ y)) else none
  | _, _ => none
def gSub : D → D → Option D := gI fun i j => some (.int (i - j))
def divOk (j : Int) : Bool := decide (j ≠ 0 ∧ j.natAbs.log2 < 9000)
theorem op_fdivX : OpR X (binaryOp .FloorDiv) (rI (fun _ j => j ≠ 0 ∧ j.natAbs.log2 < 9000) fun i j => .int (i.fdiv j)) := opI fun _ _ _ _ _ _ _ hc q => PyProof.Rows.floordiv_int hc.1 q (.inl (PyProof.noPylong_of_log2 hc.2))
def gDiv : D → D → Option D := gI fun i j => if divOk j then some (.int (i.fdiv j)) else none
def gMod : D → D → Option D := gI fun i j => if j = 0 then none else some (.int (i.fmod j))
def powOk (i j : Int) : Bool := decide (0 ≤ j) && (decide (j.toNat ≤ 1000000) && decide (i.natAbs < 2 ^ 64))
theorem powOk_iff {i j : Int} : powOk i j = true ↔ 0 ≤ j ∧ j ≤ 1000000 ∧ i.natAbs < 2 ^ 64 := by
  unfold powOk
  rw [Bool.and_eq_true, Bool.and_eq_true, decide_eq_true_eq, decide_eq_true_eq, decide_eq_true_eq]
  omega
def gPow : D → D → Option D := gI fun i j => if powOk i j then some (.int (i ^ j.toNat)) else none
def gShl : D → D → Option D := gI fun i j => if powOk i j then some (.int (i * 2 ^ j.toNat)) else none
def gShr : D → D → Option D := gI fun i j => if 0 ≤ j then some (.int (i / 2 ^ j.toNat)) else none
def gOr : D → D → Option D := gI fun i j => some (.int (Builtin.bitOr i j))
theorem gAdd_prim : PrimOp gAdd := by
  intro d d' d2 e
  cases d <;> cases d' <;> simp only [gAdd] at e <;> first
    | (injection e with e; subst e; exact ⟨⟨_, rfl⟩, ⟨_, rfl⟩, ⟨_, rfl⟩⟩)
    | (split at e <;> first | (injection e with e; subst e; exact ⟨⟨_, rfl⟩, ⟨_, rfl⟩, ⟨_, rfl⟩⟩) | cases e)
    | cases e
theorem o_sub : OpR X (binaryOp .Sub) (rPrim gSub) := op_int0 op_sub fun i j d e => by cases e; rfl
theorem o_div : OpR X (binaryOp .FloorDiv) (rPrim gDiv) := op_int op_fdivX fun i j d e => by
  split at e
  · rename_i h
    have h := of_decide_eq_true h
    cases e; exact ⟨h, rfl⟩
  · cases e
theorem o_mod : OpR X (binaryOp .Mod) (rPrim gMod) := op_int op_modN fun i j d e => by
  split at e
  · cases e
  · cases e; exact ⟨by assumption, rfl⟩
theorem o_pow : OpR X (binaryOp .Pow) (rPrim gPow) := op_int op_pow fun i j d e => by
  split at e
  · rename_i h
    have h := powOk_iff.mp h
    cases e; exact ⟨h, rfl⟩
  · cases e
theorem o_shl : OpR X (binaryOp .LShift) (rPrim gShl) := op_int op_shl fun i j d e => by
  split at e
  · rename_i h
    have h := powOk_iff.mp h
    cases e; exact ⟨h, rfl⟩
  · cases e
theorem o_shr : OpR X (binaryOp .RShift) (rPrim gShr) := op_int op_shr fun i j d e => by
  split at e
  · cases e; exact ⟨by assumption, rfl⟩
  · cases e
theorem gSub_prim : PrimOp gSub := gI_prim fun i j d e => by cases e; exact ⟨_, rfl⟩
theorem gOr_prim : PrimOp gOr := gI_prim fun i j d e => by cases e; exact ⟨_, rfl⟩
theorem gDiv_prim : PrimOp gDiv := gI_prim fun i j d e => by split at e <;> cases e; exact ⟨_, rfl⟩
theorem gMod_prim : PrimOp gMod := gI_prim fun i j d e => by split at e <;> cases e; exact ⟨_, rfl⟩
theorem gPow_prim : PrimOp gPow := gI_prim fun i j d e => by split at e <;> cases e; exact ⟨_, rfl⟩
theorem gShl_prim : PrimOp gShl := gI_prim fun i j d e => by split at e <;> cases e; exact ⟨_, rfl⟩
theorem gShr_prim : PrimOp gShr := gI_prim fun i j d e => by split at e <;> cases e; exact ⟨_, rfl⟩
abbrev fSub := fBin gSub
abbrev fDiv := fBin gDiv
abbrev fMod := fBin gMod
abbrev fPow := fBin gPow
abbrev fShl := fBin gShl
abbrev fShr := fBin gShr
theorem de_sub (ha : DE X C qa a fa) (hb : DE X C qb b fb) : DE X C (qa && qb) (.BinOp a .Sub b pos) (fSub fa fb) := de_bin o_sub gSub_prim ha hb
theorem de_div (ha : DE X C qa a fa) (hb : DE X C qb b fb) : DE X C (qa && qb) (.BinOp a .FloorDiv b pos) (fDiv fa fb) := de_bin o_div gDiv_prim ha hb
theorem de_mod (ha : DE X C qa a fa) (hb : DE X C qb b fb) : DE X C (qa && qb) (.BinOp a .Mod b pos) (fMod fa fb) := de_bin o_mod gMod_prim ha hb
theorem de_pow (ha : DE X C qa a fa) (hb : DE X C qb b fb) : DE X C (qa && qb) (.BinOp a .Pow b pos) (fPow fa fb) := de_bin o_pow gPow_prim ha hb
theorem de_shl (ha : DE X C qa a fa) (hb : DE X C qb b fb) : DE X C (qa && qb) (.BinOp a .LShift b pos) (fShl fa fb) := de_bin o_shl gShl_prim ha hb
theorem de_shr (ha : DE X C qa a fa) (hb : DE X C qb b fb) : DE X C (qa && qb) (.BinOp a .RShift b pos) (fShr fa fb) := de_bin o_shr gShr_prim ha hb
mutual
def D.py : D → PyData
  | .non => .none
  | .bl b => .bool b
  | .int i => .int i
  | .str x => .str x
  | .tup ds => .tuple (D.pys ds)
  | .lst ds => .list (D.pys ds)
  | .dct _ _ => .dict []
  | .obj _ _ => .dict []
  | .raw _ => .dict []
  | .scr _ => .dict []
def D.pys : List D → List PyData
  | [] => []
  | d :: r => D.py d :: D.pys r
end
/-- data that may be compared: no dict, no object, not too deep -/
def dsh (d : D) : Bool := SeqAt.shaped d.py
def deq (d e : D) : Bool := PyData.eqv d.py e.py
mutual
theorem Rep.dp {K : PySem.W.Frag} {B : Tb} {G : Hp} : ∀ {d : D} {v : V}, Rep K B G d v → d.py.canLay0 = true → Dp K G v d.py
  | .non, v, h, _ => by simp only [Rep] at h; subst h; simp only [D.py]; exact .non
  | .bl _, v, h, _ => by simp only [Rep] at h; subst h; simp only [D.py]; exact .bl _
  | .int _, v, h, _ => by simp only [Rep] at h; subst h; simp only [D.py]; exact .int _
  | .str _, v, h, _ => by simp only [Rep] at h; subst h; simp only [D.py]; exact .str _
  | .tup ds, v, h, c => by
    simp only [Rep] at h
    obtain ⟨a, vs, e, s, r⟩ := h
    subst e
    simp only [D.py]
    exact .tup s.1 (Reps.dp r (by simpa [D.py, PyData.canLay0] using c))
  | .lst ds, v, h, c => by
    simp only [Rep] at h
    obtain ⟨a, vs, e, s, r⟩ := h
    subst e
    simp only [D.py]
    exact .lst (SqL.of s) (Reps.dp r (by simpa [D.py, PyData.canLay0] using c))
  | .dct _ _, v, h, c => by simp [D.py, PyData.canLay0] at c
  | .obj _ _, v, h, c => by simp [D.py, PyData.canLay0] at c
  | .raw _, v, h, c => by simp [D.py, PyData.canLay0] at c
  | .scr _, v, h, c => by simp [D.py, PyData.canLay0] at c
theorem Reps.dp {K : PySem.W.Frag} {B : Tb} {G : Hp} : ∀ {ds : List D} {vs : List V}, Reps K B G ds vs → PyData.canLayAll0 (D.pys ds) = true → DpAll K G vs (D.pys ds)
  | [], vs, h, _ => by simp only [Reps] at h; subst h; simp only [D.pys]; exact .nil
  | d :: ds, vs, h, c => by
    simp only [Reps] at h
    obtain ⟨v, r, e, h1, h2⟩ := h
    subst e
    simp only [D.pys, PyData.canLayAll0, Bool.and_eq_true] at c
    simp only [D.pys]
    exact .cons (Rep.dp h1 c.1) (Reps.dp h2 c.2)
end
theorem Rep.dpS {K : PySem.W.Frag} {B : Tb} {G : Hp} {d : D} {v : V} (h : Rep K B G d v) (c : dsh d = true) : Dp K G v d.py := h.dp (SeqAt.canLay_of_shaped c)
/-- a comparison: the left one a value, the right one looked at -/
def fCmp (g : D → D → Option Bool) (fa fb : Env → R TD) : Env → R TD := fun ρ =>
  (fa ρ).bind fun x ρ1 => (fb ρ1).bind fun y ρ2 => match g x.2 y.2 with | some k => .ok (.F, .bl k) ρ2 | none => .stuck
def rCmp (X : Cx) (C : Ct) (g : D → D → Option Bool) : R2 := fun x y H Q => ∃ d d' k, Rep X.K C.B H d x ∧ Rep X.K C.B H d' y ∧ g d d' = some k ∧ Q (.bl k) H
theorem StOk.seeK {K : PySem.W.Frag} {B : Tb} {G H : Hp} {σ : L2.St} {ρ : Env} {κ : List Rs} {pv : List (Nat × V)} {r : Rs} (h : StOk K B G H σ ρ κ pv) (m : r ∈ κ) : Rep K B H r.2.1 r.2.2 := by
  obtain ⟨l, o⟩ := h.mem m
  exact o.see h.le
theorem de_cmp {op : CmpOp} {g : D → D → Option Bool} (ho : OpR X (compareOp op) (rCmp X C g)) (ha : DE X C qa a fa) (hb : DB X C qb b fb) (hm : behindInMarks op b = false) : DE X C (qa && qb) (.Compare a [op] [b] pos) (fCmp g fa fb) := by
  refine (pe_cmpR ho ha hb hm).weak fun σ H Q z => ?_
  refine RT.bind (ka := kE) z (fun h => (Bool.and_eq_true_iff.mp h).1) fun x v1 H1 G0 H0 ρ0 z1 => ?_
  refine z1.next (ka := kB) (fun h => (Bool.and_eq_true_iff.mp h).2) fun y v2 H2 z2 => ?_
  cases e : g x.2 y.2 with
  | none =>
    simp only [e] at z2
    obtain ⟨G, ρ, κ, W, pv, st, p, ok, tk, w⟩ := z2
    exact w.elim
  | some k =>
    simp only [e] at z2
    obtain ⟨G, ρ, κ, W, pv, st, p, ok, tk, w⟩ := id z2
    obtain ⟨l, o2⟩ := p
    have h1 := ok.seeK (r := (x.1, x.2, v1)) (by simp [kE, kB])
    exact ⟨_, _, k, h1, o2.see ok.le, e, w (.bl k) G H2 trivial st (ok.drop.addF (by simp only [Rep]))⟩
/-- .. as a test -/
def asT (f : Env → R TD) : Env → R Bool := fun ρ => (f ρ).bind fun x ρ1 => match x.2 with | .bl k => .ok k ρ1 | _ => .stuck
theorem dt_cmp {op : CmpOp} {g : D → D → Option Bool} (ho : OpR X (compareOp op) (rCmp X C g)) (ha : DE X C qa a fa) (hb : DB X C qb b fb) (hm : behindInMarks op b = false) : DT X C (qa && qb) (.Compare a [op] [b] pos) (asT (fCmp g fa fb)) := by
  refine (pt_cmpR ho ha hb hm).weak fun σ H Q z => ?_
  obtain ⟨G0, H0, ρ0, G, ρ, κ, W, pv, st, p, ok, tk, w⟩ := z
  unfold asT at w
  rw [R.wp_bind] at w
  unfold fCmp at w
  rw [R.wp_bind] at w
  refine ⟨G, H, ρ, G, ρ, κ, W, pv, .refl, trivial, ok, tk, R.wp_mono w (fun x ρ1 w1 v1 G1 H1 _ st1 ok1 => ?_) fun c fs ρ1 w1 cls dO G' H' l x ok' => w1 cls dO G' H' (st.1.trans l) x ok'⟩
  rw [R.wp_bind] at w1
  refine ⟨G1, H1, ρ1, G1, ρ1, (x.1, x.2, v1) :: κ, W, pv, .refl, trivial, ok1, tk, R.wp_mono w1 (fun y ρ2 w2 v2 G2 H2 hb2 st2 ok2 => ?_) fun c fs ρ2 w2 cls dO G' H' l xx ok' => w2 cls dO G' H' ((st.1.trans st1.1).trans l) xx ok'.tail⟩
  cases e : g x.2 y.2 with
  | none => simp only [e] at w2; exact w2.elim
  | some k =>
    simp only [e] at w2
    obtain ⟨l, o2⟩ := hb2
    have h1 := ok2.seeK (r := (x.1, x.2, v1)) (by simp [kB])
    refine ⟨_, _, k, h1, o2.see ok2.le, e, k, rfl, w2 k G2 H2 rfl ((st.trans st1 fun h => (Bool.and_eq_true_iff.mp h).1).trans st2 fun h => (Bool.and_eq_true_iff.mp h).2) ok2.tail⟩
def cI (f : Int → Int → Bool) : D → D → Option Bool
  | .int i, .int j => some (f i j)
  | _, _ => none
theorem c_int {op : CmpOp} {F : Int → Int → Bool} (h : OpR X (compareOp op) (rI0 fun i j => .bl (F i j))) : OpR X (compareOp op) (rCmp X C (cI F)) := h.weak fun x y H Q ⟨d, d', k, r1, r2, e, q⟩ => by
  cases d with
  | int i => cases d' with
    | int j =>
      cases e
      exact ⟨i, j, r1.prim (x := .int i) rfl, r2.prim (x := .int j) rfl, q⟩
    | _ => cases e
  | _ => cases e
def cLt := cI fun i j => decide (i < j)
def cLe := cI fun i j => decide (i ≤ j)
def cGt := cI fun i j => decide (j < i)
def cGe := cI fun i j => decide (j ≤ i)
theorem o_lt : OpR X (compareOp .Lt) (rCmp X C cLt) := c_int op_lt
theorem o_le : OpR X (compareOp .LtE) (rCmp X C cLe) := c_int op_le
theorem o_gt : OpR X (compareOp .Gt) (rCmp X C cGt) := c_int op_gt
theorem o_ge : OpR X (compareOp .GtE) (rCmp X C cGe) := c_int op_ge
def cEq (d e : D) : Option Bool := if dsh d && dsh e then some (deq d e) else none
def cNe (d e : D) : Option Bool := if dsh d && dsh e then some (!deq d e) else none
theorem o_eq (hu : X.A.units + 64 < cLine) : OpR X (compareOp .Eq) (rCmp X C cEq) := (op_eqD hu).weak fun x y H Q ⟨d, d', k, r1, r2, e, q⟩ => by
  unfold cEq at e
  split at e
  · rename_i h
    obtain ⟨h1, h2⟩ := Bool.and_eq_true_iff.mp h
    cases e
    exact ⟨_, _, r1.dpS h1, r2.dpS h2, h1, h2, q⟩
  · cases e
theorem o_ne (hu : X.A.units + 64 < cLine) : OpR X (compareOp .NotEq) (rCmp X C cNe) := (op_neD hu).weak fun x y H Q ⟨d, d', k, r1, r2, e, q⟩ => by
  unfold cNe at e
  split at e
  · rename_i h
    obtain ⟨h1, h2⟩ := Bool.and_eq_true_iff.mp h
    cases e
    exact ⟨_, _, r1.dpS h1, r2.dpS h2, h1, h2, q⟩
  · cases e
def cIsN (d e : D) : Option Bool := match e with
  | .non => match d with | .non => some true | .raw _ => none | _ => some false
  | _ => none
def cNotN (d e : D) : Option Bool := match e with
  | .non => match d with | .non => some false | .raw _ => none | _ => some true
  | _ => none
theorem Rep.isN {K : PySem.W.Frag} {B : Tb} {G : Hp} {d : D} {v : V} {k : Bool} (h : Rep K B G d v) (e : cIsN d .non = some k) : decide (v = .non) = k := by
  cases d <;> simp only [Rep] at h <;> simp only [cIsN] at e <;> first
    | (cases e; subst h; rfl)
    | (cases e; obtain ⟨a, rfl, _⟩ := h; rfl)
    | (cases e; obtain ⟨a, _, rfl, _⟩ := h; rfl)
    | (cases e; obtain ⟨a, _, _, rfl, _⟩ := h; rfl)
    | cases e
theorem o_isN : OpR X (compareOp .Is) (rCmp X C cIsN) := op_isN.weak fun x y H Q ⟨d, d', k, r1, r2, e, q⟩ => by
  cases d' <;> first
    | (refine ⟨r2.prim (x := .non) rfl, ?_⟩; rw [r1.isN e]; exact q)
    | cases e
end
end PF
namespace PF
open PySem L2
theorem SZ_eq : SZ = 16777216 := by show sizeLine = _; rw [sizeLine_eq]
section
variable {X : Cx} {C : Ct} {q qa qb : Bool} {e a b c : Expr} {f fa fb fc : Env → R TD} {pos : Pos}
variable {K : PySem.W.Frag} {B : Tb} {G G' H H' : Hp}
def tNotF (f : Env → R Bool) : Env → R Bool := fun ρ => (f ρ).bind fun k ρ1 => .ok (!k) ρ1
def tAndF (f g : Env → R Bool) : Env → R Bool := fun ρ => (f ρ).bind fun k ρ1 => if k then g ρ1 else .ok false ρ1
def tOrF (f g : Env → R Bool) : Env → R Bool := fun ρ => (f ρ).bind fun k ρ1 => if k then .ok true ρ1 else g ρ1
theorem Fin.end_ {α β : Type} {k : Kd α β} {Q : β → Hp → Prop} {q : Bool} {G0 H0 : Hp} {ρ0 : Env} {σ : L2.St} {P : Hp → Hp → Prop} {tmp : List Rs} {a : α} {b : β}
    (h : Fin k X C q G0 H0 ρ0 σ H Q P tmp fun ρ => .ok a ρ) (r : ∀ G ρ κ pv, StOk X.K C.B G H σ ρ (tmp ++ κ) pv → P G H → k.rel X.K C.B σ a b G H ∧ StOk X.K C.B G H σ ρ (k.rs a b ++ κ) pv) : Q b H := by
  obtain ⟨G, ρ, κ, W, pv, st, p, ok, tk, w⟩ := h
  obtain ⟨r1, r2⟩ := r G ρ κ pv ok p
  exact w b G H r1 st r2
theorem dt_not {f : Env → R Bool} (h : DT X C q a f) : DT X C q (.UnaryOp .Not a pos) (tNotF f) := by
  refine (pt_not h).weak fun σ H Q z => ?_
  refine RT.bind (ka := kT) z (fun h => h) fun x k H1 G0 H0 ρ0 z1 => ?_
  refine Fin.end_ (b := !k) z1 fun G ρ κ pv ok p => ⟨?_, ok.drop⟩
  exact congrArg not p
theorem dw_and1 {f : Env → R Bool} (h : DT X C q a f) : DW X C q (.BoolOp .And [a] pos) f := pw_and1 h
theorem dw_or1 {f : Env → R Bool} (h : DT X C q a f) : DW X C q (.BoolOp .Or [a] pos) f := pw_or1 h
theorem dw_and {rest : List Expr} {f g : Env → R Bool} (ha : DT X C qa a f) (hb : DW X C qb (.BoolOp .And (b :: rest) pos) g) : DW X C (qa && qb) (.BoolOp .And (a :: b :: rest) pos) (tAndF f g) := by
  refine (pw_and ha hb).weak fun σ H Q z => ?_
  refine RT.bind (ka := kT) z (fun h => (Bool.and_eq_true_iff.mp h).1) fun x k H1 G0 H0 ρ0 z1 => ?_
  have hk : x = k := by obtain ⟨G, ρ, κ, W, pv, st, p, _⟩ := id z1; exact p
  subst hk
  cases x with
  | true => exact z1.tail fun h => (Bool.and_eq_true_iff.mp h).2
  | false => exact Fin.end_ (b := false) z1 fun G ρ κ pv ok p => ⟨rfl, ok.drop⟩
theorem dw_or {rest : List Expr} {f g : Env → R Bool} (ha : DT X C qa a f) (hb : DW X C qb (.BoolOp .Or (b :: rest) pos) g) : DW X C (qa && qb) (.BoolOp .Or (a :: b :: rest) pos) (tOrF f g) := by
  refine (pw_or ha hb).weak fun σ H Q z => ?_
  refine RT.bind (ka := kT) z (fun h => (Bool.and_eq_true_iff.mp h).1) fun x k H1 G0 H0 ρ0 z1 => ?_
  have hk : x = k := by obtain ⟨G, ρ, κ, W, pv, st, p, _⟩ := id z1; exact p
  subst hk
  cases x with
  | false => exact z1.tail fun h => (Bool.and_eq_true_iff.mp h).2
  | true => exact Fin.end_ (b := true) z1 fun G ρ κ pv ok p => ⟨rfl, ok.drop⟩
theorem DW.dt {f : Env → R Bool} (h : DW X C q a f) : DT X C q a f := h.pt
def fAndV (f g : Env → R TD) : Env → R TD := fun ρ => (f ρ).bind fun x ρ1 => match x.2 with | .bl true => g ρ1 | .bl false => .ok (.F, .bl false) ρ1 | _ => .stuck
def fOrV (f g : Env → R TD) : Env → R TD := fun ρ => (f ρ).bind fun x ρ1 => match x.2 with | .bl false => g ρ1 | .bl true => .ok (.F, .bl true) ρ1 | _ => .stuck
def fNotV (f : Env → R TD) : Env → R TD := fun ρ => (f ρ).bind fun x ρ1 => match x.2 with | .bl k => .ok (.F, .bl (!k)) ρ1 | _ => .stuck
theorem Fin.no {α β : Type} {k : Kd α β} {Q : β → Hp → Prop} {q : Bool} {G0 H0 : Hp} {ρ0 : Env} {σ : L2.St} {P : Hp → Hp → Prop} {tmp : List Rs} {S : Prop}
    (h : Fin k X C q G0 H0 ρ0 σ H Q P tmp fun _ => .stuck) : S := by
  obtain ⟨G, ρ, κ, W, pv, st, p, ok, tk, w⟩ := h
  exact w.elim
theorem de_one {op : BoolOp} (h : DE X C q a f) : DE X C q (.BoolOp op [a] pos) f := pe_one h
theorem de_and {rest : List Expr} (ha : DE X C qa a fa) (hb : DE X C qb (.BoolOp .And (b :: rest) pos) fb) : DE X C (qa && qb) (.BoolOp .And (a :: b :: rest) pos) (fAndV fa fb) := by
  refine (pe_and ha hb).weak fun σ H Q z => ?_
  refine RT.bind (ka := kE) z (fun h => (Bool.and_eq_true_iff.mp h).1) fun x v H1 G0 H0 ρ0 z1 => ?_
  cases e : x.2 with
  | bl k =>
    refine ⟨k, z1.bl e, ?_⟩
    cases k with
    | true =>
      simp only [e] at z1
      exact z1.tail fun h => (Bool.and_eq_true_iff.mp h).2
    | false =>
      simp only [e] at z1
      exact z1.ret (d := .bl false) rfl rfl
  | _ => simp only [e] at z1; exact z1.no
theorem de_or {rest : List Expr} (ha : DE X C qa a fa) (hb : DE X C qb (.BoolOp .Or (b :: rest) pos) fb) : DE X C (qa && qb) (.BoolOp .Or (a :: b :: rest) pos) (fOrV fa fb) := by
  refine (pe_or ha hb).weak fun σ H Q z => ?_
  refine RT.bind (ka := kE) z (fun h => (Bool.and_eq_true_iff.mp h).1) fun x v H1 G0 H0 ρ0 z1 => ?_
  cases e : x.2 with
  | bl k =>
    refine ⟨k, z1.bl e, ?_⟩
    cases k with
    | false =>
      simp only [e] at z1
      exact z1.tail fun h => (Bool.and_eq_true_iff.mp h).2
    | true =>
      simp only [e] at z1
      exact z1.ret (d := .bl true) rfl rfl
  | _ => simp only [e] at z1; exact z1.no
/-- a if t else b -/
def fIf (t : Env → R Bool) (f g : Env → R TD) : Env → R TD := fun ρ => (t ρ).bind fun k ρ1 => if k then f ρ1 else g ρ1
def fNeg (f : Env → R TD) : Env → R TD := fun ρ => (f ρ).bind fun x ρ1 => match x.2 with | .int i => .ok (.F, .int (-i)) ρ1 | _ => .stuck
theorem de_neg (ha : DE X C q a fa) : DE X C q (.UnaryOp .USub a pos) (fNeg fa) := by
  refine (pe_un un_neg ha).weak fun σ H Q z => ?_
  refine RT.bind (ka := kE) z (fun h => h) fun x v H1 G0 H0 ρ0 z1 => ?_
  cases e : x.2 with
  | int k =>
    refine ⟨k, z1.int e, ?_⟩
    simp only [e] at z1
    exact z1.ret (d := .int (-k)) rfl rfl
  | _ => simp only [e] at z1; exact z1.no
def fNil : Env → R (List TD) := fun ρ => .ok [] ρ
def fCons (f : Env → R TD) (g : Env → R (List TD)) : Env → R (List TD) := fun ρ => (f ρ).bind fun x ρ1 => (g ρ1).bind fun xs ρ2 => .ok (x :: xs) ρ2
theorem da_nil : DA X C true [] fNil := PA.weak pa_nil fun σ H Q z => by
  obtain ⟨G0, H0, ρ0, z⟩ := z
  exact Fin.end_ (b := []) z fun G ρ κ pv ok p => ⟨rfl, ok⟩
theorem da_cons {es : List Expr} {g : Env → R (List TD)} (ha : DE X C qa a fa) (hr : DA X C qb es g) (hs : starEach (a :: es) X.env = (false, eval a X.env) :: starEach es X.env := by rfl) : DA X C (qa && qb) (a :: es) (fCons fa g) := by
  refine (pa_cons ha hr hs).weak fun σ H Q z => ?_
  refine RT.bind (ka := kE) z (fun h => (Bool.and_eq_true_iff.mp h).1) fun x v H1 G0 H0 ρ0 z1 => ?_
  refine z1.next (ka := kA) (fun h => (Bool.and_eq_true_iff.mp h).2) fun xs vs H2 z2 => ?_
  refine Fin.end_ (b := v :: vs) z2 fun G ρ κ pv ok p => ⟨?_, ok.permK ?_⟩
  · exact congrArg (· + 1) p
  · show (rsL xs vs ++ [(x.1, x.2, v)] ++ κ).Perm ((x.1, x.2, v) :: rsL xs vs ++ κ)
    rw [List.append_assoc]
    exact List.perm_middle
theorem Reps.owns : ∀ {ds : List D} {vs : List V}, Reps K B G ds vs → Owns K B G H ds .F vs []
  | [], vs, h => by simp only [Reps] at h; simp only [Owns]; exact ⟨h, trivial⟩
  | d :: r, vs, h => by
    simp only [Reps] at h
    obtain ⟨v, r', e, h1, h2⟩ := h
    simp only [Owns]
    exact ⟨v, r', [], [], e, rfl, h1.own, h2.owns⟩
theorem rsL_freeze : ∀ {tds : List TD} {vs : List V}, tds.length = vs.length → (rsL tds vs).map (fun y => (T.F, y.2)) = rsL (tds.map fun x => (T.F, x.2)) vs
  | [], vs, _ => by cases vs <;> rfl
  | x :: r, [], h => by cases h
  | x :: r, v :: vs, h => by
    show (T.F, x.2, v) :: List.map _ (rsL r vs) = (T.F, x.2, v) :: rsL _ vs
    rw [rsL_freeze (by simpa using h)]
theorem Okx.reps : ∀ {tds : List TD} {vs : List V} {xs : List Rs}, tds.length = vs.length → Okx K B G H (rsL (tds.map fun x => (T.F, x.2)) vs ++ xs) → Reps K B G (tds.map (·.2)) vs
  | [], [], _, _, _ => by simp only [List.map_nil, Reps]
  | [], _ :: _, _, h, _ => by cases h
  | _ :: _, [], _, h, _ => by cases h
  | x :: r, v :: vs, xs, h, o => by
    simp only [List.map_cons, Reps]
    have o2 : Okx K B G H ((T.F, x.2, v) :: (rsL (r.map fun x => (T.F, x.2)) vs ++ xs)) := o
    exact ⟨v, vs, rfl, o2.headF, Okx.reps (by simpa using h) o2.tail⟩
/-- the arguments are shared -/
theorem StOk.reps {σ : L2.St} {ρ : Env} {κ : List Rs} {pv : List (Nat × V)} {tds : List TD} {vs : List V} (hl : tds.length = vs.length) (h : StOk K B G H σ ρ (rsL tds vs ++ κ) pv) :
    ∃ G', Le G G' ∧ StOk K B G' H σ ρ κ pv ∧ Reps K B G' (tds.map (·.2)) vs := by
  obtain ⟨G', le, h2⟩ := h.freezes
  rw [rsL_freeze hl] at h2
  exact ⟨G', le, h2.drop, Okx.reps hl h2.rot⟩
theorem StOk.newF {σ : L2.St} {ρ : Env} {κ : List Rs} {pv : List (Nat × V)} {p : Addr} {o : HO} (h : StOk K B G H σ ρ κ pv) (hp : H p = none) : Le G (upd G p o) ∧ StOk K B (upd G p o) (upd H p o) σ ρ κ pv := by
  obtain ⟨le, o⟩ := h.ok.layF (o := o) hp
  exact ⟨le, h.with o⟩
theorem StOk.newTup {σ : L2.St} {ρ : Env} {κ : List Rs} {pv : List (Nat × V)} {p : Addr} {ds : List D} {vs : List V} (h : StOk K B G H σ ρ κ pv) (hp : H p = none) (r : Reps K B G ds vs) :
    ∃ G', Le G G' ∧ StOk K B G' (upd H p (.tup vs)) σ ρ ((.F, .tup ds, .ref p) :: κ) pv := by
  obtain ⟨le, h2⟩ := h.newF (o := .tup vs) hp
  refine ⟨_, le, h2.addF ?_⟩
  simp only [Rep]
  exact ⟨p, vs, rfl, ⟨SqT.of upd_same, fun _ => upd_same⟩, r.mono le⟩
theorem StOk.newLst {σ : L2.St} {ρ : Env} {κ : List Rs} {pv : List (Nat × V)} {p : Addr} {ds : List D} {vs : List V} (h : StOk K B G H σ ρ κ pv) (hp : H p = none) (r : Reps K B G ds vs) :
    StOk K B G (upd H p (.lst vs)) σ ρ ((.L .F, .lst ds, .ref p) :: κ) pv := by
  refine h.with (Okx.unrot (ys := [(T.L .F, D.lst ds, V.ref p)]) ?_)
  refine Okx.layO (ys := []) h.ok hp fun G' H' l le hH z => ⟨[p], ?_, ?_⟩
  · simp only [Own]
    exact ⟨p, vs, [], rfl, hH, rfl, (r.mono le).owns⟩
  · rw [show l = [] from z]
theorem Step.grow {q : Bool} {G H G' H' : Hp} {ρ ρ' : Env} {p : Addr} {o : HO} {G2 : Hp} (s : Step q G H ρ G' H' ρ') (le : Le G' G2) (hp : H' p = none) : Step q G H ρ G2 (upd H' p o) ρ' :=
  ⟨s.1.trans le, fun z => ⟨(s.2 z).1.trans (.upd hp), (s.2 z).2⟩⟩
def fTup (f : Env → R (List TD)) : Env → R TD := fun ρ => (f ρ).bind fun xs ρ1 => if xs.length ≤ SZ then .ok (.F, .tup (xs.map (·.2))) ρ1 else .stuck
def fLst (f : Env → R (List TD)) : Env → R TD := fun ρ => (f ρ).bind fun xs ρ1 => if xs.length ≤ SZ then .ok (.L .F, .lst (xs.map (·.2))) ρ1 else .stuck
theorem de_tup {es : List Expr} {k : Nat} {g : Env → R (List TD)} (h : DA X C q es g) : DE X C q (.Tuple es k pos) (fTup g) := by
  refine (pe_tup h).weak fun σ H Q z => ?_
  refine RT.bind (ka := kA) z (fun h => h) fun xs vs H1 G0 H0 ρ0 z1 => ?_
  obtain ⟨G, ρ, κ, W, pv, st, p, ok, tk, w⟩ := z1
  split at w
  · rename_i hz
    refine ⟨by rw [← (show xs.length = vs.length from p)]; exact hz, fun a ha => ?_⟩
    obtain ⟨G1, le1, ok1, r⟩ := ok.reps p
    obtain ⟨G2, le2, ok2⟩ := ok1.newTup ha r
    exact w (.ref a) G2 _ trivial (st.grow (le1.trans le2) ha) ok2
  · exact w.elim
theorem de_lst {es : List Expr} {g : Env → R (List TD)} (h : DA X C q es g) : DE X C q (.List es pos) (fLst g) := by
  refine (pe_lst h).weak fun σ H Q z => ?_
  refine RT.bind (ka := kA) z (fun h => h) fun xs vs H1 G0 H0 ρ0 z1 => ?_
  obtain ⟨G, ρ, κ, W, pv, st, p, ok, tk, w⟩ := z1
  split at w
  · rename_i hz
    refine ⟨by rw [← (show xs.length = vs.length from p)]; exact hz, fun a ha => ?_⟩
    obtain ⟨G1, le1, ok1, r⟩ := ok.reps p
    exact w (.ref a) G1 _ trivial (st.grow le1 ha) (ok1.newLst ha r)
  · exact w.elim
/-- the items of a list or a tuple, if they own nothing -/
def elems (x : TD) : Option (List D) := match x.2 with
  | .tup ds => some ds
  | .scr is => some (is.map D.int)
  | .lst ds => match x.1 with
    | .F => some ds
    | .L .F => some ds
    | .L _ => if ds.all (fun d => !isBox d) then some ds else none
    | _ => none
  | _ => none
theorem Owns.plain : ∀ {ds : List D} {t : T} {vs : List V} {l : List Addr}, Owns K B G H ds t vs l → ds.all (fun d => !isBox d) = true → Reps K B G ds vs
  | [], t, vs, l, h, _ => by simp only [Owns] at h; simp only [Reps]; exact h.1
  | d :: r, t, vs, l, h, p => by
    simp only [Owns] at h
    obtain ⟨v, r', l1, l2, e, el, h1, h2⟩ := h
    rw [List.all_cons, Bool.and_eq_true] at p
    simp only [Reps]
    exact ⟨v, r', e, h1.plain (by simpa using p.1), h2.plain p.2⟩
theorem Owns.repsF : ∀ {ds : List D} {vs : List V} {l : List Addr}, Owns K B G H ds .F vs l → Reps K B G ds vs ∧ l = []
  | [], vs, l, h => by simp only [Owns] at h; simp only [Reps]; exact h
  | d :: r, vs, l, h => by
    simp only [Owns] at h
    obtain ⟨v, r', l1, l2, e, el, h1, h2⟩ := h
    obtain ⟨h3, e1⟩ := h1.repF
    obtain ⟨h4, e2⟩ := h2.repsF
    simp only [Reps]
    subst e1 e2
    exact ⟨⟨v, r', e, h3, h4⟩, el⟩
/-- 0: a list, 1: a tuple, 2: the script -/
def boxK : D → Nat
  | .lst _ => 0
  | .tup _ => 1
  | _ => 2
theorem reps_ints : ∀ (is : List Int), Reps K B G (is.map D.int) (is.map V.int)
  | [] => by simp only [List.map_nil, Reps]
  | i :: r => by
    simp only [List.map_cons, Reps]
    exact ⟨_, _, rfl, by simp only [Rep], reps_ints r⟩
theorem Own.elems {td : TD} {ds : List D} {v : V} {l : List Addr} (h : Own K B G H td.2 td.1 v l) (le : Le G H) (e : elems td = some ds) :
    ∃ a vs, v = .ref a ∧ Reps K B G ds vs ∧ ((boxK td.2 = 0 ∧ H a = some (.lst vs)) ∨ (boxK td.2 = 1 ∧ SqT K H a vs) ∨ (boxK td.2 = 2 ∧ SqL K H a vs)) := by
  obtain ⟨t, d⟩ := td
  cases d with
  | lst ds' =>
    cases t with
    | F =>
      have e : some ds' = some ds := e
      cases e
      obtain ⟨r, _⟩ := h.repF
      simp only [Rep] at r
      obtain ⟨a, vs, e1, s, r⟩ := r
      exact ⟨a, vs, e1, r, .inl ⟨rfl, le.at s⟩⟩
    | L t' =>
      have h' := h
      simp only [Own] at h'
      obtain ⟨a, vs, l', e1, ha, el, r⟩ := h'
      refine ⟨a, vs, e1, ?_, .inl ⟨rfl, ha⟩⟩
      cases t' with
      | F =>
        have e : some ds' = some ds := e
        cases e
        exact r.repsF.1
      | _ =>
        simp only [PF.elems] at e
        split at e
        · rename_i hp
          cases e
          exact r.plain hp
        · cases e
    | _ => cases e
  | tup ds' =>
    have e : some ds' = some ds := e
    cases e
    simp only [Own, Rep] at h
    obtain ⟨⟨a, vs, e1, s, r⟩, _⟩ := h
    exact ⟨a, vs, e1, r, .inr (.inl ⟨rfl, le.sqT s.1⟩)⟩
  | scr is =>
    have e : some (is.map D.int) = some ds := e
    cases e
    simp only [Own, Rep] at h
    obtain ⟨⟨a, e1, s⟩, _⟩ := h
    exact ⟨a, _, e1, reps_ints is, .inr (.inr ⟨rfl, le.sqL s⟩)⟩
  | _ => cases e
/-- .. looked at: any list, any tuple -/
def items : D → Option (List D)
  | .lst ds => some ds
  | .tup ds => some ds
  | .scr is => some (is.map D.int)
  | _ => none
theorem Rep.items {d : D} {ds : List D} {v : V} (h : Rep K B G d v) (e : items d = some ds) : ∃ a vs, v = .ref a ∧ Reps K B G ds vs ∧ ((boxK d ≠ 1 ∧ SqL K G a vs) ∨ (boxK d = 1 ∧ SqT K G a vs)) := by
  cases d <;> first | cases e | skip
  · simp only [Rep] at h
    obtain ⟨a, vs, e1, s, r⟩ := h
    exact ⟨a, vs, e1, r, .inr ⟨rfl, s.1⟩⟩
  · simp only [Rep] at h
    obtain ⟨a, vs, e1, s, r⟩ := h
    exact ⟨a, vs, e1, r, .inl ⟨by simp [boxK], SqL.of s⟩⟩
  · simp only [Rep] at h
    obtain ⟨a, e1, s⟩ := h
    exact ⟨a, _, e1, reps_ints _, .inl ⟨by simp [boxK], s⟩⟩
theorem Reps.atI {ds : List D} {vs : List V} {i : Int} {d : D} (h : Reps K B G ds vs) (e : atI ds i = some d) : ∃ v, atI vs i = some v ∧ Rep K B G d v := by
  unfold L2.atI at e ⊢
  rw [← h.length]
  cases q : ixN ds.length i with
  | none => rw [q] at e; cases e
  | some j =>
    rw [q] at e
    exact h.at (i := j) e
theorem Fin.quiet {α β γ δ : Type} {k : Kd α β} {ka : Kd γ δ} {q : Bool} {G0 H0 : Hp} {ρ0 : Env} {σ : L2.St} {H : Hp} {Q : β → Hp → Prop} {P : Hp → Hp → Prop} {tmp : List Rs} {fa : Env → R γ} {g : γ → Env → R α}
    (h : Fin k X C q G0 H0 ρ0 σ H Q P tmp fun ρ => (fa ρ).bind g) (hP : ∀ G H G' H', Le G G' → Ls H H' → P G H → P G' H') {Q' : δ → Hp → Prop}
    (m : ∀ a b H1, Fin k X C q G0 H0 ρ0 σ H1 Q (fun G H => P G H ∧ ka.rel X.K C.B σ a b G H) (ka.rs a b ++ tmp) (g a) → Q' b H1) : RT ka X C true fa σ H Q' := by
  obtain ⟨G, ρ, κ, W, pv, st, p, ok, tk, w⟩ := h
  rw [R.wp_bind] at w
  refine ⟨G, H, ρ, G, ρ, tmp ++ κ, W, pv, .refl, trivial, ok, tk, R.wp_mono w (fun a ρ1 w1 => ?_) fun c fs ρ1 w1 => ?_⟩
  · intro b G' H' r st' ok'
    obtain ⟨lH, eρ⟩ := st'.2 rfl
    subst eρ
    exact m a b H' ⟨G', ρ1, κ, W, pv, st.trans st' (fun _ => rfl), ⟨hP _ _ _ _ st'.1 lH p, r⟩, by rw [List.append_assoc]; exact ok', tk, w1⟩
  · intro cls dO G' H' l x ok'
    exact w1 cls dO G' H' (st.1.trans l) x ok'.drop
theorem Own.up {d : D} {t : T} {v : V} {l : List Addr} (h : Own K B G H d t v l) (lg : Le G G') (lh : Ls H H') : Own K B G' H' d t v l := h.mono lg fun a ha => by
  obtain ⟨o, ho, nt⟩ := h.there a ha
  rw [ho]; exact lh.at ho nt.nt
theorem kB_up {σ : L2.St} {td : TD} {v : V} : ∀ G H G' H', Le G G' → Ls H H' → kB.rel K B σ td v G H → kB.rel K B σ td v G' H' := fun G H G' H' lg lh ⟨l, o⟩ => ⟨l, o.up lg lh⟩
end
end PF
namespace PF
open PySem L2
section
variable {X : Cx} {C : Ct} {q qa qb : Bool} {e a b c : Expr} {f fa fb fc : Env → R TD} {pos : Pos}
variable {K : PySem.W.Frag} {B : Tb} {G G' H H' : Hp} {σ : L2.St} {ρ : Env} {κ κ' : List Rs} {pv : List (Nat × V)}
inductive Ag where
  | v (td : TD)
  | n (i : Nat)
def rsG : List Ag → List V → List Rs
  | .v td :: r, x :: vs => (td.1, td.2, x) :: rsG r vs
  | .n _ :: r, _ :: vs => rsG r vs
  | _, _ => []
def relG (σ : L2.St) : List Ag → List V → Prop
  | [], [] => True
  | .v _ :: r, _ :: vs => relG σ r vs
  | .n i :: r, x :: vs => σ[i]? = some (some x) ∧ relG σ r vs
  | _, _ => False
def kG : Kd (List Ag) (List V) := ⟨rsG, fun _ _ σ ags vs _ _ => relG σ ags vs⟩
def own1 (x : TD) : Bool := !(isF x.1 || !isBox x.2)
/-- the arguments; what is lent is taken out of its name -/
def lend : Env → List Ag → Option (List TD × Env)
  | ρ, [] => some ([], ρ)
  | ρ, .v td :: r => (lend ρ r).map fun p => (td :: p.1, p.2)
  | ρ, .n i :: r => match ρ[i]? with
    | some (some (t, d)) => if isF t || !isBox d then (lend ρ r).map fun p => ((T.F, d) :: p.1, p.2) else (lend (ρ.set i none) r).map fun p => ((t, d) :: p.1, p.2)
    | _ => none
/-- what was lent comes back (xs: as it was handed over; ys: as it came back) -/
def back : Env → List Ag → List TD → List TD → Env
  | ρ, .v _ :: r, _ :: xs, _ :: ys => back ρ r xs ys
  | ρ, .n i :: r, x :: xs, y :: ys => if own1 x then back (ρ.set i (some y)) r xs ys else back ρ r xs ys
  | ρ, _, _, _ => ρ
theorem StOk.takeOut {i : Nat} {t : T} {d : D} {v : V} (h : StOk K B G H σ ρ κ pv) (e : ρ[i]? = some (some (t, d))) (hv : σ[i]? = some (some v)) : StOk K B G H σ (ρ.set i none) ((t, d, v) :: κ) pv := by
  have hi : i < ρ.length := (List.getElem?_eq_some_iff.mp e).1
  have hs : i < σ.length := by rw [h.len]; exact hi
  refine ⟨by simpa using h.len, fun j t1 d1 e1 => ?_, ?_, h.pvs, h.xps⟩
  · by_cases q : j = i
    · subst q
      rw [List.getElem?_set_self hi] at e1
      cases e1
    · rw [List.getElem?_set_ne (Ne.symm q)] at e1
      exact h.val _ _ _ e1
  · have ee : ents σ (ρ.set i none) = (ents σ ρ).set i (.F, .non, .non) := by
      rw [ents_setR none hv]
      rfl
    rw [ee]
    have hl : i < (ents σ ρ).length := by rw [h.lenE]; exact hi
    have p1 := perm_front (ents_at e hv)
    have o := h.ok.perm (p1.append_right κ)
    have o2 := o.addF (d := .non) (v := .non) (by simp only [Rep])
    refine o2.perm ?_
    refine List.Perm.symm (((set_perm (T.F, D.non, V.non) hl).append_right _).trans ?_)
    rw [List.cons_append, List.cons_append]
    exact List.perm_middle.cons _
theorem StOk.fill {i : Nat} {t : T} {d : D} {v : V} (h : StOk K B G H σ ρ ((t, d, v) :: κ) pv) (hv : σ[i]? = some (some v)) : StOk K B G H σ (ρ.set i (some (t, d))) κ pv := by
  have hs := (List.getElem?_eq_some_iff.mp hv).1
  have hi : i < ρ.length := by rw [← h.len]; exact hs
  refine ⟨by simpa using h.len, fun j t1 d1 e1 => ?_, ?_, h.pvs, h.xps⟩
  · by_cases q : j = i
    · subst q
      exact ⟨v, hv⟩
    · rw [List.getElem?_set_ne (Ne.symm q)] at e1
      exact h.val _ _ _ e1
  · rw [ents_setR _ hv]
    have hl : i < (ents σ ρ).length := by rw [h.lenE]; exact hi
    have p1 : (ents σ ρ).Perm ((ents σ ρ)[i] :: (ents σ ρ).eraseIdx i) := perm_front (List.getElem?_eq_getElem hl)
    have o := h.ok.perm (ys := (ents σ ρ)[i] :: ((t, d, v) :: ((ents σ ρ).eraseIdx i ++ κ))) (by
      refine (p1.append_right _).trans ?_
      rw [List.cons_append]
      exact List.perm_middle.cons _)
    refine o.tail.perm (List.Perm.symm ?_)
    exact (set_perm (ent (some v) (some (t, d))) hl).append_right κ
theorem lend_ok : ∀ {ags : List Ag} {vs : List V} {ρ ρh : Env} {tds : List TD} {κ : List Rs}, StOk K B G H σ ρ (rsG ags vs ++ κ) pv → relG σ ags vs → lend ρ ags = some (tds, ρh) →
    StOk K B G H σ ρh (rsL tds vs ++ κ) pv ∧ tds.length = vs.length
  | [], [], ρ, ρh, tds, κ, h, _, e => by cases e; exact ⟨h, rfl⟩
  | [], _ :: _, _, _, _, _, _, r, _ => r.elim
  | .v td :: ags, [], _, _, _, _, _, r, _ => r.elim
  | .n i :: ags, [], _, _, _, _, _, r, _ => r.elim
  | .v td :: ags, x :: vs, ρ, ρh, tds, κ, h, r, e => by
    obtain ⟨p, e1, e2⟩ := Option.map_eq_some_iff.mp (show (lend ρ ags).map (fun p => (td :: p.1, p.2)) = some (tds, ρh) from e)
    obtain ⟨tds', ρ'⟩ := p
    cases e2
    have h1 : StOk K B G H σ ρ (rsG ags vs ++ ((td.1, td.2, x) :: κ)) pv := h.permK List.perm_middle.symm
    obtain ⟨h2, hl⟩ := lend_ok h1 r e1
    exact ⟨h2.permK List.perm_middle, congrArg (· + 1) hl⟩
  | .n i :: ags, x :: vs, ρ, ρh, tds, κ, h, r, e => by
    obtain ⟨hv, r⟩ := (show σ[i]? = some (some x) ∧ relG σ ags vs from r)
    unfold lend at e
    cases q : ρ[i]? with
    | none => rw [q] at e; cases e
    | some o => cases o with
      | none => rw [q] at e; cases e
      | some td =>
        obtain ⟨t, d⟩ := td
        rw [q] at e
        dsimp only at e
        have h0 : StOk K B G H σ ρ (rsG ags vs ++ κ) pv := h
        cases hb : (isF t || !isBox d) with
        | true =>
          rw [hb, if_pos rfl] at e
          obtain ⟨p, e1, e2⟩ := Option.map_eq_some_iff.mp e
          obtain ⟨tds', ρ'⟩ := p
          cases e2
          obtain ⟨v, l, hv', o⟩ := h0.at q
          rw [hv] at hv'
          cases hv'
          have h1 : StOk K B G H σ ρ (rsG ags vs ++ ((.F, d, x) :: κ)) pv := (h0.addF (o.shared hb)).permK List.perm_middle.symm
          obtain ⟨h2, hl⟩ := lend_ok h1 r e1
          exact ⟨h2.permK List.perm_middle, congrArg (· + 1) hl⟩
        | false =>
          rw [hb, if_neg (by decide)] at e
          obtain ⟨p, e1, e2⟩ := Option.map_eq_some_iff.mp e
          obtain ⟨tds', ρ'⟩ := p
          cases e2
          have h1 : StOk K B G H σ (ρ.set i none) (rsG ags vs ++ ((t, d, x) :: κ)) pv := (h0.takeOut q hv).permK List.perm_middle.symm
          obtain ⟨h2, hl⟩ := lend_ok h1 r e1
          exact ⟨h2.permK List.perm_middle, congrArg (· + 1) hl⟩
theorem back_ok : ∀ {ags : List Ag} {vs : List V} {ρ : Env} {xs ys : List TD} {κ : List Rs}, relG σ ags vs → xs.length = vs.length → ys.length = vs.length → StOk K B G H σ ρ (rsL ys vs ++ κ) pv → StOk K B G H σ (back ρ ags xs ys) κ pv
  | [], vs, ρ, xs, ys, κ, r, _, _, h => h.drop
  | .v td :: ags, [], _, _, _, _, r, _, _, _ => r.elim
  | .n i :: ags, [], _, _, _, _, r, _, _, _ => r.elim
  | .v td :: ags, v :: vs, ρ, x :: xs, y :: ys, κ, r, h1, h2, h => by
    have h3 : StOk K B G H σ ρ (rsL ys vs ++ κ) pv := h.tail
    exact back_ok (ags := ags) r (by simpa using h1) (by simpa using h2) h3
  | .n i :: ags, v :: vs, ρ, x :: xs, y :: ys, κ, r, h1, h2, h => by
    obtain ⟨hv, r⟩ := (show σ[i]? = some (some v) ∧ relG σ ags vs from r)
    unfold back
    split
    · have h3 : StOk K B G H σ (ρ.set i (some y)) (rsL ys vs ++ κ) pv := StOk.fill (t := y.1) (d := y.2) h hv
      exact back_ok (ags := ags) r (by simpa using h1) (by simpa using h2) h3
    · exact back_ok (ags := ags) r (by simpa using h1) (by simpa using h2) h.tail
  | _ :: _, _ :: _, _, [], _, _, _, h1, _, _ => by cases h1
  | _ :: _, _ :: _, _, _ :: _, [], _, _, _, h2, _ => by cases h2
def gNil : Env → R (List Ag) := fun ρ => .ok [] ρ
def gVal (f : Env → R TD) (g : Env → R (List Ag)) : Env → R (List Ag) := fun ρ => (f ρ).bind fun x ρ1 => (g ρ1).bind fun xs ρ2 => .ok (.v x :: xs) ρ2
def gNam (i : Nat) (g : Env → R (List Ag)) : Env → R (List Ag) := fun ρ => (g ρ).bind fun xs ρ2 => .ok (.n i :: xs) ρ2
abbrev DG (X : Cx) (C : Ct) (q : Bool) (es : List Expr) (f : Env → R (List Ag)) : Prop := PA X es (RT kG X C q f)
theorem dg_nil : DG X C true [] gNil := PA.weak pa_nil fun σ H Q z => by
  obtain ⟨G0, H0, ρ0, z⟩ := z
  exact Fin.end_ (b := []) z fun G ρ κ pv ok p => ⟨trivial, ok⟩
theorem dg_val {es : List Expr} {g : Env → R (List Ag)} (ha : DE X C qa a fa) (hr : DG X C qb es g) (hs : starEach (a :: es) X.env = (false, eval a X.env) :: starEach es X.env := by rfl) : DG X C (qa && qb) (a :: es) (gVal fa g) := by
  refine (pa_cons ha hr hs).weak fun σ H Q z => ?_
  refine RT.bind (ka := kE) z (fun h => (Bool.and_eq_true_iff.mp h).1) fun x v H1 G0 H0 ρ0 z1 => ?_
  refine z1.next (ka := kG) (fun h => (Bool.and_eq_true_iff.mp h).2) fun xs vs H2 z2 => ?_
  refine Fin.end_ (b := v :: vs) z2 fun G ρ κ pv ok p => ⟨p, ok.permK ?_⟩
  show (rsG xs vs ++ [(x.1, x.2, v)] ++ κ).Perm ((x.1, x.2, v) :: rsG xs vs ++ κ)
  rw [List.append_assoc]
  exact List.perm_middle
theorem dg_nam {es : List Expr} {g : Env → R (List Ag)} {i : Nat} {x : PySem.Str} (h : PE X (.Name x pos) (tVar i)) (hr : DG X C qb es g)
    (hd : ∀ {σ ρ a ρ'}, g ρ = .ok a ρ' → (∀ (G H : Hp) (κ : List Rs) (pv : List (Nat × V)), StOk X.K C.B G H σ ρ κ pv → ∃ v, σ[i]? = some (some v)) → True := by intros; trivial)
    (hs : starEach (.Name x pos :: es) X.env = (false, eval (.Name x pos) X.env) :: starEach es X.env := by rfl) : DG X C qb (.Name x pos :: es) (fun ρ => match ρ[i]? with | some (some _) => gNam i g ρ | _ => .stuck) := by
  refine (pa_cons h hr hs).weak fun σ H Q z => ?_
  obtain ⟨G0, H0, ρ0, G, ρ, κ, W, pv, st, p, ok, tk, w⟩ := z
  cases e : ρ[i]? with
  | none => simp only [e] at w; exact w.elim
  | some o => cases o with
    | none => simp only [e] at w; exact w.elim
    | some td =>
      simp only [e] at w
      obtain ⟨v, hv⟩ := ok.val i td.1 td.2 e
      refine ⟨v, hv, ?_⟩
      have z1 : Fin kG X C qb G0 H0 ρ0 σ H (fun vs H2 => Q (v :: vs) H2) (fun _ _ => True) [] g := by
        refine ⟨G, ρ, κ, W, pv, st, trivial, ok, tk, ?_⟩
        unfold gNam at w
        rw [R.wp_bind] at w
        exact R.wp_mono w (fun xs ρ2 w2 vs G' H' r st' ok' => w2 (v :: vs) G' H' ⟨hv, r⟩ st' ok') fun _ _ _ z => z
      exact ⟨G0, H0, ρ0, z1⟩
inductive RF where
  | ok (td : TD) (args : List TD)
  | exc (c : Nat) (fs : List (Nat × D)) (args : List TD)
  | me (i : Nat) (args : List TD)
  | stuck
def spF (K : PySem.W.Frag) (C : Ct) (n : Nat) (cf : List TD → RF) : Sp := fun vs H Q E => ∃ (G : Hp) (tds : List TD) (xs : List Rs), tds.length = vs.length ∧ vs.length = n ∧ Okx K C.B G H (rsL tds vs ++ xs) ∧ match cf tds with
  | .ok td tds' => tds'.length = tds.length ∧ ∀ v G' H', Le G G' → Okx K C.B G' H' ((td.1, td.2, v) :: (rsL tds' vs ++ xs)) → Q v H'
  | .exc c fs tds' => tds'.length = tds.length ∧ ∀ cls dO G' H', Le G G' → ExcIs K C.B C.xc G' c fs cls dO → Okx K C.B G' H' (rsL tds' vs ++ xs) → E cls dO H'
  | .me i tds' => tds'.length = tds.length ∧ ∀ v G' H', vs[i]? = some v → Le G G' → Okx K C.B G' H' (rsL tds' vs ++ xs) → Q v H'
  | .stuck => False
/-- a call's answer -/
def doCall (cf : List TD → RF) (ags : List Ag) : Env → R TD := fun ρ => match lend ρ ags with
  | none => .stuck
  | some (tds, ρh) => match cf tds with
    | .ok td ys => if ys.length = tds.length then .ok td (back ρh ags tds ys) else .stuck
    | .exc c fs ys => if ys.length = tds.length then .exc c fs (back ρh ags tds ys) else .stuck
    | .me _ _ => .stuck
    | .stuck => .stuck
def fCall (n : Nat) (cf : List TD → RF) (g : Env → R (List Ag)) : Env → R TD := fun ρ => (g ρ).bind fun ags ρ1 => if ags.length = n then doCall cf ags ρ1 else .stuck
/-- what the context takes of exceptions passes on what the callee may raise -/
theorem Fin.call {Q : VK} {G0 H0 : Hp} {ρ0 : Env} {P : Hp → Hp → Prop} {tmp : List Rs} {cf : List TD → RF} {ags : List Ag} {vs : List V}
    (h : Fin kE X C false G0 H0 ρ0 σ H Q P (rsG ags vs ++ tmp) (doCall cf ags)) (r : relG σ ags vs) : ∃ W, Takes X W ∧ spF X.K C vs.length cf vs H Q (fun cls d H' => W cls d σ H') := by
  obtain ⟨G, ρ, κ, W, pv, st, p, ok, tk, w⟩ := h
  refine ⟨W, tk, ?_⟩
  unfold doCall at w
  cases e : lend ρ ags with
  | none => rw [e] at w; exact w.elim
  | some pr =>
    obtain ⟨tds, ρh⟩ := pr
    rw [e] at w
    dsimp only at w
    have ok0 : StOk X.K C.B G H σ ρ (rsG ags vs ++ κ) pv := by
      have h1 := ok.permK (κ' := tmp ++ (rsG ags vs ++ κ)) (by rw [List.append_assoc]; exact List.perm_append_comm_assoc ..)
      exact h1.drop
    obtain ⟨ok1, hl⟩ := lend_ok ok0 r e
    have con : ∀ {G' H' : Hp} {ys : List TD} {zs : List Rs}, ys.length = tds.length → Okx X.K C.B G' H' (zs ++ (rsL ys vs ++ (ents σ ρh ++ κ))) → StOk X.K C.B G' H' σ (back ρh ags tds ys) (zs ++ κ) pv := fun {G' H' ys zs} hy o => by
      refine back_ok r hl (hy.trans hl) (ok1.with (o.perm ?_))
      have p1 : (rsL ys vs ++ (ents σ ρh ++ κ)).Perm (ents σ ρh ++ (rsL ys vs ++ κ)) := List.perm_append_comm_assoc ..
      have p2 : (zs ++ (ents σ ρh ++ (rsL ys vs ++ κ))).Perm (ents σ ρh ++ (zs ++ (rsL ys vs ++ κ))) := List.perm_append_comm_assoc ..
      have p3 : (zs ++ (rsL ys vs ++ κ)).Perm (rsL ys vs ++ (zs ++ κ)) := List.perm_append_comm_assoc ..
      exact (p1.append_left zs).trans (p2.trans (p3.append_left _))
    refine ⟨G, tds, ents σ ρh ++ κ, hl, rfl, ok1.rot, ?_⟩
    cases ec : cf tds with
    | stuck => rw [ec] at w; exact w
    | me i ys => rw [ec] at w; exact w.elim
    | ok td ys =>
      rw [ec] at w
      dsimp only at w
      split at w
      · rename_i hy
        refine ⟨hy, fun v G' H' le o => w v G' H' trivial ⟨st.1.trans le, fun z => nomatch z⟩ (con (zs := [(td.1, td.2, v)]) hy o)⟩
      · exact w.elim
    | exc c fs ys =>
      rw [ec] at w
      dsimp only at w
      split at w
      · rename_i hy
        refine ⟨hy, fun cls dO G' H' le x o => w cls dO G' H' (st.1.trans le) x (con (zs := []) hy o)⟩
      · exact w.elim
abbrev FnP (X : Cx) (C : Ct) (k : Nat) (f : Addr) (fd : FuncData) (ps : List PySem.Str) (cf : List TD → RF) : Prop := FnOk X.prog X.w X.K X.mg X.base (L2.CX X.prog X.w) k f fd ps (spF X.K C ps.length cf)
/-- the exceptions that this context takes, whatever they are -/
theorem passesW {W : WX} (tk : Takes X W) (pins : List (Addr × Obj)) (σ : L2.St) (H : Hp) (s : Shared) (e : Value) (s' : Shared) (I : Inv X pins σ H s) (x : L2.CX X.prog X.w X.stack H s (fun cls d H' => W cls d σ H') e s') : X.xe e s' :=
  tk e s' (XE.of_call I (fun cls d H' h => h) x)
/-- the callee runs, as run_fn; the wish comes with the promise -/
theorem run_fnW {k : Nat} {fd : FuncData} {f : Addr} {ps : List PySem.Str} {cf : List TD → RF} {pins : List (Addr × Obj)} {σ : L2.St} {H : Hp} {s : Shared} {Q : VK} {us : List Value} {vs : List V} (F : FnP X C k f fd ps cf) (hr : Room k X.A) (hb : Binds X.K fd ps [])
    (I : Inv X pins σ H s) (r : Vals vs us) (h : ∃ W, Takes X W ∧ spF X.K C vs.length cf vs H Q (fun cls d H' => W cls d σ H')) (hn : vs.length = ps.length) : wpAny (model X.prog X.w) X.A (call (.ref f) us) (EP X pins σ Q) X.xe s := by
  obtain ⟨W, tk, h⟩ := h
  rw [hn] at h
  have hl : us.length = ps.length := by rw [← r.length, hn]
  have hb' := hb s us I.kIn (by simpa using hl)
  rw [List.append_nil] at hb'
  refine wpAny_call (codeAny_mono (F.run X.A X.stack s H ⟨us, []⟩ us vs Q _ hr I.env0 hb' r h) fun r s' hq => ?_)
  cases r with
  | error e => exact passesW tk pins σ H s e s' I hq
  | ok fl =>
    cases fl with
    | ret u => exact I.after hq
    | next => exact False.elim hq
    | brk => exact False.elim hq
    | cont => exact False.elim hq
theorem relG_len : ∀ {ags : List Ag} {vs : List V}, relG σ ags vs → ags.length = vs.length
  | [], [], _ => rfl
  | [], _ :: _, r => r.elim
  | .v _ :: _, [], r => r.elim
  | .n _ :: _, [], r => r.elim
  | .v _ :: r, _ :: vs, h => congrArg (· + 1) (relG_len (show relG σ r vs from h))
  | .n _ :: r, _ :: vs, h => congrArg (· + 1) (relG_len h.2)
def tCallW (X : Cx) (C : Ct) (n : Nat) (cf : List TD → RF) (t : TA) : TE := fun σ H Q => t σ H fun vs H1 => vs.length = n ∧ ∃ W, Takes X W ∧ spF X.K C vs.length cf vs H1 Q (fun cls d H' => W cls d σ H')
theorem pe_callW {k : Nat} {fd : FuncData} {f : Addr} {ps : List PySem.Str} {cf : List TD → RF} {x : PySem.Str} {p : Pos} {es : List Expr} {t : TA} (F : FnP X C k f fd ps cf) (hr : Room k X.A) (hg : Gl X x) (hm : X.mg x = some (.ref f)) (hk : PySem.W.keepIn X.K (.ref f) = true) (hb : Binds X.K fd ps [])
    (ha : PA X (e :: es) t) (hdb : (x == ("__debug__" : PySem.Str)) = false := by decide) (he : starEach (e :: es) X.env = (false, eval e X.env) :: starEach es X.env := by rfl) (hpl : (backTo pos (starEach es X.env)).any (·.1) = false := by rfl) :
    PE X (.Call (.Name x p) (e :: es) [] pos) (tCallW X C ps.length cf t) := by
  refine ⟨fun pins s σ H Q I h => ?_⟩
  refine wpAny_Call_Name_kw (ld_glob I hg hm ?_ hdb)
  refine PySem.W.callWith_K (h₀ := X.base) I.ok.mod.kin hk (thn (ha.run pos pins s σ H _ I h) fun us s1 ⟨vs, H1, I1, r, hn, q⟩ => ⟨I1.kIn, ?_⟩) he hpl
  exact run_fnW F hr hb I1 r q hn
theorem de_call {k : Nat} {fd : FuncData} {f : Addr} {ps : List PySem.Str} {cf : List TD → RF} {x : PySem.Str} {p : Pos} {es : List Expr} {g : Env → R (List Ag)} (F : FnP X C k f fd ps cf) (hr : Room k X.A) (hg : Gl X x) (hm : X.mg x = some (.ref f)) (hk : PySem.W.keepIn X.K (.ref f) = true) (hb : Binds X.K fd ps [])
    (ha : DG X C q (e :: es) g) (hdb : (x == ("__debug__" : PySem.Str)) = false := by decide) (he : starEach (e :: es) X.env = (false, eval e X.env) :: starEach es X.env := by rfl) (hpl : (backTo pos (starEach es X.env)).any (·.1) = false := by rfl) :
    DE X C false (.Call (.Name x p) (e :: es) [] pos) (fCall ps.length cf g) := by
  refine (pe_callW F hr hg hm hk hb ha hdb he hpl).weak fun σ H Q z => ?_
  refine RT.bind (ka := kG) z (fun h => nomatch h) fun ags vs H1 G0 H0 ρ0 z1 => ?_
  have r : relG σ ags vs := by obtain ⟨G, ρ, κ, W, pv, st, p, _⟩ := id z1; exact p
  by_cases hn : ags.length = ps.length
  · simp only [if_pos hn] at z1
    exact ⟨(relG_len r).symm.trans hn, Fin.call (tmp := []) (by rw [List.append_nil]; exact z1) r⟩
  · simp only [if_neg hn] at z1
    exact z1.no
structure CtOk (X : Cx) (C : Ct) : Prop where
  inj : ∀ n m, C.B.nm n = C.B.nm m → n = m
  cls : 0 < C.nn → ∀ c, Cls X.K (C.B.cls c)
  noat : ∀ c n, n < C.nn → NoAttr X.K (C.B.cls c) (C.B.nm n)
/-- o.m(..): the first argument is the receiver; an object of the class c -/
def isObjOf (c : Nat) (ρ : Env) : Ag → Bool
  | .v (_, .obj c' _) => c' == c
  | .n i => match ρ[i]? with
    | some (some (_, .obj c' _)) => c' == c
    | _ => false
  | _ => false
def tMethW (X : Cx) (C : Ct) (cl : Addr) (m : PySem.Str) (n : Nat) (cf : List TD → RF) (ta : TE) (t : TA) : TE := fun σ H Q => ta σ H fun x H1 => ∃ a dx fs, x = .ref a ∧ H1 a = some (.ins cl dx fs) ∧ fs.lookup m = none ∧
  t σ H1 fun vs H2 => (x :: vs).length = n ∧ ∃ W, Takes X W ∧ spF X.K C (x :: vs).length cf (x :: vs) H2 Q (fun cls d H' => W cls d σ H')
theorem pe_methW0 {k : Nat} {fd : FuncData} {f cl : Addr} {ps : List PySem.Str} {cf : List TD → RF} {m : PySem.Str} {apos : Pos} {o : Expr} {ta : TE} {pl : Sem Bool} (he : PE X o ta) (c : Cls X.K cl) (hm : Meth X.K cl m f) (F : FnP X C k f fd ps cf) (hr : Room k X.A) (hb : Binds X.K fd ps [])
    (ht : eval (.Call (.Attribute o m apos) [] [] pos) X.env = (do
      let ov ← eval o X.env
      standAt apos.atName
      let (f, first) ← holding [ov] (getMethod ov m pl)
      callWith pos f first (backTo pos (starEach [] X.env)) (backToKw pos (keywordEach [] X.env))) := by rfl) :
    PE X (.Call (.Attribute o m apos) [] [] pos) (tMethW X C cl m ps.length cf ta tNil) := by
  refine ⟨fun pins s σ H Q I h => ?_⟩
  refine PySem.W.methodCall_KW (pl := pl) (thn (he.run pins s σ H _ I h) fun u s1 ⟨x, H1, I1, rx, a, dx, fs, ex, ea, l, hn, q⟩ => ?_) ht
  subst ex
  obtain rfl : u = Value.ref a := rx
  refine getmeth_ok I1 ea c hm l ?_
  exact PySem.W.callWith_K0 (first := [.ref a]) I1.kIn hm.kp (run_fnW (us := [.ref a]) (vs := [.ref a]) F hr hb I1 (.cons rfl .nil) q hn)
theorem RepF.look {m : PySem.Str} (hm : ∀ n, B.nm n ≠ m) : ∀ {fs : List (Nat × D)} {vs : List (PySem.Str × V)}, RepF K B G fs vs → vs.lookup m = none
  | [], vs, h => by simp only [RepF] at h; subst h; rfl
  | (n, d) :: r, vs, h => by
    simp only [RepF] at h
    obtain ⟨v, vs', e, h1, h2⟩ := h
    subst e
    rw [List.lookup_cons, beq_eq_false_iff_ne.mpr (Ne.symm (hm n))]
    exact RepF.look hm h2
/-- the method of the class c upon a name's object -/
def fMethN (c i n : Nat) (cf : List TD → RF) (g : Env → R (List Ag)) : Env → R TD := fun ρ => match ρ[i]? with
  | some (some (_, .obj c' _)) => if c' = c then (g ρ).bind fun ags ρ1 => if ags.length + 1 = n then doCall cf (.n i :: ags) ρ1 else .stuck else .stuck
  | _ => .stuck
/-- .. upon a value -/
def fMethV (c n : Nat) (cf : List TD → RF) (f : Env → R TD) (g : Env → R (List Ag)) : Env → R TD := fun ρ => (f ρ).bind fun x ρ0 => match x.2 with
  | .obj c' _ => if c' = c then (g ρ0).bind fun ags ρ1 => if ags.length + 1 = n then doCall cf (.v x :: ags) ρ1 else .stuck else .stuck
  | _ => .stuck
theorem meth_val {cl : Addr} {m : PySem.Str} {n c : Nat} {cf : List TD → RF} {g : Env → R (List Ag)} {t : TA} {q' : Bool} (ecl : cl = C.B.cls c) (hnm : ∀ n, C.B.nm n ≠ m)
    (ht : ∀ σ H Q, RT kG X C false g σ H Q → t σ H Q) : ∀ σ H Q, RT kE X C false (fMethV c n cf f g) σ H Q → tMethW X C cl m n cf (RT kE X C q' f) t σ H Q := by
  intro σ H Q z
  refine RT.bind (ka := kE) z (fun h => nomatch h) fun x v H1 G0 H0 ρ0 z1 => ?_
  obtain ⟨G, ρ, κ, W, pv, st, p, ok, tk, w⟩ := z1
  obtain ⟨tt, d⟩ := x
  cases d with
  | obj c' fs =>
    dsimp only at w
    by_cases hc : c' = c
    · rw [if_pos hc] at w
      subst hc
      have hr := ok.seeK (r := (tt, D.obj c' fs, v)) (by simp [kE])
      obtain ⟨a, dx, vs, e1, ha, hf⟩ := hr.obj
      refine ⟨a, dx, vs, e1, by rw [ecl]; exact ha, hf.look hnm, ht _ _ _ ?_⟩
      rw [R.wp_bind] at w
      refine ⟨G, H1, ρ, G, ρ, (tt, D.obj c' fs, v) :: κ, W, pv, .refl, trivial, ok, tk, R.wp_mono w (fun ags ρ1 w1 us G' H' r st' ok' => ?_) fun c fs ρ1 w1 cls dO G' H' l x ok' => w1 cls dO G' H' (st.1.trans l) x ok'.tail⟩
      by_cases hn : ags.length + 1 = n
      · rw [if_pos hn] at w1
        have r' : relG σ (.v (tt, D.obj c' fs) :: ags) (v :: us) := r
        have z2 : Fin kE X C false G0 H0 ρ0 σ H' Q (fun _ _ => True) (rsG (.v (tt, D.obj c' fs) :: ags) (v :: us) ++ []) (doCall cf (.v (tt, D.obj c' fs) :: ags)) :=
          ⟨G', ρ1, κ, W, pv, st.trans st' (fun h => nomatch h), trivial, by rw [List.append_nil]; exact ok'.permK List.perm_middle, tk, w1⟩
        exact ⟨(relG_len r').symm.trans hn, Fin.call z2 r'⟩
      · rw [if_neg hn] at w1; exact w1.elim
    · rw [if_neg hc] at w; exact w.elim
  | _ => exact w.elim
/-- a reading that is not asked to be quiet -/
theorem RT.loud {α β : Type} {k : Kd α β} {f : Env → R α} {Q : β → Hp → Prop} (h : RT k X C false f σ H Q) : RT k X C q f σ H Q := by
  obtain ⟨G0, H0, ρ0, G, ρ, κ, W, pv, st, p, ok, tk, w⟩ := h
  exact ⟨G, H, ρ, G, ρ, κ, W, pv, .refl, p, ok, tk, R.wp_mono w (fun a ρ1 w1 b G' H' r st' ok' => w1 b G' H' r (st.trans st' fun h => nomatch h) ok') fun c fs ρ1 w1 cls dO G' H' l x ok' => w1 cls dO G' H' (st.1.trans l) x ok'⟩
theorem de_methV0 {k c : Nat} {fd : FuncData} {fA cl : Addr} {ps : List PySem.Str} {cf : List TD → RF} {m : PySem.Str} {apos : Pos} {o : Expr} {pl : Sem Bool} (CO : CtOk X C) (h0 : 0 < C.nn) (ho : DE X C qa o f) (hm : Meth X.K (C.B.cls c) m fA) (F : FnP X C k fA fd ps cf) (hr : Room k X.A) (hb : Binds X.K fd ps [])
    (hnm : ∀ n, C.B.nm n ≠ m)
    (ht : eval (.Call (.Attribute o m apos) [] [] pos) X.env = (do
      let ov ← eval o X.env
      standAt apos.atName
      let (f, first) ← holding [ov] (getMethod ov m pl)
      callWith pos f first (backTo pos (starEach [] X.env)) (backToKw pos (keywordEach [] X.env))) := by rfl) :
    DE X C false (.Call (.Attribute o m apos) [] [] pos) (fMethV c ps.length cf f gNil) :=
  (pe_methW0 (pl := pl) ho (CO.cls h0 c) hm F hr hb ht).weak (meth_val rfl hnm fun σ H Q z => by
    obtain ⟨G0, H0, ρ0, z⟩ := z
    exact Fin.end_ (k := kG) (b := []) z fun G ρ κ pv ok p => ⟨trivial, ok⟩)
def tMakeW (X : Cx) (C : Ct) (cl : Addr) (n : Nat) (cf : List TD → RF) (t : TA) : TE := fun σ H Q => t σ H fun vs H1 => vs.length + 1 = n ∧ ∃ W, Takes X W ∧ ∀ x dx, H1 x = none → H1 dx = none → dx ≠ x →
  spF X.K C n cf (.ref x :: vs) (upd (upd H1 dx (.own x)) x (.ins cl dx [])) (fun v H2 => v = .non ∧ Q (.ref x) H2) (fun cls d H' => W cls d σ H')
theorem run_makeW {k : Nat} {cl f : Addr} {fd : FuncData} {ps : List PySem.Str} {cf : List TD → RF} {pins : List (Addr × Obj)} {σ : L2.St} {H : Hp} {s : Shared} {Q : VK} {us : List Value} {vs : List V} (M : Mk X.K cl f) (F : FnP X C k f fd ps cf) (hr : Room (k + 1) X.A) (hb : Binds X.K fd ps [])
    (I : Inv X pins σ H s) (r : Vals vs us) (hn : vs.length + 1 = ps.length)
    (h : ∃ W, Takes X W ∧ ∀ x dx, H x = none → H dx = none → dx ≠ x → spF X.K C ps.length cf (.ref x :: vs) (upd (upd H dx (.own x)) x (.ins cl dx [])) (fun v H2 => v = .non ∧ Q (.ref x) H2) (fun cls d H' => W cls d σ H')) :
    wpAny (model X.prog X.w) X.A (call (.ref cl) us) (EP X pins σ Q) X.xe s := by
  obtain ⟨W, tk, h⟩ := h
  have hq := h (s.heap.objs.size + 1) s.heap.objs.size (I.hok.fresh (Nat.le_succ _)) (I.hok.fresh (Nat.le_refl _)) (Nat.ne_of_lt (Nat.lt_succ_self _))
  have I2 := Inv.made (C := cl) I
  have r2 : Vals (V.ref (s.heap.objs.size + 1) :: vs) (Value.ref (s.heap.objs.size + 1) :: us) := .cons rfl r
  have hl : (Value.ref (s.heap.objs.size + 1) :: us).length = ps.length := by
    have e := r2.length
    rw [← e]; exact hn
  have hb' := hb _ (Value.ref (s.heap.objs.size + 1) :: us) I2.kIn (by simpa using hl)
  rw [List.append_nil] at hb'
  refine wpAny_call (make_map (f := f) I.kIn M.makes M.init (beq_iff_eq.mp M.fn) (codeAny_mono (F.run _ X.stack _ _ ⟨Value.ref (s.heap.objs.size + 1) :: us, []⟩ (Value.ref (s.heap.objs.size + 1) :: us) _ _ _ (hr.make cl us [])
    (I2.env0.make cl us []) hb' r2 hq) fun r s' hq' => ?_))
  cases r with
  | error e => exact passesW tk pins σ _ _ e s' I2 hq'
  | ok fl =>
    cases fl with
    | ret u =>
      obtain ⟨v, H', I3, rv, ev, q3⟩ := I2.after hq'
      subst ev
      exact ⟨rv, ⟨V.ref (s.heap.objs.size + 1), H', I3, rfl, q3⟩⟩
    | next => exact False.elim hq'
    | brk => exact False.elim hq'
    | cont => exact False.elim hq'
theorem pe_makeW {k : Nat} {cl f : Addr} {fd : FuncData} {ps : List PySem.Str} {cf : List TD → RF} {x : PySem.Str} {p : Pos} {es : List Expr} {t : TA} (M : Mk X.K cl f) (F : FnP X C k f fd ps cf) (hr : Room (k + 1) X.A) (hg : Gl X x) (hm : X.mg x = some (.ref cl)) (hb : Binds X.K fd ps [])
    (ha : PA X (e :: es) t) (hdb : (x == ("__debug__" : PySem.Str)) = false := by decide) (he : starEach (e :: es) X.env = (false, eval e X.env) :: starEach es X.env := by rfl) (hpl : (backTo pos (starEach es X.env)).any (·.1) = false := by rfl) :
    PE X (.Call (.Name x p) (e :: es) [] pos) (tMakeW X C cl ps.length cf t) := by
  refine ⟨fun pins s σ H Q I h => ?_⟩
  refine wpAny_Call_Name_kw (ld_glob I hg hm ?_ hdb)
  refine PySem.W.callWith_K (h₀ := X.base) I.ok.mod.kin M.kp (thn (ha.run pos pins s σ H _ I h) fun us s1 ⟨vs, H1, I1, r, hn, q⟩ => ⟨I1.kIn, ?_⟩) he hpl
  exact run_makeW M F hr hb I1 r hn q
/-- __init__'s answer: the object as it was left -/
def mkR : RF → RF
  | .ok (_, .non) (self :: ys) => .ok self ys
  | .ok _ _ => .stuck
  | .exc c fs (_ :: ys) => .exc c fs ys
  | .exc _ _ [] => .stuck
  | .me _ _ => .stuck
  | .stuck => .stuck
def doMake (c : Nat) (cf : List TD → RF) (ags : List Ag) : Env → R TD := doCall (fun tds => mkR (cf ((.R [], .obj c []) :: tds))) ags
def fMake (c n : Nat) (cf : List TD → RF) (g : Env → R (List Ag)) : Env → R TD := fun ρ => (g ρ).bind fun ags ρ1 => if ags.length + 1 = n then doMake c cf ags ρ1 else .stuck
theorem spF_make {vs : List V} {cf : List TD → RF} {c : Nat} {Q : VK} {E : XK} {n : Nat} (hn : vs.length + 1 = n) (h : spF K C vs.length (fun tds => mkR (cf ((.R [], .obj c []) :: tds))) vs H Q E) :
    ∀ x dx, H x = none → H dx = none → dx ≠ x → spF K C n cf (.ref x :: vs) (upd (upd H dx (.own x)) x (.ins (C.B.cls c) dx [])) (fun v H2 => v = .non ∧ Q (.ref x) H2) E := by
  intro x dx hx hdx hne
  obtain ⟨G, tds, xs, hl, _, ok, w⟩ := h
  have hx2 : (upd H dx (.own x)) x = none := by rw [upd_ne (Ne.symm hne)]; exact hx
  have ok1 : Okx K C.B G (upd H dx (.own x)) (rsL tds vs ++ xs) := ok.grow (upd_keep hdx)
  have ok2 : Okx K C.B G (upd (upd H dx (.own x)) x (.ins (C.B.cls c) dx [])) ((T.R [], D.obj c [], V.ref x) :: (rsL tds vs ++ xs)) :=
    Okx.layO (ys := []) ok1 hx2 fun G' H' l le hH z => ⟨[x], by
      simp only [Own]
      exact ⟨x, dx, [], [], rfl, hH, rfl, by simp only [OwnF]; exact ⟨trivial, trivial⟩⟩, by rw [show l = [] from z]⟩
  refine ⟨G, (.R [], .obj c []) :: tds, xs, by simp [hl], by simpa using hn, ok2, ?_⟩
  dsimp only at w
  cases e : cf ((.R [], .obj c []) :: tds) with
  | stuck => rw [e] at w; exact w
  | me i ys => rw [e] at w; exact w.elim
  | ok td ys =>
    rw [e] at w
    obtain ⟨t, d⟩ := td
    cases d <;> first
      | (cases ys with
         | nil => exact w.elim
         | cons self ys =>
           obtain ⟨hy, w⟩ := w
           refine ⟨by simpa using hy, fun v G' H' le o => ?_⟩
           have hv : v = .non := by obtain ⟨l, q⟩ := o.head; exact q.prim (x := .non) rfl
           exact ⟨hv, w (.ref x) G' H' le o.tail⟩)
      | exact w.elim
  | exc c' fs ys =>
    rw [e] at w
    cases ys with
    | nil => exact w.elim
    | cons self ys =>
      obtain ⟨hy, w⟩ := w
      exact ⟨by simpa using hy, fun cls dO G' H' le x o => w cls dO G' H' le x o.tail⟩
theorem make_tail {n c : Nat} {cf : List TD → RF} {g : Env → R (List Ag)} {t : TA} (ht : ∀ σ H Q, RT kG X C false g σ H Q → t σ H Q) : ∀ σ H Q, RT kE X C false (fMake c n cf g) σ H Q → tMakeW X C (C.B.cls c) n cf t σ H Q := by
  intro σ H Q z
  refine ht _ _ _ (RT.bind (ka := kG) z (fun h => nomatch h) fun ags vs H1 G0 H0 ρ0 z1 => ?_)
  have r : relG σ ags vs := by obtain ⟨G, ρ, κ, W, pv, st, p, _⟩ := id z1; exact p
  by_cases hn : ags.length + 1 = n
  · simp only [if_pos hn] at z1
    obtain ⟨W, tk, h⟩ := Fin.call (tmp := []) (by rw [List.append_nil]; exact z1) r
    have hn' : vs.length + 1 = n := by rw [← relG_len r]; exact hn
    exact ⟨hn', W, tk, spF_make hn' h⟩
  · simp only [if_neg hn] at z1
    exact z1.no
theorem de_make {k c : Nat} {f : Addr} {fd : FuncData} {ps : List PySem.Str} {cf : List TD → RF} {x : PySem.Str} {p : Pos} {es : List Expr} {g : Env → R (List Ag)} (M : Mk X.K (C.B.cls c) f) (F : FnP X C k f fd ps cf) (hr : Room (k + 1) X.A) (hg : Gl X x) (hm : X.mg x = some (.ref (C.B.cls c))) (hb : Binds X.K fd ps [])
    (ha : DG X C q (e :: es) g) (hdb : (x == ("__debug__" : PySem.Str)) = false := by decide) (he : starEach (e :: es) X.env = (false, eval e X.env) :: starEach es X.env := by rfl) (hpl : (backTo pos (starEach es X.env)).any (·.1) = false := by rfl) :
    DE X C false (.Call (.Name x p) (e :: es) [] pos) (fMake c ps.length cf g) := (pe_makeW M F hr hg hm hb ha hdb he hpl).weak (make_tail fun σ H Q h => h.loud)
end
end PF
namespace PF
open PySem L2
section
variable {X : Cx} {C : Ct} {q qa qb : Bool} {e a b c : Expr} {f fa fb fc : Env → R TD} {pos pos' : Pos}
variable {K : PySem.W.Frag} {B : Tb} {G G' H H' : Hp} {σ : L2.St} {ρ : Env} {κ κ' : List Rs} {pv : List (Nat × V)}
def fldT (t : T) (fs : List (Nat × D)) (n : Nat) : T := match t with
  | .R ts => fldTs n fs ts
  | _ => .F
/-- o.f, looked at -/
def bFld (n : Nat) (fa : Env → R TD) : Env → R TD := fun ρ => (fa ρ).bind fun x ρ1 => match x.2 with
  | .obj _ fs => match fs.lookup n with
    | some d => .ok (fldT x.1 fs n, d) ρ1
    | none => .stuck
  | _ => .stuck
theorem Own.fld (inj : ∀ n m, B.nm n = B.nm m → n = m) {n c : Nat} {fs : List (Nat × D)} {d : D} {t : T} {v : V} {l : List Addr} (le : Le G H) (h : Own K B G H (.obj c fs) t v l) (e : fs.lookup n = some d) :
    ∃ a dx vs w l', v = .ref a ∧ H a = some (.ins (B.cls c) dx vs) ∧ vs.lookup (B.nm n) = some w ∧ Own K B G H d (fldT t fs n) w l' := by
  cases t with
  | R ts =>
    simp only [Own] at h
    obtain ⟨a, dx, vs, l', e1, ha, el, r⟩ := h
    obtain ⟨w, l2, h1, h2⟩ := r.at inj e
    exact ⟨a, dx, vs, w, l2, e1, ha, h1, h2⟩
  | _ =>
    simp only [Own] at h
    obtain ⟨a, dx, vs, e1, ha, r⟩ := h.1.obj
    obtain ⟨w, h1, h2⟩ := r.at inj e
    exact ⟨a, dx, vs, w, [], e1, le.at ha, h1, h2.own⟩
theorem db_fld {n : Nat} {x : PySem.Str} (CO : CtOk X C) (hx : C.B.nm n = x) (hn : n < C.nn) (ha : DB X C q a fa) (hb : attributeBase a x X.env (eval a X.env) = eval a X.env := by rfl) : DB X C q (.Attribute a x pos) (bFld n fa) := by
  subst hx
  refine (pe_fld ha hb).weak fun σ H Q z => ?_
  refine RT.bind (ka := kB) z (fun h => h) fun y v1 H1 G0 H0 ρ0 z1 => ?_
  obtain ⟨G, ρ, κ, W, pv, st, ⟨l, o⟩, ok, tk, w⟩ := z1
  obtain ⟨t, d⟩ := y
  cases d with
  | obj c fs =>
    dsimp only at w
    cases el : fs.lookup n with
    | none => rw [el] at w; exact w.elim
    | some d =>
      rw [el] at w
      obtain ⟨a, dx, vs, u, l', e1, ha, hu, ow⟩ := Own.fld CO.inj ok.le o el
      exact ⟨a, _, dx, vs, u, e1, ha, CO.cls (Nat.lt_of_le_of_lt (Nat.zero_le _) hn) c, CO.noat c n hn, hu, w u G H1 ⟨l', ow⟩ st ok⟩
  | _ => exact w.elim
/-- what is looked at and owns nothing goes on -/
def share (f : Env → R TD) : Env → R TD := fun ρ => (f ρ).bind fun x ρ1 => if isF x.1 || !isBox x.2 then .ok (.F, x.2) ρ1 else .stuck
theorem DB.de (h : DB X C q e f) : DE X C q e (share f) := h.weak fun σ H Q z => by
  obtain ⟨G0, H0, ρ0, G, ρ, κ, W, pv, st, p, ok, tk, w⟩ := z
  unfold share at w
  rw [R.wp_bind] at w
  refine ⟨G0, H0, ρ0, G, ρ, κ, W, pv, st, p, ok, tk, R.wp_mono w (fun td ρ' w1 v G' H' r s o => ?_) fun _ _ _ z => z⟩
  cases hb : (isF td.1 || !isBox td.2) with
  | true =>
    rw [hb, if_pos rfl] at w1
    obtain ⟨l, ow⟩ := r
    exact w1 v G' H' trivial s (o.addF (ow.shared hb))
  | false =>
    rw [hb, if_neg (by decide)] at w1
    exact w1.elim
theorem EF.le {W : WX} {c : Nat} {fs : List (Nat × D)} {ρ' : Env} (h : EF X C W G κ pv c fs ρ') (l : Le G G') : EF X C W G' κ pv c fs ρ' := fun cls dO σ2 G2 H2 l2 => h cls dO σ2 G2 H2 (l.trans l2)
abbrev DS (X : Cx) (C : Ct) (pr : Nat → Bool) (st : Stmt) (f : Env → R Fl) : Prop := PS X st (TSd X C pr f)
variable {pr : Nat → Bool}
/-- an expression, then the rest of the statement -/
theorem TSd.bind {α β : Type} {ka : Kd α β} {fa : Env → R α} {g : α → Env → R Fl} {D : Ends} {σ : L2.St} {H : Hp} (h : TSd X C pr (fun ρ => (fa ρ).bind g) D σ H) {Q : β → Hp → Prop}
    (m : ∀ a b H1 G1 ρ κ W pv, ka.rel X.K C.B σ a b G1 H1 → StOk X.K C.B G1 H1 σ ρ (ka.rs a b ++ κ) pv → (∀ p ∈ pv, pr p.1 = true) → Takes X W →
      (g a ρ).wp (QF X C D G1 κ pv) (EF X C W G1 κ pv) → Q b H1) : RT ka X C q fa σ H Q := by
  obtain ⟨G, ρ, κ, W, pv, ok, hp, tk, w⟩ := h
  rw [R.wp_bind] at w
  refine ⟨G, H, ρ, G, ρ, κ, W, pv, .refl, trivial, ok, tk, R.wp_mono w (fun a ρ1 w1 b G' H' r st ok' => ?_) fun c fs ρ1 w1 cls dO G' H' l x ok' => w1 cls dO σ G' H' l x ok'⟩
  exact m a b H' G' ρ1 κ W pv r ok' hp tk (R.wp_mono w1 (fun _ _ z => z.le st.1) fun _ _ _ z => z.le st.1)
def sNil : Env → R Fl := fun ρ => .ok .nx ρ
def sSeq (f g : Env → R Fl) : Env → R Fl := fun ρ => (f ρ).bind fun fl ρ1 => match fl with | .nx => g ρ1 | fl => .ok fl ρ1
theorem ds_nil : DSs X C pr [] sNil := PSs.weak pss_nil fun D σ H z => by
  obtain ⟨G, ρ, κ, W, pv, ok, hp, tk, w⟩ := z
  exact w σ G H .refl ok
theorem ds_seq {st : Stmt} {rest : List Stmt} {f g : Env → R Fl} (h1 : DS X C pr st f) (h2 : DSs X C pr rest g) : DSs X C pr (st :: rest) (sSeq f g) := by
  refine (pss_cons h1 h2).weak fun D σ H z => ?_
  obtain ⟨G, ρ, κ, W, pv, ok, hp, tk, w⟩ := z
  unfold sSeq at w
  rw [R.wp_bind] at w
  refine ⟨G, ρ, κ, W, pv, ok, hp, tk, R.wp_mono w (fun fl ρ1 w1 => ?_) fun c fs ρ1 w1 => w1⟩
  cases fl with
  | nx =>
    intro σ' G' H' l ok'
    exact ⟨G', ρ1, κ, W, pv, ok', hp, tk, R.wp_mono w1 (fun _ _ z => z.le l) fun _ _ _ z => z.le l⟩
  | bk => exact w1
  | ct => exact w1
  | rt td => exact w1
  | me i => exact w1
def sPass : Env → R Fl := fun ρ => .ok .nx ρ
def sBreak : Env → R Fl := fun ρ => .ok .bk ρ
def sCont : Env → R Fl := fun ρ => .ok .ct ρ
def sNever : Env → R Fl := fun _ => .stuck
theorem ds_never {st : Stmt} : DS X C pr st sNever := PS.weak ps_never fun D σ H z => by
  obtain ⟨G, ρ, κ, W, pv, ok, hp, tk, w⟩ := z
  exact w.elim
/-- an expression, its value dropped -/
def sExpr (f : Env → R TD) : Env → R Fl := fun ρ => (f ρ).bind fun _ ρ1 => .ok .nx ρ1
theorem ds_expr (h : DE X C q e f) (hs : swapsWith e none pos.line X.env = pure false := by rfl) : DS X C pr (.Expr e pos) (sExpr f) := PS.weak (ps_expr h hs) fun D σ H z => by
  refine TSd.bind (ka := kE) z fun a b H1 G1 ρ κ W pv r ok hp tk w => ?_
  exact w σ G1 H1 .refl ok.tail
/-- return -/
def sRet (f : Env → R TD) : Env → R Fl := fun ρ => (f ρ).bind fun x ρ1 => .ok (.rt x) ρ1
theorem ds_ret (h : DE X C q e f) : DS X C pr (.Return (some e) pos) (sRet f) := PS.weak (ps_ret h) fun D σ H z => by
  refine TSd.bind (ka := kE) z fun a b H1 G1 ρ κ W pv r ok hp tk w => ?_
  exact w b σ G1 H1 .refl ok
def sRetN : Env → R Fl := fun ρ => .ok (.rt (.F, .non)) ρ
/-- return x: a name of the def's own goes out as it is -/
def sRetV (pr : Nat → Bool) (i : Nat) : Env → R Fl := fun ρ => match ρ[i]? with
  | some (some (t, d)) => if isF t || !isBox d then .ok (.rt (.F, d)) ρ else if pr i then .ok (.rt (.F, d)) (ρ.set i (some (.F, d))) else .ok (.rt (t, d)) (ρ.set i none)
  | _ => .stuck
theorem StOk.share {i : Nat} {t : T} {d : D} {v : V} (ok : StOk K B G H σ ρ κ pv) (e : ρ[i]? = some (some (t, d))) (hv : σ[i]? = some (some v)) :
    ∃ G', Le G G' ∧ StOk K B G' H σ (ρ.set i (some (.F, d))) ((.F, d, v) :: κ) pv := by
  have hi : i < ρ.length := (List.getElem?_eq_some_iff.mp e).1
  have pm := (perm_front (ents_at e hv)).append_right κ
  obtain ⟨G', le, o⟩ := (ok.ok.perm pm).freeze
  have hr := o.headF
  have ok2 : StOk K B G' H σ (ρ.set i (some (.F, d))) κ pv := by
    refine ⟨by simpa using ok.len, fun j t1 d1 e1 => ?_, o.perm ?_, ok.pvs, ok.xps⟩
    · by_cases qq : j = i
      · subst qq; exact ⟨v, hv⟩
      · rw [List.getElem?_set_ne (Ne.symm qq)] at e1
        exact ok.val _ _ _ e1
    · rw [ents_setR _ hv]
      exact (List.Perm.append_right κ (set_perm (T.F, d, v) (by rw [ok.lenE]; exact hi))).symm
  exact ⟨G', le, ok2.addF hr⟩
theorem ds_retV {i : Nat} {x : PySem.Str} {p : Pos} (h : PE X (.Name x p) (tVar i)) : DS X C pr (.Return (some (.Name x p)) pos) (sRetV pr i) := PS.weak (ps_ret h) fun D σ H z => by
  obtain ⟨G, ρ, κ, W, pv, ok, hp, tk, w⟩ := z
  unfold sRetV at w
  cases e : ρ[i]? with
  | none => rw [e] at w; exact w.elim
  | some o => cases o with
    | none => rw [e] at w; exact w.elim
    | some td =>
      obtain ⟨t, d⟩ := td
      rw [e] at w
      obtain ⟨v, l, hv, ow⟩ := ok.at e
      refine ⟨v, hv, ?_⟩
      dsimp only at w
      cases hb : (isF t || !isBox d) with
      | true =>
        rw [hb, if_pos rfl] at w
        exact w v σ G H .refl (ok.addF (ow.shared hb))
      | false =>
        rw [hb, if_neg (by decide)] at w
        cases hpr : pr i with
        | true =>
          rw [hpr, if_pos rfl] at w
          obtain ⟨G', le, ok'⟩ := ok.share e hv
          exact w v σ G' H le ok'
        | false =>
          rw [hpr, if_neg (by decide)] at w
          exact w v σ G H .refl (ok.takeOut e hv)
/-- return x of a def that is called as x = f(x, ..): a parameter that is lent goes back as it is -/
def sRetP (pr : Nat → Bool) (i : Nat) : Env → R Fl := fun ρ => match ρ[i]? with
  | some (some (t, d)) => if isF t || !isBox d then .ok (.rt (.F, d)) ρ else if pr i then .ok (.me i) ρ else .ok (.rt (t, d)) (ρ.set i none)
  | _ => .stuck
/-- if -/
def sIf (t : Env → R Bool) (f g : Env → R Fl) : Env → R Fl := fun ρ => (t ρ).bind fun k ρ1 => if k then f ρ1 else g ρ1
theorem ds_if {c : Expr} {x y : List Stmt} {t : Env → R Bool} {f g : Env → R Fl} (ht : DT X C q c t) (h1 : DSs X C pr x f) (h2 : DSs X C pr y g) : DS X C pr (.If c x y pos) (sIf t f g) := PS.weak (ps_if ht h1 h2) fun D σ H z => by
  refine TSd.bind (ka := kT) z fun a k H1 G1 ρ κ W pv r ok hp tk w => ?_
  have hk : a = k := r
  subst hk
  cases a with
  | true => exact ⟨G1, ρ, κ, W, pv, ok, hp, tk, w⟩
  | false => exact ⟨G1, ρ, κ, W, pv, ok, hp, tk, w⟩
/-- x = e -/
def sAsg (pr : Nat → Bool) (i : Nat) (f : Env → R TD) : Env → R Fl := fun ρ => (f ρ).bind fun x ρ1 => if pr i then .stuck else .ok .nx (ρ1.set i (some x))
theorem StOk.store' {i : Nat} {t : T} {d : D} {v : V} (h : StOk K B G H σ ρ ((t, d, v) :: κ) pv) (hp : ∀ p ∈ pv, p.1 ≠ i) : StOk K B G H (σ.set i (some v)) (ρ.set i (some (t, d))) κ pv := by
  by_cases hi : i < ρ.length
  · exact h.store hi hp
  · have hl := h.len
    rw [List.set_eq_of_length_le (by omega), List.set_eq_of_length_le (by omega)]
    exact h.tail
theorem ds_asg {i : Nat} {x : PySem.Str} (hN : X.N.Nodup) (hi : X.N[i]? = some x) (hx : Loc X.env.scope x) (he : DE X C q e f) (hs : swapsWith e (some (.Name x pos')) pos.line X.env = pure false := by rfl)
    (hf : X.fn x = true ∨ X.env.scope.names.lookup x = some .local := by first | exact .inl rfl | exact .inr rfl | assumption) : DS X C pr (.Assign [.Name x pos'] e pos) (sAsg pr i f) := PS.weak (ps_set hN hi hx he hs hf) fun D σ H z => by
  refine TSd.bind (ka := kE) z fun a v H1 G1 ρ κ W pv r ok hp tk w => ?_
  cases hpr : pr i with
  | true => rw [hpr, if_pos rfl] at w; exact w.elim
  | false =>
    rw [hpr, if_neg (by decide)] at w
    exact w _ G1 H1 .refl (StOk.store' ok (ne_of_pr hp hpr))
/-- x = f(x, ..): f gives its own argument back, or something of its own -/
def sAsgM (pr : Nat → Bool) (i n : Nat) (cf : List TD → RF) (g : Env → R (List Ag)) : Env → R Fl := fun ρ => (g ρ).bind fun ags ρ1 => if ags.length = n then (match lend ρ1 ags with
  | none => .stuck
  | some (tds, ρh) => match cf tds with
    | .ok td ys => if ys.length = tds.length then (if pr i then .stuck else .ok .nx ((back ρh ags tds ys).set i (some td))) else .stuck
    | .exc c fs ys => if ys.length = tds.length then .exc c fs (back ρh ags tds ys) else .stuck
    | .me j ys => if ys.length = tds.length then (match ags[j]? with
      | some (.n i') => if i' = i then .ok .nx (back ρh ags tds ys) else .stuck
      | _ => .stuck) else .stuck
    | .stuck => .stuck) else .stuck
/-- x op= e (ints and texts) -/
def sAug (pr : Nat → Bool) (i : Nat) (g : D → D → Option D) (f : Env → R TD) : Env → R Fl := fun ρ => match ρ[i]? with
  | some (some x) => (f ρ).bind fun y ρ1 => match g x.2 y.2 with
    | some d => if pr i then .stuck else .ok .nx (ρ1.set i (some (.F, d)))
    | none => .stuck
  | _ => .stuck
theorem ip_of {op : Operator} {r : R2} (h : OpR X (inplaceOp op) r) : PIp X op r := fun pins s σ H x y v u Q I r1 r2 q => h pins s σ H x y v u Q I r1 r2 q
theorem ds_aug {op : Operator} {g : D → D → Option D} {i : Nat} {x : PySem.Str} (ho : OpR X (inplaceOp op) (rPrim g)) (hg : PrimOp g) (hN : X.N.Nodup) (hi : X.N[i]? = some x) (hx : Loc X.env.scope x) (he : DE X C q e f)
    (hf : X.fn x = true ∨ X.env.scope.names.lookup x = some .local := by first | exact .inl rfl | exact .inr rfl | assumption) : DS X C pr (.AugAssign (.Name x pos') op e pos) (sAug pr i g f) := PS.weak (ps_aug hN hi hx he (ip_of ho) hf) fun D σ H z => by
  obtain ⟨G, ρ, κ, W, pv, ok, hp, tk, w⟩ := z
  unfold sAug at w
  cases e : ρ[i]? with
  | none => rw [e] at w; exact w.elim
  | some o => cases o with
    | none => rw [e] at w; exact w.elim
    | some td =>
      rw [e] at w
      obtain ⟨v, l, hv, ow⟩ := ok.at (t := td.1) (d := td.2) e
      refine ⟨v, hv, ?_⟩
      dsimp only at w
      rw [R.wp_bind] at w
      refine ⟨G, H, ρ, G, ρ, κ, W, pv, .refl, trivial, ok, tk, R.wp_mono w (fun y ρ1 w1 u G' H' r st ok' => ?_) fun c fs ρ1 w1 cls dO G' H' l x ok' => w1 cls dO σ G' H' l x ok'⟩
      cases eg : g td.2 y.2 with
      | none => simp only [eg] at w1; exact w1.elim
      | some d2 =>
        simp only [eg] at w1
        obtain ⟨⟨x1, e1⟩, ⟨y1, e2⟩, ⟨z, e3⟩⟩ := hg _ _ _ eg
        have hx1 := ow.prim e1
        obtain ⟨l2, o2⟩ := ok'.mem (r := (y.1, y.2, u)) (by simp [kE])
        have hy1 := o2.prim e2
        subst hx1 hy1
        refine ⟨_, _, d2, z, e1, e2, eg, e3, ?_⟩
        cases hpr : pr i with
        | true => rw [hpr, if_pos rfl] at w1; exact w1.elim
        | false =>
          rw [hpr, if_neg (by decide)] at w1
          exact w1 _ G' H' st.1 (StOk.store' (ok'.tail.addF (primV_rep e3)) (ne_of_pr hp hpr))
theorem io_add : OpR X (inplaceOp .Add) (rPrim gAdd) := (iop_add.or iop_add_str).weak fun x y H Q ⟨d, d', d2, v, e1, e2, e3, e4, q⟩ => by
  cases d <;> cases d' <;> simp only [gAdd] at e3 <;> first
    | (cases e3; cases e1; cases e2; cases e4; exact .inl ⟨_, _, rfl, rfl, q⟩)
    | (split at e3
       · cases e3; cases e1; cases e2; cases e4; exact .inr ⟨_, _, rfl, rfl, by assumption, q⟩
       · cases e3)
    | cases e3
theorem iop_int0 {op : Operator} {F : Int → Int → V} {f : Int → Int → Option D} (h : OpR X (inplaceOp op) (rI0 F)) (k : ∀ i j d, f i j = some d → primV d = some (F i j)) : OpR X (inplaceOp op) (rPrim (gI f)) :=
  h.weak fun x y H Q ⟨d, d', d2, v, e1, e2, e3, e4, q⟩ => by
    cases d with
    | int i => cases d' with
      | int j =>
        have e6 := (k i j d2 e3).symm.trans e4
        cases e1; cases e2; cases e6
        exact ⟨i, j, rfl, rfl, q⟩
      | _ => cases e3
    | _ => cases e3
theorem io_sub : OpR X (inplaceOp .Sub) (rPrim gSub) := iop_int0 iop_sub fun i j d e => by cases e; rfl
theorem io_or : OpR X (inplaceOp .BitOr) (rPrim gOr) := iop_int0 iop_or fun i j d e => by cases e; rfl
end
end PF
namespace PF
open PySem L2
section
variable {X : Cx} {C : Ct} {q qa qb : Bool} {e a b c : Expr} {f fa fb fc : Env → R TD} {pos pos' : Pos}
variable {K : PySem.W.Frag} {B : Tb} {G G' H H' : Hp} {σ : L2.St} {ρ : Env} {κ κ' : List Rs} {pv : List (Nat × V)} {pr : Nat → Bool}
theorem putF_cons (f g : PySem.Str) (v w : V) (r : List (PySem.Str × V)) : putF f v ((g, w) :: r) = if g = f then (g, v) :: r else (g, w) :: putF f v r := rfl
/-- a further value at an attribute: what was there is let go -/
theorem OwnF.put (inj : ∀ n m, B.nm n = B.nm m → n = m) {n : Nat} {t : T} {d : D} {v : V} {l2 : List Addr} (hd : Own K B G H d t v l2) : ∀ {fs : List (Nat × D)} {ts : List T} {vs : List (PySem.Str × V)} {l : List Addr}, OwnF K B G H fs ts vs l →
    ∃ m l3, OwnF K B G H (putD n d fs) (putTs n t fs ts) (putF (B.nm n) v vs) m ∧ (l ++ l2).Perm (m ++ l3)
  | [], ts, vs, l, h => by
    simp only [OwnF] at h
    obtain ⟨rfl, rfl⟩ := h
    refine ⟨l2, [], ?_, by simp⟩
    simp only [putD, putTs, OwnF]
    exact ⟨v, [], l2, [], rfl, by simp, hd, rfl, rfl⟩
  | (m, x) :: r, ts, vs, l, h => by
    simp only [OwnF] at h
    obtain ⟨w, vs', l1, lr, e1, el, h1, h2⟩ := h
    subst e1 el
    rw [putF_cons]
    unfold putD putTs
    by_cases hb : m = n
    · subst hb
      rw [if_pos rfl, if_pos rfl, if_pos rfl]
      refine ⟨l2 ++ lr, l1, ?_, ?_⟩
      · simp only [OwnF]
        exact ⟨v, vs', l2, lr, rfl, rfl, hd, h2⟩
      · rw [List.append_assoc]
        refine List.perm_append_comm.trans ?_
        exact List.Perm.append_right l1 List.perm_append_comm
    · rw [if_neg hb, if_neg (fun z => hb (inj _ _ z)), if_neg hb]
      obtain ⟨m', l3, h3, p⟩ := OwnF.put inj hd h2
      refine ⟨l1 ++ m', l3, ?_, ?_⟩
      · simp only [OwnF]
        exact ⟨w, _, l1, m', rfl, rfl, h1, h3⟩
      · rw [List.append_assoc, List.append_assoc]
        exact p.append_left l1
/-- o.f = e, o a name -/
def sFld (i n : Nat) (f : Env → R TD) : Env → R Fl := fun ρ => (f ρ).bind fun x ρ1 => match ρ1[i]? with
  | some (some (.R ts, .obj c fs)) => if fs.length < 1000 then .ok .nx (ρ1.set i (some (.R (putTs n x.1 fs ts), .obj c (putD n x.2 fs)))) else .stuck
  | _ => .stuck
theorem ds_fld {i n : Nat} {x y : PySem.Str} {p : Pos} (CO : CtOk X C) (hx : PE X (.Name x p) (tVar i)) (hy : C.B.nm n = y) (hn : n < C.nn) (he : DE X C q e f) (hs : swapsWith e (some (.Attribute (.Name x p) y pos')) pos.line X.env = pure false := by rfl) :
    DS X C pr (.Assign [.Attribute (.Name x p) y pos'] e pos) (sFld i n f) := PS.weak (ps_fld hx he hs) fun D σ H z => by
  subst hy
  refine TSd.bind (ka := kE) z fun a v H1 G1 ρ κ W pv r ok hp tk w => ?_
  cases e : ρ[i]? with
  | none => rw [e] at w; exact w.elim
  | some o => cases o with
    | none => rw [e] at w; exact w.elim
    | some td =>
      obtain ⟨t, d⟩ := td
      obtain ⟨u, l, hu, ow⟩ := StOk.at (ok.tail) e
      refine ⟨u, hu, ?_⟩
      rw [e] at w
      cases t with
      | R ts => cases d with
        | obj c fs =>
          dsimp only at w
          split at w
          · rename_i hl
            have ow' := ow
            simp only [Own] at ow'
            obtain ⟨aa, dx, vs, l', e1, ha, el, hf⟩ := ow'
            subst e1
            refine ⟨aa, _, dx, vs, rfl, ha, CO.cls (Nat.lt_of_le_of_lt (Nat.zero_le _) hn) c, CO.noat c n hn, by rw [← hf.len]; exact hl, ?_⟩
            refine w σ G1 _ .refl ?_
            refine StOk.turn (ys := [(a.1, a.2, v)]) (zs := []) ok e hu fun xs o => ?_
            refine Okx.write (ys := [(T.R ts, PF.D.obj c fs, V.ref aa), (a.1, a.2, v)]) (zs := [(_, _, V.ref aa)]) o fun ll ho nd => ?_
            obtain ⟨l1, l2, e2, h1, l3, l4, e3, h2, h3⟩ := ho
            have h3 : l4 = [] := h3
            subst e2 e3 h3
            simp only [Own] at h1
            obtain ⟨a2, dx2, vs2, l5, e4, ha2, e5, hf2⟩ := h1
            cases e4
            rw [ha] at ha2
            cases ha2
            subst e5
            refine ⟨by simp, ?_⟩
            rw [List.append_nil] at nd ⊢
            have nd' := List.nodup_append.mp nd
            have na : aa ∉ l5 := (List.nodup_cons.mp nd'.1).1
            have nb : aa ∉ l3 := fun z => nd'.2.2 aa List.mem_cons_self aa z rfl
            have hf3 := OwnF.mono (H' := upd H1 aa (.ins (C.B.cls c) dx (putF (C.B.nm n) v vs))) .refl hf2 fun b hb => upd_ne fun z => na (z ▸ hb)
            have h4 := Own.mono (H' := upd H1 aa (.ins (C.B.cls c) dx (putF (C.B.nm n) v vs))) .refl h2 fun b hb => upd_ne fun z => nb (z ▸ hb)
            obtain ⟨m, l6, h5, pm⟩ := hf3.put CO.inj h4
            refine ⟨aa :: m, l6, ⟨aa :: m, [], (List.append_nil _).symm, ?_, rfl⟩, ?_⟩
            · simp only [Own]
              exact ⟨aa, dx, _, m, rfl, upd_same, rfl, h5⟩
            · exact pm.cons aa
          · exact w.elim
        | _ => exact w.elim
      | _ => first | exact w.elim | (cases d <;> exact w.elim)
end
end PF
namespace L2
open PySem
theorem PG.weak {X : Cx} {e : Expr} {t t' : TG} (h : PG X e t) (k : ∀ v σ H Q, t' v σ H Q → t v σ H Q) : PG X e t' := ⟨fun pins s σ H v u Q I r q => h.run pins s σ H v u Q I r (k _ _ _ _ q)⟩
theorem PI.weak {X : Cx} {tg e : Expr} {t t' : TI} (h : PI X tg e t) (k : ∀ σ H R, t' σ H R → t σ H R) : PI X tg e t' := ⟨fun pins s σ H R I q => h.run pins s σ H R I (k _ _ _ q)⟩
end L2
namespace PF
open PySem PySem.Spec L2
open PyProof.Rows hiding St
section
variable {X : Cx} {C : Ct} {q qa qb : Bool} {e a b c : Expr} {f fa fb fc : Env → R TD} {pos pos' : Pos}
variable {K : PySem.W.Frag} {B : Tb} {G G' H H' : Hp} {σ : L2.St} {ρ : Env} {κ κ' : List Rs} {pv : List (Nat × V)} {pr P : Nat → Bool}
def TgD (X : Cx) (C : Ct) (pr : Nat → Bool) (P : Nat → Bool) (f : D → Env → Option Env) : TG := fun v σ H Q => ∃ (G : Hp) (ρ ρ' : Env) (κ : List Rs) (pv : List (Nat × V)) (d : D), StOk X.K C.B G H σ ρ κ pv ∧ Rep X.K C.B G d v ∧ (∀ p ∈ pv, pr p.1 = true) ∧
  f d ρ = some ρ' ∧ ∀ σ' G' H', Chg P σ σ' → Le G G' → StOk X.K C.B G' H' σ' ρ' κ pv → Q σ' H'
abbrev DTgP (X : Cx) (C : Ct) (pr P : Nat → Bool) (e : Expr) (f : D → Env → Option Env) : Prop := PG X e (TgD X C pr P f)
abbrev DTg (X : Cx) (C : Ct) (pr : Nat → Bool) (e : Expr) (f : D → Env → Option Env) : Prop := DTgP X C pr (fun _ => true) e f
def gN (pr : Nat → Bool) (i : Nat) : D → Env → Option Env := fun d ρ => if pr i then none else some (ρ.set i (some (.F, d)))
theorem dg_name {i : Nat} {x : PySem.Str} (hN : X.N.Nodup) (hi : X.N[i]? = some x) (hx : Loc X.env.scope x) (hf : X.fn x = true ∨ X.env.scope.names.lookup x = some .local := by first | exact .inl rfl | exact .inr rfl | assumption) (hP : P i = true := by rfl) : DTgP X C pr P (.Name x pos) (gN pr i) := PG.weak (pg_name hN hi hx hf) fun v σ H Q z => by
  obtain ⟨G, ρ, ρ', κ, pv, d, ok, r, hp, e, w⟩ := z
  unfold gN at e
  cases hpr : pr i with
  | true => rw [hpr, if_pos rfl] at e; cases e
  | false =>
    rw [hpr, if_neg (by decide)] at e
    cases e
    exact w _ G H (.set _ hP) .refl (StOk.store' (ok.addF r) (ne_of_pr hp hpr))
/-- several targets -/
def TgsD (X : Cx) (C : Ct) (pr P : Nat → Bool) (f : List D → Env → Option Env) : TGs := fun vs σ H Q => ∃ (G : Hp) (ρ ρ' : Env) (κ : List Rs) (pv : List (Nat × V)) (ds : List D), StOk X.K C.B G H σ ρ κ pv ∧ Reps X.K C.B G ds vs ∧ (∀ p ∈ pv, pr p.1 = true) ∧
  f ds ρ = some ρ' ∧ ∀ σ' G' H', Chg P σ σ' → Le G G' → StOk X.K C.B G' H' σ' ρ' κ pv → Q σ' H'
abbrev DTgs (X : Cx) (C : Ct) (pr P : Nat → Bool) (es : List Expr) (f : List D → Env → Option Env) : Prop := PGs X es (TgsD X C pr P f)
def gsNil : List D → Env → Option Env := fun ds ρ => match ds with | [] => some ρ | _ => none
def gsCons (f : D → Env → Option Env) (g : List D → Env → Option Env) : List D → Env → Option Env := fun ds ρ => match ds with | d :: r => (f d ρ).bind fun ρ1 => g r ρ1 | [] => none
theorem dgs_nil : DTgs X C pr P [] gsNil := ⟨fun pins s σ H vs us Q I r z => by
  obtain ⟨G, ρ, ρ', κ, pv, ds, ok, rr, hp, e, w⟩ := z
  cases ds with
  | nil =>
    simp only [Reps] at rr
    subst rr
    cases r
    cases e
    exact assignInOrder_nil ⟨σ, H, I, w σ G H .refl .refl ok⟩
  | cons _ _ => cases e⟩
theorem dgs_cons {es : List Expr} {f : D → Env → Option Env} {g : List D → Env → Option Env} (h1 : DTgP X C pr P e f) (h2 : DTgs X C pr P es g)
    (hs : (assignEach (e :: es) X.env).map (·.2) = assign e X.env :: (assignEach es X.env).map (·.2) := by rfl) : DTgs X C pr P (e :: es) (gsCons f g) := by
  refine ⟨fun pins s σ H vs us Q I r z => (pgs_cons h1 h2 hs).run pins s σ H vs us Q I r ?_⟩
  obtain ⟨G, ρ, ρ', κ, pv, ds, ok, rr, hp, ee, w⟩ := z
  cases ds with
  | nil => cases ee
  | cons d ds =>
    simp only [Reps] at rr
    obtain ⟨v, vs', e1, r1, r2⟩ := rr
    subst e1
    obtain ⟨ρ1, e2, e3⟩ := Option.bind_eq_some_iff.mp (show (f d ρ).bind (fun ρ1 => g ds ρ1) = some ρ' from ee)
    refine ⟨v, vs', rfl, G, ρ, ρ1, κ, pv, d, ok, r1, hp, e2, fun σ' G' H' cg le ok' => ?_⟩
    exact ⟨G', ρ1, ρ', κ, pv, ds, ok', r2.mono le, hp, e3, fun σ2 G2 H2 cg2 l2 o2 => w σ2 G2 H2 (cg.trans cg2) (le.trans l2) o2⟩
/-- (a, b, ..) = a tuple or a list -/
def gT (n : Nat) (g : List D → Env → Option Env) : D → Env → Option Env := fun d ρ => match items d with | some ds => if ds.length = n then g ds ρ else none | none => none
theorem dg_tup {es : List Expr} {k n : Nat} {g : List D → Env → Option Env} (hc : X.calm = true) (h : DTgs X C pr P es g)
    (hn : (assignEach es X.env).length = n := by rfl) (hst : (assignEach es X.env).findIdx? (·.1) = none := by rfl) : DTgP X C pr P (.Tuple es k pos) (gT n g) := by
  refine ⟨fun pins s σ H v u Q I r z => ?_⟩
  obtain ⟨G, ρ, ρ', κ, pv, d, ok, rr, hp, ee, w⟩ := z
  unfold gT at ee
  cases e : items d with
  | none => rw [e] at ee; cases ee
  | some ds =>
    rw [e] at ee
    dsimp only at ee
    split at ee
    · rename_i hl
      obtain ⟨a, vs, e1, r1, s1⟩ := rr.items e
      subst e1
      have hv : vs.length = n := by rw [← r1.length]; exact hl
      have z2 : TgsD X C pr P g vs σ H Q := ⟨G, ρ, ρ', κ, pv, ds, ok, r1, hp, ee, w⟩
      rcases s1 with ⟨_, s1⟩ | ⟨_, s1⟩
      · exact (pg_lst hc h hn hst).run pins s σ H _ u Q I r ⟨a, vs, rfl, ok.le.sqL s1, hv, z2⟩
      · exact (pg_tup hc h hn hst).run pins s σ H _ u Q I r ⟨a, vs, rfl, ok.le.sqT s1, hv, z2⟩
    · cases ee
/-- J walks ds while κw is held -/
def Walk (X : Cx) (C : Ct) (J : It) (κw : List Rs) (ds : List D) : Prop := ∀ (σ : L2.St) (ρ : Env) (κ : List Rs) (pv : List (Nat × V)) (G H : Hp) (i : Nat), StOk X.K C.B G H σ ρ (κw ++ κ) pv →
  (∀ d, ds[i]? = some d → J.go i H ∧ ∀ x H', J.yld i H x H' → ∃ G', Le G G' ∧ StOk X.K C.B G' H' σ ρ (κw ++ κ) pv ∧ Rep X.K C.B G' d x) ∧ (ds.length ≤ i → J.stop i H)
/-- .. from G0 on -/
def WalkG (X : Cx) (C : Ct) (G0 : Hp) (J : It) (κw : List Rs) (ds : List D) : Prop := ∀ (σ : L2.St) (ρ : Env) (κ : List Rs) (pv : List (Nat × V)) (G H : Hp) (i : Nat), Le G0 G → StOk X.K C.B G H σ ρ (κw ++ κ) pv →
  (∀ d, ds[i]? = some d → J.go i H ∧ ∀ x H', J.yld i H x H' → ∃ G', Le G G' ∧ StOk X.K C.B G' H' σ ρ (κw ++ κ) pv ∧ Rep X.K C.B G' d x) ∧ (ds.length ≤ i → J.stop i H)
theorem Walk.g {J : It} {κw : List Rs} {ds : List D} {G0 : Hp} (h : Walk X C J κw ds) : WalkG X C G0 J κw ds := fun σ ρ κ pv G H i _ ok => h σ ρ κ pv G H i ok
def ITd (X : Cx) (C : Ct) (f : Env → R (List D)) : TI := fun σ H R => ∃ (G : Hp) (ρ : Env) (κ : List Rs) (W : WX) (pv : List (Nat × V)), StOk X.K C.B G H σ ρ κ pv ∧ Takes X W ∧
  (f ρ).wp (fun ds ρ' => ∀ J κw G' H', WalkG X C G' J κw ds → Le G G' → StOk X.K C.B G' H' σ ρ' (κw ++ κ) pv → R J H') (fun c fs ρ' => ∀ cls dO G' H', Le G G' → ExcIs X.K C.B C.xc G' c fs cls dO → StOk X.K C.B G' H' σ ρ' κ pv → W cls dO σ H')
abbrev DI (X : Cx) (C : Ct) (tg e : Expr) (f : Env → R (List D)) : Prop := PI X tg e (ITd X C f)
/-- a list or a tuple; it is shared from now on -/
def iSeq (f : Env → R TD) : Env → R (List D) := fun ρ => (f ρ).bind fun x ρ1 => match items x.2 with | some ds => .ok ds ρ1 | none => .stuck
theorem pi_seq {tg l : Expr} {tl : TE} (hl : PE X l tl) : PI X tg l (fun σ H R => tl σ H fun x H1 => ∃ a, x = .ref a ∧ (((∃ xs, SqL X.K H1 a xs) ∧ R (Itl X.K a) H1) ∨ ((∃ xs, SqT X.K H1 a xs) ∧ R (Itt X.K a) H1))) := by
  refine ⟨fun pins s σ H R I h => ?_⟩
  refine thn (hl.run pins s σ H _ I h) fun v s1 ⟨x, H1, I1, r1, q1⟩ => ?_
  obtain ⟨a, e, q1⟩ := q1
  subst e
  cases r1
  rcases q1 with ⟨⟨xs, hq⟩, q⟩ | ⟨⟨xs, hq⟩, q⟩
  · obtain ⟨its, rv, p, hz⟩ := I1.list hq
    refine wpAny_pyIter_list p.isList ?_
    refine ⟨s1.heap.objs.size, [s1.heap.objs.size], _, _, H1, rfl, I1.kept (t' := s1.toks) fun b o e => Heap.get?_push_of_some _ e, turn_list a _, ⟨_, Heap.get?_push_size _ rfl, rfl, rfl⟩, fun b hb => ?_, q⟩
    have e : b = s1.heap.objs.size := by simpa using hb
    subst e
    exact I1.fpOk (Nat.le_refl _) (I1.hok.fresh (Nat.le_refl _))
  · obtain ⟨its, rv, p, hz⟩ := I1.tuple hq
    refine wpAny_pyIter_tuple (show s1.heap.IsTuple a its.toArray from p) ?_
    refine ⟨s1.heap.objs.size, [s1.heap.objs.size], _, _, H1, rfl, I1.kept (t' := s1.toks) fun b o e => Heap.get?_push_of_some _ e, turn_tuple a _, ⟨_, Heap.get?_push_size _ rfl, rfl, rfl⟩, fun b hb => ?_, q⟩
    have e : b = s1.heap.objs.size := by simpa using hb
    subst e
    exact I1.fpOk (Nat.le_refl _) (I1.hok.fresh (Nat.le_refl _))
theorem walk_list {a : Addr} {d : D} {ds : List D} (e : items d = some ds) (hl : boxK d ≠ 1) : Walk X C (Itl X.K a) [(.F, d, .ref a)] ds := by
  intro σ ρ κ pv G H i ok
  obtain ⟨a', vs, e1, r, s⟩ := ok.headF.items e
  cases e1
  rcases s with ⟨_, s⟩ | ⟨h, s⟩
  · have s' := ok.le.sqL s
    refine ⟨fun d hd => ?_, fun hi => ⟨vs, s', by rw [← r.length]; exact hi⟩⟩
    obtain ⟨v, hv, rv⟩ := r.at hd
    refine ⟨⟨vs, v, s', hv⟩, fun x H' y => ?_⟩
    obtain ⟨e2, y⟩ := y
    subst e2
    have := y vs s'
    rw [hv] at this
    cases this
    exact ⟨G, .refl, ok, rv⟩
  · exact absurd h hl
theorem walk_tup {a : Addr} {d : D} {ds : List D} (e : items d = some ds) (hl : boxK d = 1) : Walk X C (Itt X.K a) [(.F, d, .ref a)] ds := by
  intro σ ρ κ pv G H i ok
  obtain ⟨a', vs, e1, r, s⟩ := ok.headF.items e
  cases e1
  rcases s with ⟨h, s⟩ | ⟨_, s⟩
  · exact absurd hl h
  · have s' := ok.le.sqT s
    refine ⟨fun d hd => ?_, fun hi => ⟨vs, s', by rw [← r.length]; exact hi⟩⟩
    obtain ⟨v, hv, rv⟩ := r.at hd
    refine ⟨⟨vs, v, s', hv⟩, fun x H' y => ?_⟩
    obtain ⟨e2, y⟩ := y
    subst e2
    have := y vs s'
    rw [hv] at this
    cases this
    exact ⟨G, .refl, ok, rv⟩
theorem ITd.bind {α β : Type} {ka : Kd α β} {fa : Env → R α} {g : α → Env → R (List D)} {R : It → Hp → Prop} (h : ITd X C (fun ρ => (fa ρ).bind g) σ H R) {Q : β → Hp → Prop}
    (m : ∀ a b H1 G1 ρ κ W pv, ka.rel X.K C.B σ a b G1 H1 → StOk X.K C.B G1 H1 σ ρ (ka.rs a b ++ κ) pv → Takes X W →
      (g a ρ).wp (fun ds ρ' => ∀ J κw G' H', WalkG X C G' J κw ds → Le G1 G' → StOk X.K C.B G' H' σ ρ' (κw ++ κ) pv → R J H') (fun c fs ρ' => ∀ cls dO G' H', Le G1 G' → ExcIs X.K C.B C.xc G' c fs cls dO → StOk X.K C.B G' H' σ ρ' κ pv → W cls dO σ H') → Q b H1) : RT ka X C q fa σ H Q := by
  obtain ⟨G, ρ, κ, W, pv, ok, tk, w⟩ := h
  rw [PF.R.wp_bind] at w
  refine ⟨G, H, ρ, G, ρ, κ, W, pv, .refl, trivial, ok, tk, PF.R.wp_mono w (fun a ρ1 w1 b G' H' r st ok' => ?_) fun c fs ρ1 w1 cls dO G' H' l x ok' => w1 cls dO G' H' l x ok'⟩
  exact m a b H' G' ρ1 κ W pv r ok' tk (PF.R.wp_mono w1 (fun _ _ z J κw G2 H2 wk le o => z J κw G2 H2 wk (st.1.trans le) o) fun _ _ _ z cls dO G2 H2 le => z cls dO G2 H2 (st.1.trans le))
theorem di_seq {tg : Expr} (h : DE X C q e f) : DI X C tg e (iSeq f) := PI.weak (pi_seq h) fun σ H R z => by
  refine ITd.bind (ka := kE) z fun x v H1 G1 ρ κ W pv r ok tk w => ?_
  cases e : items x.2 with
  | none => rw [e] at w; exact w.elim
  | some ds =>
    rw [e] at w
    obtain ⟨G2, le, ok2⟩ := StOk.freeze (t := x.1) (d := x.2) ok
    obtain ⟨a, vs, e1, r1, s1⟩ := ok2.headF.items e
    subst e1
    rcases s1 with ⟨h, s1⟩ | ⟨h, s1⟩
    · exact ⟨a, rfl, .inl ⟨⟨vs, ok2.le.sqL s1⟩, w _ [(.F, x.2, .ref a)] G2 H1 (walk_list e h).g le ok2⟩⟩
    · exact ⟨a, rfl, .inr ⟨⟨vs, ok2.le.sqT s1⟩, w _ [(.F, x.2, .ref a)] G2 H1 (walk_tup e h).g le ok2⟩⟩
def rngD (lo : Int) (n : Nat) : List D := (List.range n).map fun i : Nat => .int (lo + (i : Int))
theorem walk_rng {lo : Int} {n : Nat} : Walk X C (Itr lo n) [] (rngD lo n) := by
  intro σ ρ κ pv G H i ok
  refine ⟨fun d hd => ?_, fun hi => by
    have : n ≤ i := by simpa [rngD] using hi
    exact this⟩
  unfold rngD at hd
  rw [List.getElem?_map] at hd
  obtain ⟨j, hj, e⟩ := Option.map_eq_some_iff.mp hd
  obtain ⟨hj1, hj2⟩ := List.getElem?_eq_some_iff.mp hj
  rw [List.length_range] at hj1
  rw [List.getElem_range] at hj2
  subst hj2
  refine ⟨hj1, fun x H' y => ?_⟩
  obtain ⟨e1, e2⟩ := y
  subst e1 e2 e
  exact ⟨G, .refl, ok, by simp only [Rep]⟩
def small62 (i : Int) : Bool := decide (i.natAbs < 2 ^ 62)
theorem small62_iff {i : Int} : small62 i = true → -(2 ^ 62) ≤ i ∧ i < 2 ^ 62 := by
  unfold small62
  rw [decide_eq_true_eq]
  omega
def intD (d : D) : Option Int := match d with
  | .int i => some i
  | _ => none
def int1 (xs : List TD) : Option Int := match xs with
  | [x] => intD x.2
  | _ => none
def int2 (xs : List TD) : Option (Int × Int) := match xs with
  | [x, y] => (intD x.2).bind fun i => (intD y.2).map fun j => (i, j)
  | _ => none
theorem intD_prim {d : D} {i : Int} (h : intD d = some i) : primV d = some (.int i) := by
  cases d <;> first | (cases h; rfl) | cases h
theorem int1_ok {xs : List TD} {vs : List V} {j : Int} (h : int1 xs = some j) (hl : xs.length = vs.length) (ok : StOk K B G H σ ρ (rsL xs vs ++ κ) pv) : vs = [.int j] := by
  match xs, h with
  | [x], h =>
    match vs, hl with
    | [v], _ =>
      obtain ⟨l, o⟩ := ok.mem (r := (x.1, x.2, v)) (by simp [rsL])
      have hv : v = V.int j := o.prim (intD_prim h)
      rw [hv]
theorem int2_ok {xs : List TD} {vs : List V} {i j : Int} (h : int2 xs = some (i, j)) (hl : xs.length = vs.length) (ok : StOk K B G H σ ρ (rsL xs vs ++ κ) pv) : vs = [.int i, .int j] := by
  match xs, h with
  | [x, y], h =>
    match vs, hl with
    | [v, w], _ =>
      obtain ⟨i', h1, h2⟩ := Option.bind_eq_some_iff.mp (show (intD x.2).bind (fun i => (intD y.2).map fun j => (i, j)) = some (i, j) from h)
      obtain ⟨j', h3, h4⟩ := Option.map_eq_some_iff.mp h2
      cases h4
      obtain ⟨l, o⟩ := ok.mem (r := (x.1, x.2, v)) (by simp [rsL])
      obtain ⟨l2, o2⟩ := ok.mem (r := (y.1, y.2, w)) (by simp [rsL])
      have hv : v = V.int i := o.prim (intD_prim h1)
      have hw : w = V.int j := o2.prim (intD_prim h3)
      rw [hv, hw]
def iRng1' (f : Env → R (List TD)) : Env → R (List D) := fun ρ => (f ρ).bind fun xs ρ1 => match int1 xs with
  | some j => if small62 j then .ok (rngD 0 j.toNat) ρ1 else .stuck
  | none => .stuck
def iRng2' (f : Env → R (List TD)) : Env → R (List D) := fun ρ => (f ρ).bind fun xs ρ1 => match int2 xs with
  | some ij => if small62 ij.1 && small62 ij.2 then .ok (rngD ij.1 (ij.2 - ij.1).toNat) ρ1 else .stuck
  | none => .stuck
theorem di_rng1 {tg a : Expr} {fa : Env → R (List TD)} {p : Pos} (hg : Gl X "range") (hm : X.mg "range" = none) (ha : DA X C q [a] fa) (hs : starEach [a] X.env = [(false, eval a X.env)] := by rfl) : DI X C tg (.Call (.Name "range" p) [a] [] pos) (iRng1' fa) := PI.weak (pi_range1 hg hm ha hs) fun σ H R z => by
  refine ITd.bind (ka := kA) z fun xs vs H1 G1 ρ κ W pv r ok tk w => ?_
  cases e : int1 xs with
  | none => rw [e] at w; exact w.elim
  | some j =>
    rw [e] at w
    have hv := int1_ok e r ok
    dsimp only at w
    split at w
    · rename_i hj
      obtain ⟨h1, h2⟩ := small62_iff hj
      exact ⟨j, hv, h1, h2, w _ [] G1 H1 walk_rng.g .refl ok.drop⟩
    · exact w.elim
def forD (step : D → Env → R Fl) : List D → Env → R Fl
  | [], ρ => .ok .nx ρ
  | d :: r, ρ => (step d ρ).bind fun fl ρ1 => match fl with
    | .nx => forD step r ρ1
    | .ct => forD step r ρ1
    | .bk => .ok .nx ρ1
    | .rt td => .ok (.rt td) ρ1
    | .me i => .ok (.me i) ρ1
def stepD (g : D → Env → Option Env) (body : Env → R Fl) (d : D) : Env → R Fl := fun ρ => match g d ρ with
  | some ρ1 => body ρ1
  | none => .stuck
def sFor (fi : Env → R (List D)) (g : D → Env → Option Env) (body : Env → R Fl) : Env → R Fl := fun ρ => (fi ρ).bind fun ds ρ1 => forD (stepD g body) ds ρ1
theorem ds_for {tg iter : Expr} {body : List Stmt} {fi : Env → R (List D)} {g : D → Env → Option Env} {fb : Env → R Fl} (hp : PassesOwn (model X.prog X.w) X.A X.env X.xe) (hc : X.calm = true) (hi : DI X C tg iter fi) (hg : DTg X C pr tg g) (hb : DSs X C pr body fb)
    (hs : ∀ x, foldedSetIterable iter X.env x = pure x := by intro _; rfl) : DS X C pr (.For tg iter body [] pos) (sFor fi g fb) := PS.weak (ps_for hp hc hi hg hb hs) fun D σ H z => by
  obtain ⟨G, ρ, κ, W, pv, ok, hpv, tk, w⟩ := z
  unfold sFor at w
  rw [R.wp_bind] at w
  refine ⟨G, ρ, κ, W, pv, ok, tk, R.wp_mono w (fun ds ρ1 w1 J κw G1 H1 wk le1 ok1 => ?_) fun c fs ρ1 w1 cls dO G' H' l x ok' => w1 cls dO σ G' H' l x ok'⟩
  refine ⟨fun i m σ' H' => m = ds.length - i ∧ i ≤ ds.length ∧ ∃ G' ρ', Le G1 G' ∧ StOk X.K C.B G' H' σ' ρ' (κw ++ κ) pv ∧ (forD (stepD g fb) (ds.drop i) ρ').wp (QF X C D G κ pv) (EF X C W G κ pv),
    ⟨_, rfl, Nat.zero_le _, G1, ρ1, .refl, ok1, by rw [List.drop_zero]; exact w1⟩, ?_⟩
  rintro i m σ' H' ⟨rfl, hi, G', ρ', le', ok', w'⟩
  obtain ⟨wk1, wk2⟩ := wk σ' ρ' κ pv G' H' i le' ok'
  by_cases hlt : i < ds.length
  · have hd : ds[i]? = some ds[i] := List.getElem?_eq_getElem hlt
    obtain ⟨go, yld⟩ := wk1 _ hd
    refine .inr ⟨go, fun σ2 H2 => ∃ G2 ρ2, Le G1 G2 ∧ StOk X.K C.B G2 H2 σ2 ρ2 (κw ++ κ) pv ∧ (forD (stepD g fb) (ds.drop (i + 1)) ρ2).wp (QF X C D G κ pv) (EF X C W G κ pv),
      fun σ2 H2 ⟨G2, ρ2, z1, z2, z3⟩ => ⟨_, by omega, rfl, hlt, G2, ρ2, z1, z2, z3⟩, fun x H2 y => ?_⟩
    obtain ⟨G2, le2, ok2, rx⟩ := yld x H2 y
    rw [List.drop_eq_getElem_cons hlt] at w'
    unfold forD at w'
    rw [R.wp_bind] at w'
    unfold stepD at w'
    cases eg : g ds[i] ρ' with
    | none => rw [eg] at w'; exact w'.elim
    | some ρ3 =>
      rw [eg] at w'
      refine ⟨G2, ρ', ρ3, κw ++ κ, pv, ds[i], ok2, rx, hpv, eg, fun σ3 G3 H3 _ le3 ok3 => ?_⟩
      have leB := (le'.trans le2).trans le3
      have leA := le1.trans leB
      refine ⟨G3, ρ3, κw ++ κ, W, pv, ok3, hpv, tk, R.wp_mono w' (fun fl ρ4 w4 => ?_) fun c fs ρ4 w4 cls dO σ4 G4 H4 le4 x ok4 => w4 cls dO σ4 G4 H4 (leA.trans le4) x ok4.drop⟩
      cases fl with
      | nx => exact fun σ4 G4 H4 le4 ok4 => ⟨G4, ρ4, leB.trans le4, ok4, w4⟩
      | ct => exact fun σ4 G4 H4 le4 ok4 => ⟨G4, ρ4, leB.trans le4, ok4, w4⟩
      | bk => exact fun σ4 G4 H4 le4 ok4 => w4 σ4 G4 H4 (leA.trans le4) ok4.drop
      | rt td => exact fun v σ4 G4 H4 le4 ok4 => w4 v σ4 G4 H4 (leA.trans le4) ((ok4.permK (List.perm_append_comm_assoc [(td.1, td.2, v)] κw κ)).drop)
      | me i => exact fun v σ4 G4 H4 le4 ok4 => w4 v σ4 G4 H4 (leA.trans le4) ok4.drop
  · have e : i = ds.length := by omega
    subst e
    rw [List.drop_length] at w'
    exact .inl ⟨wk2 (Nat.le_refl _), w' σ' G' H' (le1.trans le') ok'.drop⟩
end
end PF
namespace PF
open PySem PySem.Spec L2
open PyProof.Rows hiding St
section
variable {X : Cx} {C : Ct} {q qa qb : Bool} {e a b c : Expr} {f fa fb fc : Env → R TD} {pos pos' p : Pos}
variable {K : PySem.W.Frag} {B : Tb} {G G' H H' : Hp} {σ : L2.St} {ρ : Env} {κ κ' : List Rs} {pv : List (Nat × V)} {pr : Nat → Bool}
inductive Ans where
  | p (d : D) | l (ds : List D) | t (ds : List D) | dd (z : Bool) (kvs : List (D × D))
def Ans.go : Ans → Env → R TD
  | .p d, ρ => .ok (.F, d) ρ
  | .l ds, ρ => .ok (.L .F, .lst ds) ρ
  | .t ds, ρ => .ok (.F, .tup ds) ρ
  | .dd z kvs, ρ => .ok (.M .F, .dct z kvs) ρ
def AnsPost (K : PySem.W.Frag) (B : Tb) (G H : Hp) (a : Ans) (Q : VK) : Prop := match a with
  | .p d => ∀ v, Rep K B G d v → Q v H
  | .l ds => ∀ p vs, Reps K B G ds vs → H p = none → Q (.ref p) (upd H p (.lst vs))
  | .t ds => ∀ p vs, Reps K B G ds vs → H p = none → Q (.ref p) (upd H p (.tup vs))
  | .dd z kvs => ∀ p o ks, DctOf (upd H p o) p z ks → RepP K B G kvs ks → H p = none → Q (.ref p) (upd H p o)
theorem repP_own : ∀ {kvs : List (D × D)} {ks : List (D × V)}, RepP K B G kvs ks → OwnP K B G H kvs .F ks []
  | [], ks, h => by simp only [RepP] at h; simp only [OwnP]; exact ⟨h, trivial⟩
  | (k, d) :: r, ks, h => by
    simp only [RepP] at h
    obtain ⟨v, ks', e1, h1, h2⟩ := h
    simp only [OwnP]
    exact ⟨v, ks', [], [], e1, rfl, h1.own, repP_own h2⟩
theorem StOk.newD {p : Addr} {z : Bool} {o : HO} {ks : List (D × V)} {kvs : List (D × D)} (h : StOk K B G H σ ρ κ pv) (hp : H p = none) (hd : DctOf (upd H p o) p z ks) (r : RepP K B G kvs ks) :
    StOk K B G (upd H p o) σ ρ ((.M .F, .dct z kvs, .ref p) :: κ) pv := by
  refine h.with (Okx.unrot (ys := [(T.M .F, D.dct z kvs, V.ref p)]) ?_)
  refine Okx.layO (ys := []) h.ok hp fun G' H' l le hH zz => ⟨[p], ?_, ?_⟩
  · simp only [Own]
    exact ⟨p, ks, [], rfl, hd.keep (by rw [hH, upd_same]), rfl, repP_own (r.mono le)⟩
  · rw [show l = [] from zz]
theorem Fin.ans {Q : VK} {G0 H0 : Hp} {ρ0 : Env} {P : Hp → Hp → Prop} {tmp : List Rs} {a : Ans} (h : Fin kE X C q G0 H0 ρ0 σ H Q P tmp a.go) :
    ∃ G ρ κ pv, P G H ∧ StOk X.K C.B G H σ ρ (tmp ++ κ) pv ∧ AnsPost X.K C.B G H a Q := by
  obtain ⟨G, ρ, κ, W, pv, st, p, ok, tk, w⟩ := h
  refine ⟨G, ρ, κ, pv, p, ok, ?_⟩
  cases a with
  | p d => exact fun v r => w v G H trivial st (ok.drop.addF r)
  | l ds => exact fun p vs r hp => w (.ref p) G _ trivial (st.grow .refl hp) (ok.drop.newLst hp r)
  | t ds =>
    intro p vs r hp
    obtain ⟨G2, le, ok2⟩ := ok.drop.newTup hp r
    exact w (.ref p) G2 _ trivial (st.grow le hp) ok2
  | dd z kvs => exact fun p o ks hd r hp => w (.ref p) G _ trivial (st.grow .refl hp) (ok.drop.newD hp hd r)
def goO : Option Ans → Env → R TD
  | some a => a.go
  | none => fun _ => .stuck
def fB1 (g : TD → Option Ans) (f : Env → R TD) : Env → R TD := fun ρ => (f ρ).bind fun x => goO (g x)
def B1Ok (X : Cx) (C : Ct) (r : List V → Hp → VK → Prop) (g : TD → Option Ans) : Prop :=
  ∀ (G H : Hp) (x : TD) (v : V) (l : List Addr) (a : Ans) (Q : VK), Le G H → Own X.K C.B G H x.2 x.1 v l → g x = some a → AnsPost X.K C.B G H a Q → r [v] H Q
theorem B1Ok.or {r r' : List V → Hp → VK → Prop} {g g' : TD → Option Ans} (h : B1Ok X C r g) (h' : B1Ok X C r' g') : B1Ok X C (fun xs H Q => r xs H Q ∨ r' xs H Q) (fun x => (g x).orElse fun _ => g' x) := by
  intro G H x v l a Q le o e post
  cases q : g x with
  | some a' =>
    simp only [q] at e
    cases e
    exact .inl (h G H x v l _ Q le o q post)
  | none =>
    simp only [q] at e
    exact .inr (h' G H x v l _ Q le o e post)
theorem b1_tail {r : List V → Hp → VK → Prop} {g : TD → Option Ans} (hb : B1Ok X C r g) {Q : VK} (z : RT kE X C q (fB1 g fa) σ H Q) : RT kB X C q fa σ H fun v H1 => r [v] H1 Q := by
  refine RT.bind (ka := kB) z (fun h => h) fun x v H1 G0 H0 ρ0 z1 => ?_
  cases e : g x with
  | none => rw [e] at z1; exact z1.no
  | some a =>
    rw [e] at z1
    obtain ⟨G, ρ, κ, pv, ⟨l, o⟩, ok, post⟩ := z1.ans
    exact hb G H1 x v l a Q ok.le o e post
theorem de_b1 {x : PySem.Str} {id : String} {r : List V → Hp → VK → Prop} {g : TD → Option Ans} (hc : CallR X (.builtin id) r) (hb : B1Ok X C r g) (hg : Gl X x) (hm : X.mg x = none) (hv : bootBuiltins x = some (.builtin id)) (ha : DB X C q a fa)
    (hn : x ≠ "__name__" := by decide) (hdb : (x == ("__debug__" : PySem.Str)) = false := by decide) (he : starEach [a] X.env = [(false, eval a X.env)] := by rfl) (hpl : (backTo pos (starEach [] X.env)).any (·.1) = false := by rfl) : DE X C q (.Call (.Name x p) [a] [] pos) (fB1 g fa) :=
  (pe_callB hc hg hm hv (pa_cons ha pa_nil he) hn hdb he hpl).weak fun σ H Q z => b1_tail hb z
theorem de_b1T {x : PySem.Str} {T : String} {r : List V → Hp → VK → Prop} {g : TD → Option Ans} (hc : CallR X (.type T) r) (hb : B1Ok X C r g) (hg : Gl X x) (hm : X.mg x = none) (hv : bootBuiltins x = some (.type T)) (ha : DB X C q a fa)
    (hn : x ≠ "__name__" := by decide) (hdb : (x == ("__debug__" : PySem.Str)) = false := by decide) (he : starEach [a] X.env = [(false, eval a X.env)] := by rfl) (hpl : (backTo pos (starEach [] X.env)).any (·.1) = false := by rfl) : DE X C q (.Call (.Name x p) [a] [] pos) (fB1 g fa) :=
  (pe_callTy hc hg hm hv (pa_cons ha pa_nil he) hn hdb he hpl).weak fun σ H Q z => b1_tail hb z
def gLen (x : TD) : Option Ans := match x.2 with
  | .str z => if z.length ≤ SZ then some (.p (.int z.length)) else none
  | .lst ds => some (.p (.int ds.length))
  | .tup ds => some (.p (.int ds.length))
  | .scr is => some (.p (.int is.length))
  | _ => none
theorem b1_len : B1Ok X C (fun xs H Q => ∃ x n, xs = [x] ∧ LenV X.K x H n ∧ Q (.int n) H) gLen := by
  intro G H x v l a Q le o e post
  obtain ⟨t, d⟩ := x
  have r := o.see le
  cases d with
  | str z =>
    simp only [gLen] at e
    split at e
    · cases e
      simp only [Rep] at r
      subst r
      exact ⟨_, z.length, rfl, ⟨by assumption, rfl⟩, post _ (by simp only [Rep])⟩
    · cases e
  | lst ds =>
    cases e
    obtain ⟨a, vs, e1, r1, s⟩ := r.items rfl
    subst e1
    rcases s with ⟨_, s⟩ | ⟨h, s⟩
    · exact ⟨_, ds.length, rfl, .inl ⟨vs, s, r1.length⟩, post _ (by simp only [Rep])⟩
    · cases h
  | tup ds =>
    cases e
    obtain ⟨a, vs, e1, r1, s⟩ := r.items rfl
    subst e1
    rcases s with ⟨h, s⟩ | ⟨_, s⟩
    · exact absurd rfl h
    · exact ⟨_, ds.length, rfl, .inr ⟨vs, s, r1.length⟩, post _ (by simp only [Rep])⟩
  | scr is =>
    cases e
    obtain ⟨a, vs, e1, r1, s⟩ := r.items rfl
    subst e1
    rcases s with ⟨_, s⟩ | ⟨h, s⟩
    · exact ⟨_, is.length, rfl, .inl ⟨vs, s, by rw [← r1.length, List.length_map]⟩, post _ (by simp only [Rep])⟩
    · cases h
  | _ => cases e
theorem de_len (hg : Gl X "len") (hm : X.mg "len" = none) (ha : DB X C q a fa) (he : starEach [a] X.env = [(false, eval a X.env)] := by rfl) : DE X C q (.Call (.Name "len" p) [a] [] pos) (fB1 gLen fa) := de_b1 call_len b1_len hg hm boot_len ha (by decide) (by decide) he
def gAbs (x : TD) : Option Ans := match x.2 with
  | .int i => some (.p (.int (if i < 0 then -i else i)))
  | _ => none
theorem b1_abs : B1Ok X C (fun xs H Q => ∃ i, xs = [.int i] ∧ Q (.int (if i < 0 then -i else i)) H) gAbs := by
  intro G H x v l a Q le o e post
  obtain ⟨t, d⟩ := x
  cases d with
  | int i =>
    cases e
    have hv : v = V.int i := o.prim rfl
    subst hv
    exact ⟨i, rfl, post _ (by simp only [Rep])⟩
  | _ => cases e
theorem de_abs (hg : Gl X "abs") (hm : X.mg "abs" = none) (ha : DB X C q a fa) (he : starEach [a] X.env = [(false, eval a X.env)] := by rfl) : DE X C q (.Call (.Name "abs" p) [a] [] pos) (fB1 gAbs fa) := de_b1 call_abs b1_abs hg hm (by decide +kernel) ha (by decide) (by decide) he
def gInt (x : TD) : Option Ans := match x.2 with
  | .int i => some (.p (.int i))
  | .bl k => some (.p (.int (if k then 1 else 0)))
  | _ => none
theorem b1_int : B1Ok X C (fun xs H Q => (∃ i, xs = [.int i] ∧ Q (.int i) H) ∨ ∃ k, xs = [.bl k] ∧ Q (.int (if k then 1 else 0)) H) gInt := by
  intro G H x v l a Q le o e post
  obtain ⟨t, d⟩ := x
  cases d with
  | int i =>
    cases e
    have hv : v = V.int i := o.prim rfl
    subst hv
    exact .inl ⟨i, rfl, post _ (by simp only [Rep])⟩
  | bl k =>
    cases e
    have hv : v = V.bl k := o.prim rfl
    subst hv
    exact .inr ⟨k, rfl, post _ (by simp only [Rep])⟩
  | _ => cases e
theorem de_intF (hg : Gl X "int") (hm : X.mg "int" = none) (ha : DB X C q a fa) (he : starEach [a] X.env = [(false, eval a X.env)] := by rfl) : DE X C q (.Call (.Name "int" p) [a] [] pos) (fB1 gInt fa) := de_b1T call_int1 b1_int hg hm (by decide +kernel) ha (by decide) (by decide) he
/-- str of an int -/
def strI (i : Int) : PySem.Str := toString i
def gStr (x : TD) : Option Ans := match x.2 with
  | .int i => if i.natAbs.log2 < 1920 then some (.p (.str (strI i))) else none
  | .str z => some (.p (.str z))
  | _ => none
def gList (x : TD) : Option Ans := (elems x).map .l
theorem b1_list : B1Ok X C (fun xs H Q => ∃ p ys, xs = [V.ref p] ∧ (SqL X.K H p ys ∨ SqT X.K H p ys) ∧ ∀ l, H l = none → Q (.ref l) (upd H l (.lst ys))) gList := by
  intro G H x v l a Q le o e post
  obtain ⟨ds, e1, e2⟩ := Option.map_eq_some_iff.mp e
  subst e2
  obtain ⟨a, vs, e3, r, s⟩ := o.elems le e1
  refine ⟨a, vs, by rw [e3], ?_, fun l hl => post l vs r hl⟩
  rcases s with ⟨_, s⟩ | ⟨_, s⟩ | ⟨_, s⟩
  · exact .inl (SqL.of s)
  · exact .inr s
  · exact .inl s
theorem de_listF (hg : Gl X "list") (hm : X.mg "list" = none) (ha : DB X C q a fa) (he : starEach [a] X.env = [(false, eval a X.env)] := by rfl) : DE X C q (.Call (.Name "list" p) [a] [] pos) (fB1 gList fa) := de_b1T call_list_of b1_list hg hm (by decide +kernel) ha (by decide) (by decide) he
def gTuple (x : TD) : Option Ans := match x.2 with
  | .tup ds => some (.p (.tup ds))
  | _ => (elems x).map .t
def intsD : List D → Option (List Int)
  | [] => some []
  | .int i :: r => (intsD r).map (i :: ·)
  | _ :: _ => none
def gInts (g : List Int → Option Ans) (x : TD) : Option Ans := match x.2 with
  | .tup _ => none
  | d => (items d).bind fun ds => (intsD ds).bind g
def maxI : List Int → Option Int
  | [] => none
  | i :: r => some (r.foldl max i)
def minI : List Int → Option Int
  | [] => none
  | i :: r => some (r.foldl min i)
def gMax : TD → Option Ans := gInts fun is => (maxI is).map fun m => .p (.int m)
def gMin : TD → Option Ans := gInts fun is => (minI is).map fun m => .p (.int m)
def fI2 (g : Int → Int → Int) (f : Env → R (List TD)) : Env → R TD := fun ρ => (f ρ).bind fun xs ρ1 => match int2 xs with
  | some ij => .ok (.F, .int (g ij.1 ij.2)) ρ1
  | none => .stuck
theorem i2_tail {g : Int → Int → Int} {r : List V → Hp → VK → Prop} {fl : Env → R (List TD)} (hr : ∀ i j H (Q : VK), Q (.int (g i j)) H → r [.int i, .int j] H Q) {Q : VK} (z : RT kE X C q (fI2 g fl) σ H Q) : RT kA X C q fl σ H fun vs H1 => r vs H1 Q := by
  refine RT.bind (ka := kA) z (fun h => h) fun xs vs H1 G0 H0 ρ0 z1 => ?_
  cases e : int2 xs with
  | none => simp only [e] at z1; exact z1.no
  | some ij =>
    obtain ⟨i, j⟩ := ij
    simp only [e] at z1
    obtain ⟨G, ρ, κ, W, pv, st, p, ok, tk, w⟩ := z1
    rw [int2_ok e p ok]
    exact hr _ _ _ _ (w (.int (g i j)) G H1 trivial st (ok.drop.addF (by simp only [Rep])))
theorem de_max2 {fl : Env → R (List TD)} (hc : X.calm = true) (hg : Gl X "max") (hm : X.mg "max" = none) (ha : DA X C q [a, b] fl) (he : starEach [a, b] X.env = (false, eval a X.env) :: starEach [b] X.env := by rfl) (hpl : (backTo pos (starEach [b] X.env)).any (·.1) = false := by rfl) :
    DE X C q (.Call (.Name "max" p) [a, b] [] pos) (fI2 (fun i j => if j > i then j else i) fl) :=
  (pe_callB (call_max2 hc) hg hm (by decide +kernel) ha (by decide) (by decide) he hpl).weak fun σ H Q z => i2_tail (r := fun xs H Q => ∃ i j : Int, xs = [V.int i, V.int j] ∧ Q (.int (if j > i then j else i)) H) (fun i j H Q q => ⟨i, j, rfl, q⟩) z
theorem de_min2 {fl : Env → R (List TD)} (hc : X.calm = true) (hg : Gl X "min") (hm : X.mg "min" = none) (ha : DA X C q [a, b] fl) (he : starEach [a, b] X.env = (false, eval a X.env) :: starEach [b] X.env := by rfl) (hpl : (backTo pos (starEach [b] X.env)).any (·.1) = false := by rfl) :
    DE X C q (.Call (.Name "min" p) [a, b] [] pos) (fI2 (fun i j => if j < i then j else i) fl) :=
  (pe_callB (call_min2 hc) hg hm (by decide +kernel) ha (by decide) (by decide) he hpl).weak fun σ H Q z => i2_tail (r := fun xs H Q => ∃ i j : Int, xs = [V.int i, V.int j] ∧ Q (.int (if j < i then j else i)) H) (fun i j H Q q => ⟨i, j, rfl, q⟩) z
def isI (T : String) (d : D) : Option Bool := match d with
  | .non => some false
  | .bl _ => some (T == "bool" || T == "int")
  | .int _ => some (T == "int")
  | .str _ => some (T == "str")
  | .lst _ => some (T == "list")
  | .tup _ => some (T == "tuple")
  | _ => none
def gIsI (T : String) (x : TD) : Option Ans := (isI T x.2).map fun k => .p (.bl k)
end
end PF
namespace L2
open PySem
theorem PO.weak {X : Cx} {e : Option Expr} {t t' : TO} (h : PO X e t) (k : ∀ σ H Q, t' σ H Q → t σ H Q) : PO X e t' := ⟨fun pins s σ H Q I q => h.run pins s σ H Q I (k _ _ _ q)⟩
end L2
namespace PF
open PySem PySem.Spec L2
open PyProof.Rows hiding St
section
variable {X : Cx} {C : Ct} {q qa qb qc : Bool} {e a b c : Expr} {f fa fb fc : Env → R TD} {pos pos' p : Pos}
variable {K : PySem.W.Frag} {B : Tb} {G G' H H' : Hp} {σ : L2.St} {ρ : Env} {κ κ' : List Rs} {pv : List (Nat × V)} {pr : Nat → Bool}
def fOp2 (g : TD → TD → Option Ans) (fa fb : Env → R TD) : Env → R TD := fun ρ => (fa ρ).bind fun x ρ1 => (fb ρ1).bind fun y => goO (g x y)
def Op2Ok (X : Cx) (C : Ct) (r : R2) (g : TD → TD → Option Ans) : Prop :=
  ∀ (G H : Hp) (x y : TD) (v u : V) (l l' : List Addr) (a : Ans) (Q : VK), Le G H → Own X.K C.B G H x.2 x.1 v l → Own X.K C.B G H y.2 y.1 u l' → g x y = some a → AnsPost X.K C.B G H a Q → r v u H Q
theorem de_op2 {op : Operator} {r : R2} {g : TD → TD → Option Ans} (ho : OpR X (binaryOp op) r) (hk : Op2Ok X C r g) (ha : DE X C qa a fa) (hb : DB X C qb b fb) : DE X C (qa && qb) (.BinOp a op b pos) (fOp2 g fa fb) := by
  refine (pe_op ho ha hb).weak fun σ H Q z => ?_
  refine RT.bind (ka := kE) z (fun h => (Bool.and_eq_true_iff.mp h).1) fun x v1 H1 G0 H0 ρ0 z1 => ?_
  refine z1.next (ka := kB) (fun h => (Bool.and_eq_true_iff.mp h).2) fun y v2 H2 z2 => ?_
  cases e : g x y with
  | none => rw [e] at z2; exact z2.no
  | some an =>
    rw [e] at z2
    obtain ⟨G, ρ, κ, pv, ⟨l2, o2⟩, ok, post⟩ := Fin.ans (a := an) z2
    obtain ⟨l1, o1⟩ := ok.mem (r := (x.1, x.2, v1)) (by simp [kE, kB])
    exact hk G H2 x y v1 v2 l1 l2 an Q ok.le o1 o2 e post
/-- both looked at, the right one quiet -/
theorem de_op2B {op : Operator} {r : R2} {g : TD → TD → Option Ans} (ho : OpR X (binaryOp op) r) (hk : Op2Ok X C r g) (ha : DB X C qa a fa) (hb : DB X C true b fb) : DE X C qa (.BinOp a op b pos) (fOp2 g fa fb) := by
  refine (pe_op ho ha hb).weak fun σ H Q z => ?_
  refine RT.bind (ka := kB) z (fun h => h) fun x v1 H1 G0 H0 ρ0 z1 => ?_
  refine z1.quiet (ka := kB) kB_up fun y v2 H2 z2 => ?_
  cases e : g x y with
  | none => rw [e] at z2; exact z2.no
  | some an =>
    rw [e] at z2
    obtain ⟨G, ρ, κ, pv, ⟨⟨l1, o1⟩, ⟨l2, o2⟩⟩, ok, post⟩ := Fin.ans (a := an) z2
    exact hk G H2 x y v1 v2 l1 l2 an Q ok.le o1 o2 e post
def catE (x y : TD) : Option Ans := (elems x).bind fun ds => (elems y).bind fun es => if ds.length + es.length ≤ SZ then some (.l (ds ++ es)) else none
def gPlus (x y : TD) : Option Ans := match x.2, y.2 with
  | .int i, .int j => some (.p (.int (i + j)))
  | .str s, .str t => if s.length + t.length ≤ SZ then some (.p (.str (s ++ t))) else none
  | .lst _, .lst _ => catE x y
  | .tup ds, .tup es => if ds.length + es.length ≤ SZ then (match ds, es with | [], es => some (.p (.tup es)) | ds, [] => some (.p (.tup ds)) | ds, es => some (.t (ds ++ es))) else none
  | _, _ => none
theorem Reps.append : ∀ {ds es : List D} {vs us : List V}, Reps K B G ds vs → Reps K B G es us → Reps K B G (ds ++ es) (vs ++ us)
  | [], _, vs, us, h, h2 => by simp only [Reps] at h; subst h; exact h2
  | d :: r, es, vs, us, h, h2 => by
    simp only [Reps] at h
    obtain ⟨v, r', e1, h1, h3⟩ := h
    subst e1
    simp only [List.cons_append, Reps]
    exact ⟨v, r' ++ us, rfl, h1, Reps.append h3 h2⟩
theorem Reps.ne {ds : List D} {vs : List V} (h : Reps K B G ds vs) (hn : ds ≠ []) : vs ≠ [] := fun z => hn (by
  have := h.length
  rw [z] at this
  exact List.eq_nil_of_length_eq_zero this)
def rPlus (X : Cx) : R2 := fun x y H Q => (((∃ i j, x = .int i ∧ y = .int j ∧ Q (.int (i + j)) H) ∨ (∃ i j, x = .str i ∧ y = .str j ∧ i.length + j.length ≤ sizeLine ∧ Q (.str (i ++ j)) H)) ∨ rCat x y H Q) ∨ rCatA X.K x y H Q
theorem o_plus : OpR X (binaryOp .Add) (rPlus X) := ((op_add.or op_add_str).or op_cat).or op_catA
theorem op2_plus : Op2Ok X C (rPlus X) gPlus := by
  intro G H x y v u l l' an Q le o1 o2 e post
  obtain ⟨t1, d1⟩ := x
  obtain ⟨t2, d2⟩ := y
  cases d1 with
  | int i => cases d2 with
    | int j =>
      cases e
      have hv : v = V.int i := o1.prim rfl
      have hu : u = V.int j := o2.prim rfl
      subst hv hu
      exact .inl (.inl (.inl ⟨i, j, rfl, rfl, post _ (by simp only [Rep])⟩))
    | _ => cases e
  | str i => cases d2 with
    | str j =>
      simp only [gPlus] at e
      split at e
      · cases e
        have hv : v = V.str i := o1.prim rfl
        have hu : u = V.str j := o2.prim rfl
        subst hv hu
        exact .inl (.inl (.inr ⟨i, j, rfl, rfl, by assumption, post _ (by simp only [Rep])⟩))
      · cases e
    | _ => cases e
  | lst ds => cases d2 with
    | lst es =>
      obtain ⟨ds', e1, e2⟩ := Option.bind_eq_some_iff.mp (show (elems (t1, D.lst ds)).bind _ = some an from e)
      obtain ⟨es', e3, e4⟩ := Option.bind_eq_some_iff.mp e2
      split at e4
      · cases e4
        obtain ⟨a1, vs, h1, r1, s1⟩ := o1.elems le e1
        obtain ⟨a2, us, h2, r2, s2⟩ := o2.elems le e3
        subst h1 h2
        have f1 : H a1 = some (.lst vs) := by
          rcases s1 with ⟨_, s⟩ | ⟨h, _⟩ | ⟨h, _⟩
          · exact s
          · cases h
          · cases h
        have f2 : H a2 = some (.lst us) := by
          rcases s2 with ⟨_, s⟩ | ⟨h, _⟩ | ⟨h, _⟩
          · exact s
          · cases h
          · cases h
        exact .inl (.inr ⟨a1, a2, vs, us, rfl, rfl, f1, f2, by rw [← r1.length, ← r2.length]; assumption, fun p hp => post p _ (r1.append r2) hp⟩)
      · cases e4
    | _ => cases e
  | tup ds => cases d2 with
    | tup es =>
      simp only [gPlus] at e
      split at e
      · rename_i hz
        have p1 := o1.plain (by rfl)
        have p2 := o2.plain (by rfl)
        have q1 := p1
        have q2 := p2
        simp only [Rep] at q1 q2
        obtain ⟨a1, vs, h1, s1, r1⟩ := q1
        obtain ⟨a2, us, h2, s2, r2⟩ := q2
        subst h1 h2
        refine .inr ⟨a1, a2, vs, us, rfl, rfl, le.sqT s1.1, le.sqT s2.1, by rw [← r1.length, ← r2.length]; exact hz, fun z => ?_, fun z z2 => ?_, fun z z2 p hp => ?_⟩
        · cases ds with
          | nil => cases e; exact post _ p2
          | cons _ _ => exact absurd z (r1.ne (by simp))
        · cases es with
          | nil =>
            cases ds with
            | nil => exact absurd r1.nil z
            | cons _ _ => cases e; exact post _ p1
          | cons _ _ => exact absurd z2 (r2.ne (by simp))
        · cases ds with
          | nil => exact absurd r1.nil z
          | cons d ds => cases es with
            | nil => exact absurd r2.nil z2
            | cons d2 es => cases e; exact post p _ (r1.append r2) hp
      · cases e
    | _ => cases e
  | _ => cases e
abbrev fPlus := fOp2 gPlus
theorem de_plus (ha : DE X C qa a fa) (hb : DB X C qb b fb) : DE X C (qa && qb) (.BinOp a .Add b pos) (fPlus fa fb) := de_op2 o_plus op2_plus ha hb
theorem de_plusB (ha : DB X C qa a fa) (hb : DB X C true b fb) : DE X C qa (.BinOp a .Add b pos) (fPlus fa fb) := de_op2B o_plus op2_plus ha hb
/-- * : ints, a list times an int -/
def gTimes (x y : TD) : Option Ans := match x.2, y.2 with
  | .int i, .int j => if mulOk i j then some (.p (.int (i * j))) else none
  | .lst _, .int k => (elems x).bind fun ds => if decide (-(2 ^ 63) ≤ k ∧ k < 2 ^ 63) && decide (ds.length * k.toNat ≤ SZ) then some (.l (List.replicate k.toNat ds).flatten) else none
  | _, _ => none
theorem Reps.rep {ds : List D} {vs : List V} (h : Reps K B G ds vs) : ∀ n : Nat, Reps K B G (List.replicate n ds).flatten (List.replicate n vs).flatten
  | 0 => by simp only [List.replicate_zero, List.flatten_nil, Reps]
  | n + 1 => by
    rw [List.replicate_succ, List.replicate_succ, List.flatten_cons, List.flatten_cons]
    exact h.append (Reps.rep h n)
def rTimes : R2 := fun x y H Q => rI CMul (fun i j => .int (i * j)) x y H Q ∨ rRep x y H Q
theorem o_times : OpR X (binaryOp .Mult) rTimes := op_mul.or op_rep
theorem op2_times : Op2Ok X C rTimes gTimes := by
  intro G H x y v u l l' an Q le o1 o2 e post
  obtain ⟨t1, d1⟩ := x
  obtain ⟨t2, d2⟩ := y
  cases d1 with
  | int i => cases d2 with
    | int j =>
      simp only [gTimes] at e
      split at e
      · cases e
        have hv : v = V.int i := o1.prim rfl
        have hu : u = V.int j := o2.prim rfl
        subst hv hu
        exact .inl ⟨i, j, rfl, rfl, mulOk_c (by assumption), post _ (by simp only [Rep])⟩
      · cases e
    | _ => cases e
  | lst ds => cases d2 with
    | int k =>
      obtain ⟨ds', e1, e2⟩ := Option.bind_eq_some_iff.mp (show (elems (t1, D.lst ds)).bind _ = some an from e)
      split at e2
      · rename_i hz
        obtain ⟨h1, h2⟩ := Bool.and_eq_true_iff.mp hz
        obtain ⟨h3, h4⟩ := of_decide_eq_true h1
        cases e2
        obtain ⟨a1, vs, h5, r1, s1⟩ := o1.elems le e1
        have hu : u = V.int k := o2.prim rfl
        subst h5 hu
        have f1 : H a1 = some (.lst vs) := by
          rcases s1 with ⟨_, s⟩ | ⟨h, _⟩ | ⟨h, _⟩
          · exact s
          · cases h
          · cases h
        exact .inr ⟨a1, k, vs, rfl, rfl, f1, h3, h4, by rw [← r1.length]; exact of_decide_eq_true h2, fun p hp => post p _ (r1.rep _) hp⟩
      · cases e2
    | _ => cases e
  | _ => cases e
abbrev fTimes := fOp2 gTimes
theorem de_times (ha : DE X C qa a fa) (hb : DB X C qb b fb) : DE X C (qa && qb) (.BinOp a .Mult b pos) (fTimes fa fb) := de_op2 o_times op2_times ha hb
theorem de_timesB (ha : DB X C qa a fa) (hb : DB X C true b fb) : DE X C qa (.BinOp a .Mult b pos) (fTimes fa fb) := de_op2B o_times op2_times ha hb
def kO : Kd (Option Int) (Option Int) := ⟨fun _ _ => [], fun _ _ _ a b _ _ => a = b⟩
abbrev DO (X : Cx) (C : Ct) (e : Option Expr) (f : Env → R (Option Int)) : Prop := PO X e (RT kO X C true f)
def oNone : Env → R (Option Int) := fun ρ => .ok none ρ
def oSome (f : Env → R TD) : Env → R (Option Int) := fun ρ => (f ρ).bind fun x ρ1 => match x.2 with | .int i => .ok (some i) ρ1 | _ => .stuck
theorem do_none : DO X C none oNone := PO.weak po_none fun σ H Q z => by
  obtain ⟨G0, H0, ρ0, z⟩ := z
  exact Fin.end_ (b := none) z fun G ρ κ pv ok p => ⟨rfl, ok⟩
theorem do_some (ha : DE X C true a fa) : DO X C (some a) (oSome fa) := PO.weak (po_some ha) fun σ H Q z => by
  refine RT.bind (ka := kE) z (fun h => h) fun x v H1 G0 H0 ρ0 z1 => ?_
  cases e : x.2 with
  | int k =>
    have hv : v = .int k := by
      obtain ⟨G, ρ, κ, W, pv, st, p, ok, tk, w⟩ := id z1
      obtain ⟨l, o⟩ := ok.mem (r := (x.1, x.2, v)) (by simp [kE])
      exact Own.prim (x := V.int k) o (by show primV x.2 = _; rw [e]; rfl)
    refine ⟨k, hv, ?_⟩
    simp only [e] at z1
    exact Fin.end_ (b := some k) z1 fun G ρ κ pv ok p => ⟨rfl, ok.drop⟩
  | _ => simp only [e] at z1; exact z1.no
def cutD (ds : List D) (lo hi : Option Int) : List D := (ds.drop (HT.sIx ds.length 0 lo)).take (HT.sIx ds.length ds.length hi - HT.sIx ds.length 0 lo)
theorem Reps.take : ∀ {ds : List D} {vs : List V} (n : Nat), Reps K B G ds vs → Reps K B G (ds.take n) (vs.take n)
  | ds, vs, 0, h => by simp only [List.take_zero, Reps]
  | [], vs, n + 1, h => by simp only [Reps] at h; subst h; simp only [List.take_nil, Reps]
  | d :: r, vs, n + 1, h => by
    simp only [Reps] at h
    obtain ⟨v, r', e1, h1, h3⟩ := h
    subst e1
    simp only [List.take_succ_cons, Reps]
    exact ⟨v, _, rfl, h1, Reps.take n h3⟩
theorem Reps.cut {ds : List D} {vs : List V} (h : Reps K B G ds vs) (lo hi : Option Int) : Reps K B G (cutD ds lo hi) (cutV vs lo hi) := by
  unfold cutD cutV
  rw [← h.length]
  exact (h.drop _).take _
def gSl (x : TD) (lo hi : Option Int) : Option Ans := match x.2 with
  | .str z => if z.length ≤ SZ then some (.p (.str (cutS z lo hi))) else none
  | .tup ds => if HT.sIx ds.length 0 lo = 0 ∧ HT.sIx ds.length ds.length hi = ds.length then some (.p (.tup ds)) else some (.t (cutD ds lo hi))
  | _ => (elems x).map fun ds => .l (cutD ds lo hi)
def fSl (fa : Env → R TD) (flo fhi : Env → R (Option Int)) : Env → R TD := fun ρ => (fa ρ).bind fun x ρ1 => (flo ρ1).bind fun lo ρ2 => (fhi ρ2).bind fun hi => goO (gSl x lo hi)
def rSlX (X : Cx) : V → Option Int → Option Int → Hp → VK → Prop := fun x lo hi H Q => (rSlL X.K x lo hi H Q ∨ rSlA X.K x lo hi H Q) ∨ rSlS x lo hi H Q
theorem gSl_ok {x : TD} {v : V} {l : List Addr} {lo hi : Option Int} {an : Ans} {Q : VK} (le : Le G H) (o : Own X.K C.B G H x.2 x.1 v l) (e : gSl x lo hi = some an) (post : AnsPost X.K C.B G H an Q) : rSlX X v lo hi H Q := by
  have gen : ∀ ds, elems x = some ds → boxK x.2 ≠ 1 → an = .l (cutD ds lo hi) → rSlX X v lo hi H Q := by
    intro ds e1 hk e2
    subst e2
    obtain ⟨a, vs, e3, r, s⟩ := o.elems le e1
    subst e3
    rcases s with ⟨_, s⟩ | ⟨h, s⟩ | ⟨_, s⟩
    · exact .inl (.inl ⟨a, vs, rfl, SqL.of s, fun p hp => post p _ (r.cut lo hi) hp⟩)
    · exact absurd h hk
    · exact .inl (.inl ⟨a, vs, rfl, s, fun p hp => post p _ (r.cut lo hi) hp⟩)
  obtain ⟨t, d⟩ := x
  cases d with
  | str z =>
    simp only [gSl] at e
    split at e
    · cases e
      have hv : v = V.str z := o.prim rfl
      subst hv
      exact .inr ⟨z, rfl, by assumption, post _ (by simp only [Rep])⟩
    · cases e
  | tup ds =>
    simp only [gSl] at e
    have hr := o.plain (by rfl)
    have hr2 := hr
    simp only [Rep] at hr2
    obtain ⟨a, vs, e3, s, r⟩ := hr2
    subst e3
    refine .inl (.inr ⟨a, vs, rfl, le.sqT s.1, fun z => ?_, fun z p hp => ?_⟩)
    · rw [← r.length] at z
      rw [if_pos z] at e
      cases e
      exact post _ hr
    · rw [← r.length] at z
      rw [if_neg z] at e
      cases e
      exact post p _ (r.cut lo hi) hp
  | lst ds =>
    obtain ⟨ds', e1, e2⟩ := Option.map_eq_some_iff.mp (show (elems (t, D.lst ds)).map _ = some an from e)
    exact gen ds' e1 (by simp [boxK]) e2.symm
  | scr is =>
    obtain ⟨ds', e1, e2⟩ := Option.map_eq_some_iff.mp (show (elems (t, D.scr is)).map (fun ds => Ans.l (cutD ds lo hi)) = some an from e)
    exact gen ds' e1 (by simp [boxK]) e2.symm
  | _ => cases e
theorem de_sl {lo hi : Option Expr} {flo fhi : Env → R (Option Int)} {p2 : Pos} (ha : DB X C q a fa) (hl : DO X C lo flo) (hh : DO X C hi fhi) : DE X C q (.Subscript a (.Slice lo hi none p2) pos) (fSl fa flo fhi) := by
  refine (pe_slice ((sl_list.or sl_tupA).or sl_str) ha hl hh).weak fun σ H Q z => ?_
  refine RT.bind (ka := kB) z (fun h => h) fun x v1 H1 G0 H0 ρ0 z1 => ?_
  refine z1.quiet (ka := kO) kB_up fun lo' lo2 H2 z2 => ?_
  have e1 : lo' = lo2 := by obtain ⟨G, ρ, κ, W, pv, st, ⟨_, p⟩, _⟩ := id z2; exact p
  subst e1
  refine z2.quiet (ka := kO) (fun G H G' H' lg lh ⟨p1, p2⟩ => ⟨kB_up (σ := σ) _ _ _ _ lg lh p1, p2⟩) fun hi' hi2 H3 z3 => ?_
  have e1 : hi' = hi2 := by obtain ⟨G, ρ, κ, W, pv, st, ⟨_, p⟩, _⟩ := id z3; exact p
  subst e1
  cases e : gSl x lo' hi' with
  | none => rw [e] at z3; exact z3.no
  | some an =>
    rw [e] at z3
    obtain ⟨G, ρ, κ, pv, ⟨⟨⟨l, o⟩, _⟩, _⟩, ok, post⟩ := Fin.ans (a := an) z3
    exact gSl_ok ok.le o e post
def cIn (d e : D) : Option Bool := match e with
  | .str z => match d with
    | .str y => some (!(Builtin.Str.occurrences z y 0 z.length 1).isEmpty)
    | _ => none
  | .lst ds => if dsh d && dsh (.lst ds) then some (ds.any fun z => deq z d) else none
  | .tup ds => if dsh d && dsh (.tup ds) then some (ds.any fun z => deq z d) else none
  | _ => none
def cNotIn (d e : D) : Option Bool := (cIn d e).map (!·)
def rInT (X : Cx) (neg : Bool) : R2 := fun x y H Q => ∃ d ds, Dp X.K H x d ∧ Dp X.K H y (.tuple ds) ∧ SeqAt.shaped d = true ∧ SeqAt.shaped (.tuple ds) = true ∧ Q (.bl (if neg then !ds.any fun z => PyData.eqv z d else ds.any fun z => PyData.eqv z d)) H
theorem room_in {d : PyData} {ds : List PyData} {A : Around} (sd : SeqAt.shaped d = true) (hu : A.units + 65 < cLine) : A.units + 1 + min (PyData.depthAll ds) d.depth < cLine := room_in_shaped sd hu
theorem o_inT (hu : X.A.units + 65 < cLine) : OpR X (compareOp .In) (rInT X false) := by
  intro pins s σ H x y v u Q I rx ry h
  obtain ⟨d, ds, hd, he, sd, se, q⟩ := h
  obtain ⟨as, r1⟩ := Dp.reads I d x v hd rx
  obtain ⟨bs, r2⟩ := Dp.reads I (.tuple ds) y u he ry
  exact SeqAt.in_tuple_reads r2 r1 (SeqAt.canLay_of_shaped se) (SeqAt.canLay_of_shaped sd) (room_in sd hu) ⟨.bl _, H, I, rfl, q⟩
theorem o_notInT (hu : X.A.units + 65 < cLine) : OpR X (compareOp .NotIn) (rInT X true) := by
  intro pins s σ H x y v u Q I rx ry h
  obtain ⟨d, ds, hd, he, sd, se, q⟩ := h
  obtain ⟨as, r1⟩ := Dp.reads I d x v hd rx
  obtain ⟨bs, r2⟩ := Dp.reads I (.tuple ds) y u he ry
  exact SeqAt.notIn_tuple_reads r2 r1 (SeqAt.canLay_of_shaped se) (SeqAt.canLay_of_shaped sd) (room_in sd hu) ⟨.bl _, H, I, rfl, q⟩
theorem any_py (d : D) : ∀ ds : List D, ((D.pys ds).any fun z => PyData.eqv z d.py) = ds.any fun z => deq z d
  | [] => by simp [D.pys]
  | x :: r => by
    simp only [D.pys, List.any_cons, any_py d r]
    rfl
theorem o_in (hu : X.A.units + 65 < cLine) : OpR X (compareOp .In) (rCmp X C cIn) := ((op_inD hu).or ((o_inT hu).or op_in_str)).weak fun x y H Q ⟨d, d', k, r1, r2, e, q⟩ => by
  cases d' with
  | str z => cases d with
    | str y =>
      cases e
      exact .inr (.inr ⟨y, z, r1.prim (x := .str y) rfl, r2.prim (x := .str z) rfl, q⟩)
    | _ => cases e
  | lst ds =>
    simp only [cIn] at e
    split at e
    · rename_i h
      obtain ⟨h1, h2⟩ := Bool.and_eq_true_iff.mp h
      cases e
      refine .inl ⟨_, D.pys ds, r1.dpS h1, r2.dpS h2, h1, h2, ?_⟩
      rw [any_py]; exact q
    · cases e
  | tup ds =>
    simp only [cIn] at e
    split at e
    · rename_i h
      obtain ⟨h1, h2⟩ := Bool.and_eq_true_iff.mp h
      cases e
      refine .inr (.inl ⟨_, D.pys ds, r1.dpS h1, r2.dpS h2, h1, h2, ?_⟩)
      rw [any_py]; exact q
    · cases e
  | _ => cases e
theorem o_notIn (hu : X.A.units + 65 < cLine) : OpR X (compareOp .NotIn) (rCmp X C cNotIn) := ((op_notInD hu).or ((o_notInT hu).or op_notin_str)).weak fun x y H Q ⟨d, d', k, r1, r2, e0, q⟩ => by
  obtain ⟨k', e, ek⟩ := Option.map_eq_some_iff.mp e0
  clear e0
  subst ek
  cases d' with
  | str z => cases d with
    | str y =>
      have e := Option.some.inj e
      subst e
      exact .inr (.inr ⟨y, z, r1.prim (x := .str y) rfl, r2.prim (x := .str z) rfl, q⟩)
    | _ => cases e
  | lst ds =>
    simp only [cIn] at e
    split at e
    · rename_i h
      obtain ⟨h1, h2⟩ := Bool.and_eq_true_iff.mp h
      cases e
      refine .inl ⟨_, D.pys ds, r1.dpS h1, r2.dpS h2, h1, h2, ?_⟩
      rw [any_py]; exact q
    · cases e
  | tup ds =>
    simp only [cIn] at e
    split at e
    · rename_i h
      obtain ⟨h1, h2⟩ := Bool.and_eq_true_iff.mp h
      cases e
      refine .inr (.inl ⟨_, D.pys ds, r1.dpS h1, r2.dpS h2, h1, h2, ?_⟩)
      show Q (.bl (!(D.pys ds).any fun z => PyData.eqv z d.py)) H
      rw [any_py]; exact q
    · cases e
  | _ => cases e
theorem de_cmpB {op : CmpOp} {g : D → D → Option Bool} (ho : OpR X (compareOp op) (rCmp X C g)) (ha : DB X C qa a fa) (hb : DB X C true b fb) (hm : behindInMarks op b = false) : DE X C qa (.Compare a [op] [b] pos) (fCmp g fa fb) := by
  refine (pe_cmpR ho ha hb hm).weak fun σ H Q z => ?_
  refine RT.bind (ka := kB) z (fun h => h) fun x v1 H1 G0 H0 ρ0 z1 => ?_
  refine z1.quiet (ka := kB) kB_up fun y v2 H2 z2 => ?_
  cases e : g x.2 y.2 with
  | none => simp only [e] at z2; exact z2.no
  | some k =>
    simp only [e] at z2
    obtain ⟨G, ρ, κ, W, pv, st, ⟨⟨l1, o1⟩, ⟨l2, o2⟩⟩, ok, tk, w⟩ := z2
    exact ⟨_, _, k, o1.see ok.le, o2.see ok.le, e, w (.bl k) G H2 trivial st (ok.drop.addF (by simp only [Rep]))⟩
/-- a test's reading from the value's -/
theorem test_tail {Q : Bool → Hp → Prop} (z : RT kT X C q (asT fa) σ H Q) : RT kE X C q fa σ H fun x H1 => ∃ k, x = .bl k ∧ Q k H1 := by
  refine RT.bind (ka := kE) z (fun h => h) fun x v1 H1 G0 H0 ρ0 z1 => ?_
  obtain ⟨G, ρ, κ, W, pv, st, p, ok, tk, w⟩ := z1
  cases e : x.2 with
  | bl k =>
    rw [e] at w
    obtain ⟨l, o⟩ := ok.mem (r := (x.1, x.2, v1)) (by simp [kE])
    have h1 : v1 = V.bl k := Own.prim (x := V.bl k) o (by show primV x.2 = _; rw [e]; rfl)
    exact ⟨k, h1, w k G H1 rfl st ok.drop⟩
  | _ => rw [e] at w; exact w.elim
theorem cmpB_tail {g : D → D → Option Bool} {Q : VK} (z : RT kE X C qa (fCmp g fa fb) σ H Q) : RT kB X C qa fa σ H fun x H1 => RT kB X C true fb σ H1 fun y H2 => rCmp X C g x y H2 Q := by
  refine RT.bind (ka := kB) z (fun h => h) fun x v1 H1 G0 H0 ρ0 z1 => ?_
  refine z1.quiet (ka := kB) kB_up fun y v2 H2 z2 => ?_
  cases e : g x.2 y.2 with
  | none => simp only [e] at z2; exact z2.no
  | some k =>
    simp only [e] at z2
    obtain ⟨G, ρ, κ, W, pv, st, ⟨⟨l1, o1⟩, ⟨l2, o2⟩⟩, ok, tk, w⟩ := z2
    exact ⟨_, _, k, o1.see ok.le, o2.see ok.le, e, w (.bl k) G H2 trivial st (ok.drop.addF (by simp only [Rep]))⟩
theorem dt_cmpB {op : CmpOp} {g : D → D → Option Bool} (ho : OpR X (compareOp op) (rCmp X C g)) (ha : DB X C qa a fa) (hb : DB X C true b fb) (hm : behindInMarks op b = false) : DT X C qa (.Compare a [op] [b] pos) (asT (fCmp g fa fb)) :=
  (pt_cmpR ho ha hb hm).weak fun σ H Q z => cmpB_tail (test_tail z)
def fChain (g g' : D → D → Option Bool) (fa fb fc : Env → R TD) : Env → R TD := fun ρ => (fa ρ).bind fun x ρ1 => (fb ρ1).bind fun y ρ2 => match g x.2 y.2 with
  | some true => (fc ρ2).bind fun z ρ3 => match g' y.2 z.2 with | some k => .ok (.F, .bl k) ρ3 | none => .stuck
  | some false => .ok (.F, .bl false) ρ2
  | none => .stuck
theorem chain_tail {g g' : D → D → Option Bool} {Q : VK} (z : RT kE X C q (fChain g g' fa fb fc) σ H Q) (h1 : q = true → qa = true) (h2 : q = true → qb = true) (h3 : q = true → qc = true) : tChain (rCmp X C g) (rCmp X C g') (RT kE X C qa fa) (RT kE X C qb fb) (RT kB X C qc fc) σ H Q := by
  refine RT.bind (ka := kE) z h1 fun x v1 H1 G0 H0 ρ0 z1 => ?_
  refine z1.next (ka := kE) h2 fun y v2 H2 z2 => ?_
  cases e : g x.2 y.2 with
  | none => simp only [e] at z2; exact z2.no
  | some k =>
    obtain ⟨G, ρ, κ, W, pv, st, p, ok, tk, w⟩ := id z2
    have s1 := ok.seeK (r := (x.1, x.2, v1)) (by simp [kE])
    have s2 := ok.seeK (r := (y.1, y.2, v2)) (by simp [kE])
    refine ⟨_, _, k, s1, s2, e, k, rfl, ?_⟩
    cases k with
    | false =>
      simp only [e] at z2
      rw [if_neg (by decide)]
      exact z2.ret (d := .bl false) rfl rfl
    | true =>
      simp only [e] at z2
      rw [if_pos rfl]
      refine z2.next (ka := kB) h3 fun y3 v3 H3 z3 => ?_
      cases e3 : g' y.2 y3.2 with
      | none => simp only [e3] at z3; exact z3.no
      | some k =>
        simp only [e3] at z3
        obtain ⟨G, ρ, κ, W, pv, st, ⟨l3, o3⟩, ok, tk, w⟩ := z3
        have s2 := ok.seeK (r := (y.1, y.2, v2)) (by simp [kE, kB])
        exact ⟨_, _, k, s2, o3.see ok.le, e3, w (.bl k) G H3 trivial st (ok.drop.addF (by simp only [Rep]))⟩
theorem de_chain {op op' : CmpOp} {g g' : D → D → Option Bool} (ho : OpR X (compareOp op) (rCmp X C g)) (ho' : OpR X (compareOp op') (rCmp X C g')) (ha : DE X C qa a fa) (hb : DE X C qb b fb) (hc : DB X C qc c fc)
    (hm : lastMarks [op, op'] [b, c] = false := by with_unfolding_all rfl) : DE X C (qa && (qb && qc)) (.Compare a [op, op'] [b, c] pos) (fChain g g' fa fb fc) :=
  (pe_chain ho ho' ha hb hc hm).weak fun σ H Q z => chain_tail z (fun h => (Bool.and_eq_true_iff.mp h).1) (fun h => (Bool.and_eq_true_iff.mp (Bool.and_eq_true_iff.mp h).2).1) (fun h => (Bool.and_eq_true_iff.mp (Bool.and_eq_true_iff.mp h).2).2)
theorem dt_chain {op op' : CmpOp} {g g' : D → D → Option Bool} (ho : OpR X (compareOp op) (rCmp X C g)) (ho' : OpR X (compareOp op') (rCmp X C g')) (ha : DE X C qa a fa) (hb : DE X C qb b fb) (hc : DB X C qc c fc)
    (hm : lastMarks [op, op'] [b, c] = false := by with_unfolding_all rfl) : DT X C (qa && (qb && qc)) (.Compare a [op, op'] [b, c] pos) (asT (fChain g g' fa fb fc)) :=
  (pt_chain ho ho' ha hb hc hm).weak fun σ H Q z => chain_tail (test_tail z) (fun h => (Bool.and_eq_true_iff.mp h).1) (fun h => (Bool.and_eq_true_iff.mp (Bool.and_eq_true_iff.mp h).2).1) (fun h => (Bool.and_eq_true_iff.mp (Bool.and_eq_true_iff.mp h).2).2)
end
end PF
namespace PF
open PySem PySem.Spec L2
open PyProof.Rows hiding St
mutual
def T.eqb : T → T → Bool
  | .F, .F => true
  | .L a, .L b => T.eqb a b
  | .M a, .M b => T.eqb a b
  | .R xs, .R ys => T.eqbs xs ys
  | _, _ => false
def T.eqbs : List T → List T → Bool
  | [], [] => true
  | x :: xs, y :: ys => T.eqb x y && T.eqbs xs ys
  | _, _ => false
end
mutual
theorem T.eqb_eq : ∀ {a b : T}, T.eqb a b = true → a = b
  | .F, .F, _ => rfl
  | .L a, .L b, h => by simp only [T.eqb] at h; rw [T.eqb_eq h]
  | .M a, .M b, h => by simp only [T.eqb] at h; rw [T.eqb_eq h]
  | .R xs, .R ys, h => by simp only [T.eqb] at h; rw [T.eqbs_eq h]
  | .F, .L _, h => by simp [T.eqb] at h
  | .F, .M _, h => by simp [T.eqb] at h
  | .F, .R _, h => by simp [T.eqb] at h
  | .L _, .F, h => by simp [T.eqb] at h
  | .L _, .M _, h => by simp [T.eqb] at h
  | .L _, .R _, h => by simp [T.eqb] at h
  | .M _, .F, h => by simp [T.eqb] at h
  | .M _, .L _, h => by simp [T.eqb] at h
  | .M _, .R _, h => by simp [T.eqb] at h
  | .R _, .F, h => by simp [T.eqb] at h
  | .R _, .L _, h => by simp [T.eqb] at h
  | .R _, .M _, h => by simp [T.eqb] at h
theorem T.eqbs_eq : ∀ {a b : List T}, T.eqbs a b = true → a = b
  | [], [], _ => rfl
  | x :: xs, y :: ys, h => by
    simp only [T.eqbs, Bool.and_eq_true] at h
    rw [T.eqb_eq h.1, T.eqbs_eq h.2]
  | [], _ :: _, h => by simp [T.eqbs] at h
  | _ :: _, [], h => by simp [T.eqbs] at h
end
section
variable {X : Cx} {C : Ct} {q qa qb qc : Bool} {e a b c : Expr} {f fa fb fc : Env → R TD} {pos pos' p : Pos}
variable {K : PySem.W.Frag} {B : Tb} {G G' H H' : Hp} {σ : L2.St} {ρ : Env} {κ κ' : List Rs} {pv : List (Nat × V)} {pr : Nat → Bool}
inductive Stp where
  | f (n : Nat) | ix (j : Nat)
def fitT (t : T) (y : TD) : Bool := !isBox y.2 || T.eqb y.1 t
def get1 : Stp → TD → Option TD
  | .f n, (.R ts, .obj _ fs) => (fs.lookup n).map fun d => (fldTs n fs ts, d)
  | .ix j, (.L t, .lst ds) => ds[j]?.map fun d => (t, d)
  | _, _ => none
def put1 : Stp → TD → TD → Option TD
  | .f n, y, (.R ts, .obj c fs) => some (.R (putTs n y.1 fs ts), .obj c (putD n y.2 fs))
  | .ix j, y, (.L t, .lst ds) => if fitT t y then some (.L t, .lst (ds.set j y.2)) else none
  | _, _, _ => none
def reach1 (B : Tb) (H : Hp) (v : V) : Stp → Option V
  | .f n => match v with
    | .ref a => match H a with
      | some (.ins _ _ vs) => vs.lookup (B.nm n)
      | _ => none
    | _ => none
  | .ix j => match v with
    | .ref a => match H a with
      | some (.lst vs) => vs[j]?
      | _ => none
    | _ => none
theorem reach1_up {v w : V} {s : Stp} (le : Ls H H') (h : reach1 B H v s = some w) : reach1 B H' v s = some w := by
  cases s with
  | f n =>
    cases v <;> simp only [reach1] at h ⊢ <;> first | cases h | skip
    rename_i a
    cases e : H a with
    | none => rw [e] at h; cases h
    | some o =>
      rw [e] at h
      cases o <;> first | (cases h; done) | (rw [le.at e]; exact h)
  | ix n =>
    cases v <;> simp only [reach1] at h ⊢ <;> first | cases h | skip
    rename_i a
    cases e : H a with
    | none => rw [e] at h; cases h
    | some o =>
      rw [e] at h
      cases o <;> first | (cases h; done) | (rw [le.at e]; exact h)
theorem Own.re {d : D} {t t' : T} {v : V} {l : List Addr} (p : isBox d = false) (h : Own K B G H d t v l) : Own K B G H d t' v l := by
  cases d <;> simp only [Own, isBox] at h p ⊢ <;> first | exact h | exact absurd p (by decide)
theorem Own.fit {t : T} {y : TD} {v : V} {l : List Addr} (p : fitT t y = true) (h : Own K B G H y.2 y.1 v l) : Own K B G H y.2 t v l := by
  rcases Bool.or_eq_true_iff.mp p with z | z
  · exact h.re (by simpa using z)
  · rw [← T.eqb_eq z]; exact h
theorem OwnF.join (inj : ∀ n m, B.nm n = B.nm m → n = m) {n : Nat} {d : D} {w : V} {y : TD} {l1 : List Addr} (hy : Own K B G H y.2 y.1 w l1) : ∀ {fs : List (Nat × D)} {ts : List T} {vs : List (PySem.Str × V)} {l2 : List Addr}, fs.lookup n = some d →
    OwnF K B G H (putD n (.raw w) fs) (putTs n .F fs ts) vs l2 → ∃ l, l.Perm (l1 ++ l2) ∧ OwnF K B G H (putD n y.2 fs) (putTs n y.1 fs ts) vs l
  | [], ts, vs, l2, e, h => by cases e
  | (m, d') :: r, ts, vs, l2, e, h => by
    rw [List.lookup_cons] at e
    unfold putD putTs at h ⊢
    by_cases hb : n = m
    · subst hb
      simp only [eq_self, if_true] at h ⊢
      simp only [OwnF] at h ⊢
      obtain ⟨v, vs', m1, m2, e1, el, h1, h2⟩ := h
      simp only [List.headD_cons, Own] at h1
      obtain ⟨e3, e4⟩ := h1
      subst e1 el e3 e4
      exact ⟨l1 ++ m2, .refl _, _, vs', l1, m2, rfl, rfl, hy, h2⟩
    · rw [beq_eq_false_iff_ne.mpr hb] at e
      simp only [if_neg (Ne.symm hb)] at h ⊢
      simp only [OwnF] at h ⊢
      obtain ⟨v, vs', m1, m2, e1, el, h1, h2⟩ := h
      subst e1 el
      obtain ⟨l, pm, h3⟩ := OwnF.join inj hy e h2
      refine ⟨m1 ++ l, ?_, v, vs', m1, l, rfl, rfl, h1, h3⟩
      refine (pm.append_left m1).trans ?_
      exact List.perm_append_comm_assoc ..
theorem Owns.join {w : V} {d' : D} {t : T} {l1 : List Addr} (hy : Own K B G H d' t w l1) : ∀ {ds : List D} {vs : List V} {l2 : List Addr} {j : Nat} {d : D}, ds[j]? = some d → Owns K B G H (ds.set j (.raw w)) t vs l2 →
    ∃ l, l.Perm (l1 ++ l2) ∧ Owns K B G H (ds.set j d') t vs l
  | [], vs, l2, j, d, e, h => by simp at e
  | x :: r, vs, l2, 0, d, e, h => by
    simp only [List.set_cons_zero, Owns] at h ⊢
    obtain ⟨v, r', m1, m2, e1, el, h1, h2⟩ := h
    simp only [Own] at h1
    obtain ⟨e3, e4⟩ := h1
    subst e1 el e3 e4
    exact ⟨l1 ++ m2, .refl _, _, r', l1, m2, rfl, rfl, hy, h2⟩
  | x :: r, vs, l2, j + 1, d, e, h => by
    simp only [List.getElem?_cons_succ] at e
    simp only [List.set_cons_succ, Owns] at h ⊢
    obtain ⟨v, r', m1, m2, e1, el, h1, h2⟩ := h
    subst e1 el
    obtain ⟨l, pm, h3⟩ := Owns.join hy e h2
    exact ⟨m1 ++ l, (pm.append_left m1).trans (List.perm_append_comm_assoc ..), v, r', m1, l, rfl, rfl, h1, h3⟩
theorem fit_raw {t : T} {w : V} : fitT t (.F, .raw w) = true := rfl
theorem Own.split1 (inj : ∀ n m, B.nm n = B.nm m → n = m) {x x1 : TD} {s : Stp} {v : V} {l : List Addr} (h : Own K B G H x.2 x.1 v l) (e : get1 s x = some x1) :
    ∃ w l1 l2 hole, reach1 B H v s = some w ∧ put1 s (.F, .raw w) x = some hole ∧ l.Perm (l1 ++ l2) ∧ Own K B G H x1.2 x1.1 w l1 ∧ Own K B G H hole.2 hole.1 v l2 := by
  obtain ⟨t, d⟩ := x
  cases s with
  | f n =>
    cases t <;> cases d <;> first | cases e | skip
    rename_i ts c fs
    obtain ⟨d1, e1, e2⟩ := Option.map_eq_some_iff.mp (show (fs.lookup n).map (fun d => (fldTs n fs ts, d)) = some x1 from e)
    subst e2
    simp only [Own] at h
    obtain ⟨a, dx, vs, l', ev, ha, el, hf⟩ := h
    subst ev el
    obtain ⟨w, l1, l2, h1, pm, h2, h3⟩ := hf.split inj e1
    refine ⟨w, l1, a :: l2, _, by simp only [reach1, ha]; exact h1, rfl, ?_, h2, ?_⟩
    · exact (pm.cons a).trans List.perm_middle.symm
    · simp only [Own]
      exact ⟨a, dx, vs, l2, rfl, ha, rfl, h3⟩
  | ix j =>
    cases t <;> cases d <;> first | cases e | skip
    rename_i t ds
    obtain ⟨d1, e1, e2⟩ := Option.map_eq_some_iff.mp (show ds[j]?.map (fun d => (t, d)) = some x1 from e)
    subst e2
    simp only [Own] at h
    obtain ⟨a, vs, l', ev, ha, el, hf⟩ := h
    subst ev el
    obtain ⟨w, l1, l2, h1, pm, h2, h3⟩ := hf.split e1
    refine ⟨w, l1, a :: l2, _, by simp only [reach1, ha]; exact h1, rfl, ?_, h2, ?_⟩
    · exact (pm.cons a).trans List.perm_middle.symm
    · simp only [Own]
      exact ⟨a, vs, l2, rfl, ha, rfl, h3⟩
theorem Own.join1 (inj : ∀ n m, B.nm n = B.nm m → n = m) {x x1 y hole z : TD} {s : Stp} {v w : V} {l1 l2 : List Addr} (e : get1 s x = some x1) (eh : put1 s (.F, .raw w) x = some hole) (ez : put1 s y x = some z)
    (hy : Own K B G H y.2 y.1 w l1) (h : Own K B G H hole.2 hole.1 v l2) : ∃ l, l.Perm (l1 ++ l2) ∧ Own K B G H z.2 z.1 v l := by
  obtain ⟨t, d⟩ := x
  cases s with
  | f n =>
    cases t <;> cases d <;> first | cases e | skip
    rename_i ts c fs
    obtain ⟨d1, e1, e2⟩ := Option.map_eq_some_iff.mp (show (fs.lookup n).map (fun d => (fldTs n fs ts, d)) = some x1 from e)
    cases eh
    cases ez
    simp only [Own] at h
    obtain ⟨a, dx, vs, l', ev, ha, el, hf⟩ := h
    subst ev el
    obtain ⟨l, pm, h3⟩ := OwnF.join inj hy e1 hf
    refine ⟨a :: l, (pm.cons a).trans List.perm_middle.symm, ?_⟩
    simp only [Own]
    exact ⟨a, dx, vs, l, rfl, ha, rfl, h3⟩
  | ix j =>
    cases t <;> cases d <;> first | cases e | skip
    rename_i t ds
    obtain ⟨d1, e1, e2⟩ := Option.map_eq_some_iff.mp (show ds[j]?.map (fun d => (t, d)) = some x1 from e)
    have eh : (if fitT t (.F, .raw w) then some (T.L t, D.lst (ds.set j (.raw w))) else none) = some hole := eh
    rw [fit_raw, if_pos rfl] at eh
    cases eh
    have ez : (if fitT t y then some (T.L t, D.lst (ds.set j y.2)) else none) = some z := ez
    split at ez
    · rename_i hf'
      cases ez
      simp only [Own] at h
      obtain ⟨a, vs, l', ev, ha, el, hf⟩ := h
      subst ev el
      obtain ⟨l, pm, h3⟩ := Owns.join (hy.fit hf') e1 hf
      refine ⟨a :: l, (pm.cons a).trans List.perm_middle.symm, ?_⟩
      simp only [Own]
      exact ⟨a, vs, l, rfl, ha, rfl, h3⟩
    · cases ez
def getP : List Stp → TD → Option TD
  | [], x => some x
  | s :: r, x => (get1 s x).bind (getP r)
def putP : List Stp → TD → TD → Option TD
  | [], y, _ => some y
  | s :: r, y, x => (get1 s x).bind fun x1 => (putP r y x1).bind fun y1 => put1 s y1 x
def reach (B : Tb) (H : Hp) : List Stp → V → Option V
  | [], v => some v
  | s :: r, v => (reach1 B H v s).bind (reach B H r)
theorem reach_up (le : Ls H H') : ∀ {r : List Stp} {v w : V}, reach B H r v = some w → reach B H' r v = some w
  | [], _, _, h => h
  | s :: r, v, w, h => by
    obtain ⟨u, h1, h2⟩ := Option.bind_eq_some_iff.mp (show (reach1 B H v s).bind (reach B H r) = some w from h)
    show (reach1 B H' v s).bind (reach B H' r) = some w
    rw [reach1_up le h1]
    exact reach_up le h2
/-- a part is changed in its whole -/
theorem Okx.focus (inj : ∀ n m, B.nm n = B.nm m → n = m) {ys zs : List Rs} {y x1 : TD} {w : V} : ∀ {r : List Stp} {x z : TD} {v : V} {xs : List Rs}, getP r x = some x1 → putP r y x = some z → reach B H r v = some w → Okx K B G H ((x.1, x.2, v) :: (ys ++ xs)) →
    (∀ xs, Okx K B G H ((x1.1, x1.2, w) :: (ys ++ xs)) → ∃ G', Le G G' ∧ Okx K B G' H' ((y.1, y.2, w) :: (zs ++ xs))) → ∃ G', Le G G' ∧ Okx K B G' H' ((z.1, z.2, v) :: (zs ++ xs))
  | [], x, z, v, xs, e1, e2, e3, h, k => by
    cases e1
    cases e2
    cases e3
    exact k _ h
  | s :: r, x, z, v, xs, e1, e2, e3, h, k => by
    obtain ⟨x2, e4, e5⟩ := Option.bind_eq_some_iff.mp (show (get1 s x).bind (getP r) = some x1 from e1)
    obtain ⟨x2', e6, e7⟩ := Option.bind_eq_some_iff.mp (show (get1 s x).bind (fun x1 => (putP r y x1).bind fun y1 => put1 s y1 x) = some z from e2)
    rw [e4] at e6
    cases e6
    obtain ⟨y1, e8, e9⟩ := Option.bind_eq_some_iff.mp e7
    obtain ⟨w2, e10, e11⟩ := Option.bind_eq_some_iff.mp (show (reach1 B H v s).bind (reach B H r) = some w from e3)
    obtain ⟨le, gx, l, ⟨l1, l2, el, h1, h2⟩, nd, dj⟩ := h
    obtain ⟨w3, m1, m2, hole, r1, eh, pm, h3, h4⟩ := h1.split1 inj e4
    rw [e10] at r1
    cases r1
    subst el
    have o1 : Okx K B G H ((x2.1, x2.2, w2) :: (ys ++ ((hole.1, hole.2, v) :: xs))) := by
      have o2 : Okx K B G H ((x2.1, x2.2, w2) :: ((hole.1, hole.2, v) :: (ys ++ xs))) :=
        ⟨le, gx, m1 ++ (m2 ++ l2), ⟨m1, _, rfl, h3, m2, l2, rfl, h4, h2⟩, by rw [← List.append_assoc]; exact (pm.append_right l2).nodup nd, fun a ha => dj a ((pm.append_right l2).mem_iff.mpr (by rw [List.append_assoc]; exact ha))⟩
      exact o2.perm (List.Perm.cons _ List.perm_middle.symm)
    obtain ⟨G', le', o3⟩ := Okx.focus inj e5 e8 e11 o1 k
    refine ⟨G', le', ?_⟩
    have o4 : Okx K B G' H' ((y1.1, y1.2, w2) :: ((hole.1, hole.2, v) :: (zs ++ xs))) := o3.perm (List.Perm.cons _ List.perm_middle)
    obtain ⟨le2, gx2, l', ⟨n1, n2, el, g1, n3, n4, el2, g2, g3⟩, nd2, dj2⟩ := o4
    subst el el2
    obtain ⟨l3, pm2, g4⟩ := Own.join1 inj e4 eh e9 g1 g2
    have pm3 : (n1 ++ (n3 ++ n4)).Perm (l3 ++ n4) := by rw [← List.append_assoc]; exact (pm2.append_right n4).symm
    exact ⟨le2, gx2, l3 ++ n4, ⟨l3, n4, rfl, g4, g3⟩, pm3.nodup nd2, fun a ha => dj2 a (pm3.mem_iff.mpr ha)⟩
/-- .. of a name -/
theorem StOk.focus (inj : ∀ n m, B.nm n = B.nm m → n = m) {i : Nat} {r : List Stp} {x x1 y z : TD} {v w : V} {ys zs : List Rs} (h : StOk K B G H σ ρ (ys ++ κ) pv) (e : ρ[i]? = some (some x)) (hv : σ[i]? = some (some v))
    (e1 : getP r x = some x1) (e2 : putP r y x = some z) (e3 : reach B H r v = some w)
    (k : ∀ xs, Okx K B G H ((x1.1, x1.2, w) :: (ys ++ xs)) → ∃ G', Le G G' ∧ Okx K B G' H' ((y.1, y.2, w) :: (zs ++ xs))) : ∃ G', Le G G' ∧ StOk K B G' H' σ (ρ.set i (some z)) (zs ++ κ) pv := by
  have hi : i < ρ.length := (List.getElem?_eq_some_iff.mp e).1
  have p := perm_front (ents_at (t := x.1) (d := x.2) e hv)
  have o : Okx K B G H ((x.1, x.2, v) :: (ys ++ ((ents σ ρ).eraseIdx i ++ κ))) := h.ok.perm (by
    refine (p.append_right _).trans ?_
    rw [List.cons_append, ← List.append_assoc, ← List.append_assoc]
    exact (List.perm_append_comm.append_right κ).cons _)
  obtain ⟨G', le, o2⟩ := Okx.focus inj e1 e2 e3 o k
  refine ⟨G', le, by simpa using h.len, fun j t1 d1 e1 => ?_, o2.perm ?_, h.pvs, h.xps⟩
  · by_cases q : j = i
    · subst q; exact ⟨v, hv⟩
    · rw [List.getElem?_set_ne (Ne.symm q)] at e1
      exact h.val _ _ _ e1
  · rw [ents_setR _ hv]
    have p2 : ((ents σ ρ).set i (ent (some v) (some z))).Perm ((z.1, z.2, v) :: (ents σ ρ).eraseIdx i) := set_perm _ (by rw [h.lenE]; exact hi)
    refine List.Perm.symm ((p2.append_right (zs ++ κ)).trans ?_)
    rw [List.cons_append, ← List.append_assoc, ← List.append_assoc]
    exact (List.perm_append_comm.append_right κ).cons _
/-- a part of what is owned is shared -/
theorem Okx.freezeBy {t t' : T} {d d' : D} {v : V} {xs : List Rs} (h : Okx K B G H ((t, d, v) :: xs)) (k : ∀ l, Own K B G H d t v l → ∃ lF l', l.Perm (lF ++ l') ∧ ∀ G', Le G G' → At lF H G' → Own K B G' H d' t' v l') :
    ∃ G', Le G G' ∧ Okx K B G' H ((t', d', v) :: xs) := by
  obtain ⟨le, gx, l, ⟨l1, l2, e, h1, h2⟩, nd, dj⟩ := h
  subst e
  obtain ⟨lF, l', pm, k2⟩ := k l1 h1
  have pm2 : (l1 ++ l2).Perm (lF ++ (l' ++ l2)) := by rw [← List.append_assoc]; exact pm.append_right l2
  have nd1 := List.nodup_append.mp (pm2.nodup nd)
  have lg : Le G (fun a => if a ∈ lF then H a else G a) := by
    intro a o ha
    show ∃ o', (if a ∈ lF then H a else G a) = some o' ∧ Gw o o'
    split
    · exact le a o ha
    · exact ⟨o, ha, .refl⟩
  refine ⟨fun a => if a ∈ lF then H a else G a, lg, ?_, fun G' lz => gx G' (lg.trans lz), l' ++ l2, ⟨l', l2, rfl, k2 _ lg ?_, h2.mono lg fun _ _ => rfl⟩, nd1.2.1, fun a ha => ?_⟩
  · intro a o ha
    have ha : (if a ∈ lF then H a else G a) = some o := ha
    split at ha
    · exact ⟨o, ha, .refl⟩
    · exact le a o ha
  · intro a ha
    show (if a ∈ lF then H a else G a) = H a
    rw [if_pos ha]
  · show (if a ∈ lF then H a else G a) = none
    rw [if_neg (fun q => nd1.2.2 a q a ha rfl)]
    exact dj a (pm2.mem_iff.mpr (List.mem_append_right _ ha))
theorem Okx.freezeL {t : T} {ds : List D} {v : V} {xs : List Rs} (h : Okx K B G H ((.L t, .lst ds, v) :: xs)) : ∃ G', Le G G' ∧ Okx K B G' H ((.L .F, .lst ds, v) :: xs) := h.freezeBy fun l o => by
  simp only [Own] at o
  obtain ⟨a, vs, l', ev, ha, el, hf⟩ := o
  subst ev el
  refine ⟨l', [a], List.perm_append_comm (l₁ := [a]), fun G' le k => ?_⟩
  simp only [Own]
  exact ⟨a, vs, [], rfl, ha, rfl, (Owns.rep le hf k).owns⟩
abbrev Plc := Nat × List Stp
def kP : Kd Plc V := ⟨fun _ _ => [], fun _ B σ ip w _ H => ∃ v, σ[ip.1]? = some (some v) ∧ reach B H ip.2 v = some w⟩
abbrev DP (X : Cx) (C : Ct) (q : Bool) (e : Expr) (f : Env → R Plc) : Prop := PE X e (RT kP X C q f)
def atP (ρ : Env) (ip : Plc) : Option TD := match ρ[ip.1]? with
  | some (some x) => getP ip.2 x
  | _ => none
def setP (ρ : Env) (ip : Plc) (y : TD) : Option Env := match ρ[ip.1]? with
  | some (some x) => (putP ip.2 y x).map fun z => ρ.set ip.1 (some z)
  | _ => none
theorem StOk.setP (inj : ∀ n m, B.nm n = B.nm m → n = m) {ip : Plc} {x y : TD} {v w : V} {ρ' : Env} {ys zs : List Rs} (h : StOk K B G H σ ρ (ys ++ κ) pv) (e : PF.atP ρ ip = some x) (e2 : PF.setP ρ ip y = some ρ') (hv : σ[ip.1]? = some (some v)) (hr : reach B H ip.2 v = some w)
    (k : ∀ xs, Okx K B G H ((x.1, x.2, w) :: (ys ++ xs)) → ∃ G', Le G G' ∧ Okx K B G' H' ((y.1, y.2, w) :: (zs ++ xs))) : ∃ G', Le G G' ∧ StOk K B G' H' σ ρ' (zs ++ κ) pv := by
  unfold PF.atP at e
  unfold PF.setP at e2
  cases q : ρ[ip.1]? with
  | none => rw [q] at e; cases e
  | some o => cases o with
    | none => rw [q] at e; cases e
    | some u =>
      rw [q] at e e2
      obtain ⟨z, e3, e4⟩ := Option.map_eq_some_iff.mp e2
      subst e4
      exact h.focus inj q hv e e3 hr k
def pN (i : Nat) : Env → R Plc := fun ρ => match ρ[i]? with
  | some (some _) => .ok (i, []) ρ
  | _ => .stuck
theorem dp_name {i : Nat} {x : PySem.Str} (h : PE X (.Name x pos) (tVar i)) : DP X C true (.Name x pos) (pN i) := h.weak fun σ H Q z => by
  obtain ⟨G0, H0, ρ0, G, ρ, κ, W, pv, st, p, ok, tk, w⟩ := z
  unfold pN at w
  cases e : ρ[i]? with
  | none => rw [e] at w; exact w.elim
  | some o => cases o with
    | none => rw [e] at w; exact w.elim
    | some td =>
      rw [e] at w
      obtain ⟨v, l, hv, q⟩ := ok.at (i := i) (t := td.1) (d := td.2) e
      exact ⟨v, hv, w v G H ⟨v, hv, rfl⟩ st ok⟩
def pF (n : Nat) (p : Env → R Plc) : Env → R Plc := fun ρ => (p ρ).bind fun ip ρ1 => match atP ρ1 ip with
  | some (.R _, .obj _ fs) => match fs.lookup n with
    | some _ => .ok (ip.1, ip.2 ++ [.f n]) ρ1
    | none => .stuck
  | _ => .stuck
def pI (p : Env → R Plc) (fi : Env → R TD) : Env → R Plc := fun ρ => (p ρ).bind fun ip ρ1 => (fi ρ1).bind fun y ρ2 => match atP ρ2 ip, y.2 with
  | some (.L _, .lst ds), .int k => match ixN ds.length k with
    | some j => .ok (ip.1, ip.2 ++ [.ix j]) ρ2
    | none => .stuck
  | _, _ => .stuck
/-- a place, looked at -/
def bP (p : Env → R Plc) : Env → R TD := fun ρ => (p ρ).bind fun ip ρ1 => match atP ρ1 ip with | some x => .ok x ρ1 | none => .stuck
end
end PF
namespace PF
open PySem PySem.Spec L2
open PyProof.Rows hiding St
section
variable {X : Cx} {C : Ct} {q qa qb qc : Bool} {e a b c : Expr} {f fa fb fc : Env → R TD} {pos pos' p : Pos}
variable {K : PySem.W.Frag} {B : Tb} {G G' H H' : Hp} {σ : L2.St} {ρ : Env} {κ κ' : List Rs} {pv : List (Nat × V)} {pr : Nat → Bool}
def MuOk (X : Cx) (C : Ct) (r : V → List V → Hp → VK → Prop) (m : TD → List TD → Option (TD × TD)) : Prop :=
  ∀ (G H : Hp) (x : TD) (w : V) (xs : List TD) (vs : List V) (y an : TD) (rest : List Rs) (Q : VK), xs.length = vs.length → m x xs = some (y, an) → Okx X.K C.B G H ((x.1, x.2, w) :: (rsL xs vs ++ rest)) →
    (∀ v H', (∀ rest, Okx X.K C.B G H ((x.1, x.2, w) :: (rsL xs vs ++ rest)) → ∃ G', Le G G' ∧ Okx X.K C.B G' H' ((y.1, y.2, w) :: ((an.1, an.2, v) :: rest))) → Q v H') → r w vs H Q
def muD (m : TD → List TD → Option (TD × TD)) (ip : Plc) (xs : List TD) : Env → R TD := fun ρ => match atP ρ ip with
  | some x => match m x xs with
    | some ya => match setP ρ ip ya.1 with
      | some ρ' => .ok ya.2 ρ'
      | none => .stuck
    | none => .stuck
  | none => .stuck
theorem StOk.atPlace {ip : Plc} {x : TD} {v w : V} {ys : List Rs} (inj : ∀ n m, B.nm n = B.nm m → n = m) (h : StOk K B G H σ ρ (ys ++ κ) pv) (e : PF.atP ρ ip = some x) (hv : σ[ip.1]? = some (some v)) (hr : reach B H ip.2 v = some w) :
    ∃ rest, Okx K B G H ((x.1, x.2, w) :: (ys ++ rest)) := by
  -- the whole is split at the path
  unfold PF.atP at e
  cases q : ρ[ip.1]? with
  | none => rw [q] at e; cases e
  | some o => cases o with
    | none => rw [q] at e; cases e
    | some y =>
      rw [q] at e
      have p := perm_front (ents_at (t := y.1) (d := y.2) q hv)
      have o : Okx K B G H ((y.1, y.2, v) :: (ys ++ ((ents σ ρ).eraseIdx ip.1 ++ κ))) := h.ok.perm (by
        refine (p.append_right _).trans ?_
        rw [List.cons_append, ← List.append_assoc, ← List.append_assoc]
        exact (List.perm_append_comm.append_right κ).cons _)
      clear p q
      revert hr e o
      generalize ip.2 = r
      generalize (ents σ ρ).eraseIdx ip.1 ++ κ = R
      intro hr
      clear hv h
      induction r generalizing y v R with
      | nil =>
        intro e o
        cases e
        cases hr
        exact ⟨R, o⟩
      | cons s r ih =>
        intro e o
        obtain ⟨x2, e4, e5⟩ := Option.bind_eq_some_iff.mp (show (get1 s y).bind (getP r) = some x from e)
        obtain ⟨w2, e10, e11⟩ := Option.bind_eq_some_iff.mp (show (reach1 B H v s).bind (reach B H r) = some w from hr)
        obtain ⟨le, gx, l, ⟨l1, l2, el, h1, h2⟩, nd, dj⟩ := o
        obtain ⟨w3, m1, m2, hole, r1, eh, pm, h3, h4⟩ := h1.split1 inj e4
        rw [e10] at r1
        cases r1
        subst el
        have o2 : Okx K B G H ((x2.1, x2.2, w2) :: ((hole.1, hole.2, v) :: (ys ++ R))) :=
          ⟨le, gx, m1 ++ (m2 ++ l2), ⟨m1, _, rfl, h3, m2, l2, rfl, h4, h2⟩, by rw [← List.append_assoc]; exact (pm.append_right l2).nodup nd, fun a ha => dj a ((pm.append_right l2).mem_iff.mpr (by rw [List.append_assoc]; exact ha))⟩
        exact ih (y := x2) (v := w2) (R := (hole.1, hole.2, v) :: R) e11 e5 (o2.perm (List.Perm.cons _ List.perm_middle.symm))
theorem mu_fin {r : V → List V → Hp → VK → Prop} {m : TD → List TD → Option (TD × TD)} {ip : Plc} {xs : List TD} {vs : List V} {w : V} {Q : VK} {G0 H0 : Hp} {ρ0 : Env} {P : Hp → Hp → Prop} (CO : CtOk X C) (hm : MuOk X C r m)
    (z : Fin kE X C false G0 H0 ρ0 σ H Q P (rsL xs vs ++ []) (muD m ip xs)) (hl : xs.length = vs.length) (hP : ∀ G, P G H → ∃ v, σ[ip.1]? = some (some v) ∧ reach C.B H ip.2 v = some w) : r w vs H Q := by
  obtain ⟨G, ρ, κ, W, pv, st, p, ok, tk, ww⟩ := z
  obtain ⟨v, hv, hr⟩ := hP G p
  rw [List.append_nil] at ok
  unfold muD at ww
  cases e : atP ρ ip with
  | none => simp only [e] at ww; exact ww.elim
  | some x =>
    simp only [e] at ww
    cases e2 : m x xs with
    | none => simp only [e2] at ww; exact ww.elim
    | some ya =>
      obtain ⟨y, an⟩ := ya
      simp only [e2] at ww
      cases e3 : setP ρ ip y with
      | none => simp only [e3] at ww; exact ww.elim
      | some ρ' =>
        simp only [e3] at ww
        obtain ⟨rest, o⟩ := StOk.atPlace CO.inj ok e hv hr
        refine hm G H x w xs vs y an rest Q hl e2 o fun v' H' k => ?_
        obtain ⟨G', le, ok'⟩ := StOk.setP (zs := [(an.1, an.2, v')]) CO.inj ok e e3 hv hr k
        exact ww v' G' H' trivial ⟨st.1.trans le, fun h => nomatch h⟩ ok'
def isBoxT (k : Nat) (x : TD) : Bool := match k, x with
  | 0, (.L _, .lst _) => true
  | 1, (.M _, .dct _ _) => true
  | _, _ => false
def tyS : Nat → String
  | 0 => "list"
  | _ => "dict"
theorem tyV_of {k : Nat} {x : TD} {w : V} {l : List Addr} (h : Own K B G H x.2 x.1 w l) (e : isBoxT k x = true) : tyV K (tyS k) w H := by
  obtain ⟨t, d⟩ := x
  match k, t, d, e with
  | 0, .L t, .lst ds, _ =>
    simp only [Own] at h
    obtain ⟨a, vs, l', ev, ha, _⟩ := h
    subst ev
    exact .inl ⟨rfl, vs, SqL.of ha⟩
  | 1, .M t, .dct z ds, _ =>
    simp only [Own] at h
    obtain ⟨a, ks, l', ev, hd, _⟩ := h
    subst ev
    cases z with
    | false => obtain ⟨kv, ha, _⟩ := hd; exact .inr (.inr (.inl ⟨rfl, .inl ⟨kv, ha⟩⟩))
    | true => obtain ⟨kv, ha, _⟩ := hd; exact .inr (.inr (.inl ⟨rfl, .inr ⟨_, ha⟩⟩))
/-- place.m(args) -/
def fMu (k : Nat) (fp : Env → R Plc) (m : TD → List TD → Option (TD × TD)) (fl : Env → R (List TD)) : Env → R TD := fun ρ => (fp ρ).bind fun ip ρ1 => match atP ρ1 ip with
  | some x => if isBoxT k x then (fl ρ1).bind fun xs => muD m ip xs else .stuck
  | none => .stuck
/-- the name's value is its own place: the arguments may do anything -/
theorem mu_tailN {k i : Nat} {m : TD → List TD → Option (TD × TD)} {fl : Env → R (List TD)} {r : V → List V → Hp → VK → Prop} {Q : VK} {qq : Bool} (CO : CtOk X C) (hm : MuOk X C r m) (z : RT kE X C false (fMu k (pN i) m fl) σ H Q) :
    tVar i σ H fun w H1 => tyV X.K (tyS k) w H1 ∧ RT kA X C qq fl σ H1 fun vs H2 => r w vs H2 Q := by
  obtain ⟨G0, H0, ρ0, G, ρ, κ, W, pv, st, p, ok, tk, ww⟩ := z
  unfold fMu at ww
  rw [R.wp_bind] at ww
  unfold pN at ww
  cases e : ρ[i]? with
  | none => simp only [e] at ww; exact ww.elim
  | some o => cases o with
    | none => simp only [e] at ww; exact ww.elim
    | some x =>
      obtain ⟨v, l, hv, o⟩ := ok.at (i := i) (t := x.1) (d := x.2) e
      have e2 : atP ρ (i, []) = some x := by unfold atP; simp only [e]; rfl
      simp only [e, PF.R.wp, e2] at ww
      cases eb : isBoxT k x with
      | false => simp only [eb] at ww; exact ww.elim
      | true =>
        simp only [eb, if_true] at ww
        refine ⟨v, hv, tyV_of o eb, ?_⟩
        have z2 : Fin kE X C false G0 H0 ρ0 σ H Q (fun G H => True) [] (fun ρ => (fl ρ).bind fun xs => muD m (i, []) xs) := ⟨G, ρ, κ, W, pv, st, trivial, ok, tk, ww⟩
        exact z2.next (ka := kA) (fun h => nomatch h) fun xs vs H2 z3 => mu_fin CO hm z3 (by obtain ⟨_, _, _, _, _, _, p, _⟩ := id z3; exact p) fun G p => ⟨v, hv, rfl⟩
theorem de_muN {k i : Nat} {x : PySem.Str} {p : Pos} {es : List Expr} {m : TD → List TD → Option (TD × TD)} {fl : Env → R (List TD)} {r : V → List V → Hp → VK → Prop} {name : PySem.Str} {id : String} {apos cpos : Pos} (CO : CtOk X C) (hm : MuOk X C r m) (hr : MtR X id r) (pa : PlainAttrs (tyS k)) (slot : Slot (tyS k) name id) (hty : typeOf (.builtin id) = pure (.type "method_descriptor"))
    (ho : PE X (.Name x p) (tVar i)) (ha : DA X C q (e :: es) fl)
    (hbase : attributeBase (.Name x p) name X.env (eval (.Name x p) X.env) = eval (.Name x p) X.env := by rfl)
    (hfew : ((backTo cpos (starEach (e :: es) X.env)).all (fun x => !x.1) && (backToKw cpos (keywordEach [] X.env)).all (fun x => x.1.isSome)
      && decide ((e :: es).length + ([] : List Keyword).length + (if ([] : List Keyword).isEmpty then 0 else 1) < 30)) = true := by rfl)
    (hline : (apos.endLine == cpos.line) = true := by rfl) (hs : starEach (e :: es) X.env = (false, eval e X.env) :: starEach es X.env := by rfl) (hplain : (backTo cpos (starEach es X.env)).any (·.1) = false := by rfl) :
    DE X C false (.Call (.Attribute (.Name x p) name apos) (e :: es) [] cpos) (fMu k (pN i) m fl) :=
  (pe_bm pa slot hty hr ho ha hbase hfew hline hs hplain).weak fun σ H Q z => mu_tailN CO hm z
theorem Owns.append : ∀ {ds es : List D} {t : T} {vs us : List V} {l l' : List Addr}, Owns K B G H ds t vs l → Owns K B G H es t us l' → Owns K B G H (ds ++ es) t (vs ++ us) (l ++ l')
  | [], es, t, vs, us, l, l', h, h2 => by
    simp only [Owns] at h
    obtain ⟨rfl, rfl⟩ := h
    exact h2
  | d :: r, es, t, vs, us, l, l', h, h2 => by
    simp only [Owns] at h
    obtain ⟨v, r', l1, l2, e1, el, h1, h3⟩ := h
    subst e1 el
    simp only [List.cons_append, Owns]
    exact ⟨v, r' ++ us, l1, l2 ++ l', rfl, by rw [List.append_assoc], h1, Owns.append h3 h2⟩
theorem Owns.one {d : D} {t : T} {v : V} {l : List Addr} (h : Own K B G H d t v l) : Owns K B G H [d] t [v] l := by
  simp only [Owns]
  exact ⟨v, [], l, [], rfl, by simp, h, rfl, rfl⟩
theorem Owns.rePlain : ∀ {ds : List D} {t t' : T} {vs : List V} {l : List Addr}, ds.all (fun d => !isBox d) = true → Owns K B G H ds t vs l → Owns K B G H ds t' vs l
  | [], t, t', vs, l, p, h => by simp only [Owns] at h ⊢; exact h
  | d :: r, t, t', vs, l, p, h => by
    rw [List.all_cons, Bool.and_eq_true] at p
    simp only [Owns] at h ⊢
    obtain ⟨v, r', l1, l2, e1, el, h1, h3⟩ := h
    exact ⟨v, r', l1, l2, e1, el, h1.re (by simpa using p.1), Owns.rePlain p.2 h3⟩
theorem Own.lst' {t : T} {ds : List D} {w : V} {l : List Addr} (h : Own K B G H (.lst ds) (.L t) w l) : ∃ a vs l', w = .ref a ∧ H a = some (.lst vs) ∧ l = a :: l' ∧ Owns K B G H ds t vs l' := by
  simp only [Own] at h; exact h
theorem Okx.lstW {t t2 : T} {ds ds2 : List D} {a : Addr} {vs vs2 : List V} {ys zs xs : List Rs} (h : Okx K B G H ((.L t, .lst ds, .ref a) :: (ys ++ xs))) (ha : H a = some (.lst vs))
    (k : ∀ l l', Owns K B G H ds t vs l → OwnAll K B G H ys l' → ∃ m lz lx, Owns K B G H ds2 t2 vs2 m ∧ OwnAll K B G H zs lz ∧ (l ++ l').Perm (m ++ lz ++ lx)) :
    Okx K B G (upd H a (.lst vs2)) ((.L t2, .lst ds2, .ref a) :: (zs ++ xs)) := by
  refine Okx.write (ys := (T.L t, D.lst ds, V.ref a) :: ys) (zs := (T.L t2, D.lst ds2, V.ref a) :: zs) h fun ll ho nd => ?_
  obtain ⟨l1, l2, e, h1, h2⟩ := ho
  subst e
  obtain ⟨a', vs', l', e1, ha', el, h3⟩ := h1.lst'
  cases e1
  rw [ha] at ha'
  cases ha'
  subst el
  obtain ⟨m, lz, lx, k1, k2, pm⟩ := k l' l2 h3 h2
  have nd2 : (a :: (l' ++ l2)).Nodup := nd
  have na := (List.nodup_cons.mp nd2).1
  have pm2 : ∀ b ∈ m ++ lz, b ≠ a := fun b hb z => na (pm.mem_iff.mpr (List.mem_append_left _ (z ▸ hb)))
  refine ⟨List.mem_append_left _ List.mem_cons_self, a :: (m ++ lz), lx, ⟨a :: m, lz, rfl, ?_, ?_⟩, ?_⟩
  · simp only [Own]
    exact ⟨a, vs2, m, rfl, upd_same, rfl, k1.mono .refl fun b hb => upd_ne (pm2 b (List.mem_append_left _ hb))⟩
  · exact k2.mono .refl fun b hb => upd_ne (pm2 b (List.mem_append_right _ hb))
  · exact pm.cons a
def pushT (t : T) (ds : List D) (y : TD) : T := if fitT t y then t else if ds.all (fun d => !isBox d) then y.1 else .F
/-- the list and the item are made fit for one another -/
theorem Okx.fitP {t : T} {ds : List D} {y : TD} {a : Addr} {u : V} {xs : List Rs} (h : Okx K B G H ((.L t, .lst ds, .ref a) :: ((y.1, y.2, u) :: xs))) :
    ∃ G', Le G G' ∧ Okx K B G' H ((.L (pushT t ds y), .lst ds, .ref a) :: ((pushT t ds y, y.2, u) :: xs)) := by
  unfold pushT
  split
  · rename_i hf
    refine ⟨G, .refl, ?_⟩
    obtain ⟨le, gx, l, ⟨l1, l2, e, h1, ⟨l3, l4, e2, h2, h3⟩⟩, nd, dj⟩ := h
    exact ⟨le, gx, l, ⟨l1, l2, e, h1, l3, l4, e2, h2.fit hf, h3⟩, nd, dj⟩
  · split
    · rename_i hp
      refine ⟨G, .refl, ?_⟩
      obtain ⟨le, gx, l, ⟨l1, l2, e, h1, h23⟩, nd, dj⟩ := h
      obtain ⟨a', vs, l', e1, ha, el, h4⟩ := h1.lst'
      refine ⟨le, gx, l, ⟨l1, l2, e, ?_, h23⟩, nd, dj⟩
      simp only [Own]
      exact ⟨a', vs, l', e1, ha, el, h4.rePlain hp⟩
    · obtain ⟨G1, le1, h1⟩ := Okx.freezeL h
      obtain ⟨G2, le2, h2⟩ := Okx.freeze (h1.perm (List.Perm.swap _ _ _))
      exact ⟨G2, le1.trans le2, h2.perm (List.Perm.swap _ _ _)⟩
def mAppend (x : TD) (xs : List TD) : Option (TD × TD) := match x, xs with
  | (.L t, .lst ds), [y] => if ds.length < SZ then some ((.L (pushT t ds y), .lst (ds ++ [y.2])), (.F, .non)) else none
  | _, _ => none
theorem mu_append : MuOk X C rAppend mAppend := by
  intro G H x w xs vs y an rest Q hl e o post
  obtain ⟨t, d⟩ := x
  match t, d, xs, vs, hl, e with
  | .L t, .lst ds, [x1], [u], _, e =>
    have e : (if ds.length < SZ then some (((.L (pushT t ds x1) : T), (.lst (ds ++ [x1.2]) : D)), ((.F : T), (.non : D))) else none) = some (y, an) := e
    split at e
    · rename_i hz
      cases e
      obtain ⟨l, ow⟩ := o.head
      obtain ⟨a, us, l', e1, ha, el, h3⟩ := ow.lst'
      subst e1
      refine ⟨a, us, u, rfl, rfl, ha, by rw [← h3.len]; exact hz, post .non _ fun rest o => ?_⟩
      obtain ⟨G', le, o2⟩ := Okx.fitP o
      refine ⟨G', le, ?_⟩
      have o3 := Okx.lstW (ys := [(pushT t ds x1, x1.2, u)]) (zs := []) (ds2 := ds ++ [x1.2]) (t2 := pushT t ds x1) (vs2 := us ++ [u]) o2 ha fun l l' h1 h2 => by
        obtain ⟨m1, m2, e, h4, h5⟩ := h2
        rw [show m2 = [] from h5, List.append_nil] at e
        subst e
        exact ⟨l ++ l', [], [], h1.append (.one h4), rfl, by simp⟩
      exact (o3.addF (d := .non) (v := .non) (by simp only [Rep])).perm (List.Perm.swap _ _ _)
    · cases e
def mPop (x : TD) (xs : List TD) : Option (TD × TD) := match x, xs with
  | (.L t, .lst ds), [] => ds[ds.length - 1]?.map fun d => ((.L t, .lst ds.dropLast), (t, d))
  | _, _ => none
def mRev (x : TD) (xs : List TD) : Option (TD × TD) := match x, xs with
  | (.L t, .lst ds), [] => some ((.L t, .lst ds.reverse), (.F, .non))
  | _, _ => none
def mExt (x : TD) (xs : List TD) : Option (TD × TD) := match x, xs with
  | (.L t, .lst ds), [(ty, .lst es)] => (elems (ty, .lst es)).bind fun es => if ds.length + es.length ≤ SZ then some ((.L (if es.all (fun d => !isBox d) then t else .F), .lst (ds ++ es)), (.F, .non)) else none
  | _, _ => none
/-- x[i] = y: (x, [i, y]) -/
def mSet (x : TD) (xs : List TD) : Option (TD × TD) := match x, xs with
  | (.L t, .lst ds), [y, (_, .int i)] => (ixN ds.length i).map fun k => ((.L (pushT t ds y), .lst (ds.set k y.2)), (.F, .non))
  | _, _ => none
def rSetM : V → List V → Hp → VK → Prop := fun w vs H Q => ∃ i v, vs = [v, i] ∧ rSetL w i v H fun H' => Q .non H'
theorem mu_set : MuOk X C rSetM mSet := by
  intro G H x w xs vs y an rest Q hl e o post
  obtain ⟨t, d⟩ := x
  match t, d, xs, vs, hl, e with
  | .L t, .lst ds, [x1, (t', .int i)], [u, vi], _, e =>
    obtain ⟨k, e0, e⟩ := Option.map_eq_some_iff.mp (show (ixN ds.length i).map (fun k => ((T.L (pushT t ds x1), D.lst (ds.set k x1.2)), (T.F, D.non))) = some (y, an) from e)
    cases e
    have hvi : vi = .int i := by
      obtain ⟨l, ow⟩ := (o.tail.tail : Okx X.K C.B G H ((t', D.int i, vi) :: rest)).head
      exact ow.prim (x := .int i) rfl
    subst hvi
    obtain ⟨l, ow⟩ := o.head
    obtain ⟨a, us, l', e3, ha, el, h3⟩ := ow.lst'
    subst e3
    obtain ⟨g1, g2, g3, g4⟩ := ixN_seq e0
    refine ⟨.int i, u, rfl, a, us, i, k, rfl, rfl, ha, by rw [← h3.len]; exact e0, post .non _ fun rest o => ?_⟩
    obtain ⟨G', le, o2⟩ := Okx.fitP (xs := (t', D.int i, V.int i) :: rest) o
    refine ⟨G', le, ?_⟩
    have o3 := Okx.lstW (ys := [(pushT t ds x1, x1.2, u), (t', D.int i, V.int i)]) (zs := []) (ds2 := ds.set k x1.2) (t2 := pushT t ds x1) (vs2 := us.set k u) o2 ha fun l l' h1 h2 => by
      obtain ⟨m1, m2, e, h4, m3, m4, e2, h5, h6⟩ := h2
      simp only [Own] at h5
      rw [h5.2, show m4 = [] from h6] at e2
      subst e2
      rw [List.append_nil] at e
      subst e
      obtain ⟨m, lx, h7, pm⟩ := h1.set (k := k) (d' := x1.2) (u := u) g2 h4
      exact ⟨m, [], lx, h7, rfl, by simpa using pm⟩
    exact (o3.addF (d := .non) (v := .non) (by simp only [Rep])).perm (List.Perm.swap _ _ _)
end
end PF
namespace PF
open PySem PySem.Spec L2
open PyProof.Rows hiding St
def enter (n : Nat) (tds : List TD) : Env := tds.map some ++ List.replicate (n - tds.length) none
def prOf (tds : List TD) (i : Nat) : Bool := match tds[i]? with
  | some td => own1 td
  | none => false
def backs : List TD → Env → Option (List TD)
  | [], _ => some []
  | td :: r, o :: ρ => match own1 td, o with
    | true, some y => (backs r ρ).map (y :: ·)
    | true, none => none
    | false, _ => (backs r ρ).map ((.F, td.2) :: ·)
  | _ :: _, [] => none
def fin (tds : List TD) (r : R Fl) : RF := match r with
  | .ok fl ρ => match backs tds ρ with
    | some ys => match fl with
      | .nx => .ok (.F, .non) ys
      | .rt td => .ok td ys
      | .me i => if prOf tds i then .me i ys else .stuck
      | _ => .stuck
    | none => .stuck
  | .exc c fs ρ => match backs tds ρ with
    | some ys => .exc c fs ys
    | none => .stuck
  | .stuck => .stuck
def runB (n : Nat) (f : (Nat → Bool) → Env → R Fl) (tds : List TD) : RF := fin tds (f (prOf tds) (enter n tds))
section
variable {C : Ct} {K : PySem.W.Frag} {B : Tb} {G G' H H' : Hp} {σ : L2.St} {ρ : Env} {κ κ' : List Rs} {pv : List (Nat × V)}
theorem backs_ok : ∀ {tds : List TD} {vs : List V} {σ : L2.St} {ρ : Env} {ys : List TD} {κ : List Rs}, tds.length = vs.length → σ.length = ρ.length → Okx K B G H (ents σ ρ ++ κ) →
    (∀ (i : Nat) (td : TD) (v : V), tds[i]? = some td → vs[i]? = some v → if own1 td = true then σ[i]? = some (some v) else Rep K B G td.2 v) → backs tds ρ = some ys → Okx K B G H (rsL ys vs ++ κ) ∧ ys.length = tds.length
  | [], [], σ, ρ, ys, κ, hl, hs, o, k, e => by
    cases e
    exact ⟨o.drop, rfl⟩
  | [], _ :: _, σ, ρ, ys, κ, hl, hs, o, k, e => by cases hl
  | td :: r, [], σ, ρ, ys, κ, hl, hs, o, k, e => by cases hl
  | td :: r, v :: vs, σ, [], ys, κ, hl, hs, o, k, e => by cases e
  | td :: r, v :: vs, [], _ :: _, ys, κ, hl, hs, o, k, e => by cases hs
  | td :: r, v :: vs, s :: σ, ro :: ρ, ys, κ, hl, hs, o, k, e => by
    have o : Okx K B G H (ent s ro :: (ents σ ρ ++ κ)) := o
    have hl' : r.length = vs.length := by simpa using hl
    have hs' : σ.length = ρ.length := by simpa using hs
    have k0 := k 0 td v rfl rfl
    have k' : ∀ (i : Nat) (td : TD) (v : V), r[i]? = some td → vs[i]? = some v → if own1 td = true then σ[i]? = some (some v) else Rep K B G td.2 v := fun i td v h1 h2 => by
      have := k (i + 1) td v (by simpa using h1) (by simpa using h2)
      simpa using this
    unfold backs at e
    cases ho : own1 td with
    | true =>
      rw [ho] at e k0
      rw [if_pos rfl] at k0
      cases ro with
      | none => cases e
      | some y =>
        obtain ⟨ys', e1, e2⟩ := Option.map_eq_some_iff.mp (show (backs r ρ).map (y :: ·) = some ys from e)
        subst e2
        have hv : s = some v := by simpa using k0
        subst hv
        have o2 : Okx K B G H (ents σ ρ ++ ((y.1, y.2, v) :: κ)) := o.perm (List.perm_middle.symm)
        obtain ⟨o3, l3⟩ := backs_ok hl' hs' o2 k' e1
        exact ⟨o3.perm List.perm_middle, congrArg (· + 1) l3⟩
    | false =>
      rw [ho] at e k0
      rw [if_neg (by decide)] at k0
      obtain ⟨ys', e1, e2⟩ := Option.map_eq_some_iff.mp (show (backs r ρ).map ((T.F, td.2) :: ·) = some ys from e)
      subst e2
      obtain ⟨o3, l3⟩ := backs_ok hl' hs' o.tail k' e1
      exact ⟨o3.addF k0, congrArg (· + 1) l3⟩
theorem ents_enter (n : Nat) : ∀ (tds : List TD) (vs : List V), tds.length = vs.length → ents (vs.map some ++ List.replicate (n - vs.length) none) (enter n tds) = rsL tds vs ++ List.replicate (n - vs.length) (.F, .non, .non) := by
  intro tds vs hl
  unfold enter
  rw [hl]
  generalize n - vs.length = k
  induction tds generalizing vs with
  | nil =>
    cases vs with
    | nil =>
      simp only [List.map_nil, List.nil_append, rsL]
      unfold ents
      induction k with
      | zero => rfl
      | succ k ih => simp only [List.replicate_succ, List.zipWith_cons_cons, ih]; rfl
    | cons _ _ => cases hl
  | cons td r ih =>
    cases vs with
    | nil => cases hl
    | cons v vs =>
      have := ih vs (by simpa using hl)
      simp only [List.map_cons, List.cons_append, rsL]
      show ent (some v) (some td) :: ents _ _ = _
      rw [this]
      rfl
theorem Okx.nones {xs : List Rs} (h : Okx K B G H xs) : ∀ k : Nat, Okx K B G H (List.replicate k (.F, .non, .non) ++ xs)
  | 0 => h
  | k + 1 => by
    rw [List.replicate_succ, List.cons_append]
    exact (Okx.nones h k).addF (by simp only [Rep])
theorem start_eq (N : List PySem.Str) (vs : List V) : start N vs = vs.map some ++ List.replicate (N.length - vs.length) none := rfl
def pvOf : List TD → List V → Nat → List (Nat × V)
  | td :: r, v :: vs, i => if own1 td then (i, v) :: pvOf r vs (i + 1) else pvOf r vs (i + 1)
  | _, _, _ => []
theorem mem_pvOf : ∀ {tds : List TD} {vs : List V} {i0 : Nat} {p : Nat × V}, p ∈ pvOf tds vs i0 → ∃ i td, p.1 = i0 + i ∧ tds[i]? = some td ∧ own1 td = true ∧ vs[i]? = some p.2
  | [], vs, i0, p, h => by cases vs <;> cases h
  | _ :: _, [], i0, p, h => by cases h
  | td :: r, v :: vs, i0, p, h => by
    unfold pvOf at h
    have rec_ : p ∈ pvOf r vs (i0 + 1) → ∃ i td', p.1 = i0 + i ∧ (td :: r)[i]? = some td' ∧ own1 td' = true ∧ (v :: vs)[i]? = some p.2 := fun h => by
      obtain ⟨i, td', h1, h2, h3, h4⟩ := mem_pvOf h
      exact ⟨i + 1, td', by omega, by simpa using h2, h3, by simpa using h4⟩
    split at h
    · rcases List.mem_cons.mp h with z | z
      · subst z
        exact ⟨0, td, rfl, rfl, by assumption, rfl⟩
      · exact rec_ z
    · exact rec_ h
theorem pvOf_mem : ∀ {tds : List TD} {vs : List V} {i0 i : Nat} {td : TD} {v : V}, tds[i]? = some td → vs[i]? = some v → own1 td = true → (i0 + i, v) ∈ pvOf tds vs i0
  | [], vs, i0, i, td, v, h, h2, h3 => by simp at h
  | _ :: _, [], i0, i, td, v, h, h2, h3 => by simp at h2
  | td' :: r, v' :: vs, i0, 0, td, v, h, h2, h3 => by
    simp only [List.getElem?_cons_zero, Option.some.injEq] at h h2
    subst h h2
    unfold pvOf
    rw [h3, if_pos rfl]
    exact List.mem_cons_self
  | td' :: r, v' :: vs, i0, i + 1, td, v, h, h2, h3 => by
    simp only [List.getElem?_cons_succ] at h h2
    have := pvOf_mem (i0 := i0 + 1) h h2 h3
    rw [show i0 + 1 + i = i0 + (i + 1) by omega] at this
    unfold pvOf
    split
    · exact List.mem_cons_of_mem _ this
    · exact this
theorem rsL_at : ∀ {tds : List TD} {vs : List V} {i : Nat} {td : TD} {v : V}, tds[i]? = some td → vs[i]? = some v → (td.1, td.2, v) ∈ rsL tds vs
  | [], vs, i, td, v, h, h2 => by simp at h
  | _ :: _, [], i, td, v, h, h2 => by simp at h2
  | td' :: r, v' :: vs, 0, td, v, h, h2 => by
    simp only [List.getElem?_cons_zero, Option.some.injEq] at h h2
    subst h h2
    exact List.mem_cons_self
  | td' :: r, v' :: vs, i + 1, td, v, h, h2 => by
    simp only [List.getElem?_cons_succ] at h h2
    exact List.mem_cons_of_mem _ (rsL_at h h2)
theorem spF_len {n : Nat} {cf : List TD → RF} (vs : List V) (H : Hp) (Q : VK) (E : XK) (h : spF K C n cf vs H Q E) : vs.length = n := by
  obtain ⟨G, tds, xs, h1, h2, _⟩ := h
  exact h2
theorem funD_okC {P : Program} {w : World} {mg : PySem.Str → Option Value} {base : Heap} {x qual : PySem.Str} {params : Arguments} {body : List Stmt} {scope : Scope} {dvs : List V} {kws : List (PySem.Str × V)} {f : Addr} {fd : FuncData} {CX : CXT} {N ps : List PySem.Str} {k : Nat} {sp : Sp}
    (F : FunD K x qual params body scope dvs kws f fd) (S : FnScope N ps scope) (len : ∀ vs H Q E, sp vs H Q E → vs.length = ps.length)
    (hb : ∀ (cdv : Value), fd.code = cdv → ∀ (A : Around) (outer : List PySem.Env) (s : Shared) (H : Hp) (vs : List V) (Q : VK) (E : XK), Room k (A.deeper (envOfC qual scope s.heap.objs.size f cdv)) → sp vs H Q E →
      ∃ t, PSs (cxOf CX P w K mg base N qual scope f cdv A outer s H E) body t ∧ t { nx := fun _ H' => Q .non H', rt := Q } (start N vs) H) : FnOk P w K mg base CX (k + 1) f fd ps sp := by
  obtain ⟨oc, od, dV, kV, doc, pm, an, cdv, ct, osl, rfl, lk, hcd, _, _⟩ := F.ex
  exact fn_of lk hcd S len (hb cdv rfl)
/-- a def keeps its promise -/
theorem fn_pf {P : Program} {w : World} {mg : PySem.Str → Option Value} {base : Heap} {x qual : PySem.Str} {params : Arguments} {body : List Stmt} {scope : Scope} {dvs : List V} {kws : List (PySem.Str × V)} {f : Addr} {fd : FuncData} {N ps : List PySem.Str} {k : Nat}
    {n : Nat} {fb : (Nat → Bool) → Env → R Fl} (F : FunD K x qual params body scope dvs kws f fd) (S : FnScope N ps scope) (hN : N.length = n) (hxp : C.B.xp = [])
    (hbody : ∀ (cdv : Value), fd.code = cdv → ∀ (A : Around) (outer : List PySem.Env) (s : Shared) (H : Hp) (E : XK) (pr : Nat → Bool), Room k (A.deeper (envOfC qual scope s.heap.objs.size f cdv)) →
      DSs (cxOf (L2.CX P w) P w K mg base N qual scope f cdv A outer s H E) C pr body (fb pr)) : FnOk P w K mg base (L2.CX P w) (k + 1) f fd ps (spF K C ps.length (runB n fb)) := by
  subst hN
  refine funD_okC F S (fun vs H Q E h => spF_len vs H Q E h) fun cdv hcdv A outer s H vs Q E hr h => ?_
  obtain ⟨G, tds, xs, hl, hn, ok, w⟩ := h
  refine ⟨_, hbody cdv hcdv A outer s H E (prOf tds) hr, G, enter N.length tds, xs, (fun cls d _ H' => E cls d H'), pvOf tds vs 0, ?_, ?_, L2.takes_of rfl rfl rfl rfl, ?_⟩
  · have hle : vs.length ≤ N.length := by
      have := congrArg List.length S.pre
      rw [List.length_take] at this
      omega
    refine ⟨?_, fun i t d e => ?_, ?_, fun p hp => ?_, fun p hp => by rw [hxp] at hp; cases hp⟩
    · rw [start_eq]; unfold enter; simp [hl]
    · rw [start_eq]
      unfold enter at e
      by_cases hi : i < tds.length
      · rw [List.getElem?_append_left (by simpa using hi)] at e
        have hi2 : i < vs.length := by omega
        rw [List.getElem?_append_left (by simpa using hi2), List.getElem?_map, List.getElem?_eq_getElem hi2]
        exact ⟨_, rfl⟩
      · rw [List.getElem?_append_right (by simpa using hi), List.getElem?_replicate] at e
        split at e <;> cases e
    · rw [start_eq, ents_enter _ _ _ hl]
      rw [List.append_assoc]
      refine (Okx.nones ok (N.length - vs.length)).perm ?_
      exact List.perm_append_comm_assoc ..
    · obtain ⟨i, td, h1, h2, h3, h4⟩ := mem_pvOf hp
      rw [h1, Nat.zero_add, start_eq]
      obtain ⟨hi, _⟩ := List.getElem?_eq_some_iff.mp h4
      rw [List.getElem?_append_left (by simpa using hi), List.getElem?_map, h4]
      rfl
  · intro p hp
    obtain ⟨i, td, h1, h2, h3, h4⟩ := mem_pvOf hp
    unfold prOf
    rw [h1, Nat.zero_add, h2]
    exact h3
  · -- what stands behind the body
    have back : ∀ {σ' : L2.St} {ρ' : Env} {G' H' : Hp} {ys : List TD} {zs : List Rs}, Le G G' → StOk K C.B G' H' σ' ρ' (zs ++ xs) (pvOf tds vs 0) → backs tds ρ' = some ys → Okx K C.B G' H' (zs ++ (rsL ys vs ++ xs)) ∧ ys.length = tds.length := by
      intro σ' ρ' G' H' ys zs le o e
      obtain ⟨o2, l2⟩ := backs_ok hl o.len o.ok (fun i td v h1 h2 => by
        split
        · rename_i h3
          have := o.pvs _ (pvOf_mem (i0 := 0) h1 h2 h3)
          rwa [Nat.zero_add] at this
        · rename_i h3
          have hm : (td.1, td.2, v) ∈ rsL tds vs ++ xs := List.mem_append_left _ (rsL_at h1 h2)
          obtain ⟨l, ow⟩ := ok.own2 hm
          have h4 : (isF td.1 || !isBox td.2) = true := by
            unfold own1 at h3
            cases hq : (isF td.1 || !isBox td.2) with
            | true => rfl
            | false => rw [hq] at h3; exact absurd rfl h3
          exact (ow.shared h4).mono le) e
      exact ⟨o2.perm (List.perm_append_comm_assoc ..), l2⟩
    show ((fb (prOf tds) (enter N.length tds)).wp _ _)
    have w : (match fin tds (fb (prOf tds) (enter N.length tds)) with
      | .ok td tds' => tds'.length = tds.length ∧ ∀ v G' H', Le G G' → Okx K C.B G' H' ((td.1, td.2, v) :: (rsL tds' vs ++ xs)) → Q v H'
      | .exc c fs tds' => tds'.length = tds.length ∧ ∀ cls dO G' H', Le G G' → ExcIs K C.B C.xc G' c fs cls dO → Okx K C.B G' H' (rsL tds' vs ++ xs) → E cls dO H'
      | .me i tds' => tds'.length = tds.length ∧ ∀ v G' H', vs[i]? = some v → Le G G' → Okx K C.B G' H' (rsL tds' vs ++ xs) → Q v H'
      | .stuck => False) := w
    cases er : fb (prOf tds) (enter N.length tds) with
    | stuck => rw [er] at w; exact w
    | exc c fs ρ' =>
      rw [er] at w
      unfold fin at w
      dsimp only at w
      cases eb : backs tds ρ' with
      | none => rw [eb] at w; exact w.elim
      | some ys =>
        rw [eb] at w
        intro cls dO σ' G' H' le x o
        obtain ⟨o2, l2⟩ := back (zs := []) le o eb
        exact w.2 cls dO G' H' le x o2
    | ok fl ρ' =>
      rw [er] at w
      unfold fin at w
      dsimp only at w
      cases eb : backs tds ρ' with
      | none => rw [eb] at w; exact w.elim
      | some ys =>
        rw [eb] at w
        cases fl with
        | nx =>
          intro σ' G' H' le o
          obtain ⟨o2, l2⟩ := back (zs := []) le o eb
          exact w.2 .non G' H' le (o2.addF (by simp only [Rep]))
        | rt td =>
          intro v σ' G' H' le o
          obtain ⟨o2, l2⟩ := back (zs := [(td.1, td.2, v)]) le o eb
          exact w.2 v G' H' le o2
        | bk => exact w.elim
        | ct => exact w.elim
        | me i =>
          dsimp only at w
          cases hpi : prOf tds i with
          | false => rw [hpi] at w; exact w.elim
          | true =>
            rw [hpi, if_pos rfl] at w
            intro v σ' G' H' le o hv
            obtain ⟨o2, l2⟩ := back (zs := []) le o eb
            unfold prOf at hpi
            split at hpi
            · rename_i td etd
              have hi : i < vs.length := by rw [← hl]; exact (List.getElem?_eq_some_iff.mp etd).1
              have hv0 : vs[i]? = some vs[i] := List.getElem?_eq_getElem hi
              have hp0 := o.pvs _ (pvOf_mem (i0 := 0) etd hv0 hpi)
              rw [Nat.zero_add] at hp0
              have : vs[i] = v := by
                have z := hp0.symm.trans hv
                exact Option.some.inj (Option.some.inj z)
              exact w.2 v G' H' (by rw [hv0, this]) le o2
            · cases hpi
/-- no promise at all -/
theorem fn_pf0 {P : Program} {w : World} {mg : PySem.Str → Option Value} {base : Heap} {f : Addr} {fd : FuncData} {ps : List PySem.Str} : FnOk P w K mg base (L2.CX P w) 0 f fd ps (spF K C ps.length fun _ => .stuck) :=
  ⟨fun vs H Q E h => spF_len vs H Q E h, fun A outer s H args us vs Q E _ _ _ _ h => by
    obtain ⟨G, tds, xs, h1, h2, _, z⟩ := h
    exact z.elim⟩
end
end PF
namespace PF
open PySem PySem.Spec L2
open PyProof.Rows hiding St
section
variable {X : Cx} {C : Ct} {q qa qb qc : Bool} {e a b c : Expr} {f fa fb fc : Env → R TD} {pos pos' p : Pos}
variable {K : PySem.W.Frag} {B : Tb} {G G' H H' : Hp} {σ : L2.St} {ρ : Env} {κ κ' : List Rs} {pv : List (Nat × V)} {pr : Nat → Bool}
def itemB (x : TD) (y : D) : Option TD := match y with
  | .int i => match x with
    | (.L t, .lst ds) => (atI ds i).map fun d => (t, d)
    | (_, .lst ds) => (atI ds i).map fun d => (.F, d)
    | (_, .tup ds) => (atI ds i).map fun d => (.F, d)
    | (_, .scr is) => (atI is i).map fun j => (.F, .int j)
    | (_, .str z) => if z.length ≤ SZ then (atI z.cps.toList i).map fun c => (.F, .str ⟨#[c]⟩) else none
    | _ => none
  | _ => none
def bIx (fa fi : Env → R TD) : Env → R TD := fun ρ => (fa ρ).bind fun x ρ1 => (fi ρ1).bind fun y ρ2 => match itemB x y.2 with | some td => .ok td ρ2 | none => .stuck
theorem Owns.atI {ds : List D} {t : T} {vs : List V} {l : List Addr} {i : Int} {d : D} (h : Owns K B G H ds t vs l) (e : atI ds i = some d) : ∃ v l', atI vs i = some v ∧ Own K B G H d t v l' := by
  unfold L2.atI at e ⊢
  rw [← h.len]
  cases q : ixN ds.length i with
  | none => rw [q] at e; cases e
  | some j =>
    rw [q] at e
    exact h.at (i := j) e
theorem atI_map {α β : Type} (f : α → β) {xs : List α} {i : Int} {v : α} (h : atI xs i = some v) : atI (xs.map f) i = some (f v) := by
  unfold L2.atI at h ⊢
  rw [List.length_map]
  cases q : ixN xs.length i with
  | none => rw [q] at h; cases h
  | some j =>
    rw [q] at h
    show (xs.map f)[j]? = some (f v)
    rw [List.getElem?_map, show xs[j]? = some v from h]
    rfl
theorem itemB_ok {x td : TD} {i : Int} {v : V} {l : List Addr} (le : Le G H) (o : Own K B G H x.2 x.1 v l) (e : itemB x (.int i) = some td) {Q : VK} (k : ∀ w l', Own K B G H td.2 td.1 w l' → Q w H) : rIx K v (.int i) H Q := by
  have shr : ∀ {ds : List D} {d : D}, items x.2 = some ds → atI ds i = some d → td = (.F, d) → Rep K B G x.2 v → rIx K v (.int i) H Q := fun {ds d} e1 e2 e3 r => by
    subst e3
    obtain ⟨a, vs, h1, r1, s⟩ := r.items e1
    subst h1
    obtain ⟨w, h2, r2⟩ := r1.atI e2
    rcases s with ⟨_, s⟩ | ⟨_, s⟩
    · exact .inl ⟨a, vs, i, w, rfl, rfl, le.sqL s, h2, k w [] r2.own⟩
    · exact .inr (.inl ⟨a, vs, i, w, rfl, rfl, le.sqT s, h2, k w [] r2.own⟩)
  obtain ⟨t, d⟩ := x
  cases d with
  | lst ds =>
    cases t with
    | L t =>
      obtain ⟨d, e1, e2⟩ := Option.map_eq_some_iff.mp (show (atI ds i).map (fun d => (t, d)) = some td from e)
      subst e2
      obtain ⟨a, vs, l', h1, ha, el, h3⟩ := Own.lst' o
      subst h1
      obtain ⟨w, l2, h4, h5⟩ := h3.atI e1
      exact .inl ⟨a, vs, i, w, rfl, rfl, SqL.of ha, h4, k w l2 h5⟩
    | F =>
      obtain ⟨d, e1, e2⟩ := Option.map_eq_some_iff.mp (show (atI ds i).map (fun d => (T.F, d)) = some td from e)
      exact shr rfl e1 e2.symm o.repF.1
    | M _ =>
      obtain ⟨d, e1, e2⟩ := Option.map_eq_some_iff.mp (show (atI ds i).map (fun d => (T.F, d)) = some td from e)
      exact shr rfl e1 e2.symm (by simp only [Own] at o; exact o.1)
    | R _ =>
      obtain ⟨d, e1, e2⟩ := Option.map_eq_some_iff.mp (show (atI ds i).map (fun d => (T.F, d)) = some td from e)
      exact shr rfl e1 e2.symm (by simp only [Own] at o; exact o.1)
  | tup ds =>
    have e : (atI ds i).map (fun d => (T.F, d)) = some td := by cases t <;> exact e
    obtain ⟨d, e1, e2⟩ := Option.map_eq_some_iff.mp e
    exact shr rfl e1 e2.symm (o.plain rfl)
  | scr is =>
    have e : (atI is i).map (fun j => (T.F, D.int j)) = some td := by cases t <;> exact e
    obtain ⟨j, e1, e2⟩ := Option.map_eq_some_iff.mp e
    exact shr (ds := is.map D.int) rfl (atI_map D.int e1) e2.symm (o.plain rfl)
  | str z =>
    have e : (if z.length ≤ SZ then (atI z.cps.toList i).map (fun c => (T.F, D.str ⟨#[c]⟩)) else none) = some td := by cases t <;> exact e
    split at e
    · obtain ⟨c, e1, e2⟩ := Option.map_eq_some_iff.mp e
      subst e2
      have hv : v = .str z := o.prim (x := .str z) rfl
      subst hv
      exact .inr (.inr ⟨z, i, c, rfl, rfl, by assumption, e1, k _ [] (by simp only [Own]; exact ⟨trivial, trivial⟩)⟩)
    · cases e
  | _ => cases t <;> cases e
theorem db_ix {i : Expr} {fi : Env → R TD} (ha : DB X C q a fa) (hi : DE X C true i fi) (hs : PlainIx i := by exact fun _ _ => rfl) : DB X C q (.Subscript a i pos) (bIx fa fi) := by
  refine (pe_ix ix_seq ha hi hs).weak fun σ H Q z => ?_
  refine RT.bind (ka := kB) z (fun h => h) fun x v1 H1 G0 H0 ρ0 z1 => ?_
  refine z1.quiet (ka := kE) kB_up fun y v2 H2 z2 => ?_
  cases e : itemB x y.2 with
  | none => simp only [e] at z2; exact z2.no
  | some td =>
    simp only [e] at z2
    obtain ⟨G, ρ, κ, W, pv, st, ⟨⟨l, o⟩, _⟩, ok, tk, w⟩ := z2
    obtain ⟨l2, o2⟩ := ok.mem (r := (y.1, y.2, v2)) (by simp [kE])
    cases ey : y.2 with
    | int i =>
      have hv2 : v2 = .int i := o2.prim (x := .int i) (by show primV y.2 = _; rw [ey]; rfl)
      subst hv2
      rw [ey] at e
      exact itemB_ok ok.le o e fun w' l' ow => w w' G H2 ⟨l', ow⟩ st ok.drop
    | _ => rw [ey] at e; cases e
def truD (d : D) : Option Bool := match d with
  | .non => some false
  | .bl b => some b
  | .int i => some (i != 0)
  | .lst ds => some (!ds.isEmpty)
  | .tup ds => some (!ds.isEmpty)
  | .scr is => some (!is.isEmpty)
  | _ => none
def tTru (f : Env → R TD) : Env → R Bool := fun ρ => (f ρ).bind fun x ρ1 => match truD x.2 with | some k => .ok k ρ1 | none => .stuck
theorem truD_ok {d : D} {v : V} {k : Bool} (r : Rep K B H d v) (e : truD d = some k) : TruV K v H k := by
  have box : ∀ ds, items d = some ds → k = !ds.isEmpty → TruV K v H k := fun ds e1 e2 => by
    obtain ⟨a, vs, h1, r1, s⟩ := r.items e1
    subst h1
    rw [e2, ← r1.isEmpty]
    rcases s with ⟨_, s⟩ | ⟨_, s⟩
    · exact .inl ⟨vs, s, rfl⟩
    · exact .inr (.inl ⟨vs, s, rfl⟩)
  cases d with
  | non => cases e; simp only [Rep] at r; subst r; exact rfl
  | bl b => cases e; simp only [Rep] at r; subst r; exact rfl
  | int b => cases e; simp only [Rep] at r; subst r; exact rfl
  | lst ds => cases e; exact box _ rfl rfl
  | tup ds => cases e; exact box _ rfl rfl
  | scr is => cases e; exact box _ rfl (by cases is <;> rfl)
  | _ => cases e
theorem dt_tru (ha : DB X C q a fa) (he : ∀ whole, isTrue a X.env whole = (do let v ← whole; standAt a.pos; holding [v] (truthy v)) := by intro _; rfl) : DT X C q a (tTru fa) := by
  refine (pt_truth ha he).weak fun σ H Q z => ?_
  refine RT.bind (ka := kB) z (fun h => h) fun x v1 H1 G0 H0 ρ0 z1 => ?_
  cases e : truD x.2 with
  | none => simp only [e] at z1; exact z1.no
  | some k =>
    simp only [e] at z1
    obtain ⟨G, ρ, κ, W, pv, st, ⟨l, o⟩, ok, tk, w⟩ := z1
    exact ⟨k, truD_ok (o.see ok.le) e, w k G H1 rfl st ok⟩
def sTg (g : D → Env → Option Env) (f : Env → R TD) : Env → R Fl := fun ρ => (f ρ).bind fun x ρ1 => match g x.2 ρ1 with | some ρ2 => .ok .nx ρ2 | none => .stuck
theorem ds_tg {tg : Expr} {g : D → Env → Option Env} (he : DE X C q e f) (hg : DTg X C pr tg g) (hs : swapsWithSole [tg] e pos.line X.env = pure false := by rfl) (hw : swappedStores [tg] e X.env = pure none := by rfl)
    (h1 : (assignEach [tg] X.env).map (·.2) = [assign tg X.env] := by rfl) : DS X C pr (.Assign [tg] e pos) (sTg g f) := PS.weak (ps_asg he hg hs hw h1) fun D σ H z => by
  refine TSd.bind (ka := kE) z fun x v H1 G1 ρ κ W pv r ok hp tk w => ?_
  cases eg : g x.2 ρ with
  | none => rw [eg] at w; exact w.elim
  | some ρ2 =>
    rw [eg] at w
    obtain ⟨G2, le, ok2⟩ := StOk.freeze (t := x.1) (d := x.2) ok
    exact ⟨G2, ρ, ρ2, κ, pv, x.2, ok2.tail, ok2.headF, hp, eg, fun σ' G' H' _ le' ok' => w σ' G' H' (le.trans le') ok'⟩
def whileD (t : Env → R Bool) (body : Env → R Fl) : Nat → Env → R Fl
  | 0, _ => .stuck
  | n + 1, ρ => (t ρ).bind fun k ρ1 => if k then (body ρ1).bind fun fl ρ2 => match fl with
    | .nx => whileD t body n ρ2
    | .ct => whileD t body n ρ2
    | .bk => .ok .nx ρ2
    | .rt td => .ok (.rt td) ρ2
    | .me i => .ok (.me i) ρ2
    else .ok .nx ρ1
def sWhile (n : Nat) (t : Env → R Bool) (body : Env → R Fl) : Env → R Fl := whileD t body n
theorem ds_while {n : Nat} {cnd : Expr} {body : List Stmt} {t : Env → R Bool} {fb : Env → R Fl} (hp : PassesOwn (model X.prog X.w) X.A X.env X.xe) (hc : DT X C q cnd t) (hb : DSs X C pr body fb) : DS X C pr (.While cnd body [] pos) (sWhile n t fb) := PS.weak (ps_while hp hc hb) fun D σ H z => by
  obtain ⟨G, ρ, κ, W, pv, ok, hpv, tk, w⟩ := z
  refine ⟨fun m σ' H' => ∃ G' ρ', Le G G' ∧ StOk X.K C.B G' H' σ' ρ' κ pv ∧ (whileD t fb m ρ').wp (QF X C D G κ pv) (EF X C W G κ pv), ⟨n, G, ρ, .refl, ok, w⟩, ?_⟩
  rintro m σ' H' ⟨G', ρ', le', ok', w'⟩
  cases m with
  | zero => exact w'.elim
  | succ m =>
    unfold whileD at w'
    rw [R.wp_bind] at w'
    refine ⟨G', H', ρ', G', ρ', κ, W, pv, .refl, trivial, ok', tk, R.wp_mono w' (fun k ρ1 w1 b G1 H1 r st1 ok1 => ?_) fun c fs ρ1 w1 cls dO G1 H1 l x ok1 => w1 cls dO σ' G1 H1 (le'.trans l) x ok1⟩
    have hk : k = b := r
    subst hk
    have leA := le'.trans st1.1
    cases k with
    | false =>
      simp only [Bool.false_eq_true, if_false] at w1 ⊢
      exact w1 σ' G1 H1 leA ok1
    | true =>
      simp only [if_true] at w1 ⊢
      rw [R.wp_bind] at w1
      refine ⟨fun σ2 H2 => ∃ G2 ρ2, Le G G2 ∧ StOk X.K C.B G2 H2 σ2 ρ2 κ pv ∧ (whileD t fb m ρ2).wp (QF X C D G κ pv) (EF X C W G κ pv), fun σ2 H2 z => ⟨m, Nat.lt_succ_self m, z⟩, ?_⟩
      refine ⟨G1, ρ1, κ, W, pv, ok1, hpv, tk, R.wp_mono w1 (fun fl ρ2 w2 => ?_) fun c fs ρ2 w2 cls dO σ2 G2 H2 le2 x ok2 => w2 cls dO σ2 G2 H2 (leA.trans le2) x ok2⟩
      cases fl with
      | nx => exact fun σ2 G2 H2 le2 ok2 => ⟨G2, ρ2, leA.trans le2, ok2, w2⟩
      | ct => exact fun σ2 G2 H2 le2 ok2 => ⟨G2, ρ2, leA.trans le2, ok2, w2⟩
      | bk => exact fun σ2 G2 H2 le2 ok2 => w2 σ2 G2 H2 (leA.trans le2) ok2
      | rt td => exact fun v σ2 G2 H2 le2 ok2 => w2 v σ2 G2 H2 (leA.trans le2) ok2
      | me i => exact fun v σ2 G2 H2 le2 ok2 => w2 v σ2 G2 H2 (leA.trans le2) ok2
def sSetI (fp : Env → R Plc) (fi f : Env → R TD) : Env → R Fl := fun ρ => (f ρ).bind fun x ρ1 => (fp ρ1).bind fun ip ρ2 => (fi ρ2).bind fun y ρ3 => match atP ρ3 ip with
  | some u => match mSet u [x, y] with
    | some ya => match setP ρ3 ip ya.1 with
      | some ρ4 => .ok .nx ρ4
      | none => .stuck
    | none => .stuck
  | none => .stuck
theorem ds_setI {o i : Expr} {fp : Env → R Plc} {fi : Env → R TD} {tpos : Pos} (CO : CtOk X C) (ho : DP X C true o fp) (hi : DE X C true i fi) (he : DE X C q e f)
    (ha : ∀ v, assign (.Subscript o i tpos) X.env v = (do
      let ov ← holding [v] (eval o X.env)
      let iv ← holding [v, ov] (eval i X.env)
      standAt tpos
      holding [v, ov, iv] (setItem ov iv v)
      release [v, ov, iv] []) := by intro _; rfl)
    (hs : swapsWithSole [.Subscript o i tpos] e pos.line X.env = pure false := by rfl) (hw : swappedStores [.Subscript o i tpos] e X.env = pure none := by rfl)
    (h1 : (assignEach [.Subscript o i tpos] X.env).map (·.2) = [assign (.Subscript o i tpos) X.env] := by rfl) : DS X C pr (.Assign [.Subscript o i tpos] e pos) (sSetI fp fi f) := PS.weak (ps_asg he (pg_sub ho hi set_list ha) hs hw h1) fun D σ H z => by
  refine TSd.bind (ka := kE) z fun x v H1 G1 ρ κ W pv r ok hp tk w => ?_
  rw [R.wp_bind] at w
  -- the place
  refine ⟨G1, H1, ρ, G1, ρ, (x.1, x.2, v) :: κ, W, pv, .refl, trivial, ok, tk, R.wp_mono w (fun ip ρ2 w2 wv G2 H2 rp st2 ok2 => ?_) fun c fs ρ2 w2 cls dO G' H' l xx ok' => w2 cls dO σ G' H' l xx ok'.tail⟩
  rw [R.wp_bind] at w2
  obtain ⟨lH, eρ⟩ := st2.2 rfl
  refine ⟨G2, H2, ρ2, G2, ρ2, (x.1, x.2, v) :: κ, W, pv, .refl, trivial, ok2, tk, R.wp_mono w2 (fun y ρ3 w3 vi G3 H3 ri st3 ok3 => ?_) fun c fs ρ2 w2 cls dO G' H' l xx ok' => w2 cls dO σ G' H' (st2.1.trans l) xx ok'.tail⟩
  obtain ⟨lH3, eρ3⟩ := st3.2 rfl
  obtain ⟨vr, hvr, hr⟩ := rp
  have hr3 := reach_up lH3 hr
  cases e1 : atP ρ3 ip with
  | none => simp only [e1] at w3; exact w3.elim
  | some u =>
    simp only [e1] at w3
    cases e2 : mSet u [x, y] with
    | none => simp only [e2] at w3; exact w3.elim
    | some ya =>
      obtain ⟨yn, an⟩ := ya
      simp only [e2] at w3
      cases e3 : setP ρ3 ip yn with
      | none => simp only [e3] at w3; exact w3.elim
      | some ρ4 =>
        simp only [e3] at w3
        have ok4 : StOk X.K C.B G3 H3 σ ρ3 (rsL [x, y] [v, vi] ++ κ) pv := ok3.permK (List.Perm.swap _ _ _)
        obtain ⟨rest, o⟩ := StOk.atPlace CO.inj ok4 e1 hvr hr3
        have hm := mu_set (X := X) (C := C) G3 H3 u wv [x, y] [v, vi] yn an rest (fun v' H' => D.nx σ H') rfl e2 o fun v' H' k => ?_
        · obtain ⟨i', v'', e4, hset⟩ := hm
          cases e4
          exact hset
        · obtain ⟨G', le, ok'⟩ := StOk.setP (zs := [(an.1, an.2, v')]) CO.inj ok4 e1 e3 hvr hr3 k
          exact w3 σ G' H' ((st2.1.trans st3.1).trans le) ok'.tail
end
end PF
namespace PF
open PySem PySem.Spec L2
open PyProof.Rows hiding St
def noPad (x : PySem.Str) : Bool := x.cps[0]? != some 35
theorem pad0 (n : Nat) : (padN n).cps[0]? = some 35 := by
  unfold padN
  rw [Array.getElem?_replicate]
  simp
theorem nmOf_ne {tab : List PySem.Str} {m : PySem.Str} (h : tab.contains m = false) (h2 : noPad m = true) (n : Nat) : nmOf tab n ≠ m := by
  intro e
  unfold nmOf at e
  rw [List.getD_eq_getElem?_getD] at e
  cases q : tab[n]? with
  | none =>
    rw [q] at e
    have e : padN n = m := e
    unfold noPad at h2
    rw [← e, pad0] at h2
    simp at h2
  | some x =>
    rw [q] at e
    have e : x = m := e
    have := List.mem_of_getElem? q
    rw [e] at this
    have h3 := List.contains_iff_mem.mpr this
    rw [h3] at h
    cases h
theorem nodup_inj : ∀ {tab : List PySem.Str} {i j : Nat} {x : PySem.Str}, tab.Nodup → tab[i]? = some x → tab[j]? = some x → i = j := by
  intro tab i j x nd h1 h2
  obtain ⟨hi, e1⟩ := List.getElem?_eq_some_iff.mp h1
  obtain ⟨hj, e2⟩ := List.getElem?_eq_some_iff.mp h2
  exact (List.getElem_inj nd).mp (e1.trans e2.symm)
theorem nmOf_inj {tab : List PySem.Str} (nd : tab.Nodup) (h2 : tab.all noPad = true) (n m : Nat) (e : nmOf tab n = nmOf tab m) : n = m := by
  have np : ∀ (i : Nat) (x : PySem.Str), tab[i]? = some x → x.cps[0]? ≠ some 35 := fun i x h => by
    have := List.all_eq_true.mp h2 x (List.mem_of_getElem? h)
    unfold noPad at this
    simpa using this
  unfold nmOf at e
  rw [List.getD_eq_getElem?_getD, List.getD_eq_getElem?_getD] at e
  cases q1 : tab[n]? with
  | none =>
    cases q2 : tab[m]? with
    | none =>
      rw [q1, q2] at e
      have e : padN n = padN m := e
      have := congrArg (fun x : PySem.Str => x.cps.size) e
      simpa [padN] using this
    | some y =>
      rw [q1, q2] at e
      have e : padN n = y := e
      exact absurd (e ▸ pad0 n) (np m y q2)
  | some x =>
    cases q2 : tab[m]? with
    | none =>
      rw [q1, q2] at e
      have e : x = padN m := e
      exact absurd (e ▸ pad0 m) (np n x q1)
    | some y =>
      rw [q1, q2] at e
      have e : x = y := e
      subst e
      exact nodup_inj nd q1 q2
theorem clsOf_all {p : Addr → Prop} {c0 : Addr} {cs : List Addr} (h : ∀ a ∈ c0 :: cs, p a) (c : Nat) : p (clsOf (c0 :: cs) c) := by
  unfold clsOf
  rw [List.getD_eq_getElem?_getD]
  cases q : (c0 :: cs)[c]? with
  | none => exact h c0 List.mem_cons_self
  | some a => exact h a (List.mem_of_getElem? q)
def gNm (i : Nat) (g : PF.Env → R (List Ag)) : PF.Env → R (List Ag) := fun ρ => match ρ[i]? with | some (some _) => gNam i g ρ | _ => .stuck
theorem dg_nm {X : Cx} {C : Ct} {qb : Bool} {pos : Pos} {es : List Expr} {g : PF.Env → R (List Ag)} {i : Nat} {x : PySem.Str} (h : PE X (.Name x pos) (tVar i)) (hr : DG X C qb es g)
    (hs : starEach (.Name x pos :: es) X.env = (false, eval (.Name x pos) X.env) :: starEach es X.env := by rfl) : DG X C qb (.Name x pos :: es) (gNm i g) := dg_nam h hr (by intros; trivial) hs
section
variable {X : Cx} {C : Ct} {q : Bool} {e : Expr} {es : List Expr}
theorem qt {f : PF.Env → R TD} (h : DE X C q e f) (hq : q = true := by rfl) : DE X C true e f := hq ▸ h
theorem qtB {f : PF.Env → R TD} (h : DB X C q e f) (hq : q = true := by rfl) : DB X C true e f := hq ▸ h
theorem qtP {f : PF.Env → R Plc} (h : DP X C q e f) (hq : q = true := by rfl) : DP X C true e f := hq ▸ h
end
theorem room64 {k : Nat} {A : Around} (hr : Room k A) : A.units + 64 < cLine := by have := hr.un; omega
theorem room65 {k : Nat} {A : Around} (hr : Room k A) : A.units + 65 < cLine := by have := hr.un; omega
section
variable {X : Cx} {C : Ct} {q qa : Bool} {e a : Expr} {fa : PF.Env → R TD} {pos p apos : Pos} {n k c i : Nat} {fd : FuncData} {f : Addr} {ps : List PySem.Str} {cf : List TD → RF} {x m : PySem.Str} {es : List Expr} {g : PF.Env → R (List Ag)} {pl : Sem Bool}
theorem de_cal (F : FnP X C k f fd ps cf) (hr : Room k X.A) (hg : Gl X x) (hm : X.mg x = some (.ref f)) (hk : PySem.W.keepIn X.K (.ref f) = true) (hb : Binds X.K fd ps [])
    (ha : DG X C q (e :: es) g) (hn : ps.length = n := by rfl) (hdb : (x == ("__debug__" : PySem.Str)) = false := by decide) (he : starEach (e :: es) X.env = (false, eval e X.env) :: starEach es X.env := by rfl) (hpl : (backTo pos (starEach es X.env)).any (·.1) = false := by rfl) :
    DE X C false (.Call (.Name x p) (e :: es) [] pos) (fCall n cf g) := hn ▸ de_call F hr hg hm hk hb ha hdb he hpl
theorem de_mkN (M : Mk X.K (C.B.cls c) f) (F : FnP X C k f fd ps cf) (hr : Room (k + 1) X.A) (hg : Gl X x) (hm : X.mg x = some (.ref (C.B.cls c))) (hb : Binds X.K fd ps [])
    (ha : DG X C q (e :: es) g) (hn : ps.length = n := by rfl) (hdb : (x == ("__debug__" : PySem.Str)) = false := by decide) (he : starEach (e :: es) X.env = (false, eval e X.env) :: starEach es X.env := by rfl) (hpl : (backTo pos (starEach es X.env)).any (·.1) = false := by rfl) :
    DE X C false (.Call (.Name x p) (e :: es) [] pos) (fMake c n cf g) := hn ▸ de_make M F hr hg hm hb ha hdb he hpl
theorem de_metV0 (CO : CtOk X C) (h0 : 0 < C.nn) (ho : DE X C qa a fa) (hm : Meth X.K (C.B.cls c) m f) (F : FnP X C k f fd ps cf) (hr : Room k X.A) (hb : Binds X.K fd ps [])
    (hnm : ∀ n, C.B.nm n ≠ m) (hn : ps.length = n := by rfl)
    (ht : eval (.Call (.Attribute a m apos) [] [] pos) X.env = (do
      let ov ← eval a X.env
      standAt apos.atName
      let (f, first) ← holding [ov] (getMethod ov m pl)
      callWith pos f first (backTo pos (starEach [] X.env)) (backToKw pos (keywordEach [] X.env))) := by rfl) :
    DE X C false (.Call (.Attribute a m apos) [] [] pos) (fMethV c n cf fa gNil) := hn ▸ de_methV0 (pl := pl) (cl := 0) CO h0 ho hm F hr hb hnm ht
end
/-- nothing is let out of the law -/
theorem fnOk_quiet {P : Program} {w : World} {K : PySem.W.Frag} {mg : PySem.Str → Option Value} {base : Heap} {k : Nat} {f : Addr} {fd : FuncData} {ps : List PySem.Str} {sp : Sp} (F : FnOk P w K mg base (L2.CX P w) k f fd ps sp) :
    FnOk P w K mg base CX0 k f fd ps (fun vs H Q _ => sp vs H Q fun _ _ _ => False) :=
  ⟨fun vs H Q E h => F.len vs H Q _ h, fun A outer s H args us vs Q E hr e0 hb r h => codeAny_mono (F.run A outer s H args us vs Q _ hr e0 hb r h) fun r s' q => by
    cases r with
    | ok fl => cases fl <;> exact q
    | error e =>
      obtain ⟨_, _, _, _, _, _, _, _, _, _, _, _, z⟩ := q
      exact z.elim⟩
theorem law_end {K : PySem.W.Frag} {C : Ct} {H : Hp} {a : Addr} {ns : List Int} {cf : List TD → RF} {t : T} {ys : List TD} (hS : SqL K H a (ns.map V.int)) (e : cf [(.F, .scr ns)] = .ok (t, .bl true) ys) (hy : ys.length = 1) (hgx : ∀ G', Le H G' → C.B.gx G') :
    spF K C 1 cf [.ref a] H (fun v _ => v = .bl true) fun _ _ _ => False := by
  refine ⟨H, [(.F, .scr ns)], [], rfl, rfl, ?_, ?_⟩
  · refine Okx.addF (xs := []) ⟨.refl, hgx, [], rfl, List.nodup_nil, fun a ha => by cases ha⟩ ?_
    simp only [Rep]
    exact ⟨a, rfl, hS⟩
  · rw [e]
    refine ⟨hy, fun v G' H' le o => ?_⟩
    obtain ⟨l, ow⟩ := o.head
    exact ow.prim (x := .bl true) rfl
theorem roomC {k : Nat} (h : k ≤ 230) : Room k callerA := ⟨rfl, by
  have : callerA.depth + 3 * k + 5 ≤ callerA.depth + 695 := by omega
  exact Nat.lt_of_le_of_lt this (by decide), by
  have : callerA.units + 16 * k + 200 ≤ callerA.units + 5000 := by omega
  exact Nat.lt_of_le_of_lt this (by decide)⟩
end PF
namespace PF
open PySem PySem.Spec L2
open PyProof.Rows hiding St
@[simp] theorem bind_ok {α β : Type} (a : α) (ρ : PF.Env) (k : α → PF.Env → R β) : (R.ok a ρ).bind k = k a ρ := rfl
@[simp] theorem bind_exc {α β : Type} (c : Nat) (fs : List (Nat × D)) (ρ : PF.Env) (k : α → PF.Env → R β) : (R.exc c fs ρ : R α).bind k = .exc c fs ρ := rfl
@[simp] theorem bind_stuck {α β : Type} (k : α → PF.Env → R β) : (R.stuck : R α).bind k = .stuck := rfl
section
variable (x : Option TD) (ρ : PF.Env) (i n c : Nat) (d : D) (t : T) (fa fb fc f : PF.Env → R TD) (pr : Nat → Bool)
@[simp] theorem e_fC : fC d (x :: ρ) = .ok (.F, d) (x :: ρ) := rfl
@[simp] theorem e_bV : bV i (x :: ρ) = (match (x :: ρ)[i]? with | some (some td) => .ok td (x :: ρ) | _ => .stuck) := rfl
@[simp] theorem e_fV : fV i (x :: ρ) = (match (x :: ρ)[i]? with | some (some (t, d)) => .ok (.F, d) (if isF t || !isBox d then x :: ρ else (x :: ρ).set i (some (.F, d))) | _ => .stuck) := rfl
@[simp] theorem e_qV : qV i (x :: ρ) = (match (x :: ρ)[i]? with | some (some (t, d)) => if isF t || !isBox d then .ok (.F, d) (x :: ρ) else .stuck | _ => .stuck) := rfl
@[simp] theorem e_fBin (g : D → D → Option D) : fBin g fa fb (x :: ρ) = (fa (x :: ρ)).bind fun a ρ1 => (fb ρ1).bind fun b ρ2 => (match g a.2 b.2 with | some d => .ok (.F, d) ρ2 | none => .stuck) := rfl
@[simp] theorem e_fCmp (g : D → D → Option Bool) : fCmp g fa fb (x :: ρ) = (fa (x :: ρ)).bind fun a ρ1 => (fb ρ1).bind fun b ρ2 => (match g a.2 b.2 with | some d => .ok (.F, .bl d) ρ2 | none => .stuck) := rfl
@[simp] theorem e_fOp2 (g : TD → TD → Option Ans) : fOp2 g fa fb (x :: ρ) = (fa (x :: ρ)).bind fun a ρ1 => (fb ρ1).bind fun b => goO (g a b) := rfl
@[simp] theorem e_fB1 (g : TD → Option Ans) : fB1 g f (x :: ρ) = (f (x :: ρ)).bind fun a => goO (g a) := rfl
@[simp] theorem e_goO (a : Ans) : goO (some a) ρ = a.go ρ := rfl
@[simp] theorem e_goN : goO none ρ = .stuck := rfl
@[simp] theorem e_goP : (Ans.p d).go ρ = .ok (.F, d) ρ := rfl
@[simp] theorem e_goL (ds : List D) : (Ans.l ds).go ρ = .ok (.L .F, .lst ds) ρ := rfl
@[simp] theorem e_goT (ds : List D) : (Ans.t ds).go ρ = .ok (.F, .tup ds) ρ := rfl
@[simp] theorem e_asT : asT f (x :: ρ) = (f (x :: ρ)).bind fun a ρ1 => (match a.2 with | .bl k => .ok k ρ1 | _ => .stuck) := rfl
@[simp] theorem e_tTru : tTru f (x :: ρ) = (f (x :: ρ)).bind fun a ρ1 => (match truD a.2 with | some k => .ok k ρ1 | none => .stuck) := rfl
@[simp] theorem e_tNot (f : PF.Env → R Bool) : tNotF f (x :: ρ) = (f (x :: ρ)).bind fun k ρ1 => .ok (!k) ρ1 := rfl
@[simp] theorem e_tAnd (f g : PF.Env → R Bool) : tAndF f g (x :: ρ) = (f (x :: ρ)).bind fun k ρ1 => if k then g ρ1 else .ok false ρ1 := rfl
@[simp] theorem e_tOr (f g : PF.Env → R Bool) : tOrF f g (x :: ρ) = (f (x :: ρ)).bind fun k ρ1 => if k then .ok true ρ1 else g ρ1 := rfl
@[simp] theorem e_fAndV : fAndV fa fb (x :: ρ) = (fa (x :: ρ)).bind fun a ρ1 => (match a.2 with | .bl true => fb ρ1 | .bl false => .ok (.F, .bl false) ρ1 | _ => .stuck) := rfl
@[simp] theorem e_fOrV : fOrV fa fb (x :: ρ) = (fa (x :: ρ)).bind fun a ρ1 => (match a.2 with | .bl false => fb ρ1 | .bl true => .ok (.F, .bl true) ρ1 | _ => .stuck) := rfl
@[simp] theorem e_fNotV : fNotV f (x :: ρ) = (f (x :: ρ)).bind fun a ρ1 => (match a.2 with | .bl k => .ok (.F, .bl (!k)) ρ1 | _ => .stuck) := rfl
@[simp] theorem e_fIf (g : PF.Env → R Bool) : fIf g fa fb (x :: ρ) = (g (x :: ρ)).bind fun k ρ1 => if k then fa ρ1 else fb ρ1 := rfl
@[simp] theorem e_fNeg : fNeg f (x :: ρ) = (f (x :: ρ)).bind fun a ρ1 => (match a.2 with | .int i => .ok (.F, .int (-i)) ρ1 | _ => .stuck) := rfl
@[simp] theorem e_fNil : fNil (x :: ρ) = .ok [] (x :: ρ) := rfl
@[simp] theorem e_fCons (g : PF.Env → R (List TD)) : fCons f g (x :: ρ) = (f (x :: ρ)).bind fun a ρ1 => (g ρ1).bind fun xs ρ2 => .ok (a :: xs) ρ2 := rfl
@[simp] theorem e_fTup (g : PF.Env → R (List TD)) : fTup g (x :: ρ) = (g (x :: ρ)).bind fun xs ρ1 => if xs.length ≤ SZ then .ok (.F, .tup (xs.map (·.2))) ρ1 else .stuck := rfl
@[simp] theorem e_fLst (g : PF.Env → R (List TD)) : fLst g (x :: ρ) = (g (x :: ρ)).bind fun xs ρ1 => if xs.length ≤ SZ then .ok (.L .F, .lst (xs.map (·.2))) ρ1 else .stuck := rfl
@[simp] theorem e_gNil : PF.gNil (x :: ρ) = .ok [] (x :: ρ) := rfl
@[simp] theorem e_gVal (g : PF.Env → R (List Ag)) : gVal f g (x :: ρ) = (f (x :: ρ)).bind fun a ρ1 => (g ρ1).bind fun xs ρ2 => .ok (.v a :: xs) ρ2 := rfl
@[simp] theorem e_gNm (g : PF.Env → R (List Ag)) : gNm i g (x :: ρ) = (match (x :: ρ)[i]? with | some (some _) => (g (x :: ρ)).bind fun xs ρ2 => .ok (.n i :: xs) ρ2 | _ => .stuck) := rfl
@[simp] theorem e_lend0 : lend ρ [] = some ([], ρ) := rfl
@[simp] theorem e_lendV (td : TD) (r : List Ag) : lend ρ (.v td :: r) = (lend ρ r).map fun p => (td :: p.1, p.2) := rfl
@[simp] theorem e_lendN (r : List Ag) : lend (x :: ρ) (.n i :: r) = (match (x :: ρ)[i]? with | some (some (t, d)) => if isF t || !isBox d then (lend (x :: ρ) r).map fun p => ((T.F, d) :: p.1, p.2) else (lend ((x :: ρ).set i none) r).map fun p => ((t, d) :: p.1, p.2) | _ => none) := rfl
@[simp] theorem e_back0 (xs ys : List TD) : back ρ [] xs ys = ρ := by cases xs <;> cases ys <;> rfl
@[simp] theorem e_backV (td a b : TD) (r : List Ag) (xs ys : List TD) : back ρ (.v td :: r) (a :: xs) (b :: ys) = back ρ r xs ys := rfl
@[simp] theorem e_backN (a b : TD) (r : List Ag) (xs ys : List TD) : back (x :: ρ) (.n i :: r) (a :: xs) (b :: ys) = if own1 a then back ((x :: ρ).set i (some b)) r xs ys else back (x :: ρ) r xs ys := rfl
@[simp] theorem e_doCall (cf : List TD → RF) (ags : List Ag) : doCall cf ags (x :: ρ) = (match lend (x :: ρ) ags with | none => .stuck | some (tds, ρh) => (match cf tds with | .ok td ys => if ys.length = tds.length then .ok td (back ρh ags tds ys) else .stuck | .exc c fs ys => if ys.length = tds.length then .exc c fs (back ρh ags tds ys) else .stuck | .me _ _ => .stuck | .stuck => .stuck)) := rfl
@[simp] theorem e_fCall (cf : List TD → RF) (g : PF.Env → R (List Ag)) : fCall n cf g (x :: ρ) = (g (x :: ρ)).bind fun ags ρ1 => if ags.length = n then doCall cf ags ρ1 else .stuck := rfl
@[simp] theorem e_fMethN (cf : List TD → RF) (g : PF.Env → R (List Ag)) : fMethN c i n cf g (x :: ρ) = (match (x :: ρ)[i]? with | some (some (_, .obj c' _)) => if c' = c then (g (x :: ρ)).bind fun ags ρ1 => if ags.length + 1 = n then doCall cf (.n i :: ags) ρ1 else .stuck else .stuck | _ => .stuck) := rfl
@[simp] theorem e_fMethV (cf : List TD → RF) (g : PF.Env → R (List Ag)) : fMethV c n cf f g (x :: ρ) = (f (x :: ρ)).bind fun a ρ0 => (match a.2 with | .obj c' _ => if c' = c then (g ρ0).bind fun ags ρ1 => if ags.length + 1 = n then doCall cf (.v a :: ags) ρ1 else .stuck else .stuck | _ => .stuck) := rfl
@[simp] theorem e_doMake (cf : List TD → RF) (ags : List Ag) : doMake c cf ags = doCall (fun tds => mkR (cf ((.R [], .obj c []) :: tds))) ags := rfl
@[simp] theorem e_fMake (cf : List TD → RF) (g : PF.Env → R (List Ag)) : fMake c n cf g (x :: ρ) = (g (x :: ρ)).bind fun ags ρ1 => if ags.length + 1 = n then doMake c cf ags ρ1 else .stuck := rfl
@[simp] theorem e_mkR (s : TD) (ys : List TD) : mkR (.ok (t, .non) (s :: ys)) = .ok s ys := rfl
@[simp] theorem e_bFld : bFld n fa (x :: ρ) = (fa (x :: ρ)).bind fun a ρ1 => (match a.2 with | .obj _ fs => (match fs.lookup n with | some d => .ok (fldT a.1 fs n, d) ρ1 | none => .stuck) | _ => .stuck) := rfl
@[simp] theorem e_share : share f (x :: ρ) = (f (x :: ρ)).bind fun a ρ1 => if isF a.1 || !isBox a.2 then .ok (.F, a.2) ρ1 else .stuck := rfl
@[simp] theorem e_bIx : bIx fa f (x :: ρ) = (fa (x :: ρ)).bind fun a ρ1 => (f ρ1).bind fun y ρ2 => (match itemB a y.2 with | some td => .ok td ρ2 | none => .stuck) := rfl
@[simp] theorem e_oNone : oNone (x :: ρ) = .ok none (x :: ρ) := rfl
@[simp] theorem e_oSome : oSome f (x :: ρ) = (f (x :: ρ)).bind fun a ρ1 => (match a.2 with | .int i => .ok (some i) ρ1 | _ => .stuck) := rfl
@[simp] theorem e_fSl (l h : PF.Env → R (Option Int)) : fSl fa l h (x :: ρ) = (fa (x :: ρ)).bind fun a ρ1 => (l ρ1).bind fun lo ρ2 => (h ρ2).bind fun hi => goO (gSl a lo hi) := rfl
@[simp] theorem e_fI2 (g : Int → Int → Int) (l : PF.Env → R (List TD)) : fI2 g l (x :: ρ) = (l (x :: ρ)).bind fun xs ρ1 => (match int2 xs with | some ij => .ok (.F, .int (g ij.1 ij.2)) ρ1 | none => .stuck) := rfl
@[simp] theorem e_fChain (g g' : D → D → Option Bool) : fChain g g' fa fb fc (x :: ρ) = (fa (x :: ρ)).bind fun a ρ1 => (fb ρ1).bind fun y ρ2 => (match g a.2 y.2 with | some true => (fc ρ2).bind fun z ρ3 => (match g' y.2 z.2 with | some k => .ok (.F, .bl k) ρ3 | none => .stuck) | some false => .ok (.F, .bl false) ρ2 | none => .stuck) := rfl
@[simp] theorem e_pN : pN i (x :: ρ) = (match (x :: ρ)[i]? with | some (some _) => .ok (i, []) (x :: ρ) | _ => .stuck) := rfl
@[simp] theorem e_pF (p : PF.Env → R Plc) : pF n p (x :: ρ) = (p (x :: ρ)).bind fun ip ρ1 => (match atP ρ1 ip with | some (.R _, .obj _ fs) => (match fs.lookup n with | some _ => .ok (ip.1, ip.2 ++ [.f n]) ρ1 | none => .stuck) | _ => .stuck) := rfl
@[simp] theorem e_pI (p : PF.Env → R Plc) : pI p f (x :: ρ) = (p (x :: ρ)).bind fun ip ρ1 => (f ρ1).bind fun y ρ2 => (match atP ρ2 ip, y.2 with | some (.L _, .lst ds), .int k => (match ixN ds.length k with | some j => .ok (ip.1, ip.2 ++ [.ix j]) ρ2 | none => .stuck) | _, _ => .stuck) := rfl
@[simp] theorem e_atP (ip : Plc) : atP (x :: ρ) ip = (match (x :: ρ)[ip.1]? with | some (some y) => getP ip.2 y | _ => none) := rfl
@[simp] theorem e_setP (ip : Plc) (y : TD) : setP (x :: ρ) ip y = (match (x :: ρ)[ip.1]? with | some (some u) => (putP ip.2 y u).map fun z => (x :: ρ).set ip.1 (some z) | _ => none) := rfl
@[simp] theorem e_getP0 (y : TD) : getP [] y = some y := rfl
@[simp] theorem e_getP1 (s : Stp) (r : List Stp) (y : TD) : getP (s :: r) y = (get1 s y).bind (getP r) := rfl
@[simp] theorem e_putP0 (y u : TD) : putP [] y u = some y := rfl
@[simp] theorem e_putP1 (s : Stp) (r : List Stp) (y u : TD) : putP (s :: r) y u = (get1 s u).bind fun x1 => (putP r y x1).bind fun y1 => put1 s y1 u := rfl
@[simp] theorem e_get1f (ts : List T) (fs : List (Nat × D)) : get1 (.f n) (.R ts, .obj c fs) = (fs.lookup n).map fun d => (fldTs n fs ts, d) := rfl
@[simp] theorem e_get1i (ds : List D) : get1 (.ix n) (.L t, .lst ds) = ds[n]?.map fun d => (t, d) := rfl
@[simp] theorem e_put1f (y : TD) (ts : List T) (fs : List (Nat × D)) : put1 (.f n) y (.R ts, .obj c fs) = some (.R (putTs n y.1 fs ts), .obj c (putD n y.2 fs)) := rfl
@[simp] theorem e_put1i (y : TD) (ds : List D) : put1 (.ix n) y (.L t, .lst ds) = if fitT t y then some (.L t, .lst (ds.set n y.2)) else none := rfl
@[simp] theorem e_bP (p : PF.Env → R Plc) : bP p (x :: ρ) = (p (x :: ρ)).bind fun ip ρ1 => (match atP ρ1 ip with | some y => .ok y ρ1 | none => .stuck) := rfl
@[simp] theorem e_muD (m : TD → List TD → Option (TD × TD)) (ip : Plc) (xs : List TD) : muD m ip xs (x :: ρ) = (match atP (x :: ρ) ip with | some y => (match m y xs with | some ya => (match setP (x :: ρ) ip ya.1 with | some ρ' => .ok ya.2 ρ' | none => .stuck) | none => .stuck) | none => .stuck) := rfl
@[simp] theorem e_fMu (k : Nat) (p : PF.Env → R Plc) (m : TD → List TD → Option (TD × TD)) (l : PF.Env → R (List TD)) : fMu k p m l (x :: ρ) = (p (x :: ρ)).bind fun ip ρ1 => (match atP ρ1 ip with | some y => if isBoxT k y then (l ρ1).bind fun xs => muD m ip xs else .stuck | none => .stuck) := rfl
@[simp] theorem e_isBoxT (ds : List D) : isBoxT 0 (.L t, .lst ds) = true := rfl
@[simp] theorem e_append (ds : List D) (y : TD) : mAppend (.L t, .lst ds) [y] = if ds.length < SZ then some ((.L (pushT t ds y), .lst (ds ++ [y.2])), (.F, .non)) else none := rfl
@[simp] theorem e_pop (ds : List D) : mPop (.L t, .lst ds) [] = ds[ds.length - 1]?.map fun d => ((.L t, .lst ds.dropLast), (t, d)) := rfl
@[simp] theorem e_rev (ds : List D) : mRev (.L t, .lst ds) [] = some ((.L t, .lst ds.reverse), (.F, .non)) := rfl
@[simp] theorem e_set (ds : List D) (y : TD) (t' : T) (k : Int) : mSet (.L t, .lst ds) [y, (t', .int k)] = (ixN ds.length k).map fun j => ((.L (pushT t ds y), .lst (ds.set j y.2)), (.F, .non)) := rfl
@[simp] theorem e_pushF (ds : List D) (d : D) : pushT .F ds (.F, d) = .F := by simp [pushT, fitT, T.eqb]
@[simp] theorem e_sSeq (f g : PF.Env → R Fl) : sSeq f g (x :: ρ) = (f (x :: ρ)).bind fun fl ρ1 => (match fl with | .nx => g ρ1 | fl => .ok fl ρ1) := rfl
@[simp] theorem e_sNil : sNil (x :: ρ) = .ok .nx (x :: ρ) := rfl
@[simp] theorem e_sPass : sPass (x :: ρ) = .ok .nx (x :: ρ) := rfl
@[simp] theorem e_sBreak : sBreak (x :: ρ) = .ok .bk (x :: ρ) := rfl
@[simp] theorem e_sCont : sCont (x :: ρ) = .ok .ct (x :: ρ) := rfl
@[simp] theorem e_sExpr : sExpr f (x :: ρ) = (f (x :: ρ)).bind fun _ ρ1 => .ok .nx ρ1 := rfl
@[simp] theorem e_sRet : PF.sRet f (x :: ρ) = (f (x :: ρ)).bind fun a ρ1 => .ok (.rt a) ρ1 := rfl
@[simp] theorem e_sRetN : PF.sRetN (x :: ρ) = .ok (.rt (.F, .non)) (x :: ρ) := rfl
@[simp] theorem e_sRetV : sRetV pr i (x :: ρ) = (match (x :: ρ)[i]? with | some (some (t, d)) => if isF t || !isBox d then .ok (.rt (.F, d)) (x :: ρ) else if pr i then .ok (.rt (.F, d)) ((x :: ρ).set i (some (.F, d))) else .ok (.rt (t, d)) ((x :: ρ).set i none) | _ => .stuck) := rfl
@[simp] theorem e_sIf (t : PF.Env → R Bool) (f g : PF.Env → R Fl) : PF.sIf t f g (x :: ρ) = (t (x :: ρ)).bind fun k ρ1 => if k then f ρ1 else g ρ1 := rfl
@[simp] theorem e_sAsg : sAsg pr i f (x :: ρ) = (f (x :: ρ)).bind fun a ρ1 => if pr i then .stuck else .ok .nx (ρ1.set i (some a)) := rfl
@[simp] theorem e_sAug (g : D → D → Option D) : PF.sAug pr i g f (x :: ρ) = (match (x :: ρ)[i]? with | some (some a) => (f (x :: ρ)).bind fun y ρ1 => (match g a.2 y.2 with | some d => if pr i then .stuck else .ok .nx (ρ1.set i (some (.F, d))) | none => .stuck) | _ => .stuck) := rfl
@[simp] theorem e_sFld : PF.sFld i n f (x :: ρ) = (f (x :: ρ)).bind fun a ρ1 => (match ρ1[i]? with | some (some (.R ts, .obj c fs)) => if fs.length < 1000 then .ok .nx (ρ1.set i (some (.R (putTs n a.1 fs ts), .obj c (putD n a.2 fs)))) else .stuck | _ => .stuck) := rfl
@[simp] theorem e_sTg (g : D → PF.Env → Option PF.Env) : sTg g f (x :: ρ) = (f (x :: ρ)).bind fun a ρ1 => (match g a.2 ρ1 with | some ρ2 => .ok .nx ρ2 | none => .stuck) := rfl
@[simp] theorem e_sSetI (p : PF.Env → R Plc) : sSetI p fa f (x :: ρ) = (f (x :: ρ)).bind fun a ρ1 => (p ρ1).bind fun ip ρ2 => (fa ρ2).bind fun y ρ3 => (match atP ρ3 ip with | some u => (match mSet u [a, y] with | some ya => (match setP ρ3 ip ya.1 with | some ρ4 => .ok .nx ρ4 | none => .stuck) | none => .stuck) | none => .stuck) := rfl
@[simp] theorem e_sFor (fi : PF.Env → R (List D)) (g : D → PF.Env → Option PF.Env) (b : PF.Env → R Fl) : PF.sFor fi g b (x :: ρ) = (fi (x :: ρ)).bind fun ds ρ1 => forD (stepD g b) ds ρ1 := rfl
@[simp] theorem e_stepD (g : D → PF.Env → Option PF.Env) (b : PF.Env → R Fl) : stepD g b d (x :: ρ) = (match g d (x :: ρ) with | some ρ1 => b ρ1 | none => .stuck) := rfl
@[simp] theorem e_gN : gN pr i d (x :: ρ) = if pr i then none else some ((x :: ρ).set i (some (.F, d))) := rfl
@[simp] theorem e_gT (g : List D → PF.Env → Option PF.Env) : gT n g d (x :: ρ) = (match items d with | some ds => if ds.length = n then g ds (x :: ρ) else none | none => none) := rfl
@[simp] theorem e_gsNil : gsNil [] (x :: ρ) = some (x :: ρ) := rfl
@[simp] theorem e_gsCons (f : D → PF.Env → Option PF.Env) (g : List D → PF.Env → Option PF.Env) (r : List D) : gsCons f g (d :: r) (x :: ρ) = (f d (x :: ρ)).bind fun ρ1 => g r ρ1 := rfl
@[simp] theorem e_iSeq : iSeq f (x :: ρ) = (f (x :: ρ)).bind fun a ρ1 => (match items a.2 with | some ds => .ok ds ρ1 | none => .stuck) := rfl
@[simp] theorem e_iR1 (l : PF.Env → R (List TD)) : iRng1' l (x :: ρ) = (l (x :: ρ)).bind fun xs ρ1 => (match int1 xs with | some j => if small62 j then .ok (rngD 0 j.toNat) ρ1 else .stuck | none => .stuck) := rfl
@[simp] theorem e_iR2 (l : PF.Env → R (List TD)) : iRng2' l (x :: ρ) = (l (x :: ρ)).bind fun xs ρ1 => (match int2 xs with | some ij => if small62 ij.1 && small62 ij.2 then .ok (rngD ij.1 (ij.2 - ij.1).toNat) ρ1 else .stuck | none => .stuck) := rfl
@[simp] theorem e_isF : isF .F = true := rfl
@[simp] theorem e_isFL : isF (.L t) = false := rfl
@[simp] theorem e_isFM : isF (.M t) = false := rfl
@[simp] theorem e_isFR (ts : List T) : isF (.R ts) = false := rfl
@[simp] theorem e_bxn : isBox .non = false := rfl
@[simp] theorem e_bxb (b : Bool) : isBox (.bl b) = false := rfl
@[simp] theorem e_bxi (b : Int) : isBox (.int b) = false := rfl
@[simp] theorem e_bxs (b : PySem.Str) : isBox (.str b) = false := rfl
@[simp] theorem e_bxt (b : List D) : isBox (.tup b) = false := rfl
@[simp] theorem e_bxc (b : List Int) : isBox (.scr b) = false := rfl
@[simp] theorem e_bxl (b : List D) : isBox (.lst b) = true := rfl
@[simp] theorem e_bxd (z : Bool) (b : List (D × D)) : isBox (.dct z b) = true := rfl
@[simp] theorem e_bxo (b : List (Nat × D)) : isBox (.obj c b) = true := rfl
@[simp] theorem e_own1 : own1 (t, d) = !(isF t || !isBox d) := rfl
@[simp] theorem e_fldT (ts : List T) (fs : List (Nat × D)) : fldT (.R ts) fs n = fldTs n fs ts := rfl
@[simp] theorem e_fldF (fs : List (Nat × D)) : fldT .F fs n = .F := rfl
@[simp] theorem e_elF (ds : List D) : elems (.F, .lst ds) = some ds := rfl
@[simp] theorem e_elL (ds : List D) : elems (.L .F, .lst ds) = some ds := rfl
@[simp] theorem e_elT (ds : List D) : elems (t, .tup ds) = some ds := rfl
@[simp] theorem e_elS (ds : List Int) : elems (t, .scr ds) = some (ds.map D.int) := rfl
@[simp] theorem e_itL (ds : List D) : items (.lst ds) = some ds := rfl
@[simp] theorem e_itT (ds : List D) : items (.tup ds) = some ds := rfl
@[simp] theorem e_itS (ds : List Int) : items (.scr ds) = some (ds.map D.int) := rfl
@[simp] theorem e_ibL (ds : List D) (i : Int) : itemB (.L t, .lst ds) (.int i) = (atI ds i).map fun d => (t, d) := rfl
@[simp] theorem e_ibF (ds : List D) (i : Int) : itemB (.F, .lst ds) (.int i) = (atI ds i).map fun d => (.F, d) := rfl
@[simp] theorem e_ibT (ds : List D) (i : Int) : itemB (t, .tup ds) (.int i) = (atI ds i).map fun d => (.F, d) := by cases t <;> rfl
@[simp] theorem e_ibS (ds : List Int) (i : Int) : itemB (t, .scr ds) (.int i) = (atI ds i).map fun d => (.F, .int d) := by cases t <;> rfl
@[simp] theorem e_trn : truD .non = some false := rfl
@[simp] theorem e_trb (b : Bool) : truD (.bl b) = some b := rfl
@[simp] theorem e_tri (b : Int) : truD (.int b) = some (b != 0) := rfl
@[simp] theorem e_trl (b : List D) : truD (.lst b) = some (!b.isEmpty) := rfl
@[simp] theorem e_trt (b : List D) : truD (.tup b) = some (!b.isEmpty) := rfl
@[simp] theorem e_lnl (b : List D) : gLen (t, .lst b) = some (.p (.int b.length)) := rfl
@[simp] theorem e_lnt (b : List D) : gLen (t, .tup b) = some (.p (.int b.length)) := rfl
@[simp] theorem e_lnc (b : List Int) : gLen (t, .scr b) = some (.p (.int b.length)) := rfl
@[simp] theorem e_lns (b : PySem.Str) : gLen (t, .str b) = if b.length ≤ SZ then some (.p (.int b.length)) else none := rfl
@[simp] theorem e_abs (i : Int) : gAbs (t, .int i) = some (.p (.int (if i < 0 then -i else i))) := rfl
@[simp] theorem e_int (i : Int) : gInt (t, .int i) = some (.p (.int i)) := rfl
@[simp] theorem e_intb (b : Bool) : gInt (t, .bl b) = some (.p (.int (if b then 1 else 0))) := rfl
@[simp] theorem e_str (i : Int) : gStr (t, .int i) = if i.natAbs.log2 < 1920 then some (.p (.str (strI i))) else none := rfl
@[simp] theorem e_strs (i : PySem.Str) : gStr (t, .str i) = some (.p (.str i)) := rfl
@[simp] theorem e_lst (u : TD) : gList u = (elems u).map .l := rfl
@[simp] theorem e_tupT (ds : List D) : gTuple (t, .tup ds) = some (.p (.tup ds)) := rfl
@[simp] theorem e_tupL (ds : List D) : gTuple (t, .lst ds) = (elems (t, .lst ds)).map .t := rfl
@[simp] theorem e_slL (ds : List D) (lo hi : Option Int) : gSl (.L .F, .lst ds) lo hi = some (.l (cutD ds lo hi)) := rfl
@[simp] theorem e_slF (ds : List D) (lo hi : Option Int) : gSl (.F, .lst ds) lo hi = some (.l (cutD ds lo hi)) := rfl
@[simp] theorem e_slT (ds : List D) (lo hi : Option Int) : gSl (t, .tup ds) lo hi = if HT.sIx ds.length 0 lo = 0 ∧ HT.sIx ds.length ds.length hi = ds.length then some (.p (.tup ds)) else some (.t (cutD ds lo hi)) := rfl
@[simp] theorem e_plI (t2 : T) (i j : Int) : gPlus (t, .int i) (t2, .int j) = some (.p (.int (i + j))) := rfl
@[simp] theorem e_plS (t2 : T) (i j : PySem.Str) : gPlus (t, .str i) (t2, .str j) = if i.length + j.length ≤ SZ then some (.p (.str (i ++ j))) else none := rfl
@[simp] theorem e_plL (t2 : T) (i j : List D) : gPlus (t, .lst i) (t2, .lst j) = catE (t, .lst i) (t2, .lst j) := rfl
@[simp] theorem e_catE (a b : TD) : catE a b = (elems a).bind fun ds => (elems b).bind fun es => if ds.length + es.length ≤ SZ then some (.l (ds ++ es)) else none := rfl
@[simp] theorem e_tiI (t2 : T) (i j : Int) : gTimes (t, .int i) (t2, .int j) = if mulOk i j then some (.p (.int (i * j))) else none := rfl
@[simp] theorem e_sub (i j : Int) : gSub (.int i) (.int j) = some (.int (i - j)) := rfl
@[simp] theorem e_add (i j : Int) : gAdd (.int i) (.int j) = some (.int (i + j)) := rfl
@[simp] theorem e_div (i j : Int) : gDiv (.int i) (.int j) = if divOk j then some (.int (i.fdiv j)) else none := rfl
@[simp] theorem e_mod (i j : Int) : gMod (.int i) (.int j) = if j = 0 then none else some (.int (i.fmod j)) := rfl
@[simp] theorem e_pow (i j : Int) : gPow (.int i) (.int j) = if powOk i j then some (.int (i ^ j.toNat)) else none := rfl
@[simp] theorem e_lt (i j : Int) : cLt (.int i) (.int j) = some (decide (i < j)) := rfl
@[simp] theorem e_le (i j : Int) : cLe (.int i) (.int j) = some (decide (i ≤ j)) := rfl
@[simp] theorem e_gt (i j : Int) : cGt (.int i) (.int j) = some (decide (j < i)) := rfl
@[simp] theorem e_ge (i j : Int) : cGe (.int i) (.int j) = some (decide (j ≤ i)) := rfl
@[simp] theorem e_eq (a b : D) : cEq a b = if dsh a && dsh b then some (deq a b) else none := rfl
@[simp] theorem e_ne (a b : D) : cNe a b = if dsh a && dsh b then some (!deq a b) else none := rfl
@[simp] theorem e_isn0 : cIsN .non .non = some true := rfl
@[simp] theorem e_isni (i : Int) : cIsN (.int i) .non = some false := rfl
@[simp] theorem e_isnb (i : Bool) : cIsN (.bl i) .non = some false := rfl
@[simp] theorem e_isns (i : PySem.Str) : cIsN (.str i) .non = some false := rfl
@[simp] theorem e_isnl (i : List D) : cIsN (.lst i) .non = some false := rfl
@[simp] theorem e_isnt (i : List D) : cIsN (.tup i) .non = some false := rfl
@[simp] theorem e_isno (i : List (Nat × D)) : cIsN (.obj c i) .non = some false := rfl
@[simp] theorem e_nn0 : cNotN .non .non = some false := rfl
@[simp] theorem e_nni (i : Int) : cNotN (.int i) .non = some true := rfl
@[simp] theorem e_nnb (i : Bool) : cNotN (.bl i) .non = some true := rfl
@[simp] theorem e_nns (i : PySem.Str) : cNotN (.str i) .non = some true := rfl
@[simp] theorem e_nnl (i : List D) : cNotN (.lst i) .non = some true := rfl
@[simp] theorem e_nnt (i : List D) : cNotN (.tup i) .non = some true := rfl
@[simp] theorem e_nno (i : List (Nat × D)) : cNotN (.obj c i) .non = some true := rfl
@[simp] theorem e_int1 (i : Int) : int1 [(t, .int i)] = some i := rfl
@[simp] theorem e_int2 (t2 : T) (i j : Int) : int2 [(t, .int i), (t2, .int j)] = some (i, j) := rfl
@[simp] theorem e_isI (T : String) : gIsI T (t, d) = (isI T d).map fun k => .p (.bl k) := rfl
@[simp] theorem e_isIb (T : String) (b : Bool) : isI T (.bl b) = some (T == "bool" || T == "int") := rfl
@[simp] theorem e_isIi (T : String) (b : Int) : isI T (.int b) = some (T == "int") := rfl
@[simp] theorem e_isIs (T : String) (b : PySem.Str) : isI T (.str b) = some (T == "str") := rfl
@[simp] theorem e_isIn (T : String) : isI T .non = some false := rfl
@[simp] theorem e_isIl (T : String) (b : List D) : isI T (.lst b) = some (T == "list") := rfl
@[simp] theorem e_isIt (T : String) (b : List D) : isI T (.tup b) = some (T == "tuple") := rfl
end
@[simp] theorem dsh_int (i : Int) : dsh (.int i) = true := rfl
@[simp] theorem dsh_bl (i : Bool) : dsh (.bl i) = true := rfl
@[simp] theorem dsh_non : dsh .non = true := rfl
@[simp] theorem deq_int (i j : Int) : deq (.int i) (.int j) = decide (i = j) := by
  simp [deq, D.py, PyData.eqv]
  rfl
@[simp] theorem deq_bl (i j : Bool) : deq (.bl i) (.bl j) = (i == j) := by
  simp [deq, D.py, PyData.eqv]
@[simp] theorem deq_str (i j : PySem.Str) : deq (.str i) (.str j) = decide (i = j) := by
  simp [deq, D.py, PyData.eqv]
  rfl
end PF
namespace L2
open PySem
theorem PTs.weak {X : Cx} {e : List Expr} {t t' : TT} (h : PTs X e t) (k : ∀ σ H Q, t' σ H Q → t σ H Q) : PTs X e t' := ⟨fun pins s σ H Q I q => h.run pins s σ H Q I (k _ _ _ q)⟩
end L2
namespace PF
open PySem PySem.Spec L2
open PyProof.Rows hiding St
section
variable {X : Cx} {C : Ct} {q qa qb qc : Bool} {e a b c : Expr} {f fa fb fc : PF.Env → R TD} {pos pos' p : Pos}
variable {K : PySem.W.Frag} {B : Tb} {G G' H H' : Hp} {σ : L2.St} {ρ : PF.Env} {κ κ' : List Rs} {pv : List (Nat × V)} {pr : Nat → Bool}
def hide : PF.Env → List Nat → PF.Env
  | ρ, [] => ρ
  | ρ, v :: vs => (hide ρ vs).set v none
/-- the names vs as they were in ρ0 -/
def unhide (ρ0 : PF.Env) : PF.Env → List Nat → PF.Env
  | ρ, [] => ρ
  | ρ, v :: vs => (unhide ρ0 ρ vs).set v (ρ0.getD v none)
theorem hide_len : ∀ {vs : List Nat}, (hide ρ vs).length = ρ.length
  | [] => rfl
  | v :: vs => by unfold hide; rw [List.length_set, hide_len]
theorem unhide_len {ρ0 : PF.Env} : ∀ {vs : List Nat}, (unhide ρ0 ρ vs).length = ρ.length
  | [] => rfl
  | v :: vs => by unfold unhide; rw [List.length_set, unhide_len]
theorem hide_out {i : Nat} : ∀ {vs : List Nat}, i ∉ vs → (hide ρ vs)[i]? = ρ[i]?
  | [], _ => rfl
  | v :: vs, h => by
    unfold hide
    rw [List.getElem?_set_ne (fun e => h (by rw [e]; exact List.mem_cons_self))]
    exact hide_out fun m => h (List.mem_cons_of_mem _ m)
theorem hide_some {i : Nat} {x : TD} : ∀ {vs : List Nat}, (hide ρ vs)[i]? = some (some x) → ρ[i]? = some (some x) ∧ i ∉ vs
  | [], h => ⟨h, by simp⟩
  | v :: vs, h => by
    unfold hide at h
    by_cases hi : v = i
    · subst hi
      by_cases hv : v < (hide ρ vs).length
      · rw [List.getElem?_set_self hv] at h; cases h
      · rw [List.getElem?_eq_none (by rw [List.length_set]; omega)] at h; cases h
    · rw [List.getElem?_set_ne hi] at h
      obtain ⟨h1, h2⟩ := hide_some h
      exact ⟨h1, fun m => by rcases List.mem_cons.mp m with z | z; exact hi z.symm; exact h2 z⟩
/-- a name's resource is set aside -/
theorem StOk.hide1 {i : Nat} (h : StOk K B G H σ ρ κ pv) : ∃ hd : List Rs, StOk K B G H σ (ρ.set i none) (hd ++ κ) pv ∧ (∀ {G' H' : Hp} {ρ' : PF.Env} {κ' : List Rs}, ρ'.length = ρ.length → StOk K B G' H' σ ρ' (hd ++ κ') pv → StOk K B G' H' σ (ρ'.set i (ρ.getD i none)) κ' pv) := by
  cases e : ρ[i]? with
  | none =>
    have hi : ρ.length ≤ i := by
      by_cases q : i < ρ.length
      · rw [List.getElem?_eq_getElem q] at e; cases e
      · omega
    refine ⟨[], ?_, fun {G' H' ρ' κ'} hl h' => ?_⟩
    · rw [List.set_eq_of_length_le hi]; exact h
    · rw [List.set_eq_of_length_le (by omega)]; exact h'
  | some o =>
    have eD : ρ.getD i none = o := by rw [List.getD_eq_getElem?_getD, e]; rfl
    rw [eD]
    cases o with
    | none =>
      refine ⟨[], ?_, fun {G' H' ρ' κ'} hl h' => h'.forget⟩
      rw [set_self e]; exact h
    | some x =>
      obtain ⟨v, hv⟩ := h.val i x.1 x.2 e
      exact ⟨[(x.1, x.2, v)], h.takeOut e hv, fun {G' H' ρ' κ'} hl h' => StOk.fill (t := x.1) (d := x.2) h' hv⟩
theorem StOk.hideAll : ∀ {vs : List Nat}, vs.Nodup → StOk K B G H σ ρ κ pv → ∃ hd : List Rs, StOk K B G H σ (hide ρ vs) (hd ++ κ) pv ∧ (∀ {G' H' : Hp} {ρ' : PF.Env} {κ' : List Rs}, ρ'.length = ρ.length → StOk K B G' H' σ ρ' (hd ++ κ') pv → StOk K B G' H' σ (unhide ρ ρ' vs) κ' pv)
  | [], _, h => ⟨[], h, fun _ h' => h'⟩
  | v :: vs, nd, h => by
    obtain ⟨hm, nd'⟩ := List.nodup_cons.mp nd
    obtain ⟨hd, h1, k1⟩ := StOk.hideAll nd' h
    obtain ⟨hd2, h2, k2⟩ := h1.hide1 (i := v)
    refine ⟨hd2 ++ hd, by rw [List.append_assoc]; exact h2, fun {G' H' ρ' κ'} hl h' => ?_⟩
    have h3 : StOk K B G' H' σ (unhide ρ ρ' vs) (hd2 ++ κ') pv := k1 hl (h'.permK (by rw [List.append_assoc]; exact List.perm_append_comm_assoc ..))
    have h4 := k2 (by rw [unhide_len, hide_len]; exact hl) h3
    have e : (hide ρ vs).getD v none = ρ.getD v none := by
      rw [List.getD_eq_getElem?_getD, List.getD_eq_getElem?_getD, hide_out hm]
    rw [e] at h4
    exact h4
theorem wipe_get {σ : L2.St} {i : Nat} {vs : List Nat} (h : i ∉ vs) : (wipe σ vs)[i]? = σ[i]? := wipe_out h
theorem wipe_in {σ : L2.St} {i : Nat} : ∀ {vs : List Nat}, i ∈ vs → ∀ v, (wipe σ vs)[i]? ≠ some (some v) := fun {vs} m v e => (wipe_some e).2 m
theorem wipe_eq {σ σ' : L2.St} {vs : List Nat} (hl : σ'.length = σ.length) (h : ∀ i, i ∉ vs → σ'[i]? = σ[i]?) : wipe σ' vs = wipe σ vs := by
  apply List.ext_getElem?
  intro i
  by_cases m : i ∈ vs
  · have z : ∀ τ : L2.St, τ.length = σ.length → (wipe τ vs)[i]? = if i < σ.length then some none else none := fun τ hτ => by
      split
      · rename_i hi
        have : i < (wipe τ vs).length := by rw [wipe_length, hτ]; exact hi
        rw [List.getElem?_eq_getElem this]
        cases e : (wipe τ vs)[i] with
        | none => rfl
        | some v => exact absurd (by rw [List.getElem?_eq_getElem this, e]) (wipe_in m v)
      · exact List.getElem?_eq_none (by rw [wipe_length, hτ]; omega)
    rw [z σ' hl, z σ rfl]
  · rw [wipe_get m, wipe_get m, h i m]
/-- into a block -/
theorem StOk.blkIn {vs : List Nat} (nd : vs.Nodup) (hxp : B.xp = []) (h : StOk K B G H σ ρ κ pv) : ∃ hd : List Rs, StOk K B G H (wipe σ vs) (hide ρ vs) (hd ++ κ) [] ∧
    (∀ {G' H' : Hp} {ρ' : PF.Env} {κ' : List Rs}, (∀ i ∈ vs, ∀ x, ρ'[i]? ≠ some (some x)) → StOk K B G' H' (wipe σ vs) ρ' (hd ++ κ') [] → StOk K B G' H' σ (unhide ρ ρ' vs) κ' pv) := by
  obtain ⟨hd, h1, k⟩ := StOk.hideAll nd h
  refine ⟨hd, ?_, fun {G' H' ρ' κ'} hn h' => ?_⟩
  · have h2 : StOk K B G H σ (hide ρ vs) (hd ++ κ) [] := ⟨h1.len, h1.val, h1.ok, (fun p hp => by cases hp), fun p hp => by rw [hxp] at hp; cases hp⟩
    exact h2.resig (wipe_length σ vs) (fun i x e => wipe_get (hide_some e).2) (fun p hp => by cases hp) h2.xps
  · have hl : ρ'.length = ρ.length := by rw [← h'.len, wipe_length, h.len]
    have h2 : StOk K B G' H' σ ρ' (hd ++ κ') [] := h'.resig (σ' := σ) (wipe_length σ vs).symm (fun i x e => by
      have hm : i ∉ vs := fun m => hn i m x e
      exact (wipe_get hm).symm) (fun p hp => by cases hp) h'.xps
    exact k hl ⟨h2.len, h2.val, h2.ok, h.pvs, h.xps⟩
theorem StOk.hideSome {vs : List Nat} (h : StOk K B G H σ ρ κ pv) : StOk K B G H σ (hide ρ vs) κ pv := by
  induction vs with
  | nil => exact h
  | cons v vs ih => exact ih.forget
theorem hide_none {i : Nat} {x : TD} {vs : List Nat} (m : i ∈ vs) : (hide ρ vs)[i]? ≠ some (some x) := fun e => (hide_some e).2 m
theorem StOk.rehide {σ2 : L2.St} {vs : List Nat} (h : StOk K B G H σ2 ρ κ []) (e : wipe σ2 vs = wipe σ vs) : StOk K B G H (wipe σ vs) (hide ρ vs) κ [] := by
  rw [← e]
  exact (h.hideSome (vs := vs)).resig (wipe_length σ2 vs) (fun i x e => wipe_get (hide_some e).2) (fun p hp => by cases hp) h.xps
def lcD (vs : List Nat) (g : D → PF.Env → Option PF.Env) (t : PF.Env → R Bool) (fe : PF.Env → R TD) : List D → T → List D → PF.Env → R (T × List D)
  | [], m, acc, ρ => .ok (m, acc) ρ
  | d :: r, m, acc, ρ => match g d ρ with
    | none => .stuck
    | some ρ1 => match t ρ1 with
      | .ok b ρ2 => if b then (match fe ρ2 with
        | .ok y ρ3 => if acc.length < SZ then lcD vs g t fe r (pushT m acc y) (acc ++ [y.2]) (hide ρ3 vs) else .stuck
        | _ => .stuck) else lcD vs g t fe r m acc (hide ρ2 vs)
      | _ => .stuck
def fLc (vs : List Nat) (fi : PF.Env → R (List D)) (g : D → PF.Env → Option PF.Env) (t : PF.Env → R Bool) (fe : PF.Env → R TD) : PF.Env → R TD := fun ρ => (fi ρ).bind fun ds ρ1 => match lcD vs g t fe ds .F [] (hide ρ1 vs) with
  | .ok mr ρ2 => .ok (.L mr.1, .lst mr.2) (unhide ρ1 ρ2 vs)
  | _ => .stuck
def tYesF : PF.Env → R Bool := fun ρ => .ok true ρ
abbrev DTs (X : Cx) (C : Ct) (q : Bool) (es : List Expr) (f : PF.Env → R Bool) : Prop := PTs X es (RT kT X C q f)
theorem dts_nil : DTs X C q [] tYesF := PTs.weak pts_nil fun σ H Q z => by
  obtain ⟨G0, H0, ρ0, z⟩ := z
  exact Fin.end_ (b := true) z fun G ρ κ pv ok p => ⟨rfl, ok⟩
theorem dts_one {f : PF.Env → R Bool} (h : DT X C q a f) : DTs X C q [a] f := pts_one h
theorem StOk.pushL {t : T} {acc : List D} {y : TD} {Da : Addr} {u : V} (h : StOk K B G H σ ρ ((y.1, y.2, u) :: ((.L t, .lst acc, .ref Da) :: κ)) pv) :
    ∃ vs, H Da = some (.lst vs) ∧ vs.length = acc.length ∧ ∃ G', Le G G' ∧ StOk K B G' (upd H Da (.lst (vs ++ [u]))) σ ρ ((.L (pushT t acc y), .lst (acc ++ [y.2]), .ref Da) :: κ) pv := by
  have h1 : Okx K B G H ((T.L t, PF.D.lst acc, V.ref Da) :: ((y.1, y.2, u) :: (ents σ ρ ++ κ))) := (h.rot (ys := [(y.1, y.2, u), (T.L t, PF.D.lst acc, V.ref Da)])).perm (List.Perm.swap _ _ _)
  obtain ⟨l, ow⟩ := h1.head
  obtain ⟨a, vs, l', e1, ha, el, h3⟩ := ow.lst'
  cases e1
  refine ⟨vs, ha, h3.len.symm, ?_⟩
  obtain ⟨G', le, o2⟩ := Okx.fitP h1
  refine ⟨G', le, h.with ?_⟩
  have o3 := Okx.lstW (ys := [(pushT t acc y, y.2, u)]) (zs := []) (ds2 := acc ++ [y.2]) (t2 := pushT t acc y) (vs2 := vs ++ [u]) o2 ha fun l l' h1 h2 => by
    obtain ⟨m1, m2, e, h4, h5⟩ := h2
    rw [show m2 = [] from h5, List.append_nil] at e
    subst e
    exact ⟨l ++ l', [], [], h1.append (.one h4), rfl, by simp⟩
  exact Okx.unrot (ys := [(T.L (pushT t acc y), PF.D.lst (acc ++ [y.2]), V.ref Da)]) o3
theorem lc_tail {vs : List Nat} {fi : PF.Env → R (List D)} {g : D → PF.Env → Option PF.Env} {t : PF.Env → R Bool} {fe : PF.Env → R TD} (nd : vs.Nodup) (hxp : C.B.xp = []) {Q : VK} (z : RT kE X C false (fLc vs fi g t fe) σ H Q) :
    tLc (ITd X C fi) (TgD X C (fun _ => false) (fun j => vs.contains j) g) (RT0 kT X.K C t) (RT0 kE X.K C fe) vs σ H Q := by
  obtain ⟨G0, H0, ρ0, G, ρ, κ, W, pv, st, _, ok, tk, w⟩ := z
  unfold fLc at w
  rw [R.wp_bind] at w
  refine ⟨G, ρ, κ, W, pv, ok, tk, R.wp_mono w (fun ds ρ1 w1 J κw G1 H1 wk le1 ok1 Da hD => ?_) fun c fs ρ1 w1 cls dO G' H' l x ok' => w1 cls dO G' H' (st.1.trans l) x ok'⟩
  cases elc : lcD vs g t fe ds .F [] (hide ρ1 vs) with
  | stuck => rw [elc] at w1; exact w1.elim
  | exc _ _ _ => rw [elc] at w1; exact w1.elim
  | ok mr ρ2 =>
    rw [elc] at w1
    obtain ⟨hd, okB, back⟩ := ok1.blkIn nd hxp
    have ok2 := okB.newLst hD (ds := []) (vs := []) (by simp only [Reps])
    refine ⟨fun i m H' => m = ds.length - i ∧ i ≤ ds.length ∧ ∃ G' ρw t' acc, Le G1 G' ∧ StOk X.K C.B G' H' (wipe σ vs) ρw ((T.L t', PF.D.lst acc, V.ref Da) :: (hd ++ (κw ++ κ))) [] ∧ (∀ i ∈ vs, ∀ x, ρw[i]? ≠ some (some x)) ∧ lcD vs g t fe (ds.drop i) t' acc ρw = .ok mr ρ2,
      ⟨_, rfl, Nat.zero_le _, G1, hide ρ1 vs, .F, [], .refl, ok2, fun i m x => hide_none m, by rw [List.drop_zero]; exact elc⟩, ?_⟩
    rintro i m H' ⟨rfl, hi', G', ρw, t', acc, le', ok', hn', w'⟩
    have okw : StOk X.K C.B G' H' (wipe σ vs) ρw (κw ++ ((T.L t', PF.D.lst acc, V.ref Da) :: (hd ++ κ))) [] := ok'.permK (by
      refine (List.Perm.cons _ (List.perm_append_comm_assoc hd κw κ)).trans ?_
      exact List.perm_middle.symm)
    obtain ⟨wk1, wk2⟩ := wk (wipe σ vs) ρw _ [] G' H' i le' okw
    by_cases hlt : i < ds.length
    · have hdi : ds[i]? = some ds[i] := List.getElem?_eq_getElem hlt
      obtain ⟨go, yld⟩ := wk1 _ hdi
      rw [List.drop_eq_getElem_cons hlt] at w'
      unfold lcD at w'
      cases eg : g ds[i] ρw with
      | none => rw [eg] at w'; cases w'
      | some ρ3 =>
        rw [eg] at w'
        refine .inr ⟨go, fun H2 => ∃ G' ρw t' acc, Le G1 G' ∧ StOk X.K C.B G' H2 (wipe σ vs) ρw ((T.L t', PF.D.lst acc, V.ref Da) :: (hd ++ (κw ++ κ))) [] ∧ (∀ i ∈ vs, ∀ x, ρw[i]? ≠ some (some x)) ∧ lcD vs g t fe (ds.drop (i + 1)) t' acc ρw = .ok mr ρ2,
          fun H2 z => ⟨_, by omega, rfl, hlt, z⟩, fun x H2 y => ?_⟩
        obtain ⟨G2, le2, ok2, rx⟩ := yld x H2 y
        refine ⟨G2, ρw, ρ3, _, [], ds[i], ok2, rx, (fun p hp => by cases hp), eg, fun σ3 G3 H3 cg le3 ok3 => ?_⟩
        have ew : wipe σ3 vs = wipe σ vs := wipe_eq (by rw [cg.1, wipe_length]) fun j hj => by
          rw [cg.2 j (by simpa using hj), wipe_get hj]
        refine ⟨ew, ?_⟩
        dsimp only at w'
        cases et : t ρ3 with
        | stuck => rw [et] at w'; cases w'
        | exc _ _ _ => rw [et] at w'; cases w'
        | ok b ρ4 =>
          rw [et] at w'
          refine ⟨G3, ρ3, _, b, ρ4, ok3, et, fun b' G4 H4 hb le4 ok4 => ?_⟩
          have hb : b = b' := hb
          subst hb
          have leA := ((le'.trans le2).trans le3).trans le4
          have perm2 : ∀ (r : Rs), (κw ++ (r :: (hd ++ κ))).Perm (r :: (hd ++ (κw ++ κ))) := fun r => List.perm_middle.trans (List.Perm.cons _ (List.perm_append_comm_assoc κw hd κ))
          cases b with
          | false =>
            simp only [Bool.false_eq_true, if_false] at w' ⊢
            exact ⟨G4, hide ρ4 vs, t', acc, leA, (ok4.permK (perm2 _)).rehide ew, fun i m x => hide_none m, w'⟩
          | true =>
            simp only [if_true] at w' ⊢
            cases ee : fe ρ4 with
            | stuck => rw [ee] at w'; cases w'
            | exc _ _ _ => rw [ee] at w'; cases w'
            | ok y ρ5 =>
              rw [ee] at w'
              dsimp only at w'
              split at w'
              · rename_i hz
                refine ⟨G4, ρ4, _, y, ρ5, ok4, ee, fun u G5 H5 _ le5 ok5 => ?_⟩
                have ok6 : StOk X.K C.B G5 H5 σ3 ρ5 ((y.1, y.2, u) :: ((T.L t', PF.D.lst acc, V.ref Da) :: (hd ++ (κw ++ κ)))) [] := ok5.permK (List.Perm.cons _ (perm2 _))
                obtain ⟨us, hDa, hul, G6, le6, ok7⟩ := ok6.pushL
                exact ⟨us, hDa, by rw [hul]; exact hz, G6, hide ρ5 vs, _, _, (leA.trans le5).trans le6, ok7.rehide ew, fun i m x => hide_none m, w'⟩
              · cases w'
    · have e : i = ds.length := by omega
      subst e
      rw [List.drop_length] at w'
      have w' : (R.ok (t', acc) ρw : R (T × List D)) = .ok mr ρ2 := w'
      cases w'
      refine .inl ⟨wk2 (Nat.le_refl _), w1 (V.ref Da) G' H' trivial ⟨st.1.trans (le1.trans le'), fun h => nomatch h⟩ ?_⟩
      have okE : StOk X.K C.B G' H' (wipe σ vs) ρ2 (hd ++ ((T.L t', PF.D.lst acc, V.ref Da) :: (κw ++ κ))) [] := ok'.permK List.perm_middle.symm
      have okF := back hn' okE
      exact (okF.permK (κ' := κw ++ ((T.L t', PF.D.lst acc, V.ref Da) :: κ)) List.perm_middle.symm).drop
theorem de_lc {elt tg iter : Expr} {ifs : List Expr} {scope : Scope} {own : List (PySem.Str × Nat)} {vs : List Nat} {fi : PF.Env → R (List D)} {g : D → PF.Env → Option PF.Env} {t : PF.Env → R Bool} {fe : PF.Env → R TD}
    (hc : X.calm = true) (hN : X.N.Nodup) (hi : DI X C tg iter fi) (ok : BlkOk X.N X.env.scope scope own) (nd : vs.Nodup) (hvs : own.map (·.2) = vs)
    (hg : ∀ (s : Shared) (H : Hp) (Cc : Addr) (cl : List (PySem.Str × Addr)) (fp : List Addr), DTgP (X.blk s H scope (compEnvC scope cl Cc X.env) fp) C (fun _ => false) (fun j => vs.contains j) tg g)
    (ht : ∀ (s : Shared) (H : Hp) (Cc : Addr) (cl : List (PySem.Str × Addr)) (fp : List Addr), DTs (X.blk s H scope (compEnvC scope cl Cc X.env) fp) C qa ifs t)
    (he : ∀ (s : Shared) (H : Hp) (Cc : Addr) (cl : List (PySem.Str × Addr)) (fp : List Addr), DE (X.blk s H scope (compEnvC scope cl Cc X.env) fp) C qb elt fe) (hs : ∀ x, foldedSetIterable iter X.env x = pure x := by intro _; rfl) (hxp : C.B.xp = [] := by rfl) :
    DE X C false (.ListComp elt [⟨tg, iter, ifs, 0⟩] scope pos) (fLc vs fi g t fe) := by
  subst hvs
  have hT : ∀ (s : Shared) (H : Hp) (Cc : Addr) (cl : List (PySem.Str × Addr)) (fp : List Addr), PTs (X.blk s H scope (compEnvC scope cl Cc X.env) fp) ifs (RT0 kT X.K C t) := fun s H Cc cl fp => (ht s H Cc cl fp).weak fun σ H Q z => RT0.rt (X := X.blk s _ scope (compEnvC scope cl Cc X.env) fp) z
  have hE : ∀ (s : Shared) (H : Hp) (Cc : Addr) (cl : List (PySem.Str × Addr)) (fp : List Addr), PE (X.blk s H scope (compEnvC scope cl Cc X.env) fp) elt (RT0 kE X.K C fe) := fun s H Cc cl fp => (he s H Cc cl fp).weak fun σ H Q z => RT0.rt (X := X.blk s _ scope (compEnvC scope cl Cc X.env) fp) z
  have hG : ∀ (s : Shared) (H : Hp) (Cc : Addr) (cl : List (PySem.Str × Addr)) (fp : List Addr), PG (X.blk s H scope (compEnvC scope cl Cc X.env) fp) tg (TgD X C (fun _ => false) (fun j => (own.map (·.2)).contains j) g) := fun s H Cc cl fp => (hg s H Cc cl fp).weak fun v σ H Q z => z
  exact (pe_lc hc hN hi ok hG hT hE hs).weak fun σ H Q z => lc_tail nd hxp z
theorem ds_setLc {i : Nat} {y : PySem.Str} {py spos : Pos} {elt tg iter : Expr} {ifs : List Expr} {scope : Scope} {own : List (PySem.Str × Nat)} {vs : List Nat} {fi : PF.Env → R (List D)} {g : D → PF.Env → Option PF.Env} {t : PF.Env → R Bool} {fe : PF.Env → R TD}
    (hy : X.N[i]? = some y) (hyl : X.env.scope.names.lookup y = some .local) (hc : X.calm = true) (hN : X.N.Nodup) (hi : DI X C tg iter fi) (ok : BlkOk X.N X.env.scope scope own) (nd : vs.Nodup) (hvs : own.map (·.2) = vs)
    (hg : ∀ (s : Shared) (H : Hp) (Cc : Addr) (cl : List (PySem.Str × Addr)) (fp : List Addr), DTgP (X.blk s H scope (compEnvC scope cl Cc X.env) fp) C (fun _ => false) (fun j => vs.contains j) tg g)
    (ht : ∀ (s : Shared) (H : Hp) (Cc : Addr) (cl : List (PySem.Str × Addr)) (fp : List Addr), DTs (X.blk s H scope (compEnvC scope cl Cc X.env) fp) C qa ifs t)
    (he : ∀ (s : Shared) (H : Hp) (Cc : Addr) (cl : List (PySem.Str × Addr)) (fp : List Addr), DE (X.blk s H scope (compEnvC scope cl Cc X.env) fp) C qb elt fe)
    (hsw : swapsWith (.ListComp elt [⟨tg, iter, ifs, 0⟩] scope pos) (some (.Name y py)) spos.line X.env = pure true := by rfl) (hs : ∀ x, foldedSetIterable iter X.env x = pure x := by intro _; rfl) (hxp : C.B.xp = [] := by rfl) :
    DS X C pr (.Assign [.Name y py] (.ListComp elt [⟨tg, iter, ifs, 0⟩] scope pos) spos) (sAsg pr i (fLc vs fi g t fe)) := by
  subst hvs
  have hT : ∀ (s : Shared) (H : Hp) (Cc : Addr) (cl : List (PySem.Str × Addr)) (fp : List Addr), PTs (X.blk s H scope (compEnvC scope cl Cc X.env) fp) ifs (RT0 kT X.K C t) := fun s H Cc cl fp => (ht s H Cc cl fp).weak fun σ H Q z => RT0.rt (X := X.blk s _ scope (compEnvC scope cl Cc X.env) fp) z
  have hE : ∀ (s : Shared) (H : Hp) (Cc : Addr) (cl : List (PySem.Str × Addr)) (fp : List Addr), PE (X.blk s H scope (compEnvC scope cl Cc X.env) fp) elt (RT0 kE X.K C fe) := fun s H Cc cl fp => (he s H Cc cl fp).weak fun σ H Q z => RT0.rt (X := X.blk s _ scope (compEnvC scope cl Cc X.env) fp) z
  have hG : ∀ (s : Shared) (H : Hp) (Cc : Addr) (cl : List (PySem.Str × Addr)) (fp : List Addr), PG (X.blk s H scope (compEnvC scope cl Cc X.env) fp) tg (TgD X C (fun _ => false) (fun j => (own.map (·.2)).contains j) g) := fun s H Cc cl fp => (hg s H Cc cl fp).weak fun v σ H Q z => z
  refine PS.weak (ps_setLc hc hN hy hyl hsw hi ok hG hT hE hs) fun D σ H z => ?_
  refine lc_tail nd hxp (TSd.bind (ka := kE) z fun a v H1 G1 ρ κ W pv r ok hp tk w => ?_)
  cases hpr : pr i with
  | true => rw [hpr, if_pos rfl] at w; exact w.elim
  | false =>
    rw [hpr, if_neg (by decide)] at w
    exact w _ G1 H1 .refl (StOk.store' ok (ne_of_pr hp hpr))
end
end PF
namespace PF
open PySem PySem.Spec L2
open PyProof.Rows hiding St
mutual
theorem kD_ok {K : PySem.W.Frag} : ∀ {d : D} {u : Value}, kD K d u = true → ∃ v, RelV v u ∧ ∀ (B : Tb) (G : Hp), Rep K B G d v
  | .non, u, h => by
    cases u <;> simp only [kD] at h <;> first | exact ⟨.non, rfl, fun _ _ => by simp only [Rep]⟩ | cases h
  | .bl b, u, h => by
    cases u <;> simp only [kD] at h <;> first | (have e := eq_of_beq h; subst e; exact ⟨.bl b, rfl, fun _ _ => by simp only [Rep]⟩) | cases h
  | .int i, u, h => by
    cases u <;> simp only [kD] at h <;> first | (have e := of_decide_eq_true h; subst e; exact ⟨.int i, ⟨_, rfl⟩, fun _ _ => by simp only [Rep]⟩) | cases h
  | .str x, u, h => by
    cases u <;> simp only [kD] at h <;> first | (have e := of_decide_eq_true h; subst e; exact ⟨.str x, ⟨_, rfl⟩, fun _ _ => by simp only [Rep]⟩) | cases h
  | .tup ds, u, h => by
    cases u <;> simp only [kD] at h <;> first | cases h | skip
    rename_i a
    split at h
    · rename_i T od its n sl hk
      obtain ⟨h1, h2⟩ := Bool.and_eq_true_iff.mp h
      obtain ⟨h3, h4⟩ := Bool.and_eq_true_iff.mp h2
      obtain ⟨h4, h5⟩ := Bool.and_eq_true_iff.mp h4
      have hT := of_decide_eq_true h1
      subst hT
      obtain ⟨vs, rv, rr⟩ := kDs_ok h4
      refine ⟨.ref a, rfl, fun B G => ?_⟩
      simp only [Rep]
      exact ⟨a, vs, rfl, ⟨.inr ⟨_, its, n, hk, rfl, rfl, by have := of_decide_eq_true h3; rw [sizeLine_eq]; exact this, rv⟩, fun z => by rw [z] at h5; cases h5⟩, rr B G⟩
    · cases h
  | .lst _, u, h => by simp [kD] at h
  | .dct _ _, u, h => by simp [kD] at h
  | .obj _ _, u, h => by simp [kD] at h
  | .raw _, u, h => by simp [kD] at h
  | .scr _, u, h => by simp [kD] at h
theorem kDs_ok {K : PySem.W.Frag} : ∀ {ds : List D} {us : List Value}, kDs K ds us = true → ∃ vs, Vals vs us ∧ ∀ (B : Tb) (G : Hp), Reps K B G ds vs
  | [], us, h => by
    simp only [kDs] at h
    cases us with
    | nil => exact ⟨[], .nil, fun _ _ => by simp only [Reps]⟩
    | cons _ _ => cases h
  | d :: r, us, h => by
    cases us with
    | nil => simp only [kDs] at h; cases h
    | cons u us =>
      simp only [kDs] at h
      obtain ⟨h1, h2⟩ := Bool.and_eq_true_iff.mp h
      obtain ⟨v, rv, rr⟩ := kD_ok h1
      obtain ⟨vs, rvs, rrs⟩ := kDs_ok h2
      exact ⟨v :: vs, .cons rv rvs, fun B G => by simp only [Reps]; exact ⟨v, vs, rfl, rr B G, rrs B G⟩⟩
end
def Con (K : PySem.W.Frag) (mg : PySem.Str → Option Value) (x : PySem.Str) (d : D) : Prop := ∃ (u : Value) (v : V), mg x = some u ∧ RelV v u ∧ ∀ (B : Tb) (G : Hp), Rep K B G d v
theorem con_ok {K : PySem.W.Frag} {h : Heap} {mg : PySem.Str → Option Value} (X : K.In h) (G : h.Ns mainGlobals mg) {x : PySem.Str} {d : D} (c : conB K x d = true) : Con K mg x d := by
  unfold conB at c
  split at c
  · rename_i u e
    obtain ⟨v, rv, rr⟩ := kD_ok c
    exact ⟨u, v, PySem.W.mg_of X G e, rv, rr⟩
  · cases c
theorem de_con {X : Cx} {C : Ct} {x : PySem.Str} {pos : Pos} {d : D} (hg : Gl X x) (hc : Con X.K X.mg x d) (hd : (x == ("__debug__" : PySem.Str)) = false := by decide) : DE X C true (.Name x pos) (fC d) := by
  obtain ⟨u, v, hm, rv, rr⟩ := hc
  refine (pe_glob hg hm rv hd).weak fun σ H Q z => ?_
  obtain ⟨G0, H0, ρ0, G, ρ, κ, W, pv, st, p, ok, tk, w⟩ := z
  exact w v G H trivial st (ok.addF (rr _ _))
end PF
namespace PF
open PySem PySem.Spec L2
open PyProof.Rows hiding St
section
variable {X : Cx} {C : Ct} {q qa qb qc : Bool} {e a b c : Expr} {f fa fb fc : PF.Env → R TD} {pos pos' p : Pos}
variable {K : PySem.W.Frag} {B : Tb} {G G' H H' : Hp} {σ : L2.St} {ρ : PF.Env} {κ κ' : List Rs} {pv : List (Nat × V)} {pr : Nat → Bool}
def sPar (pr : Nat → Bool) (i j : Nat) (f : PF.Env → R (List TD)) : PF.Env → R Fl := fun ρ => (f ρ).bind fun xs ρ1 => match xs with
  | [x, y] => if pr i || pr j then .stuck else .ok .nx ((ρ1.set i (some x)).set j (some y))
  | _ => .stuck
theorem ds_par {i j : Nat} {x y : PySem.Str} {px py pt : Pos} {kt k2 : Nat} {pt2 : Pos} {fl : PF.Env → R (List TD)} (hc : X.calm = true) (hN : X.N.Nodup) (hi : X.N[i]? = some x) (hj : X.N[j]? = some y) (hij : i ≠ j)
    (hx : X.env.scope.names.lookup x = some .local) (hy : X.env.scope.names.lookup y = some .local) (ha : DA X C q [a, b] fl)
    (hw : swappedStores [.Tuple [.Name x px, .Name y py] kt pt] (.Tuple [a, b] k2 pt2) X.env = pure (some [x, y]))
    (hs : swapsWithSole [.Tuple [.Name x px, .Name y py] kt pt] (.Tuple [a, b] k2 pt2) pos.line X.env = pure false := by rfl) :
    DS X C pr (.Assign [.Tuple [.Name x px, .Name y py] kt pt] (.Tuple [a, b] k2 pt2) pos) (sPar pr i j fl) := PS.weak (ps_par hc hN hi hj hij hx hy ha hw hs) fun D σ H z => by
  refine TSd.bind (ka := kA) z fun xs vs H1 G1 ρ κ W pv r ok hp tk w => ?_
  match xs, vs, r, ok, w with
  | [x1, y1], [v, u], _, ok, w =>
    refine ⟨v, u, rfl, ?_⟩
    have w : (if pr i || pr j then (R.stuck : R Fl) else .ok .nx ((ρ.set i (some x1)).set j (some y1))).wp (QF X C D G1 κ pv) (EF X C W G1 κ pv) := w
    cases hpi : pr i with
    | true => rw [hpi] at w; exact w.elim
    | false =>
      cases hpj : pr j with
      | true => rw [hpi, hpj] at w; exact w.elim
      | false =>
        rw [hpi, hpj] at w
        have ok1 : StOk X.K C.B G1 H1 σ ρ ((x1.1, x1.2, v) :: ((y1.1, y1.2, u) :: κ)) pv := ok
        exact w _ G1 H1 .refl (StOk.store' (StOk.store' ok1 (ne_of_pr hp hpi)) (ne_of_pr hp hpj))
  | [], _, _, _, w => exact w.elim
  | [_], _, _, _, w => exact w.elim
  | _ :: _ :: _ :: _, _, _, _, w => exact w.elim
  | [_, _], [], r, _, _ => cases r
  | [_, _], [_], r, _, _ => cases r
  | [_, _], _ :: _ :: _ :: _, r, _, _ => cases r
def idxD (y : D) : List D → Nat → Option Nat
  | [], _ => none
  | z :: r, k => if deq z y then some k else idxD y r (k + 1)
def gIdx (x y : TD) : Option Ans := match x.2 with
  | .lst ds => if dsh (.lst ds) && dsh y.2 then (idxD y.2 ds 0).map fun j => .p (.int (j : Nat)) else none
  | _ => none
def isLst : D → Bool
  | .lst _ => true
  | _ => false
def fMv (g : TD → TD → Option Ans) (fa fb : PF.Env → R TD) : PF.Env → R TD := fun ρ => (fa ρ).bind fun x ρ1 => if isLst x.2 then (fb ρ1).bind fun y => goO (g x y) else .stuck
end
end PF
namespace PF
open PySem PySem.Spec L2
open PyProof.Rows hiding St
def insI (a : Int) : List Int → List Int
  | [] => [a]
  | b :: r => if a ≤ b then a :: b :: r else b :: insI a r
def sortI : List Int → List Int
  | [] => []
  | a :: r => insI a (sortI r)
end PF
namespace PF
open PySem PySem.Spec L2
open PyProof.Rows hiding St
section
variable {X : Cx} {C : Ct} {q qa qb qc : Bool} {e a b c : Expr} {f fa fb fc : PF.Env → R TD} {pos pos' p : Pos}
variable {K : PySem.W.Frag} {B : Tb} {G G' H H' : Hp} {σ : L2.St} {ρ : PF.Env} {κ κ' : List Rs} {pv : List (Nat × V)} {pr : Nat → Bool}
def enumD : Nat → List D → List D
  | _, [] => []
  | k, d :: r => .tup [.int (k : Int), d] :: enumD (k + 1) r
def iEnumF (f : PF.Env → R TD) : PF.Env → R (List D) := fun ρ => (f ρ).bind fun x ρ1 => match x.2 with
  | .lst ds => .ok (enumD 0 ds) ρ1
  | .scr is => .ok (enumD 0 (is.map D.int)) ρ1
  | _ => .stuck
def zipD (ds es : List D) : List D := List.zipWith (fun a b => .tup [a, b]) ds es
def iZipF (f : PF.Env → R (List TD)) : PF.Env → R (List D) := fun ρ => (f ρ).bind fun xs ρ1 => match xs with
  | [x, y] => match x.2, y.2 with
    | .lst ds, .lst es => .ok (zipD ds es) ρ1
    | .tup ds, .tup es => .ok (zipD ds es) ρ1
    | _, _ => .stuck
  | _ => .stuck
/-- range(i, j, c) -/
def rng3D (i c : Int) (n : Nat) : List D := (List.range n).map fun k : Nat => .int (i + (k : Int) * c)
def rgOk (i j c : Int) : Bool := decide (c ≠ 0) && (decide (c.natAbs < 1073741824) && (Builtin.Range.small i j c && decide (0 ≤ Builtin.Range.rangeSize i j c)))
def int3 (xs : List TD) : Option (Int × Int × Int) := match xs with
  | [x, y, z] => (intD x.2).bind fun i => (intD y.2).bind fun j => (intD z.2).map fun k => (i, j, k)
  | _ => none
def iRng3F (f : PF.Env → R (List TD)) : PF.Env → R (List D) := fun ρ => (f ρ).bind fun xs ρ1 => match int3 xs with
  | some ijk => if rgOk ijk.1 ijk.2.1 ijk.2.2 then .ok (rng3D ijk.1 ijk.2.2 (Builtin.Range.rangeSize ijk.1 ijk.2.1 ijk.2.2).toNat) ρ1 else .stuck
  | none => .stuck
end
end PF
namespace PF
open PySem PySem.Spec L2
open PyProof.Rows hiding St
section
variable (x : Option TD) (ρ : PF.Env) (i n c : Nat) (d : D) (t : T) (fa fb fc f : PF.Env → R TD) (pr : Nat → Bool)
@[simp] theorem e_fLc (vs : List Nat) (fi : PF.Env → R (List D)) (g : D → PF.Env → Option PF.Env) (b : PF.Env → R Bool) : fLc vs fi g b f (x :: ρ) = (fi (x :: ρ)).bind fun ds ρ1 => (match lcD vs g b f ds .F [] (hide ρ1 vs) with | .ok mr ρ2 => .ok (.L mr.1, .lst mr.2) (unhide ρ1 ρ2 vs) | _ => .stuck) := rfl
@[simp] theorem e_tYes : tYesF (x :: ρ) = .ok true (x :: ρ) := rfl
@[simp] theorem e_hide0 : hide ρ [] = ρ := rfl
@[simp] theorem e_hide1 (v : Nat) (vs : List Nat) : hide ρ (v :: vs) = (hide ρ vs).set v none := rfl
@[simp] theorem e_unhide0 (ρ0 : PF.Env) : unhide ρ0 ρ [] = ρ := rfl
@[simp] theorem e_unhide1 (ρ0 : PF.Env) (v : Nat) (vs : List Nat) : unhide ρ0 ρ (v :: vs) = (unhide ρ0 ρ vs).set v (ρ0.getD v none) := rfl
@[simp] theorem e_sPar (j : Nat) (l : PF.Env → R (List TD)) : sPar pr i j l (x :: ρ) = (l (x :: ρ)).bind fun xs ρ1 => (match xs with | [a, b] => if pr i || pr j then .stuck else .ok .nx ((ρ1.set i (some a)).set j (some b)) | _ => .stuck) := rfl
@[simp] theorem e_fMv (g : TD → TD → Option Ans) : fMv g fa fb (x :: ρ) = (fa (x :: ρ)).bind fun a ρ1 => if isLst a.2 then (fb ρ1).bind fun y => goO (g a y) else .stuck := rfl
@[simp] theorem e_isLst (ds : List D) : isLst (.lst ds) = true := rfl
@[simp] theorem e_gIdx (ds : List D) (y : TD) : gIdx (t, .lst ds) y = if dsh (.lst ds) && dsh y.2 then (idxD y.2 ds 0).map fun j => .p (.int (j : Nat)) else none := rfl
@[simp] theorem e_iEnum : iEnumF f (x :: ρ) = (f (x :: ρ)).bind fun a ρ1 => (match a.2 with | .lst ds => .ok (enumD 0 ds) ρ1 | .scr is => .ok (enumD 0 (is.map D.int)) ρ1 | _ => .stuck) := rfl
@[simp] theorem e_iZip (l : PF.Env → R (List TD)) : iZipF l (x :: ρ) = (l (x :: ρ)).bind fun xs ρ1 => (match xs with | [a, b] => (match a.2, b.2 with | .lst ds, .lst es => .ok (zipD ds es) ρ1 | .tup ds, .tup es => .ok (zipD ds es) ρ1 | _, _ => .stuck) | _ => .stuck) := rfl
@[simp] theorem e_iRng3 (l : PF.Env → R (List TD)) : iRng3F l (x :: ρ) = (l (x :: ρ)).bind fun xs ρ1 => (match int3 xs with | some ijk => if rgOk ijk.1 ijk.2.1 ijk.2.2 then .ok (rng3D ijk.1 ijk.2.2 (Builtin.Range.rangeSize ijk.1 ijk.2.1 ijk.2.2).toNat) ρ1 else .stuck | none => .stuck) := rfl
@[simp] theorem e_int3 (t2 t3 : T) (i j k : Int) : int3 [(t, .int i), (t2, .int j), (t3, .int k)] = some (i, j, k) := rfl
end
end PF
namespace PF
open PySem PySem.Spec
def itCls (t : Bool) : String := match t with
  | true => "tuple_iterator"
  | false => "list_iterator"
theorem SrI.new {t : Bool} {h : Heap} {i l : Addr} (e : h.get? i = some { cls := .type (itCls t), data := .fields #[.ref l, .int 0 0] }) : SrI t h i l 0 := by
  cases t
  · exact ⟨_, e, rfl, rfl⟩
  · exact ⟨_, e, rfl, rfl⟩
end PF
namespace PF
open PySem PySem.Spec L2
open PyProof.Rows hiding St
section
variable {X : Cx} {C : Ct} {q : Bool} {a b c : Expr} {pos p : Pos} {K : PySem.W.Frag} {B : Tb} {G G' H H' : Hp} {σ : L2.St} {ρ : PF.Env} {κ : List Rs} {pv : List (Nat × V)}
def seqK : D → Option (Bool × List D)
  | .lst ds => some (false, ds)
  | .tup ds => some (true, ds)
  | .scr is => some (false, is.map D.int)
  | _ => none
def zip3D (ds es fs : List D) : List D := List.zipWith (fun a p => .tup [a, p.1, p.2]) ds (es.zip fs)
def iZip3F (f : PF.Env → R (List TD)) : PF.Env → R (List D) := fun ρ => (f ρ).bind fun xs ρ1 => match xs with
  | [x, y, z] => match seqK x.2, seqK y.2, seqK z.2 with
    | some (_, ds), some (_, es), some (_, fs) => .ok (zip3D ds es fs) ρ1
    | _, _, _ => .stuck
  | _ => .stuck
@[simp] theorem e_iZip3 {x : Option TD} (l : PF.Env → R (List TD)) : iZip3F l (x :: ρ) = (l (x :: ρ)).bind fun xs ρ1 => (match xs with | [a, b, c] => (match seqK a.2, seqK b.2, seqK c.2 with | some (_, ds), some (_, es), some (_, fs) => .ok (zip3D ds es fs) ρ1 | _, _, _ => .stuck) | _ => .stuck) := rfl
end
end PF
namespace PGX
open PySem PySem.W PySem.Calls PyProof.Rows PySem.HandSPX
/-- what the written part says of the class at C, its __init__ at f, the cell of __class__ at cc, the code object at cda -/
structure ExK (K : Frag) (C f cc cda : Addr) (fd : FuncData) (qual : Str) (ps : List Str) (body : List Stmt) (scope : Scope) : Prop where
  ocl : ∃ nm q N bs bm sn sub ab col dd k0 k1 k2 k3 k5, K.lookup C = some (excClassObj nm q C N bs bm true sn sub ab col dd k0 k1 k2 k3 k5 "ValueError.__new__") ∧ refsVE bm = true
  sa : findIn K (.ref C) "__setattr__" = some (some (.builtin "object.__setattr__"))
  exC : subIn K (.ref C) (.type "BaseException") = some true
  veC : subIn K (.ref C) (.type "ValueError") = some true
  seC : mroIn K C (.ref C) = some true
  tyC : typeIn K (.ref C) = some (.type "type")
  kC : keepIn K (.ref C) = true
  iC : findIn K (.ref C) "__init__" = some (some (.ref f))
  tI : typeIn K (.ref f) = some (.type "function")
  su : ks_superIn K C C "__init__" = some (some (.builtin "ValueError.__init__"))
  tp : nsIn K cStatics "thirdparty.any" = some none
  lk : ∃ oc od osl nm params dV kV doc pm an ct, K.lookup f = some ⟨oc, od, .func fd, osl⟩ ∧ fd = ksFn nm qual params body scope dV kV doc pm an (.ref cda) ct cc ∧ (∃ ar, (params.posonlyargs ++ params.args).head? = some ar ∧ ar.arg = "self") ∧
    ∀ (us : List Value), us.length = ps.length → bindArgs fd ⟨us, []⟩ = pure (ps.zip us)
  cd : codeIn K (.ref cda) qual = true
  ce : ∃ cl cld csl, K.lookup cc = some ⟨cl, cld, .cell (some (.ref C)), csl⟩
/-- .. and the program -/
structure ExPr (prog : Program) (K : Frag) (cda : Addr) : Prop where
  fl : ∃ ccl cdd vs ccs file tf, K.lookup cda = some ⟨ccl, cdd, .fields vs, ccs⟩ ∧ vs[2]? = some (.str file tf) ∧ ((prog.main.file : Str) == file) = true
  top : (prog.main.scope.names.lookup ("super" : Str)).isSome = false
section
variable {prog : Program} {w : World} {A : Around} {E : Value → Shared → Prop} {h : Heap} {g : Array GenState} {d : Drawn} {t : Nat} {os : OsState}
variable {nm q : Str} {C N : Addr} {bs bm : List Value} {hdct : Bool} {sn : List Str} {sub : List Value} {ab : Bool} {col : Option Bool} {dd : Option Addr} {k0 k1 k2 k3 k5 : Option Value}
theorem call_mw {u e t0 : Addr} {rest : List Value} {Q : Value → Shared → Prop}
    (hC : h.get? C = some (excClassObj nm q C N bs bm hdct sn sub ab col dd k0 k1 k2 k3 k5 "ValueError.__new__")) (he : h.get? e = some (excO C t0)) (hu : h.get? u = some (kxs_mw "ValueError.__init__" e)) (hrest : rest.length ≤ sizeLine)
    (hq : ∀ h' t1, (∀ b o, b ≠ e → h.get? b = some o → h'.get? b = some o) → h'.get? e = some (excO C t1) → Q .none ⟨h', g, d, t, os⟩) :
    wpAny (model prog w) A (call (.ref u) rest) Q E ⟨h, g, d, t, os⟩ := by
  have FB := F.excBase_ValueError
  refine wpAny_call (codeAny_of_tree ?_)
  show wpAny _ A.in1 (callAny (.ref u) ⟨rest, []⟩) _ _ _
  simp only [callAny]
  refine wpAny_bind (wpAny_load hu ?_)
  simp only [kxs_mw, show (Value.type "method-wrapper" == Value.type "method" || Value.type "method-wrapper" == Value.type "builtin_function_or_method" || Value.type "method-wrapper" == Value.type "method-wrapper") = true by decide, if_true]
  refine KFB.if_so (by decide) ?_
  refine wpAny_bind (check_bound_init FB.toExcCallFacts hC he rfl ?_)
  refine wpAny_bind (wpAny_pure (wpAny_pure ?_))
  refine ⟨plainId_quiet FB.init.plain _, codeAny_builtin FB.initEntry ?_⟩
  exact exc_init_tree (cls := .ref C) (t0 := t0) (dv := none) (c2 := .none) (c3 := .none) (b4 := .bool false) he hrest fun h' k1 k2 k3 => hq h' _ k1 k2
end
/-- super().__init__("text") as a statement -/
abbrev supS (p0 p1 p2 p3 p4 p5 : Pos) (text : Str) (j : Nat) : Stmt := .Expr (.Call (.Attribute (.Call (.Name "super" p0) [] [] p1) "__init__" p2) [.Constant (.str text) j p3] [] p4) p5
abbrev asgS (n : Str) (p0 p1 p2 p3 : Pos) : Stmt := .Assign [.Attribute (.Name "self" p0) n p1] (.Name n p2) p3
section
variable {prog : Program} {w : World} {A : Around} {E : Value → Shared → Prop} {h : Heap} {g : Array GenState} {d : Drawn} {t : Nat} {os : OsState}
variable {K : Frag} {C f cc cda L x t0 : Addr} {fd : FuncData} {qual : Str} {ps : List Str} {body : List Stmt} {scope : Scope} {m mg mb : Str → Option Value} {text : Str} {j : Nat} {p0 p1 p2 p3 p4 p5 : Pos}
theorem sup_stmt (T : ExK K C f cc cda fd qual ps body scope) (Pr : ExPr prog K cda) (X : K.In h) (hL : h.Ns L m) (hv : m "self" = some (.ref x)) (hx : h.get? x = some (excO C t0))
    (hG : h.Ns mainGlobals mg) (hm : mg "super" = none) (hB : h.Ns builtinsNs mb) (hmb : mb "super" = some (.type "super"))
    (hks : scope.names.lookup ("super" : Str) = some .globalImplicit) (hkc : scope.names.lookup ("__class__" : Str) = some .free) (hka : scope.names.lookup ("self" : Str) = some .local) (hk : scope.kind = .function) (hl : (p2.endLine == p4.line) = true)
    {Q : Flow → Shared → Prop} (hq : ∀ h' t1 tk, (∀ b o, b ≠ x → h.get? b = some o → h'.get? b = some o) → h'.get? x = some (excO C t1) → Q .next ⟨h', g, d, tk, os⟩) :
    _root_.PySem.wpAt (model prog w) A (.func body (ksEnv qual scope L f (.ref cda) cc)) (exec (supS p0 p1 p2 p3 p4 p5 text j) (ksEnv qual scope L f (.ref cda) cc)) Q E ⟨h, g, d, t, os⟩ := by
  obtain ⟨nm, q, N, bs, bm, sn, sub, ab, col, dd, k0, k1, k2, k3, k5, hC, hbm⟩ := T.ocl
  obtain ⟨oc, od, osl, fnm, params, dV, kV, doc, pm, an, ct, hlk, hfd, ⟨ar, har, ear⟩, _⟩ := T.lk
  obtain ⟨ccl, cdd, vs, ccs, file, tf, hcda, hvs, hfile⟩ := Pr.fl
  obtain ⟨cl, cld, csl, hcell⟩ := T.ce
  have hC1 := X _ _ hC
  have hcl : clsIn K C = some { name := nm, bases := bs, mro := .ref C :: bm, ns := N, qualname := q, hasDict := true, slotNames := sn, subclasses := sub, abstract := ab, collection := col, hasDel := false } := by unfold clsIn; rw [hC] <;> rfl
  refine ks_wpAt_Expr_any ?_ (by unfold interactive; rw [show (ksEnv qual scope L f (Value.ref cda) cc).scope.kind = .function from hk]; rfl)
  have he : eval (.Call (.Attribute (.Call (.Name "super" p0) [] [] p1) "__init__" p2) [.Constant (.str text) j p3] [] p4) (ksEnv qual scope L f (.ref cda) cc) = (do
      let ov ← attributeBase (.Call (.Name "super" p0) [] [] p1) "__init__" (ksEnv qual scope L f (.ref cda) cc) (eval (.Call (.Name "super" p0) [] [] p1) (ksEnv qual scope L f (.ref cda) cc))
      standAt p2.atName
      let (f1, first) ← holding [ov] (getMethod ov "__init__" (L2.plainOf (.Call (.Name "super" p0) [] [] p1) (ksEnv qual scope L f (.ref cda) cc)))
      callWith p4 f1 first (backTo p4 (starEach [.Constant (.str text) j p3] (ksEnv qual scope L f (.ref cda) cc))) []) := by
    have e : ∀ ov, methodCall (.Call (.Name "super" p0) [] [] p1) "__init__" p2 p4 (ksEnv qual scope L f (.ref cda) cc) ov 1 (backTo p4 (starEach [.Constant (.str text) j p3] (ksEnv qual scope L f (.ref cda) cc))) [] = _ := fun ov => L2.mcall_line rfl hl
    simp only [← e]
    rfl
  refine ks_wpAt_MethodCall ?_ he
  refine ks_wpAt_super_base (env := ksEnv qual scope L f (.ref cda) cc) hks hkc (by decide) rfl (X _ _ hlk) rfl (by rw [hfd]; exact har) rfl (X _ _ hcda) rfl hvs hfile Pr.top ?_
  refine ks_loadName_global hk hks (loadGlobal_builtin (env := ksEnv qual scope L f (.ref cda) cc) hG hm hB hmb ⟨rfl, ?_⟩)
  refine wpAny_loadName_free hk hkc rfl ⟨_, X _ _ hcell, rfl⟩ ?_
  rw [ear]
  refine wpAny_loadName_local hk hka hL hv ?_
  refine ks_wpAny_isType_cls hC1 rfl ⟨rfl, ?_⟩
  refine ks_wpAny_call_super hC1 rfl hx rfl (fun c e => ?_) (looks_mroIn X T.seC) (fun h1 e1 k1 => ?_)
  · cases e
  -- the super object stands; its __init__
  have X1 : K.In h1 := X.keeps k1
  have hx1 := k1 _ _ hx
  have I1 : InstAt h1 x (excO C t0) C none := ⟨hx1, rfl, rfl, trivial⟩
  have hI : Looks (model prog w) h1 (isInstance (.ref x) (.type "ValueError")) true := I1.type.andThen (looks_subIn X1 T.veC)
  have hsu := T.su
  unfold ks_superIn at hsu
  rw [hcl] at hsu
  refine kxs_getMethod kxs_ValueError e1 (looks_opaque X1 T.tp) (l₀ := .ref C :: bm) (fun A Q E s k q => wpAny_bind ((looks_clsIn X1 hcl) A _ E s k (wpAny_pure q))) rfl X1 hsu hI (ks_ne X1 I1 hcl) (by decide) ?_
  have k2 : ∀ b o, h1.get? b = some o → (h1.push (kxs_mw "ValueError.__init__" x)).get? b = some o := fun b o z => Heap.get?_push_of_some _ z
  refine kxs_callWith (i := "ValueError.__init__") (x := x) rfl ?_
  refine evalArgs_plain ?_
  show wpAny _ _ (spliced ((false, eval (.Constant (.str text) j p3) (ksEnv qual scope L f (.ref cda) cc)) :: [])) _ _ _
  refine spliced_cons (Constant_str ?_)
  refine spliced_nil ⟨Heap.get?_push_at rfl rfl, ?_⟩
  refine call_mw (k2 _ _ (k1 _ _ hC1)) (k2 _ _ hx1) (Heap.get?_push_at rfl rfl) (by show 1 ≤ sizeLine; rw [sizeLine_eq]; decide) fun h' t1 k3 hx' => ?_
  exact hq h' t1 _ (fun b o hb z => k3 b o hb (k2 _ _ (k1 _ _ z))) hx'
abbrev excD (C : Addr) (dx : Option Addr) (t0 : Addr) : Obj := { cls := .ref C, dict := dx, data := .fields #[.ref t0, .none, .none, .none, .bool false, .none] }
theorem asg_new {env : Env} {n : Str} {q0 q1 q2 q3 : Pos} {v : Value} (T : ExK K C f cc cda fd qual ps body scope) (X : K.In h) (hL : h.Ns env.locals m) (hv : m "self" = some (.ref x)) (hn : m n = some v) (hx : h.get? x = some (excD C none t0)) (ha : findIn K (.ref C) n = some none)
    (hk : env.scope.kind = .function) (hks : env.kindOf "self" = some .local) (hkn : env.kindOf n = some .local) (hdb : (n == ("__debug__" : Str)) = false)
    {Q : Flow → Shared → Prop} (hq : ∀ h' tk dx, (∀ b o, b ≠ x → h.get? b = some o → h'.get? b = some o) → h.objs.size ≤ dx → dx ≠ x → h'.get? x = some (excD C (some dx) t0) → h'.Ns1 dx (fun y => if y = n then some v else none) → Q .next ⟨h', g, d, tk, os⟩) :
    wpAny (model prog w) A (exec (asgS n q0 q1 q2 q3) env) Q E ⟨h, g, d, t, os⟩ := by
  obtain ⟨nm, q, N, bs, bm, sn, sub, ab, col, dd, k0, k1, k2, k3, k5, hC, hbm⟩ := T.ocl
  have hcl : clsIn K C = some { name := nm, bases := bs, mro := .ref C :: bm, ns := N, qualname := q, hasDict := true, slotNames := sn, subclasses := sub, abstract := ab, collection := col, hasDel := false } := by unfold clsIn; rw [hC] <;> rfl
  refine plainObj_wpAny_Assign_Attribute ?_
  refine wpAny_Name (wpAny_loadName_local hk hkn hL hn ?_) hdb
  refine wpAny_Name (wpAny_loadName_local hk hks hL hv ?_) (by decide)
  refine set_plain X (ox := excD C none t0) (od := none) ⟨hx, rfl, rfl, trivial⟩ T.sa ?_
  exact exc_osa X hx hcl (show refsVE (.ref C :: bm) = true from hbm) rfl ha (fun h' tk' dx k dn dne hx' hn' => hq h' tk' dx k dn dne hx' hn')
theorem asg_old {env : Env} {n n0 : Str} {dx : Addr} {q0 q1 q2 q3 : Pos} {v v0 : Value} (T : ExK K C f cc cda fd qual ps body scope) (X : K.In h) (hL : h.Ns env.locals m) (hv : m "self" = some (.ref x)) (hn : m n = some v) (hx : h.get? x = some (excD C (some dx) t0)) (hD : h.Ns1 dx (fun y => if y = n0 then some v0 else none))
    (ha : findIn K (.ref C) n = some none) (hk : env.scope.kind = .function) (hks : env.kindOf "self" = some .local) (hkn : env.kindOf n = some .local) (hdb : (n == ("__debug__" : Str)) = false)
    {Q : Flow → Shared → Prop} (hq : ∀ h' tk, (∀ b o, b ≠ dx → h.get? b = some o → h'.get? b = some o) → h'.Ns1 dx (fun y => if y = n then some v else if y = n0 then some v0 else none) → Q .next ⟨h', g, d, tk, os⟩) :
    wpAny (model prog w) A (exec (asgS n q0 q1 q2 q3) env) Q E ⟨h, g, d, t, os⟩ := by
  obtain ⟨nm, q, N, bs, bm, sn, sub, ab, col, dd, k0, k1, k2, k3, k5, hC, hbm⟩ := T.ocl
  have hcl : clsIn K C = some { name := nm, bases := bs, mro := .ref C :: bm, ns := N, qualname := q, hasDict := true, slotNames := sn, subclasses := sub, abstract := ab, collection := col, hasDel := false } := by unfold clsIn; rw [hC] <;> rfl
  have hw : Within (fun y => if y = n0 then some v0 else none) [n0] := Within.cons n0 v0 Within.nil
  obtain ⟨oD, _, _, hoD, _, _⟩ := hD.count hw
  refine plainObj_wpAny_Assign_Attribute ?_
  refine wpAny_Name (wpAny_loadName_local hk hkn hL hn ?_) hdb
  refine wpAny_Name (wpAny_loadName_local hk hks hL hv ?_) (by decide)
  refine set_plain X (ox := excD C (some dx) t0) (od := some oD) ⟨hx, rfl, rfl, hoD⟩ T.sa ?_
  exact PySem.OEX.osa_old X hx hD hw (by show 1 ≤ 1000; decide) hcl (show refsVE (.ref C :: bm) = true from hbm) rfl ha (fun h' tk' k hn' => hq h' tk' k hn')
end
/-- the __init__'s body: one field, or two -/
def BodyIs (fs : List Str) (body : List Stmt) : Prop := ∃ (p0 p1 p2 p3 p4 p5 : Pos) (text : Str) (j : Nat), (p2.endLine == p4.line) = true ∧
  ((∃ n q0 q1 q2 q3, fs = [n] ∧ body = [supS p0 p1 p2 p3 p4 p5 text j, asgS n q0 q1 q2 q3]) ∨
   (∃ n n' q0 q1 q2 q3 r0 r1 r2 r3, fs = [n, n'] ∧ n' ≠ n ∧ body = [supS p0 p1 p2 p3 p4 p5 text j, asgS n q0 q1 q2 q3, asgS n' r0 r1 r2 r3]))
structure ScOk (fs : List Str) (scope : Scope) : Prop where
  sup : scope.names.lookup ("super" : Str) = some .globalImplicit
  cls : scope.names.lookup ("__class__" : Str) = some .free
  self : scope.names.lookup ("self" : Str) = some .local
  fl : ∀ n ∈ fs, scope.names.lookup n = some .local ∧ (n == ("__debug__" : Str)) = false ∧ n ≠ "self"
  kind : scope.kind = .function
  co : scope.isCoroutine = false
  gen : scope.isGenerator = false
  nocell : ∀ x ∈ scope.names, x.2 ≠ .cell
section
variable {prog : Program} {w : World} {A : Around} {R : Result → Shared → Prop} {h : Heap} {g : Array GenState} {d : Drawn} {t : Nat} {os : OsState}
variable {K : Frag} {C f cc cda : Addr} {fd : FuncData} {qual : Str} {fs : List Str} {body : List Stmt} {scope : Scope} {mg mb : Str → Option Value}
/-- C(us): the exception stands at a new place, its dict holds the fields -/
theorem exc_call (T : ExK K C f cc cda fd qual ("self" :: fs) body scope) (Pr : ExPr prog K cda) (hb : BodyIs fs body) (S : ScOk fs scope) (hfi : ∀ n ∈ fs, findIn K (.ref C) n = some none) (X : K.In h)
    (hG : h.Ns mainGlobals mg) (hm : mg "super" = none) (hB : h.Ns builtinsNs mb) (hmb : mb "super" = some (.type "super")) (hlim : h.NoLimit) {us : List Value} (hus : us.length = fs.length) {k : Nat} (hr : L2.Room (k + 1) A)
    (hq : ∀ h' tk t1 dx, (∀ b o, h.get? b = some o → h'.get? b = some o) → h.objs.size ≤ dx → h.objs.size + 1 ≠ dx → h'.get? (h.objs.size + 1) = some (excD C (some dx) t1) →
      (∃ mA, h'.Ns1 dx mA ∧ ∀ y, mA y = (fs.zip us).lookup y) → R (.ok (.ret (.ref (h.objs.size + 1)))) ⟨h', g, d, tk, os⟩) :
    codeAny (model prog w) A (.call (.ref C) ⟨us, []⟩) R ⟨h, g, d, t, os⟩ := by
  obtain ⟨nm, q, N, bs, bm, sn, sub, ab, col, dd, k0, k1, k2, k3, k5, hC, hbm⟩ := T.ocl
  obtain ⟨oc, od, osl, fnm, params, dV, kV, doc, pm, an, ct, hlk, hfd, ⟨ar, har, ear⟩, hbind⟩ := T.lk
  have hsz : us.length ≤ sizeLine := by
    obtain ⟨_, _, _, _, _, _, _, _, _, hb⟩ := hb
    rw [hus, sizeLine_eq]
    rcases hb with ⟨_, _, _, _, _, e, _⟩ | ⟨_, _, _, _, _, _, _, _, _, _, e, _⟩ <;> rw [e] <;> simp
  refine call_own F.excBase_ValueError (fun Y => refsVE_contains Y bm hbm) (X _ _ hC) (looks_findIn X T.iC) (fun self => bind_fn X self T.tI) hsz ?_
  have kk : ∀ b o, h.get? b = some o → ((h.push (kdv_tup us)).push (excO C h.objs.size)).get? b = some o := fun b o e => Heap.get?_push_of_some _ (Heap.get?_push_of_some _ e)
  have hx0 : ((h.push (kdv_tup us)).push (excO C h.objs.size)).get? (h.objs.size + 1) = some (excO C h.objs.size) := by heap_get
  have X0 := X.keeps kk
  have hlen : (Value.ref (h.objs.size + 1) :: us).length = (Str.ofString "self" :: fs).length := by simp [hus]
  have hroom := (hr.make C us []).depth
  generalize hh0 : (h.push (kdv_tup us)).push (excO C h.objs.size) = h0 at kk hx0 X0
  have lt : ∀ b o, h.get? b = some o → b ≠ h.objs.size + 1 := fun b o e z => by
    have := Heap.lt_size e
    rw [z] at this
    exact absurd this (Nat.not_lt_of_le (Nat.le_succ _))
  refine ks_codeAny_call_defAt (fd := fd) (body := body) (binds := (Str.ofString "self" :: fs).zip (Value.ref (h.objs.size + 1) :: us)) hroom (X0 _ _ hlk) rfl (hlim.keeps kk) (by rw [hfd]; exact codeRec_of X0 T.cd) (by rw [hfd]) (BindsTo.of_eq (hbind _ hlen)) (by rw [hfd]; exact S.nocell) (by
    rw [hfd]
    intro y hy
    obtain ⟨h1, h2⟩ := List.of_mem_zip hy
    rcases List.mem_cons.mp h1 with z | z
    · rw [z]; exact S.self
    · exact (S.fl _ z).1) (fun h1 hns k1 => ?_) (by rw [hfd]; exact S.co) (by rw [hfd]; exact S.gen) (by rw [hfd]; exact S.kind)
  rw [hfd]
  show _root_.PySem.wpAt (model prog w) _ (.func body (ksEnv qual scope h0.objs.size f (.ref cda) cc)) (execs body (ksEnv qual scope h0.objs.size f (.ref cda) cc)) _ _ _
  have hG1 : h1.Ns mainGlobals mg := (hG.keeps kk).keeps k1
  have hB1 : h1.Ns builtinsNs mb := (hB.keeps kk).keeps k1
  have X1 := X0.keeps k1
  obtain ⟨p0, p1, p2, p3, p4, p5, text, j, hl, hb⟩ := hb
  have nL : h0.objs.size ≠ h.objs.size + 1 := fun z => by
    have := Heap.lt_size hx0
    rw [← z] at this
    exact absurd this (Nat.lt_irrefl _)
  have nsK : ∀ {h2 : Heap} {b : Addr} {m : Str → Option Value}, (∀ b o, b ≠ h.objs.size + 1 → h1.get? b = some o → h2.get? b = some o) → b ≠ h.objs.size + 1 → h1.Ns b m → h2.Ns b m := fun {h2 b m} k hb ⟨o, es, ep, e, r⟩ => ⟨o, es, ep, k _ _ hb e, r⟩
  have KxC : ∀ {h2 : Heap}, (∀ b o, b ≠ h.objs.size + 1 → h1.get? b = some o → h2.get? b = some o) → K.In h2 := fun {h2} k b o e => k b o (lt b o (X b o e)) (X1 b o e)
  have lkself : ∀ (l : List (Str × Value)), ((Str.ofString "self", Value.ref (h.objs.size + 1)) :: l).lookup (Str.ofString "self") = some (Value.ref (h.objs.size + 1)) := fun l => by rw [List.lookup_cons, beq_self_eq_true]
  rcases hb with ⟨n, q0, q1, q2, q3, e1, e2⟩ | ⟨n, n', q0, q1, q2, q3, r0, r1, r2, r3, e1, hnn, e2⟩
  · subst e1
    obtain ⟨v, rfl⟩ : ∃ v, us = [v] := by
      match us, hus with
      | [v], _ => exact ⟨v, rfl⟩
    obtain ⟨hn1, hn2, hn3⟩ := S.fl n (by simp)
    have ms : (([Str.ofString "self", n].zip [Value.ref (h.objs.size + 1), v]).reverse).lookup (Str.ofString "self") = some (Value.ref (h.objs.size + 1)) := by
      show List.lookup _ [(n, v), (Str.ofString "self", Value.ref (h.objs.size + 1))] = _
      rw [List.lookup_cons, beq_eq_false_iff_ne.mpr (Ne.symm hn3)]
      exact lkself []
    have mn : (([Str.ofString "self", n].zip [Value.ref (h.objs.size + 1), v]).reverse).lookup n = some v := by
      show List.lookup _ [(n, v), (Str.ofString "self", Value.ref (h.objs.size + 1))] = _
      rw [List.lookup_cons, beq_self_eq_true]
    subst e2
    refine ks_wpAt_execs_cons ?_
    refine sup_stmt T Pr X1 hns ms (k1 _ _ hx0) hG1 hm hB1 hmb S.sup S.cls S.self S.kind hl fun h2 t1 tk k2 hx2 => ?_
    refine wpAt_of_wpAny (wpAny_execs_cons ?_)
    refine asg_new (env := ksEnv qual scope h0.objs.size f (.ref cda) cc) T (KxC k2) (nsK k2 nL hns) ms mn hx2 (hfi n (by simp)) S.kind S.self hn1 hn2 fun h3 tk3 dx k3 hd1 hd2 hx3 hN3 => ?_
    refine wpAny_execs_nil ?_
    refine ⟨rfl, hq h3 tk3 t1 dx (fun b o e => k3 b o (lt b o e) (k2 b o (lt b o e) (k1 _ _ (kk _ _ e)))) ?_ (Ne.symm hd2) hx3 ⟨_, hN3, fun y => ?_⟩⟩
    · refine Nat.le_trans ?_ hd1
      cases z : h2.get? (h.objs.size + 1) with
      | none => rw [hx2] at z; cases z
      | some o => exact Nat.le_of_lt (Nat.lt_of_succ_lt (Heap.lt_size z))
    · show (if y = n then some v else none) = List.lookup y [(n, v)]
      rw [List.lookup_cons]
      by_cases z : y = n
      · rw [if_pos z, z, beq_self_eq_true]
      · rw [if_neg z, beq_eq_false_iff_ne.mpr z]; rfl
  · subst e1
    obtain ⟨v, v', rfl⟩ : ∃ v v', us = [v, v'] := by
      match us, hus with
      | [v, v'], _ => exact ⟨v, v', rfl⟩
    obtain ⟨hn1, hn2, hn3⟩ := S.fl n (by simp)
    obtain ⟨hm1, hm2, hm3⟩ := S.fl n' (by simp)
    have ms : (([Str.ofString "self", n, n'].zip [Value.ref (h.objs.size + 1), v, v']).reverse).lookup (Str.ofString "self") = some (Value.ref (h.objs.size + 1)) := by
      show List.lookup _ [(n', v'), (n, v), (Str.ofString "self", Value.ref (h.objs.size + 1))] = _
      rw [List.lookup_cons, beq_eq_false_iff_ne.mpr (Ne.symm hm3)]
      show List.lookup _ [(n, v), (Str.ofString "self", Value.ref (h.objs.size + 1))] = _
      rw [List.lookup_cons, beq_eq_false_iff_ne.mpr (Ne.symm hn3)]
      exact lkself []
    have mn : (([Str.ofString "self", n, n'].zip [Value.ref (h.objs.size + 1), v, v']).reverse).lookup n = some v := by
      show List.lookup _ [(n', v'), (n, v), (Str.ofString "self", Value.ref (h.objs.size + 1))] = _
      rw [List.lookup_cons, beq_eq_false_iff_ne.mpr (Ne.symm hnn)]
      show List.lookup _ [(n, v), (Str.ofString "self", Value.ref (h.objs.size + 1))] = _
      rw [List.lookup_cons, beq_self_eq_true]
    have mn' : (([Str.ofString "self", n, n'].zip [Value.ref (h.objs.size + 1), v, v']).reverse).lookup n' = some v' := by
      show List.lookup _ [(n', v'), (n, v), (Str.ofString "self", Value.ref (h.objs.size + 1))] = _
      rw [List.lookup_cons, beq_self_eq_true]
    subst e2
    refine ks_wpAt_execs_cons ?_
    refine sup_stmt T Pr X1 hns ms (k1 _ _ hx0) hG1 hm hB1 hmb S.sup S.cls S.self S.kind hl fun h2 t1 tk k2 hx2 => ?_
    refine wpAt_of_wpAny (wpAny_execs_cons ?_)
    refine asg_new (env := ksEnv qual scope h0.objs.size f (.ref cda) cc) T (KxC k2) (nsK k2 nL hns) ms mn hx2 (hfi n (by simp)) S.kind S.self hn1 hn2 fun h3 tk3 dx k3 hd1 hd2 hx3 hN3 => ?_
    have k23 : ∀ b o, b ≠ h.objs.size + 1 → h1.get? b = some o → h3.get? b = some o := fun b o hb e => k3 b o hb (k2 b o hb e)
    have hd0 : h.objs.size ≤ dx := by
      refine Nat.le_trans ?_ hd1
      cases z : h2.get? (h.objs.size + 1) with
      | none => rw [hx2] at z; cases z
      | some o => exact Nat.le_of_lt (Nat.lt_of_succ_lt (Heap.lt_size z))
    have ltd : ∀ b o, h.get? b = some o → b ≠ dx := fun b o e z => by
      have := Heap.lt_size e
      rw [z] at this
      exact absurd this (Nat.not_lt_of_le hd0)
    refine wpAny_execs_cons ?_
    refine asg_old (env := ksEnv qual scope h0.objs.size f (.ref cda) cc) T (KxC k23) (nsK k23 nL hns) ms mn' hx3 hN3 (hfi n' (by simp)) S.kind S.self hm1 hm2 fun h4 tk4 k4 hN4 => ?_
    refine wpAny_execs_nil ?_
    refine ⟨rfl, hq h4 tk4 t1 dx (fun b o e => k4 b o (ltd b o e) (k23 b o (lt b o e) (k1 _ _ (kk _ _ e)))) hd0 (Ne.symm hd2) (k4 _ _ (Ne.symm hd2) hx3) ⟨_, hN4, fun y => ?_⟩⟩
    show (if y = n' then some v' else if y = n then some v else none) = List.lookup y [(n, v), (n', v')]
    rw [List.lookup_cons]
    by_cases z : y = n
    · have z2 : y ≠ n' := fun e => hnn (by rw [← e, z])
      rw [if_neg z2, if_pos z, z, beq_self_eq_true]
    · rw [beq_eq_false_iff_ne.mpr z, if_neg z]
      show _ = List.lookup y [(n', v')]
      rw [List.lookup_cons]
      by_cases z2 : y = n'
      · rw [if_pos z2, z2, beq_self_eq_true]
      · rw [if_neg z2, beq_eq_false_iff_ne.mpr z2]; rfl
end
end PGX
namespace L2
open PySem PySem.Spec PyProof.Rows
/-- C(e, ..): the new exception's dict holds the fields in their order -/
def tMkS (C : Addr) (fs : List Str) (ta : TA) : St → Hp → XK → Prop := fun σ H Q => ta σ H fun vs H1 => vs.length = fs.length ∧ ∀ d, H1 d = none → Q (.ref C) (some d) (upd H1 d (.xd (fs.zip vs)))
theorem relO_zip : ∀ {fs : List Str} {vs : List V} {us : List Value} (y : Str), Vals vs us → RelO ((fs.zip vs).lookup y) ((fs.zip us).lookup y)
  | [], _, _, _, _ => True.intro
  | _ :: _, [], _, _, .nil => True.intro
  | n :: fs, v :: vs, _, y, .cons (b := u) (l₂ := us) rv rr => by
    show RelO (((n, v) :: fs.zip vs).lookup y) (((n, u) :: fs.zip us).lookup y)
    rw [List.lookup_cons, List.lookup_cons]
    cases y == n with
    | true => exact rv
    | false => exact relO_zip y rr
theorem pmk_exc {X : Cx} {x : Str} {C f cc cda : Addr} {fd : FuncData} {qual : Str} {fs : List Str} {body : List Stmt} {scope : Scope} {k : Nat} {e : Expr} {es : List Expr} {ta : TA} {p pos : Pos}
    (T : PGX.ExK X.K C f cc cda fd qual (Str.ofString "self" :: fs) body scope) (Pr : PGX.ExPr X.prog X.K cda) (hb : PGX.BodyIs fs body) (S : PGX.ScOk fs scope) (hfi : ∀ n ∈ fs, PySem.W.findIn X.K (.ref C) n = some none)
    (hsup : X.mg "super" = none) (hr : Room (k + 1) X.A) (hg : Gl X x) (hm : X.mg x = some (.ref C)) (ha : PA X (e :: es) ta)
    (hdb : (x == ("__debug__" : Str)) = false := by decide) (he : starEach (e :: es) X.env = (false, eval e X.env) :: starEach es X.env := by rfl) (hpl : (backTo pos (starEach es X.env)).any (·.1) = false := by rfl) :
    PMk X (.Call (.Name x p) (e :: es) [] pos) (tMkS C fs ta) := by
  intro pins s σ H Q I h
  refine wpAny_Call_Name_kw (ld_glob I hg hm ?_ hdb)
  refine PySem.W.callWith_K (h₀ := X.base) I.ok.mod.kin T.kC (thn (ha.run pos pins s σ H _ I h) fun us s1 ⟨vs, H1, I1, r1, hl, q1⟩ => ⟨I1.kIn, ?_⟩) he hpl
  show wpAny _ _ (call (.ref C) us) _ _ _
  obtain ⟨mb, hB, hmb⟩ := I1.mod.blt
  have kIn := I1.kIn
  have hGl := I1.mod.glob.keeps I1.bk
  have hBl := hB.keeps I1.bk
  have hlim := I1.nolimit
  obtain ⟨hp, g, dr, tk, os⟩ := s1
  refine wpAny_call (PGX.exc_call T Pr hb S hfi kIn hGl hsup hBl ((hmb "super" (by decide)).trans (by decide +kernel)) hlim (by rw [← r1.length]; exact hl) hr fun h' tk' t1 dx kk hd1 hd2 hx hN => ?_)
  obtain ⟨mA, hN, hmA⟩ := hN
  obtain ⟨G, g1, g2⟩ := restrict h' fun b => decide (b ≠ hp.objs.size + 1)
  have gk : ∀ b, b ≠ hp.objs.size + 1 → G.get? b = h'.get? b := fun b hb => g1 b (decide_eq_true hb)
  have ge : G.get? (hp.objs.size + 1) = none := g2 _ (by simp)
  have kG : ∀ b o, hp.get? b = some o → G.get? b = some o := fun b o e => by
    rw [gk b fun z => by
      have := Heap.lt_size e
      rw [z] at this
      exact absurd this (Nat.not_lt_of_le (Nat.le_succ _))]
    exact kk b o e
  have hNG : G.Ns1 dx mA := hN.at fun o y => (gk dx (Ne.symm hd2)).trans y
  have new : ObjOk X.prog X.w (upd H1 dx (.xd (fs.zip vs))) G dx (.xd (fs.zip vs)) := ⟨mA, hNG, fun y => by rw [hmA]; exact relO_zip y r1⟩
  have J := I1.laid (t' := tk') (a := dx) (o := .xd (fs.zip vs)) (h' := G) kG hd1 new
  have na : H1 (hp.objs.size + 1) = none := I1.hok.fresh (Nat.le_succ _)
  refine ⟨hp.objs.size + 1, _, _, _, _, .ref C, some dx, rfl, J, fun b o e => ?_, ge, hx, ⟨rfl, rfl⟩, rfl, rfl, ?_, rfl, I1.bare, raises_own T.exC T.tyC, q1 dx (I1.hok.fresh hd1)⟩
  · by_cases hb : b = hp.objs.size + 1
    · rw [hb] at e
      have e' : G.get? (hp.objs.size + 1) = some o := e
      rw [ge] at e'; cases e'
    · exact (gk b hb).symm.trans e
  · rw [upd_ne hd2]; exact na
end L2
namespace L2
open PySem PySem.Spec PyProof.Rows
section
variable {X : Cx} {body : List Stmt} {h₀ : ExceptHandler} {hds : List ExceptHandler} {l : List (Value × Option Nat × TSx)} {pos : Pos} {tb : WX → TS} {Wout : WX}
theorem ps_try_g (hs : X.stack = X.env :: X.outer) (hf : X.env.frame = some X.env.locals) (tk : Takes X Wout)
    (hb : ∀ (W : WX) (pn : List (Addr × Obj)) (xe : Value → Shared → Prop), Takes (X.tr pn xe) W → PassesOwn (model X.prog X.w) X.A X.env xe → PSs (X.tr pn xe) body (tb W))
    (hh : HdG X (h₀ :: hds) l) : PS X (.Try body (h₀ :: hds) [] [] pos) (fun D σ H => tb (wG X.K Wout D l) D σ H) := by
  refine ⟨fun pins s σ H D I h => ?_⟩
  have ok := I.ok
  have hfr : X.A.frames = some (X.env :: X.outer) := by rw [ok.frames, hs]
  refine wpAny_Try_except ?_
  refine wpAny_mono ((hb (wG X.K Wout D l) (X.pn ++ pins) (fun e s₁ => wpAny (model X.prog X.w) X.A (noteFrame e X.env) (fun _ s₂ => wpAny (model X.prog X.w) X.A (setFlight e none) (fun _ s₃ =>
    wpAny (model X.prog X.w) X.A (handleBy e X.env (h₀ :: hds)) (SP X pins D) X.xe s₃) X.xe s₂) X.xe s₁) (fun u s' xx => ?_) PassesOwn.looking).run [] s σ H D (I.toTry _) h) (fun f s1 hsp => ?_) (fun e s1 he => he)
  · obtain ⟨a, B, sI, pins', σ', H', cls, d, rfl, J', nb, up, sky, na, os, ag, w⟩ := xx
    have J : Inv X pins σ' H' sI := J'.ofTry ok
    have sky' : Sky B (X.env :: X.outer) a (Zc cls d) X.env.locals s'.heap := by rw [← hs]; exact sky
    show wpAny (model X.prog X.w) X.A (noteFrame (.ref a) X.env) _ _ _
    refine Sky.land Zc.steady hfr hf sky' fun h3 fl3 up3 => ?_
    have J3 : Inv X pins σ' H' { s' with heap := h3 } := J.landed nb fl3.1 (up.trans up3) os ag
    obtain ⟨oe3, vs3, he3, hz3, hd3⟩ := fl3.there
    have notFr : ∀ {h : Heap} {o : Obj} {vs : Array Value}, h.FunFrames B (X.env :: X.outer) → h.get? a = some o → o.data = .fields vs → a ∉ frs (X.env :: X.outer) := fun {h o vs} ff e dd hm => by
      obtain ⟨_, o', e', hnf⟩ := ff.mem hm
      rw [e] at e'; cases e'
      exact hnf _ dd
    have nfr := notFr fl3.2.2.1 he3 hd3
    have nL : a ≠ X.env.locals := fun z => nfr (List.mem_filterMap.mpr ⟨X.env, List.mem_cons_self, by rw [hf, z]⟩)
    have nF : a ∉ X.fs := fun hm => by
      obtain ⟨e, he, q⟩ := List.mem_filterMap.mp hm
      exact nfr (List.mem_filterMap.mpr ⟨e, List.mem_cons_of_mem _ he, q⟩)
    have S3 := J3.suite he3 hd3 na nL nF
    have LT : PySem.W.Looks (model X.prog X.w) h3 (typeOf (.ref a)) cls := fun A Q E s k q => wpAny_typeOf_ref (k _ _ he3) (by rw [hz3.1]; exact q)
    have test : ∀ {x : Str} {c : Value} {np : Pos} {Q : Value → Shared → Prop} {E : Value → Shared → Prop}, Names X x c → Q c { s' with heap := h3 } → wpAny (model X.prog X.w) (X.A.mark (some (.ref a))) (eval (.Name x np) X.env) Q E { s' with heap := h3 } := fun {x c np Q E} hc q => by
      obtain ⟨hg, hdbg, hm | ⟨hm, hv, hnn⟩⟩ := hc
      · exact ld_glob (X := X.suite a ((a, oe3) :: (X.pn ++ pins))) S3 hg hm q hdbg
      · exact ld_blt (X := X.suite a ((a, oe3) :: (X.pn ++ pins))) S3 hg hm hv q hnn hdbg
    have go : ∀ {hds' : List ExceptHandler} {l' : List (Value × Option Nat × TSx)}, HdG X hds' l' → wG X.K Wout D l' cls d σ' H' →
        wpAny (model X.prog X.w) X.A (handleBy (.ref a) X.env hds') (SP X pins D) X.xe { s' with heap := h3 } := by
      intro hds' l' hk
      induction hk with
      | nil =>
        intro w
        refine wpAny_handleBy_nil ?_
        obtain ⟨k1, k2, k3, oe, vs, T, oT, ts', he, hz, hd, h1, hr⟩ := id fl3
        unfold PySem.passOn
        refine wpAny_bind (wpAny_field he hd h1 ?_)
        rw [if_neg (show ¬ ((Value.ref T == Value.none) = true) from by simp)]
        have fin : wpAny (model X.prog X.w) X.A (setFlight (.ref a) X.env.frame) (fun _ s4 => wpAny (model X.prog X.w) X.A (throw (.ref a) : Sem Flow) (SP X pins D) X.xe s4) X.xe { s' with heap := h3 } := by
          rw [hf]
          refine HandSPX.setFlight_upZ fl3 fun h4 hh4 up4 => wpAny_throw (tk _ _ ?_)
          exact ⟨a, B, sI, pins, σ', H', cls, d, rfl, J, nb, (up.trans up3).trans up4, .inr (.inr (by rw [hs]; exact hh4)), na, os, ag, w⟩
        first
          | exact wpAny_bind (wpAny_pure (wpAny_bind fin))
          | exact wpAny_bind fin
      | @cons x c ts b₀ suite np pos' hds2 l2 hc hsu r ih =>
        intro w
        obtain ⟨b, hb1, hyes, hno⟩ := w
        refine wpAny_handleBy_cons (codeAny_handlers_test ?_) (by intro q; cases q)
        have LM := PySem.W.exm_one (M := model X.prog X.w) (J3.kIn) LT hb1
        refine test hc (LM.here ?_)
        cases b with
        | true =>
          refine codeAny_handlers_suite ?_
          refine HandSPX.lands_againZ fl3 fun h4 fl4 up4 => ?_
          have J4 : Inv X pins σ' H' { s' with heap := h4 } := J.landed nb fl4.1 ((up.trans up3).trans up4) os ag
          obtain ⟨oe4, vs4, he4, hz4, hd4⟩ := fl4.there
          have S4 := J4.suite he4 hd4 na nL nF
          refine wpAny_mono ((hsu a oe4 cls d (X.pn ++ pins) hz4 ⟨_, hd4⟩).run [] _ _ H' _ S4 (hyes rfl a na)) (fun f s6 hsp => ?_) (fun _ _ z => False.elim z)
          cases f with
          | next =>
            obtain ⟨σ6, H6, S6, q6⟩ := hsp
            exact ⟨_, _, S6.unsuite ok, q6⟩
          | brk =>
            obtain ⟨σ6, H6, S6, q6⟩ := hsp
            exact ⟨_, _, S6.unsuite ok, q6⟩
          | cont =>
            obtain ⟨σ6, H6, S6, q6⟩ := hsp
            exact ⟨_, _, S6.unsuite ok, q6⟩
          | ret u =>
            obtain ⟨v6, σ6, H6, S6, r6, q6⟩ := hsp
            exact ⟨_, _, _, S6.unsuite ok, r6, q6⟩
        | false =>
          show wpAny _ X.A (handleBy (.ref a) X.env hds2) _ _ _
          exact ih (hno rfl)
      | @as_ x n i c ts b₀ suite np pos' hds2 l2 hN hi hln hc hsu r ih =>
        intro w
        obtain ⟨b, hb1, hyes, hno⟩ := w
        refine wpAny_handleBy_cons (codeAny_handlers_test ?_) (by intro q; cases q)
        have LM := PySem.W.exm_one (M := model X.prog X.w) (J3.kIn) LT hb1
        refine test hc (LM.here ?_)
        have hloc : Loc X.env.scope n := .inl hln
        cases b with
        | true =>
          refine codeAny_handlers_suite_as ?_
          refine HandSPX.lands_againZ fl3 fun h4 fl4 up4 => ?_
          have J4 : Inv X pins σ' H' { s' with heap := h4 } := J.landed nb fl4.1 ((up.trans up3).trans up4) os ag
          obtain ⟨oe4, vs4, he4, hz4, hd4⟩ := fl4.there
          have S4 := J4.suite he4 hd4 na nL nF
          refine store_ok (X := X.suite a ((a, oe4) :: (X.pn ++ pins))) (v := .ref a) S4 hN hi hloc rfl (fun s5 S5 => ?_) (.inr hln)
          refine wpAny_mono ((hsu a oe4 cls d (X.pn ++ pins) hz4 ⟨_, hd4⟩).run [] s5 _ H' _ S5 (hyes rfl a na)) (fun f s6 hsp => ?_) (fun _ _ z => False.elim z)
          have end_ : ∀ {σ6 : St} {H6 : Hp} {Q : Shared → Prop}, Inv (X.suite a ((a, oe4) :: (X.pn ++ pins))) [] σ6 H6 s6 → (∀ s7, Inv X pins (σ6.set i none) H6 s7 → Q s7) →
              wpAny (model X.prog X.w) X.A (do bindName X.env n .none; unbindBehindTheSuite X.env n pos') (fun _ s7 => Q s7) X.xe s6 := fun {σ6 H6 Q} S6 hq => gone_ok (S6.unsuite ok) hN hi hln hq
          cases f with
          | next =>
            obtain ⟨σ6, H6, S6, q6⟩ := hsp
            exact end_ S6 fun s7 J7 => ⟨_, _, J7, q6⟩
          | brk =>
            obtain ⟨σ6, H6, S6, q6⟩ := hsp
            exact end_ S6 fun s7 J7 => ⟨_, _, J7, q6⟩
          | cont =>
            obtain ⟨σ6, H6, S6, q6⟩ := hsp
            exact end_ S6 fun s7 J7 => ⟨_, _, J7, q6⟩
          | ret u =>
            obtain ⟨v6, σ6, H6, S6, r6, q6⟩ := hsp
            exact end_ S6 fun s7 J7 => ⟨_, _, _, J7, r6, q6⟩
        | false =>
          show wpAny _ X.A (handleBy (.ref a) X.env hds2) _ _ _
          exact ih (hno rfl)
    exact go hh w
  · cases f with
    | next =>
      obtain ⟨σ', H', J', q⟩ := hsp
      exact wpAny_execs_nil ⟨σ', H', J'.ofTry ok, q⟩
    | brk =>
      obtain ⟨σ', H', J', q⟩ := hsp
      exact ⟨σ', H', J'.ofTry ok, q⟩
    | cont =>
      obtain ⟨σ', H', J', q⟩ := hsp
      exact ⟨σ', H', J'.ofTry ok, q⟩
    | ret u =>
      obtain ⟨v, σ', H', J', r, q⟩ := hsp
      exact ⟨v, σ', H', J'.ofTry ok, r, q⟩
end
end L2
namespace PF
open PySem PySem.Spec L2
open PyProof.Rows hiding St
section
variable {X : Cx} {C : Ct} {q qa qb : Bool} {e a b c : Expr} {f fa fb : PF.Env → R TD} {pos pos' p : Pos}
variable {K : PySem.W.Frag} {B : Tb} {G G' H H' : Hp} {σ : L2.St} {ρ : PF.Env} {κ κ' : List Rs} {pv : List (Nat × V)} {pr : Nat → Bool}
/-- c: the class's number; ns: its fields -/
def sRaise (c : Nat) (ns : List Nat) (g : PF.Env → R (List TD)) : PF.Env → R Fl := fun ρ => (g ρ).bind fun xs ρ1 => if xs.length = ns.length then .exc c (ns.zip (xs.map (·.2))) ρ1 else .stuck
theorem repF_zip : ∀ {ns : List Nat} {ds : List D} {vs : List V}, ns.length = ds.length → Reps K B G ds vs → RepF K B G (ns.zip ds) ((ns.map B.nm).zip vs)
  | [], [], vs, _, h => by simp only [Reps] at h; subst h; simp only [List.zip_nil_left, List.map_nil, RepF]
  | n :: ns, d :: ds, vs, hl, h => by
    simp only [Reps] at h
    obtain ⟨v, r, e, h1, h2⟩ := h
    subst e
    simp only [List.zip_cons_cons, List.map_cons, RepF]
    exact ⟨v, _, rfl, h1, repF_zip (by simpa using hl) h2⟩
  | [], _ :: _, _, hl, _ => by cases hl
  | _ :: _, [], _, hl, _ => by cases hl
theorem ds_raise {Cl : Addr} {fs : List PySem.Str} {x : PySem.Str} {es : List Expr} {c : Nat} {ns : List Nat} {g : PF.Env → R (List TD)} (hmk : ∀ ta, PA X (e :: es) ta → PMk X (.Call (.Name x p) (e :: es) [] pos') (tMkS Cl fs ta))
    (hc : X.calm = true) (hxc : C.xc c = .ref Cl) (hnm : fs = ns.map C.B.nm) (ha : DA X C q (e :: es) g) : DS X C pr (.Raise (some (.Call (.Name x p) (e :: es) [] pos')) none pos) (sRaise c ns g) := by
  subst hnm
  refine ⟨fun pins s σ H D I z => ?_⟩
  obtain ⟨G, ρ, κ, W, pv, ok, hp, tk, w⟩ := z
  refine (ps_raise hc tk (hmk _ ha)).run pins s σ H D I ?_
  unfold sRaise at w
  rw [R.wp_bind] at w
  refine ⟨G, H, ρ, G, ρ, κ, W, pv, .refl, trivial, ok, tk, R.wp_mono w (fun xs ρ1 w1 vs G' H' r st ok' => ?_) fun c fs ρ1 w1 cls dO G' H' l x ok' => w1 cls dO σ G' H' l x ok'⟩
  split at w1
  · rename_i hl
    have hv : xs.length = vs.length := r
    refine ⟨by rw [← hv, hl, List.length_map], fun d hd => ?_⟩
    obtain ⟨G1, le1, ok1, rr⟩ := ok'.reps hv
    obtain ⟨le2, ok2⟩ := ok1.newF (o := .xd ((ns.map C.B.nm).zip vs)) hd
    have w1 : EF X C W G κ pv c (ns.zip (xs.map (·.2))) ρ1 := w1
    refine w1 (.ref Cl) (some d) σ _ _ ((st.1.trans le1).trans le2) ⟨hxc.symm, .inr ⟨d, _, rfl, upd_same, ?_⟩⟩ ok2
    exact (repF_zip (by simp [hl]) rr).mono le2
  · exact w1.elim
def sTry (pr : Nat → Bool) (fb : PF.Env → R Fl) (hs : List HdS) : PF.Env → R Fl := fun ρ => match fb ρ with
  | .exc c fs ρ1 => hdsD pr hs c fs ρ1
  | .ok fl ρ1 => .ok fl ρ1
  | .stuck => .stuck
theorem ds_try {body : List Stmt} {h₀ : ExceptHandler} {hds : List ExceptHandler} {fb : PF.Env → R Fl} {hs : List HdS}
    (hb : ∀ (pn : List (Addr × Obj)) (xe : Value → Shared → Prop), PassesOwn (model X.prog X.w) X.A X.env xe → DSs (X.tr pn xe) C pr body fb) (hh : HdD X C pr (h₀ :: hds) hs)
    (hxp : C.B.xp = [] := by rfl) (hst : X.stack = X.env :: X.outer := by rfl) (hf : X.env.frame = some X.env.locals := by rfl) : DS X C pr (.Try body (h₀ :: hds) [] [] pos) (sTry pr fb hs) := by
  obtain ⟨l, g, k⟩ := HdD.ok hxp hh
  refine ⟨fun pins s σ H D I z => ?_⟩
  obtain ⟨G, ρ, κ, W, pv, ok, hp, tk, w⟩ := z
  refine (ps_try_g (tb := fun W D σ H => ∃ (G : Hp) (ρ : PF.Env) (κ : List Rs) (pv : List (Nat × V)), StOk X.K C.B G H σ ρ κ pv ∧ (∀ p ∈ pv, pr p.1 = true) ∧ (fb ρ).wp (QF X C D G κ pv) (EF X C W G κ pv)) hst hf tk
    (fun W pn xe tkW hpo => ⟨fun pins s1 σ H D I z => ?_⟩) g).run pins s σ H D I ?_
  · obtain ⟨G, ρ, κ, pv, ok, hp, w⟩ := z
    exact (hb pn xe hpo).run pins s1 σ H D I ⟨G, ρ, κ, W, pv, ok, hp, tkW, w⟩
  · refine ⟨G, ρ, κ, pv, ok, hp, ?_⟩
    unfold sTry at w
    cases er : fb ρ with
    | stuck => rw [er] at w; exact w.elim
    | ok fl ρ1 => rw [er] at w; exact w
    | exc c fs ρ1 =>
      rw [er] at w
      exact k W D G κ pv c fs ρ1 hp w
end
section
variable {X : Cx} {C : Ct} {q qa qb : Bool} {e a b c : Expr} {pos pos' p : Pos}
/-- e.f, e the exception at hand, fs its fields -/
def fXf (fs : List (Nat × D)) (n : Nat) : PF.Env → R TD := fun ρ => match fs.lookup n with
  | some d => .ok (.F, d) ρ
  | none => .stuck
theorem RepF.at' {K : PySem.W.Frag} {B : Tb} {G : Hp} (inj : ∀ n m, B.nm n = B.nm m → n = m) {n : Nat} {d : D} {fs : List (Nat × D)} {vs : List (PySem.Str × V)} (h : RepF K B G fs vs) (e : fs.lookup n = some d) : ∃ v, vs.lookup (B.nm n) = some v ∧ Rep K B G d v := RepF.at inj h e
theorem de_xf {i n : Nat} {x f : PySem.Str} {a : Addr} {oe : Obj} {cls : Value} {d : Option Addr} {pn : List (Addr × Obj)} {c : Nat} {fs : List (Nat × D)} (inj : ∀ n m, C.B.nm n = C.B.nm m → n = m) (hf : C.B.nm n = f)
    (T : ∃ Cl : Addr, C.xc c = .ref Cl ∧ XfC X.K Cl ∧ PySem.W.findIn X.K (.ref Cl) f = some none)
    (hz : Zc cls d oe) (hfv : ∃ vs, oe.data = .fields vs) (hx : PE (X.suite a ((a, oe) :: pn)) (.Name x p) (tVar i)) (hb : attributeBase (.Name x p) f X.env (eval (.Name x p) X.env) = eval (.Name x p) X.env := by rfl) :
    DE (X.suite a ((a, oe) :: pn)) (inS X.K C i a c fs cls d) true (.Attribute (.Name x p) f pos) (fXf fs n) := by
  subst hf
  refine ⟨fun pins s σ H Q I z => ?_⟩
  obtain ⟨G0, H0, ρ0, G, ρ, κ, W, pv, st, _, ok, tk, w⟩ := z
  unfold fXf at w
  cases el : fs.lookup n with
  | none => rw [el] at w; exact w.elim
  | some dd =>
    rw [el] at w
    obtain ⟨_, ec, hx2⟩ := ok.ok.gx G .refl
    obtain ⟨Cl, eCl, TX, hno⟩ := T
    rcases hx2 with ⟨_, z⟩ | ⟨d', vs, ed, hd, rf⟩
    · rw [z] at el; cases el
    · subst ed
      obtain ⟨v, hv, rv⟩ := RepF.at' inj rf el
      have hσ : σ[i]? = some (some (V.ref a)) := ok.pvs (i, .ref a) (ok.xps _ (List.mem_singleton.mpr rfl))
      refine (pe_xf (pos := pos) TX hno hz hfv hx hb).run pins s σ H Q I ⟨V.ref a, hσ, rfl, by rw [ec, eCl], d', vs, v, rfl, ok.le.at hd, hv, ?_⟩
      exact w v G H trivial st (ok.addF (Rep.tb (B := C.B) (B' := (inS X.K C i a c fs cls (some d')).B) rfl rfl rv))
/-- isinstance(e, C): what is known of the class -/
def fXi (b : Option Bool) : PF.Env → R TD := fun ρ => match b with
  | some k => .ok (.F, .bl k) ρ
  | none => .stuck
end
end PF
namespace PySem.W
open PySem PySem.Spec PySem.Calls PyProof.Rows L2
section
variable {prog : Program} {w : World} {A : Around} {E : Value → Shared → Prop} {s : Shared} {K : Frag} {x D : Addr} {ox : Obj} {od : Option Obj}
theorem find_cls (T : ExcC K D) : findObj K D od "__class__" = some (.bind (.builtin "getset_descriptor.__get__") (.builtin "object.__class__")) := by
  have hc : (clsIn K D).isSome = true := by obtain ⟨cd, hc, _⟩ := any_some T.hd; rw [hc]; rfl
  obtain ⟨cd, hc⟩ := Option.isSome_iff_exists.mp hc
  unfold findObj
  rw [hc, Option.bind_some, T.ha, Option.bind_some]
  simp [T.hn, T.ht]
/-- x.__class__, x an exception with or without a dict -/
theorem cls_of_exc {Q : Option Value → Shared → Prop} (T : ExcC K D) (X : K.In s.heap) (I : InstAt s.heap x ox D od) (h : Q (some (.ref D)) { s with toks := s.toks + 1 }) : wpAny (model prog w) A (getAttr? (.ref x) "__class__") Q E s := by
  have hf := find_cls (od := od) T
  obtain ⟨hp, g, d, t, os⟩ := s
  have L0 := I.type (M := model prog w)
  have LA := looks_findIn (M := model prog w) X T.hg
  have LB := looks_findIn (M := model prog w) X T.hk
  have LC := looks_find (M := model prog w) X I hf
  have sb : Looks (model prog w) hp (isInstance (.ref x) (.type "BaseException")) true := L0.andThen (looks_subIn X T.hs)
  have e0 : (false && onTheHeap (Value.builtin "BaseException.__getattribute__")) = false := rfl
  have e1 : (onTheHeap (Value.ref D) && Value.builtin "BaseException.__getattribute__" == Value.builtin "object.__getattribute__") = false := by
    rw [show (Value.builtin "BaseException.__getattribute__" == Value.builtin "object.__getattribute__") = false by decide +kernel]; rfl
  unfold getAttr? getAttrBy? getAttrBy
  refine wpAny_bind (wpAny_mkText (wpAny_bind (wpAny_attempt (wpAny_holding (wpAny_bind (L0.at (wpAny_bind (LA.at ?_))))))))
  show wpAny _ _ (if (onTheHeap (Value.ref D) && Value.builtin "BaseException.__getattribute__" == Value.builtin "object.__getattribute__") = true then _ else _) _ _ _
  rw [e1, if_neg Bool.false_ne_true]
  unfold getAttrByItsOwn hookBefore
  refine wpAny_bind ?_
  rw [if_pos (show onTheHeap (Value.ref D) = true from rfl)]
  refine LB.at (wpAny_bind (wpAny_attempt (wpAny_holding ?_)))
  unfold callGetattribute
  rw [e0, if_neg Bool.false_ne_true]
  unfold boundAndCalled
  rw [PySem.F.excAttr_ValueError.ga.bind (.ref x)]
  refine wpAny_bind (wpAny_pure ?_)
  show wpAny _ _ (call (.builtin "BaseException.__getattribute__") [.ref x, .str "__class__" t]) _ _ _
  refine wpAny_call (codeAny_call_builtin PySem.F.excAttr_ValueError.ga.plain PySem.F.entry_bexc_ga ?_)
  refine @check_slot (model prog w) _ _ ⟨hp, g, d, t + 1, os⟩ "BaseException.__getattribute__" "BaseException" "__getattribute__" (.ref x) [.str "__class__" t] [] _ (by decide +kernel) (by decide +kernel) sb (PySem.F.args_bexc_ga (.ref x) (.str "__class__" t)) ?_
  unfold Builtin.«object.__getattribute__»
  refine wpAny_bind (wpAny_of_eq (a := ((Value.ref x : Value), [Value.str "__class__" t])) (by first | rfl | (simp only [slotArgs]; rfl)) ?_)
  refine wpAny_bind (wpAny_pure (wpAny_bind (L0.at (wpAny_bind (LC.at ?_)))))
  show wpAny _ _ (holding [Value.builtin "object.__class__"] (call (.builtin "getset_descriptor.__get__") [.builtin "object.__class__", .ref x, .ref D]) >>= ret) _ _ _
  refine wpAny_bind (wpAny_holding (wpAny_call (class_get (s := ⟨hp, g, d, t + 1, os⟩) (ox := ox) (od := od) X I T.hm ?_)))
  refine wpAny_pure ?_
  show wpAny _ _ (handedOut (.ref D)) _ _ _
  rw [handedOut_of (v := .ref D) rfl]
  first
    | exact wpAny_pure (wpAny_pure h)
    | exact wpAny_pure (wpAny_bind (wpAny_pure (wpAny_pure h)))
theorem kit_exc (T : ExcC K D) : KitX K (.ref x) (.ref D) (fun h => InstAt h x ox D od) where
  ty := fun _ _ _ I => I.type
  it := fun _ _ X _ => by
    obtain ⟨cdD, hcD, _⟩ := any_some T.hd
    unfold clsIn at hcD
    split at hcD
    · rename_i c' d' cd' sl' ho
      intro A' Q' E' s' k q
      unfold isType loadHead
      exact wpAny_bind (wpAny_loadPart (k _ _ (X _ _ ho)) (wpAny_pure q))
    · cases hcD
  ne := fun h tp dd its n sl X htp => by
    obtain ⟨cdD, hcD, _⟩ := any_some T.hd
    refine Bool.eq_false_iff.mpr fun q => ?_
    have e : D = tp := Value.ref.inj (beq_iff_eq.mp q)
    subst e
    unfold clsIn at hcD
    split at hcD
    · rename_i c' d' cd' sl' ho
      have z := (X _ _ ho).symm.trans htp
      cases z
    · cases hcD
  ca := fun X I k => cls_of_exc T X I k
end
end PySem.W
namespace L2
open PySem PySem.Spec PyProof.Rows
/-- isinstance(e, c), e the exception of the suite, d its dict -/
def rIsX (K : PySem.W.Frag) (D a : Addr) (d : Option Addr) : List V → Hp → VK → Prop := fun xs H Q => ∃ (c : V) (cv : Value) (b : Bool), xs = [.ref a, c] ∧ (∀ u, RelV c u → u = cv) ∧ (∀ dd, d = some dd → ∃ fs, H dd = some (.xd fs)) ∧ PySem.W.kitOne K (.ref D) cv = some b ∧ Q (.bl b) H
theorem call_isX {X : Cx} {a D : Addr} {d : Option Addr} {oe : Obj} {pn : List (Addr × Obj)} (C : ExcC X.K D) (hz : Zc (.ref D) d oe) (hf : ∃ vs, oe.data = .fields vs) : CallR (X.suite a ((a, oe) :: pn)) (.builtin "isinstance") (rIsX X.K D a d) := by
  intro pins s σ H xs us Q I r h
  obtain ⟨c, cv, b, rfl, hcv, hdd, e, q⟩ := h
  cases r with
  | cons rx rr =>
    cases rr with
    | cons rt rr =>
      cases rr
      cases rx
      have ec := hcv _ rt
      subst ec
      obtain ⟨hget, _⟩ := I.pin (a, oe) (List.mem_append.mpr (.inl List.mem_cons_self))
      obtain ⟨vs, hv⟩ := hf
      have hno : PySem.W.notCls oe := by unfold PySem.W.notCls; rw [hv] <;> rfl
      have J : ∃ od, PySem.W.InstAt s.heap a oe D od := by
        cases d with
        | none => exact ⟨none, hget, hz.1, hno, by rw [hz.2]; trivial⟩
        | some dd =>
          obtain ⟨fs, hfs⟩ := hdd dd rfl
          have hx : ObjOk X.prog X.w H s.heap dd (.xd fs) := I.hok dd _ hfs
          obtain ⟨mA, ⟨o, es, ep, ho, _⟩, _⟩ := hx
          exact ⟨some o, hget, hz.1, hno, by rw [hz.2]; exact ho⟩
      obtain ⟨od, J⟩ := J
      exact PySem.W.kia_one (PySem.W.kit_exc C) I.kIn J e (fun z => nomatch z) fun tk => ⟨.bl b, H, I.kept (t' := tk) fun _ _ z => z, rfl, q⟩
end L2
namespace PF
open PySem PySem.Spec L2
open PyProof.Rows hiding St
section
variable {X : Cx} {C : Ct} {q qa qb : Bool} {e a b c : Expr} {pos pos' p : Pos}
theorem de_xi {i : Nat} {x y : PySem.Str} {a : Addr} {oe : Obj} {cls : Value} {d : Option Addr} {pn : List (Addr × Obj)} {c : Nat} {fs : List (Nat × D)} {cv : V} {cvV : Value} {ob : Option Bool} {p1 p2 : Pos}
    (T : ∃ Cl : Addr, C.xc c = .ref Cl ∧ ExcC X.K Cl) (hb : ∀ k, ob = some k → PySem.W.kitOne X.K (C.xc c) cvV = some k) (hcv : ∀ u, RelV cv u → u = cvV)
    (hz : Zc cls d oe) (hfv : ∃ vs, oe.data = .fields vs) (hg0 : Gl X "isinstance") (hm0 : X.mg "isinstance" = none)
    (hx : PE (X.suite a ((a, oe) :: pn)) (.Name x p1) (tVar i)) (hy : PE (X.suite a ((a, oe) :: pn)) (.Name y p2) (tC cv))
    (he : starEach [.Name x p1, .Name y p2] X.env = (false, eval (.Name x p1) X.env) :: starEach [.Name y p2] X.env := by rfl) (he2 : starEach [.Name y p2] X.env = [(false, eval (.Name y p2) X.env)] := by rfl)
    (hpl : (backTo pos (starEach [.Name y p2] X.env)).any (·.1) = false := by rfl) :
    DE (X.suite a ((a, oe) :: pn)) (inS X.K C i a c fs cls d) true (.Call (.Name "isinstance" p) [.Name x p1, .Name y p2] [] pos) (fXi ob) := by
  refine ⟨fun pins s σ H Q I z => ?_⟩
  obtain ⟨G0, H0, ρ0, G, ρ, κ, W, pv, st, _, ok, tk, w⟩ := z
  unfold fXi at w
  cases eb : ob with
  | none => rw [eb] at w; exact w.elim
  | some k =>
    rw [eb] at w
    obtain ⟨Cl, eCl, TX⟩ := T
    obtain ⟨_, ec, hx2⟩ := ok.ok.gx G .refl
    rw [eCl] at ec
    subst ec
    have hσ : σ[i]? = some (some (V.ref a)) := ok.pvs (i, .ref a) (ok.xps _ (List.mem_singleton.mpr rfl))
    have hk := hb k eb
    rw [eCl] at hk
    refine (pe_callB (X := X.suite a ((a, oe) :: pn)) (call_isX TX hz hfv) hg0 hm0 (by decide +kernel) (pa_cons hx (pa_cons hy pa_nil he2) he) (by decide) (by decide) he hpl).run pins s σ H Q I ?_
    refine ⟨V.ref a, hσ, cv, cvV, k, rfl, hcv, fun dd ed => ?_, hk, ?_⟩
    · rcases hx2 with ⟨z, _⟩ | ⟨d', vs, ed', hd, _⟩
      · rw [ed] at z; cases z
      · rw [ed] at ed'; cases ed'
        exact ⟨vs, ok.le.at hd⟩
    · exact w (.bl k) G H trivial st (ok.addF (by simp only [Rep]))
end
end PF
namespace PF
open PySem PySem.Spec L2
open PyProof.Rows hiding St
theorem oclB_ok {K : PySem.W.Frag} {C : Addr} (h : oclB K C = true) : ∃ nm q N bs bm sn sub ab col dd k0 k1 k2 k3 k5, K.lookup C = some (excClassObj nm q C N bs bm true sn sub ab col dd k0 k1 k2 k3 k5 "ValueError.__new__") ∧ PySem.HandSPX.refsVE bm = true := by
  unfold oclB at h
  split at h
  · rename_i t dd cd sl ho
    split at h
    · rename_i C' bm k0 k1 k2 k3 n k5 hm hs
      obtain ⟨h1, h⟩ := Bool.and_eq_true_iff.mp h
      obtain ⟨h2, h⟩ := Bool.and_eq_true_iff.mp h
      obtain ⟨h3, h⟩ := Bool.and_eq_true_iff.mp h
      obtain ⟨h4, h⟩ := Bool.and_eq_true_iff.mp h
      obtain ⟨h5, h6⟩ := Bool.and_eq_true_iff.mp h
      obtain ⟨nm, bs, mro, ns, q, hd, sn, sub, ab, col, del⟩ := cd
      have e1 := of_decide_eq_true h1
      have e2 := of_decide_eq_true h2
      have e3 := of_decide_eq_true h3
      dsimp only at hm h4 h5
      subst e1 e2 e3 hm h5
      have e4 : del = false := by cases del <;> simp_all
      subst e4
      obtain ⟨l⟩ := sl
      have hs : l = _ := hs
      subst hs
      exact ⟨nm, q, ns, bs, bm, sn, sub, ab, col, dd, k0, k1, k2, k3, k5, ho, h6⟩
    · cases h
  · cases h
/-- the facts of a class, as pmk_exc wants them -/
structure ExT (prog : Program) (K : PySem.W.Frag) (mg : PySem.Str → Option Value) (cls : PySem.Str) (fs : List PySem.Str) : Prop where
  ex : ∃ (cc cda : Addr) (fd : FuncData) (qual : PySem.Str) (body : List Stmt) (scope : Scope), PGX.ExK K (He.ga K cls) (xIn K cls) cc cda fd qual (Str.ofString "self" :: fs) body scope ∧ PGX.ExPr prog K cda ∧ PGX.BodyIs fs body ∧ PGX.ScOk fs scope
  fi : ∀ n ∈ fs, PySem.W.findIn K (.ref (He.ga K cls)) n = some none
  xf : XfC K (He.ga K cls)
  mg : mg cls = some (.ref (He.ga K cls))
/-- what the text of the __init__ must show -/
structure XdOk (d : XD) : Prop where
  bind : ∀ (nm : PySem.Str) (doc pm : Value) (an : Option Addr) (cdv ct : Value) (cc : Addr) (us : List Value), us.length = (Str.ofString "self" :: d.fs).length → bindArgs (PySem.W.ksFn nm d.qual d.params d.body d.scope .none .none doc pm an cdv ct cc) ⟨us, []⟩ = pure ((Str.ofString "self" :: d.fs).zip us)
  first : ∃ ar, (d.params.posonlyargs ++ d.params.args).head? = some ar ∧ ar.arg = Str.ofString "self"
  body : PGX.BodyIs d.fs d.body
  scope : PGX.ScOk d.fs d.scope
theorem ext_ok {prog : Program} {K : PySem.W.Frag} {h : Heap} {mg : PySem.Str → Option Value} {d : XD} (X : K.In h) (G : h.Ns mainGlobals mg) (ok : XdOk d) (e : fnY K d.cls = d.val) (c : exkB prog.main.file K d = true) (htop : (prog.main.scope.names.lookup ("super" : PySem.Str)).isSome = false)
    (hg : (He.Fa.glo d.cls).ok K = true) : ExT prog K mg d.cls d.fs := by
  unfold exkB at c
  obtain ⟨c1, c⟩ := Bool.and_eq_true_iff.mp c
  obtain ⟨c2, c⟩ := Bool.and_eq_true_iff.mp c
  obtain ⟨c3, c⟩ := Bool.and_eq_true_iff.mp c
  obtain ⟨c4, c⟩ := Bool.and_eq_true_iff.mp c
  obtain ⟨c5, c⟩ := Bool.and_eq_true_iff.mp c
  obtain ⟨c6, c⟩ := Bool.and_eq_true_iff.mp c
  obtain ⟨c7, c⟩ := Bool.and_eq_true_iff.mp c
  obtain ⟨c8, c⟩ := Bool.and_eq_true_iff.mp c
  obtain ⟨c9, c⟩ := Bool.and_eq_true_iff.mp c
  obtain ⟨c10, c⟩ := Bool.and_eq_true_iff.mp c
  obtain ⟨c11, c⟩ := Bool.and_eq_true_iff.mp c
  obtain ⟨c12, c⟩ := Bool.and_eq_true_iff.mp c
  obtain ⟨c13, c14⟩ := Bool.and_eq_true_iff.mp c
  refine ⟨?_, fun n hn => He.eqO_ok (List.all_eq_true.mp c13 n hn), xfB_ok c14, He.glo_ok X G hg⟩
  unfold lkB at c12
  unfold fnY at e
  split at c12
  · rename_i oc od fd osl hlk
    rw [hlk] at e
    obtain ⟨n1, n2, n3, n4, n5, n6, n7, n8, n9, n10, n11, n12, n13, n14, n15⟩ := fd
    have e2 : (some (n1, n2, n3, n4, n5, n6, n15) : FnY) = some (Str.ofString "__init__", d.qual, d.params, FuncBody.stmts d.body, d.scope, mainGlobals, builtinsNs) := e
    simp only [Option.some.injEq, Prod.mk.injEq] at e2
    obtain ⟨h1, h2, h3, h4, h5, h6, h7⟩ := e2
    subst h1 h2 h3 h4 h5 h6 h7
    dsimp only at c12
    split at c12
    · rename_i n cc cda
      obtain ⟨a1, c12⟩ := Bool.and_eq_true_iff.mp c12
      obtain ⟨a2, c12⟩ := Bool.and_eq_true_iff.mp c12
      obtain ⟨a3, a4⟩ := Bool.and_eq_true_iff.mp c12
      have en := of_decide_eq_true a1
      subst en
      refine ⟨cc, cda, PySem.W.ksFn (Str.ofString "__init__") d.qual d.params d.body d.scope .none .none n10 n11 n12 (.ref cda) n14 cc, d.qual, d.body, d.scope, ⟨oclB_ok c1, He.eqO_ok c2, of_decide_eq_true c3, of_decide_eq_true c4, of_decide_eq_true c5, of_decide_eq_true c6, c7, He.eqO_ok c8, of_decide_eq_true c9, He.eqO_ok c10, He.eqO_ok c11, ?_, a2, ?_⟩, ⟨?_, htop⟩, ok.body, ok.scope⟩
      · exact ⟨oc, od, osl, Str.ofString "__init__", d.params, .none, .none, n10, n11, n12, n14, hlk, rfl, ok.first, fun us hl => ok.bind _ _ _ _ _ _ _ us hl⟩
      · split at a3
        · rename_i x y C' z hcc
          have := of_decide_eq_true a3
          subst this
          exact ⟨_, _, _, hcc⟩
        · cases a3
      · split at a4
        · rename_i x y vs z hcda
          split at a4
          · rename_i zz tt hvs
            exact ⟨_, _, _, _, _, _, hcda, hvs, a4⟩
          · cases a4
        · cases a4
    · cases c12
  · cases c12
end PF
namespace PF
open PySem PySem.Spec L2
open PyProof.Rows hiding St
section
variable {X : Cx} {C : Ct} {q qa qb : Bool} {e a b : Expr} {pos pos' p : Pos} {pr : Nat → Bool}
/-- raise C(e, ..) -/
theorem ds_rs {cls : PySem.Str} {fs : List PySem.Str} {es : List Expr} {c k : Nat} {ns : List Nat} {g : PF.Env → R (List TD)} (T : ExT X.prog X.K X.mg cls fs) (hsup : X.mg "super" = none) (hr : Room k X.A) (hg : Gl X cls) (ha : DA X C q (e :: es) g)
    (hxc : C.xc c = .ref (He.ga X.K cls) := by rfl) (hnm : fs = ns.map C.B.nm := by rfl) (hc : X.calm = true := by rfl) (hk : 0 < k := by exact Nat.succ_pos _)
    (hdb : (cls == ("__debug__" : PySem.Str)) = false := by decide) (he : starEach (e :: es) X.env = (false, eval e X.env) :: starEach es X.env := by rfl) (hpl : (backTo pos' (starEach es X.env)).any (·.1) = false := by rfl) :
    DS X C pr (.Raise (some (.Call (.Name cls p) (e :: es) [] pos')) none pos) (sRaise c ns g) := by
  obtain ⟨cc, cda, fd, qual, body, scope, T1, Pr, hb, S⟩ := T.ex
  have hr1 : Room (k - 1 + 1) X.A := by rw [Nat.sub_add_cancel hk]; exact hr
  exact ds_raise (fun ta ha => pmk_exc T1 Pr hb S T.fi hsup hr1 hg T.mg ha hdb he hpl) hc hxc hnm ha
end
theorem subOf_lt {l : List (Option Bool)} {c : Nat} {b : Bool} (h : subOf l c = some b) : c < l.length := by
  unfold subOf at h
  rw [List.getD_eq_getElem?_getD] at h
  by_cases hc : c < l.length
  · exact hc
  · rw [List.getElem?_eq_none (Nat.le_of_not_lt hc)] at h; cases h
theorem xm_ok {K : PySem.W.Frag} {xc : Nat → Value} {l : List (Option Bool)} {cv : Value} (h : xmB K xc l cv = true) (c : Nat) (b : Bool) (e : subOf l c = some b) : PySem.W.exmOne K (xc c) cv = some b := by
  have := List.all_eq_true.mp h c (List.mem_range.mpr (subOf_lt e))
  rw [e] at this
  exact of_decide_eq_true this
theorem xi_ok {K : PySem.W.Frag} {xc : Nat → Value} {l : List (Option Bool)} {cv : Value} (h : xiB K xc l cv = true) (c : Nat) (b : Bool) (e : subOf l c = some b) : PySem.W.kitOne K (xc c) cv = some b := by
  have := List.all_eq_true.mp h c (List.mem_range.mpr (subOf_lt e))
  rw [e] at this
  exact of_decide_eq_true this
theorem xfL_ok {K : PySem.W.Frag} {xa : Nat → Addr} {l : List (Option Bool)} {f : PySem.Str} (h : xfLB K xa l f = true) (c : Nat) (e : subOf l c = some true) : XfC K (xa c) ∧ PySem.W.findIn K (.ref (xa c)) f = some none := by
  have := List.all_eq_true.mp h c (List.mem_range.mpr (subOf_lt e))
  rw [e] at this
  obtain ⟨h1, h2⟩ := Bool.and_eq_true_iff.mp this
  exact ⟨xfB_ok h1, He.eqO_ok h2⟩
theorem excCB_ok {K : PySem.W.Frag} {D : Addr} (h : excCB K D = true) : ExcC K D := by
  obtain ⟨h1, h⟩ := Bool.and_eq_true_iff.mp h
  obtain ⟨h2, h⟩ := Bool.and_eq_true_iff.mp h
  obtain ⟨h3, h⟩ := Bool.and_eq_true_iff.mp h
  obtain ⟨h4, h⟩ := Bool.and_eq_true_iff.mp h
  obtain ⟨h5, h⟩ := Bool.and_eq_true_iff.mp h
  obtain ⟨h6, h⟩ := Bool.and_eq_true_iff.mp h
  obtain ⟨h7, h8⟩ := Bool.and_eq_true_iff.mp h
  exact ⟨He.eqO_ok h1, He.eqO_ok h2, of_decide_eq_true h3, h4, He.eqO_ok h5, He.eqO_ok h6, of_decide_eq_true h7, of_decide_eq_true h8⟩
theorem exL_ok {K : PySem.W.Frag} {xa : Nat → Addr} {l : List (Option Bool)} (h : exLB K xa l = true) (c : Nat) (e : subOf l c = some true) : ExcC K (xa c) := by
  have := List.all_eq_true.mp h c (List.mem_range.mpr (subOf_lt e))
  rw [e] at this
  exact excCB_ok this
theorem gx_start {cs : List (Addr × Addr)} {H : Hp} (h : ∀ p ∈ cs, H p.2 = some (.tbl #[])) (G' : Hp) (l : Le H G') : gxOf cs G' := fun p hp => by
  obtain ⟨o', e, gw⟩ := l _ _ (h p hp)
  obtain ⟨ps', eo, ht⟩ := (gw : ∃ ps', o' = .tbl ps' ∧ (TriplesOk (#[] : Array Value).toList → TriplesOk ps'.toList))
  subst eo
  exact ⟨ps', e, ht (by first | trivial | exact True.intro | simp [TriplesOk])⟩
theorem code_of {K : PySem.W.Frag} {x qual : PySem.Str} {params : Arguments} {body : List Stmt} {scope : Scope} {dvs : List V} {kws : List (PySem.Str × V)} {p : He.Defn} {fd : FuncData} {cdv : Value} (F : FunD K x qual params body scope dvs kws (He.fAd K p) fd) (h : fd.code = cdv) : cdv = .ref (He.codeOf K p) := by
  obtain ⟨oc, od, dV, kV, doc, pm, an, cd, ct, osl, rfl, lk, hcd, _, _⟩ := F.ex
  obtain ⟨c, ec⟩ := He.codeIn_ref hcd
  have hc : cd = cdv := h
  rw [← hc, He.codeOf_eq lk ec, ec]
end PF
namespace PF
open PySem PySem.Spec L2
open PyProof.Rows hiding St
theorem nmOf_at' {tab : List PySem.Str} {n k : Nat} (h : n < k) (h2 : k ≤ tab.length) : nmOf tab n ∈ tab.take k := by
  have hl : n < tab.length := Nat.lt_of_lt_of_le h h2
  unfold nmOf
  rw [List.getD_eq_getElem?_getD, List.getElem?_eq_getElem hl]
  exact List.mem_iff_getElem.mpr ⟨n, by rw [List.length_take]; omega, by rw [List.getElem_take]; rfl⟩
section
variable {X : Cx} {C : Ct} {q qa qb : Bool} {e a b : Expr} {f fa fb fi : PF.Env → R TD} {pos pos' p : Pos} {pr : Nat → Bool}
variable {K : PySem.W.Frag} {B : Tb} {G G' H H' : Hp} {σ : L2.St} {ρ : PF.Env} {κ κ' : List Rs} {pv : List (Nat × V)}
/-- x[i], i may call: x is shared -/
def fIxV (fa fi : PF.Env → R TD) : PF.Env → R TD := fun ρ => (fa ρ).bind fun x ρ1 => (fi ρ1).bind fun y ρ2 => match itemB (.F, x.2) y.2 with
  | some td => .ok (.F, td.2) ρ2
  | none => .stuck
variable (x : Option TD) (ρ : PF.Env) (i n c : Nat) (d : D) (t : T)
@[simp] theorem e_fIxV : fIxV fa fi (x :: ρ) = (fa (x :: ρ)).bind fun a ρ1 => (fi ρ1).bind fun y ρ2 => (match itemB (.F, a.2) y.2 with | some td => .ok (.F, td.2) ρ2 | none => .stuck) := rfl
@[simp] theorem e_sRaise (ns : List Nat) (g : PF.Env → R (List TD)) : sRaise c ns g (x :: ρ) = (g (x :: ρ)).bind fun xs ρ1 => if xs.length = ns.length then .exc c (ns.zip (xs.map (·.2))) ρ1 else .stuck := rfl
@[simp] theorem e_sTry (g : PF.Env → R Fl) (hs : List HdS) : sTry pr g hs (x :: ρ) = (match g (x :: ρ) with | .exc c fs ρ1 => hdsD pr hs c fs ρ1 | .ok fl ρ1 => .ok fl ρ1 | .stuck => .stuck) := rfl
@[simp] theorem e_hds0 (fs : List (Nat × D)) (ρ : PF.Env) : hdsD pr [] c fs ρ = .exc c fs ρ := rfl
@[simp] theorem e_hds1 (sub : Nat → Option Bool) (s : Nat → List (Nat × D) → PF.Env → R Fl) (r : List HdS) (fs : List (Nat × D)) (ρ : PF.Env) : hdsD pr (⟨sub, none, s⟩ :: r) c fs ρ = (match sub c with | some true => noX (s c fs ρ) | some false => hdsD pr r c fs ρ | none => .stuck) := rfl
@[simp] theorem e_hds2 (sub : Nat → Option Bool) (s : Nat → List (Nat × D) → PF.Env → R Fl) (r : List HdS) (fs : List (Nat × D)) (ρ : PF.Env) : hdsD pr (⟨sub, some i, s⟩ :: r) c fs ρ = (match sub c with | some true => if pr i || decide (ρ.length ≤ i) then .stuck else unS i (s c fs (ρ.set i none)) | some false => hdsD pr r c fs ρ | none => .stuck) := rfl
@[simp] theorem e_unSn (ρ : PF.Env) : unS i (.ok .nx ρ) = .ok .nx (ρ.set i none) := rfl
@[simp] theorem e_unSb (ρ : PF.Env) : unS i (.ok .bk ρ) = .ok .bk (ρ.set i none) := rfl
@[simp] theorem e_unSc (ρ : PF.Env) : unS i (.ok .ct ρ) = .ok .ct (ρ.set i none) := rfl
@[simp] theorem e_unSr (td : TD) (ρ : PF.Env) : unS i (.ok (.rt td) ρ) = .ok (.rt td) (ρ.set i none) := rfl
@[simp] theorem e_noX (fl : Fl) (ρ : PF.Env) : noX (.ok fl ρ) = .ok fl ρ := rfl
@[simp] theorem e_fXf (fs : List (Nat × D)) : fXf fs n (x :: ρ) = (match fs.lookup n with | some d => .ok (.F, d) (x :: ρ) | none => .stuck) := rfl
@[simp] theorem e_fXi (b : Bool) : fXi (some b) (x :: ρ) = .ok (.F, .bl b) (x :: ρ) := rfl
@[simp] theorem e_prX (j : Nat) : prX pr i j = (pr j || decide (j = i)) := rfl
@[simp] theorem e_sub0 (o : Option Bool) (r : List (Option Bool)) : subOf (o :: r) 0 = o := rfl
@[simp] theorem e_sub1 (o : Option Bool) (r : List (Option Bool)) : subOf (o :: r) (n + 1) = subOf r n := rfl
end
end PF
namespace PF
open PySem PySem.Spec L2
@[simp] theorem ite_okT {P : Prop} [Decidable P] {b : Bool} {ρ : PF.Env} : (if P then R.ok true ρ else R.ok b ρ) = R.ok (decide P || b) ρ := by split <;> simp [*]
@[simp] theorem ite_okF {P : Prop} [Decidable P] {b : Bool} {ρ : PF.Env} : (if P then R.ok b ρ else R.ok false ρ) = R.ok (decide P && b) ρ := by split <;> simp [*]
@[simp] theorem sz_le {n : Nat} (h : n ≤ 100000) : (n ≤ SZ) = True := by rw [SZ_eq]; exact propext ⟨fun _ => trivial, fun _ => by omega⟩
@[simp] theorem sz_lt {n : Nat} (h : n < 100000) : (n < SZ) = True := by rw [SZ_eq]; exact propext ⟨fun _ => trivial, fun _ => by omega⟩
theorem prF {tds : List TD} (h : (tds.all fun td => !own1 td) = true) (i : Nat) : prOf tds i = false := by
  unfold prOf
  cases e : tds[i]? with
  | none => rfl
  | some td =>
    have := List.all_eq_true.mp h td (List.mem_of_getElem? e)
    simpa using this
theorem prF0 {tds : List TD} (h : (tds.all fun td => !own1 td) = true) : prOf tds = fun _ => false := funext (prF h)
@[simp] theorem s_own1 (x : TD) : own1 x = !(isF x.1 || !isBox x.2) := rfl
@[simp] theorem s_prOf (tds : List TD) (i : Nat) : prOf tds i = (match tds[i]? with
  | some td => own1 td
  | none => false) := rfl
@[simp] theorem s_enter (n : Nat) (tds : List TD) : enter n tds = tds.map some ++ List.replicate (n - tds.length) none := rfl
@[simp] theorem s_backs0 (ρ : PF.Env) : backs [] ρ = some [] := by cases ρ <;> rfl
@[simp] theorem s_backs1 (td : TD) (r : List TD) (o : Option TD) (ρ : PF.Env) : backs (td :: r) (o :: ρ) = (match own1 td, o with
  | true, some y => (backs r ρ).map (y :: ·)
  | true, none => none
  | false, _ => (backs r ρ).map ((.F, td.2) :: ·)) := rfl
@[simp] theorem s_fin (tds : List TD) (r : R Fl) : fin tds r = (match r with
  | .ok fl ρ => match backs tds ρ with
    | some ys => match fl with
      | .nx => .ok (.F, .non) ys
      | .rt td => .ok td ys
      | .me i => if prOf tds i then .me i ys else .stuck
      | _ => .stuck
    | none => .stuck
  | .exc c fs ρ => match backs tds ρ with
    | some ys => .exc c fs ys
    | none => .stuck
  | .stuck => .stuck) := by cases r <;> rfl
theorem ixN_cast (n k : Nat) : L2.ixN n (k : Int) = if k < n then some k else none := by
  unfold L2.ixN
  rw [if_pos (by omega)]
  by_cases h : k < n
  · rw [if_pos (by omega), if_pos h]; simp
  · rw [if_neg (by omega), if_neg h]
@[simp] theorem ixN_lit (n k : Nat) : L2.ixN n (no_index (OfNat.ofNat k : Int)) = if (OfNat.ofNat k : Nat) < n then some (OfNat.ofNat k : Nat) else none := ixN_cast n k
@[simp] theorem e_tiL (t : T) (ds : List D) (y : T) (k : Int) : gTimes (t, .lst ds) (y, .int k) = (elems (t, .lst ds)).bind fun ds => if decide (-(2 ^ 63) ≤ k ∧ k < 2 ^ 63) && decide (ds.length * k.toNat ≤ SZ) then some (.l (List.replicate k.toNat ds).flatten) else none := rfl
theorem atI_cast {α : Type} (ds : List α) (n : Nat) : L2.atI ds (n : Int) = ds[n]? := by
  cases e : ds[n]? with
  | some x => exact L2.atI_nat (j := n) e
  | none =>
    have hl : ds.length ≤ n := by simpa using e
    have : L2.ixN ds.length (n : Int) = none := by
      unfold L2.ixN
      rw [if_pos (by omega), if_neg (by omega)]
    unfold L2.atI
    rw [this]; rfl
@[simp] theorem atI_lit {α : Type} (ds : List α) (n : Nat) : L2.atI ds (no_index (OfNat.ofNat n : Int)) = ds[(OfNat.ofNat n : Nat)]? := atI_cast ds n
@[simp] theorem atI_m1 {α : Type} (ds : List α) : L2.atI ds (-1) = ds.getLast? := by
  cases ds with
  | nil => rfl
  | cons d r =>
    have : L2.ixN (d :: r).length (-1) = some ((d :: r).length - 1) := by
      unfold L2.ixN
      rw [if_neg (by omega), if_pos (by simp; omega)]
      congr 1
      omega
    unfold L2.atI
    rw [this, List.getLast?_eq_getElem?]; rfl
def dshN (n : Nat) (d : D) : Bool := d.py.canLay0 && decide (d.py.depth ≤ n)
theorem dshN_all (n : Nat) : ∀ ds : List D, (PyData.canLayAll0 (D.pys ds) && decide (PyData.depthAll (D.pys ds) ≤ n)) = ds.all (dshN n)
  | [] => by simp [D.pys, PyData.canLayAll0, PyData.depthAll]
  | d :: r => by
    have ih := dshN_all n r
    simp only [D.pys, PyData.canLayAll0, PyData.depthAll, List.all_cons, ← ih, dshN]
    by_cases h1 : d.py.depth ≤ n <;> by_cases h2 : PyData.depthAll (D.pys r) ≤ n <;> simp [h1, h2, Nat.max_le] <;> cases d.py.canLay0 <;> simp
@[simp] theorem dshN_tup (n : Nat) (ds : List D) : dshN (n + 1) (.tup ds) = ds.all (dshN n) := by
  rw [← dshN_all]
  simp [dshN, D.py, PyData.canLay0, PyData.depth]
@[simp] theorem dshN_lst (n : Nat) (ds : List D) : dshN (n + 1) (.lst ds) = ds.all (dshN n) := by
  rw [← dshN_all]
  simp [dshN, D.py, PyData.canLay0, PyData.depth]
@[simp] theorem dshN_int (n : Nat) (i : Int) : dshN n (.int i) = true := by simp [dshN, D.py, PyData.canLay0, PyData.depth]
@[simp] theorem dshN_bl (n : Nat) (i : Bool) : dshN n (.bl i) = true := by simp [dshN, D.py, PyData.canLay0, PyData.depth]
@[simp] theorem dshN_non (n : Nat) : dshN n .non = true := by simp [dshN, D.py, PyData.canLay0, PyData.depth]
theorem dshN_str0 (n : Nat) (i : PySem.Str) : dshN n (.str i) = PyData.strOk i := by simp [dshN, D.py, PyData.canLay0, PyData.depth]
@[simp] theorem dsh_tup (ds : List D) : dsh (.tup ds) = ds.all (dshN 63) := dshN_tup 63 ds
@[simp] theorem dsh_lst (ds : List D) : dsh (.lst ds) = ds.all (dshN 63) := dshN_lst 63 ds
theorem strOk_ofString (s : String) : PyData.strOk (PySem.Str.ofString s) = true := by
  rw [PySem.Str.ofString_eq_toList]
  simp only [PyData.strOk, List.all_toArray, Array.all_toList]
  simp [List.all_eq_true]
  intro c hc
  have := c.valid
  have h2 : c.val.toNat < 0x110000 := by
    rcases this with h | h
    · omega
    · exact h.2
  exact h2
@[simp] theorem dshN_str (n : Nat) (s : String) : dshN n (.str (PySem.Str.ofString s)) = true := by rw [dshN_str0, strOk_ofString]
@[simp] theorem dsh_lit (s : String) : dsh (.str (PySem.Str.ofString s)) = true := dshN_str 64 s
theorem ofS_inj {a b : String} (h : PySem.Str.ofString a = PySem.Str.ofString b) : a = b := by
  rw [PySem.Str.ofString_eq_toList, PySem.Str.ofString_eq_toList] at h
  have h1 : (a.toList.map Char.toNat) = (b.toList.map Char.toNat) := by
    have := congrArg (fun z : PySem.Str => z.cps.toList) h
    simpa using this
  have h2 : a.toList = b.toList := by
    refine List.map_inj_right (f := Char.toNat) (fun x y e => ?_) |>.mp h1
    exact Char.ext (UInt32.toNat_inj.mp e)
  exact String.toList_inj.mp h2
@[simp] theorem ofS_eq (a b : String) : (PySem.Str.ofString a = PySem.Str.ofString b) = (a = b) := propext ⟨ofS_inj, fun e => by rw [e]⟩
def deqs : List D → List D → Bool
  | [], [] => true
  | x :: xs, y :: ys => deq x y && deqs xs ys
  | _, _ => false
@[simp] theorem deqs_nil : deqs [] [] = true := rfl
@[simp] theorem deqs_cons (x y : D) (xs ys : List D) : deqs (x :: xs) (y :: ys) = (deq x y && deqs xs ys) := rfl
@[simp] theorem deqs_nc (y : D) (ys : List D) : deqs [] (y :: ys) = false := rfl
@[simp] theorem deqs_cn (y : D) (ys : List D) : deqs (y :: ys) [] = false := rfl
theorem eqv_all : ∀ xs ys : List D, PyData.eqvAll (D.pys xs) (D.pys ys) = deqs xs ys
  | [], [] => by simp [D.pys, PyData.eqvAll]
  | x :: xs, y :: ys => by simp [D.pys, PyData.eqvAll, eqv_all xs ys, deq]
  | [], _ :: _ => by simp [D.pys, PyData.eqvAll]
  | _ :: _, [] => by simp [D.pys, PyData.eqvAll]
@[simp] theorem deq_tup (xs ys : List D) : deq (.tup xs) (.tup ys) = deqs xs ys := by rw [← eqv_all]; simp [deq, D.py, PyData.eqv]
@[simp] theorem deq_lst (xs ys : List D) : deq (.lst xs) (.lst ys) = deqs xs ys := by rw [← eqv_all]; simp [deq, D.py, PyData.eqv]
@[simp] theorem deq_nn : deq .non .non = true := by simp [deq, D.py, PyData.eqv]
@[simp] theorem deq_ni (i : Int) : deq .non (.int i) = false := by simp [deq, D.py, PyData.eqv]
@[simp] theorem deq_nb (i : Bool) : deq .non (.bl i) = false := by simp [deq, D.py, PyData.eqv]
@[simp] theorem deq_ns (i : PySem.Str) : deq .non (.str i) = false := by simp [deq, D.py, PyData.eqv]
@[simp] theorem deq_nt (i : List D) : deq .non (.tup i) = false := by simp [deq, D.py, PyData.eqv]
@[simp] theorem deq_nl (i : List D) : deq .non (.lst i) = false := by simp [deq, D.py, PyData.eqv]
@[simp] theorem deq_in (i : Int) : deq (.int i) .non = false := by simp [deq, D.py, PyData.eqv]
@[simp] theorem deq_is (i : Int) (j : PySem.Str) : deq (.int i) (.str j) = false := by simp [deq, D.py, PyData.eqv]
@[simp] theorem deq_it (i : Int) (j : List D) : deq (.int i) (.tup j) = false := by simp [deq, D.py, PyData.eqv]
@[simp] theorem deq_il (i : Int) (j : List D) : deq (.int i) (.lst j) = false := by simp [deq, D.py, PyData.eqv]
@[simp] theorem deq_sn (i : PySem.Str) : deq (.str i) .non = false := by simp [deq, D.py, PyData.eqv]
@[simp] theorem deq_si (i : PySem.Str) (j : Int) : deq (.str i) (.int j) = false := by simp [deq, D.py, PyData.eqv]
@[simp] theorem deq_sb (i : PySem.Str) (j : Bool) : deq (.str i) (.bl j) = false := by simp [deq, D.py, PyData.eqv]
@[simp] theorem deq_st (i : PySem.Str) (j : List D) : deq (.str i) (.tup j) = false := by simp [deq, D.py, PyData.eqv]
@[simp] theorem deq_sl (i : PySem.Str) (j : List D) : deq (.str i) (.lst j) = false := by simp [deq, D.py, PyData.eqv]
@[simp] theorem deq_tn (i : List D) : deq (.tup i) .non = false := by simp [deq, D.py, PyData.eqv]
@[simp] theorem deq_ti (i : List D) (j : Int) : deq (.tup i) (.int j) = false := by simp [deq, D.py, PyData.eqv]
@[simp] theorem deq_ts (i : List D) (j : PySem.Str) : deq (.tup i) (.str j) = false := by simp [deq, D.py, PyData.eqv]
@[simp] theorem deq_tl (i j : List D) : deq (.tup i) (.lst j) = false := by simp [deq, D.py, PyData.eqv]
@[simp] theorem deq_ln (i : List D) : deq (.lst i) .non = false := by simp [deq, D.py, PyData.eqv]
@[simp] theorem deq_li (i : List D) (j : Int) : deq (.lst i) (.int j) = false := by simp [deq, D.py, PyData.eqv]
@[simp] theorem deq_ls (i : List D) (j : PySem.Str) : deq (.lst i) (.str j) = false := by simp [deq, D.py, PyData.eqv]
@[simp] theorem deq_lt (i j : List D) : deq (.lst i) (.tup j) = false := by simp [deq, D.py, PyData.eqv]
@[simp] theorem deq_bs (i : Bool) (j : PySem.Str) : deq (.bl i) (.str j) = false := by simp [deq, D.py, PyData.eqv]
@[simp] theorem deq_bn (i : Bool) : deq (.bl i) .non = false := by simp [deq, D.py, PyData.eqv]
@[simp] theorem e_inT (d : D) (ds : List D) : cIn d (.tup ds) = if dsh d && dsh (.tup ds) then some (ds.any fun z => deq z d) else none := rfl
@[simp] theorem e_inL (d : D) (ds : List D) : cIn d (.lst ds) = if dsh d && dsh (.lst ds) then some (ds.any fun z => deq z d) else none := rfl
@[simp] theorem e_ninT (d : D) (ds : List D) : cNotIn d (.tup ds) = if dsh d && dsh (.tup ds) then some (!ds.any fun z => deq z d) else none := by
  unfold cNotIn; rw [e_inT]; split <;> rfl
@[simp] theorem e_ninL (d : D) (ds : List D) : cNotIn d (.lst ds) = if dsh d && dsh (.lst ds) then some (!ds.any fun z => deq z d) else none := by
  unfold cNotIn; rw [e_inL]; split <;> rfl
end PF
namespace PF
open PySem PySem.Spec L2
open PyProof.Rows hiding St
def keqs : List D → List D → Bool
  | [], [] => true
  | .int i :: r, .int j :: s => decide (i = j) && keqs r s
  | _, _ => false
def keq : D → D → Bool
  | .int i, .int j => decide (i = j)
  | .str x, .str y => decide (x = y)
  | .tup a, .tup b => keqs a b
  | _, _ => false
def okKey (z : Bool) (y : D) : Bool := match z, y with
  | false, .int _ => true
  | false, .str _ => true
  | true, .tup ds => keyable ds
  | _, _ => false
def dGet (kvs : List (D × D)) (y : D) : Option D := (kvs.find? fun p => keq p.1 y).map (·.2)
def dPut (kvs : List (D × D)) (y v : D) : List (D × D) := if kvs.any fun p => keq p.1 y then kvs.map fun p => if keq p.1 y then (p.1, v) else p else kvs ++ [(y, v)]
def dDel (kvs : List (D × D)) (y : D) : List (D × D) := kvs.filter fun p => !keq p.1 y
theorem keqs_ints : ∀ a b : List Int, keqs (a.map .int) (b.map .int) = decide (a = b)
  | [], [] => rfl
  | [], _ :: _ => rfl
  | _ :: _, [] => rfl
  | i :: r, j :: s => by
    simp only [List.map_cons, keqs, keqs_ints r s]
    by_cases h : i = j <;> by_cases h2 : r = s <;> simp [h, h2]
theorem keq_D (a b : Key) : keq (keyD a) (keyD b) = decide (a = b) := by
  cases a <;> cases b <;> simp [keyD, keq]
theorem keq_T (a b : List Int) : keq (keyT a) (keyT b) = decide (a = b) := keqs_ints a b
theorem valV_inl (ks : List (List Int × V)) (k : List Int) : valV (dtK ks) (k.map Sum.inl) = valV ks k := by
  induction ks with
  | nil => rfl
  | cons p r ih =>
    have inj : ∀ a b : List Int, (a.map (Sum.inl : Int → Key) = b.map Sum.inl) ↔ a = b := fun a b => List.map_inj_right (fun x y e => Sum.inl.inj e)
    by_cases h : p.1 = k
    · rw [valV_pos h]
      show valV ((p.1.map Sum.inl, p.2) :: dtK r) _ = _
      exact valV_pos (p := (p.1.map Sum.inl, p.2)) (by rw [h])
    · rw [valV_neg h]
      show valV ((p.1.map Sum.inl, p.2) :: dtK r) _ = _
      rw [valV_neg (p := (p.1.map Sum.inl, p.2)) (by rw [inj]; exact h)]
      exact ih
section
variable {K : PySem.W.Frag} {B : Tb} {G H : Hp} {κ : Type} [DecidableEq κ] {e : κ → D}
theorem repP_get (he : ∀ a b, keq (e a) (e b) = decide (a = b)) (k : κ) : ∀ {ks : List (κ × V)} {kvs : List (D × D)}, RepP K B G kvs (ks.map fun p => (e p.1, p.2)) →
    (match dGet kvs (e k) with
      | some d => ∃ v, valV ks k = some v ∧ Rep K B G d v
      | none => valV ks k = none)
  | [], [], _ => rfl
  | _ :: _, [], h => by simp only [RepP] at h; cases h
  | [], (q, d) :: r, h => by simp only [RepP] at h; obtain ⟨v, ks', e1, _⟩ := h; cases e1
  | p :: ks, (q, d) :: r, h => by
    simp only [RepP] at h
    obtain ⟨v, ks', e1, h1, h2⟩ := h
    simp only [List.map_cons] at e1
    injection e1 with e2 e3
    injection e2 with e4 e5
    subst e4 e5 e3
    by_cases hk : p.1 = k
    · have : dGet ((e p.1, d) :: r) (e k) = some d := by
        unfold dGet
        rw [List.find?_cons_of_pos (by simp [he, hk])]; rfl
      rw [this]
      exact ⟨p.2, valV_pos hk, h1⟩
    · have : dGet ((e p.1, d) :: r) (e k) = dGet r (e k) := by
        unfold dGet
        rw [List.find?_cons_of_neg (by simp [he, hk])]
      rw [this, valV_neg hk]
      exact repP_get he k h2
theorem repP_any (he : ∀ a b, keq (e a) (e b) = decide (a = b)) (k : κ) : ∀ {ks : List (κ × V)} {kvs : List (D × D)}, RepP K B G kvs (ks.map fun p => (e p.1, p.2)) → (kvs.any fun p => keq p.1 (e k)) = ks.any fun p => decide (p.1 = k)
  | [], [], _ => rfl
  | _ :: _, [], h => by simp only [RepP] at h; cases h
  | [], (q, d) :: r, h => by simp only [RepP] at h; obtain ⟨v, ks', e1, _⟩ := h; cases e1
  | p :: ks, (q, d) :: r, h => by
    simp only [RepP] at h
    obtain ⟨v, ks', e1, h1, h2⟩ := h
    simp only [List.map_cons] at e1
    injection e1 with e2 e3
    injection e2 with e4 e5
    subst e4 e5 e3
    simp only [List.any_cons, he, repP_any he k h2]
theorem RepP.append {kvs kvs' : List (D × D)} : ∀ {ks ks' : List (D × V)}, RepP K B G kvs ks → RepP K B G kvs' ks' → RepP K B G (kvs ++ kvs') (ks ++ ks') := by
  induction kvs with
  | nil => intro ks ks' h h'; simp only [RepP] at h; subst h; exact h'
  | cons p r ih =>
    intro ks ks' h h'
    obtain ⟨q, d⟩ := p
    simp only [RepP] at h
    obtain ⟨v, ks2, e1, h1, h2⟩ := h
    subst e1
    simp only [List.cons_append, RepP]
    exact ⟨v, _, rfl, h1, ih h2 h'⟩
theorem repP_repl (he : ∀ a b, keq (e a) (e b) = decide (a = b)) (k : κ) {d : D} {v : V} (hv : Rep K B G d v) : ∀ {ks : List (κ × V)} {kvs : List (D × D)}, RepP K B G kvs (ks.map fun p => (e p.1, p.2)) →
    RepP K B G (kvs.map fun p => if keq p.1 (e k) then (p.1, d) else p) ((ks.map fun p => if p.1 = k then (p.1, v) else p).map fun p => (e p.1, p.2))
  | [], [], _ => by simp only [List.map_nil, RepP]
  | _ :: _, [], h => by simp only [RepP] at h; cases h
  | [], (q, d) :: r, h => by simp only [RepP] at h; obtain ⟨v, ks', e1, _⟩ := h; cases e1
  | p :: ks, (q, d') :: r, h => by
    simp only [RepP] at h
    obtain ⟨v', ks', e1, h1, h2⟩ := h
    simp only [List.map_cons] at e1
    injection e1 with e2 e3
    injection e2 with e4 e5
    subst e4 e5 e3
    simp only [List.map_cons, he, decide_eq_true_eq]
    by_cases hk : p.1 = k
    · simp only [hk, if_true, RepP]
      exact ⟨_, _, rfl, hv, repP_repl he k hv h2⟩
    · simp only [hk, if_false, RepP]
      exact ⟨_, _, rfl, h1, repP_repl he k hv h2⟩
theorem repP_put (he : ∀ a b, keq (e a) (e b) = decide (a = b)) (k : κ) {d : D} {v : V} (hv : Rep K B G d v) {ks : List (κ × V)} {kvs : List (D × D)} (h : RepP K B G kvs (ks.map fun p => (e p.1, p.2))) :
    RepP K B G (dPut kvs (e k) d) ((putK ks k v).map fun p => (e p.1, p.2)) := by
  unfold dPut putK
  rw [repP_any he k h]
  split
  · exact repP_repl he k hv h
  · rw [List.map_append]
    refine h.append ?_
    simp only [List.map_cons, List.map_nil, RepP]
    exact ⟨v, [], rfl, hv, rfl⟩
theorem OwnP.repF : ∀ {kvs : List (D × D)} {ks : List (D × V)} {l : List Addr}, OwnP K B G H kvs .F ks l → RepP K B G kvs ks ∧ l = []
  | [], ks, l, h => by simp only [OwnP] at h; simp only [RepP]; exact h
  | (k, d) :: r, ks, l, h => by
    simp only [OwnP] at h
    obtain ⟨v, ks', l1, l2, e1, el, h1, h2⟩ := h
    obtain ⟨h3, e3⟩ := h1.repF
    obtain ⟨h4, e4⟩ := OwnP.repF h2
    simp only [RepP]
    subst e3 e4
    exact ⟨⟨v, ks', e1, h3, h4⟩, el⟩
end
theorem ints_of : ∀ {ds : List D}, ds.all keyI = true → ∃ is : List Int, ds = is.map .int
  | [], _ => ⟨[], rfl⟩
  | d :: r, h => by
    rw [List.all_cons, Bool.and_eq_true] at h
    obtain ⟨is, e⟩ := ints_of h.2
    cases d <;> simp only [keyI] at h <;> first | exact absurd h.1 (by decide) | skip
    rename_i i
    exact ⟨i :: is, by rw [e]; rfl⟩
theorem keyable_ints {ds : List D} (h : keyable ds = true) : ∃ is : List Int, ds = is.map .int := ints_of (Bool.and_eq_true_iff.mp h).1
section
variable {K : PySem.W.Frag} {B : Tb} {G H : Hp}
theorem reps_ints_eq : ∀ {is : List Int} {vs : List V}, Reps K B G (is.map D.int) vs → vs = is.map V.int
  | [], vs, h => by simp only [List.map_nil, Reps] at h; exact h
  | i :: r, vs, h => by
    simp only [List.map_cons, Reps, Rep] at h
    obtain ⟨v, r', e, h1, h2⟩ := h
    rw [e, h1, reps_ints_eq h2]; rfl
/-- a key's value -/
theorem key_at {y : D} {v : V} {z : Bool} (r : Rep K B G y v) (hk : okKey z y = true) : match z with
    | false => ∃ k : Key, y = keyD k ∧ v = kV k
    | true => ∃ (k : List Int) (b : Addr), y = keyT k ∧ v = .ref b ∧ G b = some (.tup ((k.map (Sum.inl : Int → Key)).map kV)) := by
  cases z with
  | false =>
    cases y <;> simp only [okKey] at hk <;> first | exact absurd hk (by decide) | skip
    · rename_i i _; simp only [Rep] at r; exact ⟨.inl i, rfl, r⟩
    · rename_i i _; simp only [Rep] at r; exact ⟨.inr i, rfl, r⟩
  | true =>
    cases y <;> simp only [okKey] at hk <;> first | exact absurd hk (by decide) | skip
    rename_i ds
    simp only [Rep] at r
    obtain ⟨a, vs, e1, s, rr⟩ := r
    obtain ⟨is, e2⟩ := keyable_ints hk
    have hs := s.2 hk
    subst e2
    have e3 := reps_ints_eq rr
    subst e3
    refine ⟨is, a, rfl, e1, ?_⟩
    rw [hs, List.map_map]
    rfl
end
section
variable {X : Cx} {C : Ct} {q qa qb : Bool} {e a b : Expr} {fa fb fi : PF.Env → R TD} {pos p : Pos} {K : PySem.W.Frag} {B : Tb} {G H : Hp} {σ : L2.St} {ρ : PF.Env} {κ : List Rs} {pv : List (Nat × V)} {pr : Nat → Bool}
def hoD : Bool → HO
  | false => .dK []
  | true => .dT []
def fDct (z : Bool) : PF.Env → R TD := fun ρ => .ok (.M .F, .dct z []) ρ
theorem StOk.newDct {p : Addr} {z : Bool} (h : StOk K B G H σ ρ κ pv) (hp : H p = none) : StOk K B G (upd H p (hoD z)) σ ρ ((.M .F, .dct z [], .ref p) :: κ) pv := by
  refine h.with (Okx.unrot (ys := [(T.M .F, D.dct z [], V.ref p)]) ?_)
  refine Okx.layO (ys := []) h.ok hp fun G' H' l le hH zz => ⟨[p], ?_, ?_⟩
  · simp only [Own, OwnP]
    refine ⟨p, [], [], rfl, ?_, rfl, rfl, rfl⟩
    cases z
    · exact ⟨[], hH, rfl⟩
    · exact ⟨[], hH, rfl⟩
  · rw [show l = [] from zz]
end
end PF
namespace PF
open PySem PySem.Spec L2
open PyProof.Rows hiding St
section
variable {K : PySem.W.Frag} {B : Tb} {G H : Hp} {κ : Type} [DecidableEq κ] {e : κ → D}
theorem ownP_get (he : ∀ a b, keq (e a) (e b) = decide (a = b)) (k : κ) {t : T} {d : D} : ∀ {ks : List (κ × V)} {kvs : List (D × D)} {l : List Addr}, OwnP K B G H kvs t (ks.map fun p => (e p.1, p.2)) l → dGet kvs (e k) = some d → ∃ v l', valV ks k = some v ∧ Own K B G H d t v l'
  | [], [], _, _, h => by cases h
  | _ :: _, [], _, h, _ => by simp only [OwnP] at h; cases h.1
  | [], (q, d) :: r, _, h, _ => by simp only [OwnP] at h; obtain ⟨v, ks', l1, l2, e1, _⟩ := h; cases e1
  | p :: ks, (q, d') :: r, _, h, hg => by
    simp only [OwnP] at h
    obtain ⟨v, ks', l1, l2, e1, _, h1, h2⟩ := h
    simp only [List.map_cons] at e1
    injection e1 with e2 e3
    injection e2 with e4 e5
    subst e4 e5 e3
    by_cases hk : p.1 = k
    · have : dGet ((e p.1, d') :: r) (e k) = some d' := by
        unfold dGet
        rw [List.find?_cons_of_pos (by simp [he, hk])]; rfl
      rw [this] at hg
      cases hg
      exact ⟨p.2, l1, valV_pos hk, h1⟩
    · have : dGet ((e p.1, d') :: r) (e k) = dGet r (e k) := by
        unfold dGet
        rw [List.find?_cons_of_neg (by simp [he, hk])]
      rw [this] at hg
      rw [valV_neg hk]
      exact ownP_get he k h2 hg
end
section
variable {K : PySem.W.Frag} {B : Tb} {G H : Hp}
theorem dctO_get {a : Addr} {z : Bool} {t : T} {ks : List (D × V)} {kvs : List (D × D)} {y d : D} {vy : V} {l : List Addr} (le : Le G H) (h : DctOf H a z ks) (r : OwnP K B G H kvs t ks l) (ry : Rep K B G y vy) (hk : okKey z y = true) (hg : dGet kvs y = some d) :
    ∃ v l', DGet H a vy (some v) ∧ Own K B G H d t v l' := by
  have q := key_at ry hk
  cases z with
  | false =>
    obtain ⟨k, e1, e2⟩ := q
    obtain ⟨ks0, h1, h2⟩ := h
    subst e1 e2 h2
    obtain ⟨v, l', h3, h4⟩ := ownP_get keq_D k r hg
    exact ⟨v, l', .inl ⟨ks0, k, .inl h1, rfl, h3.symm⟩, h4⟩
  | true =>
    obtain ⟨k, b, e1, e2, e3⟩ := q
    obtain ⟨ks0, h1, h2⟩ := h
    subst e1 e2 h2
    obtain ⟨v, l', h3, h4⟩ := ownP_get keq_T k r hg
    exact ⟨v, l', .inr ⟨_, _, b, .inl h1, rfl, le.at e3, by rw [valV_inl]; exact h3.symm⟩, h4⟩
theorem dctA_get {a : Addr} {z : Bool} {ks : List (D × V)} {kvs : List (D × D)} {y d : D} {vy : V} (le : Le G H) (h : DctAt G a z ks) (r : RepP K B G kvs ks) (ry : Rep K B G y vy) (hk : okKey z y = true) (hg : dGet kvs y = some d) :
    ∃ v, DGet H a vy (some v) ∧ Rep K B G d v := by
  have q := key_at ry hk
  cases z with
  | false =>
    obtain ⟨k, e1, e2⟩ := q
    obtain ⟨ks0, h1, h2⟩ := h
    subst e1 e2 h2
    have h3 := repP_get keq_D k r
    rw [hg] at h3
    obtain ⟨v, h3, h4⟩ := h3
    exact ⟨v, .inl ⟨ks0, k, le.rd h1, rfl, h3.symm⟩, h4⟩
  | true =>
    obtain ⟨k, b, e1, e2, e3⟩ := q
    obtain ⟨ks0, h1, h2⟩ := h
    subst e1 e2 h2
    have h3 := repP_get keq_T k r
    rw [hg] at h3
    obtain ⟨v, h3, h4⟩ := h3
    exact ⟨v, .inr ⟨_, _, b, le.rd h1, rfl, le.at e3, by rw [valV_inl]; exact h3.symm⟩, h4⟩
end
section
variable {X : Cx} {C : Ct} {q qa qb qc : Bool} {e a b c : Expr} {f fa fb fc : PF.Env → R TD} {pos pos' p : Pos}
variable {K : PySem.W.Frag} {B : Tb} {G G' H H' : Hp} {σ : L2.St} {ρ : PF.Env} {κ κ' : List Rs} {pv : List (Nat × V)} {pr : Nat → Bool}
def rIxD : R2 := fun x y H Q => ∃ a v, x = .ref a ∧ DGet H a y (some v) ∧ Q v H
theorem ix_dict (hu : X.A.units + 1 < cLine) : IxR X rIxD := by
  intro value slice pins s σ H x y v u Q I rx ry h hs
  obtain ⟨a, z, rfl, g, h⟩ := h
  cases rx
  have hT := dict_typeIs I g
  unfold subscriptTail
  refine wpAny_bind ?_
  rw [getitemInPython_of_ne hT.not_modules]
  refine wpAny_bind (wpAny_specialOf hT PySem.F.slot_dict_getitem.lookup ?_)
  have fin : wpAny (model X.prog X.w) X.A (subscripted slice false (.ref a) u) (fun r s₃ => wpAny (model X.prog X.w) X.A (letTemporaryGo value (.ref a) r >>= fun _ => pure r) (EP X pins σ Q) X.xe s₃) X.xe s := by
    rw [hs]
    exact wpAny_operating (wpAny_mono (d_getItem (Q := fun r s' => EP X pins σ Q r s') hu I g ry fun w' s' I' r' => ⟨_, _, I', r', h⟩) (fun r s₃ h₃ => wpAny_bind (wpAny_letTemporaryGo (wpAny_pure h₃))) fun _ _ x => x)
  first
    | exact wpAny_pure (wpAny_bind fin)
    | exact wpAny_bind (wpAny_pure (wpAny_bind fin))
    | exact wpAny_bind fin
def tagD : T → T
  | .M t => t
  | _ => .F
def itemA (x : TD) (y : D) : Option TD := match x.2 with
  | .dct z kvs => if okKey z y then (dGet kvs y).map fun d => (tagD x.1, d) else none
  | _ => itemB x y
def bIxd (fa fi : PF.Env → R TD) : PF.Env → R TD := fun ρ => (fa ρ).bind fun x ρ1 => (fi ρ1).bind fun y ρ2 => match itemA x y.2 with | some td => .ok td ρ2 | none => .stuck
theorem okKey_own {z : Bool} {y : D} {t : T} {v : V} {l : List Addr} (h : okKey z y = true) (o : Own K B G H y t v l) : Rep K B G y v := by
  cases z <;> cases y <;> simp only [okKey] at h <;> first | exact absurd h (by decide) | (simp only [Own] at o; first | exact o.1 | (simp only [Rep]; exact o.1))
theorem db_ixd {i : Expr} {fi : PF.Env → R TD} (hu : X.A.units + 1 < cLine) (ha : DB X C q a fa) (hi : DE X C true i fi) (hs : PlainIx i := by exact fun _ _ => rfl) : DB X C q (.Subscript a i pos) (bIxd fa fi) := by
  refine (pe_ix (ix_seq.or (ix_dict hu)) ha hi hs).weak fun σ H Q z => ?_
  refine RT.bind (ka := kB) z (fun h => h) fun x v1 H1 G0 H0 ρ0 z1 => ?_
  refine z1.quiet (ka := kE) kB_up fun y v2 H2 z2 => ?_
  cases e : itemA x y.2 with
  | none => simp only [e] at z2; exact z2.no
  | some td =>
    simp only [e] at z2
    obtain ⟨G, ρ, κ, W, pv, st, ⟨⟨l, o⟩, _⟩, ok, tk, w⟩ := z2
    obtain ⟨l2, o2⟩ := ok.mem (r := (y.1, y.2, v2)) (by simp [kE])
    have seq : itemB x y.2 = some td → (rIx X.K v1 v2 H2 Q ∨ rIxD v1 v2 H2 Q) := fun e => by
      cases ey : y.2 with
      | int i =>
        have hv2 : v2 = .int i := o2.prim (x := .int i) (by show primV y.2 = _; rw [ey]; rfl)
        subst hv2
        rw [ey] at e
        exact .inl (itemB_ok ok.le o e fun w' l' ow => w w' G H2 ⟨l', ow⟩ st ok.drop)
      | _ => rw [ey] at e; cases e
    obtain ⟨t, d⟩ := x
    cases d with
    | dct z kvs =>
      have e : (if okKey z y.2 then (dGet kvs y.2).map fun d => (tagD t, d) else none) = some td := e
      split at e
      · rename_i hk
        obtain ⟨d, e1, e2⟩ := Option.map_eq_some_iff.mp e
        subst e2
        cases t with
        | M t' =>
          simp only [Own] at o
          obtain ⟨a, ks, l', e3, r1, _, r2⟩ := o
          subst e3
          obtain ⟨v, l3, g, rv⟩ := dctO_get ok.le r1 r2 (okKey_own hk o2) hk e1
          exact .inr ⟨a, v, rfl, g, w v G H2 ⟨l3, rv⟩ st ok.drop⟩
        | _ =>
          simp only [Own, Rep] at o
          obtain ⟨⟨a, ks, e3, r1, r2⟩, _⟩ := o
          subst e3
          obtain ⟨v, g, rv⟩ := dctA_get ok.le r1 r2 (okKey_own hk o2) hk e1
          exact .inr ⟨a, v, rfl, g, w v G H2 ⟨[], rv.own⟩ st ok.drop⟩
      · cases e
    | _ => exact seq e
def cInA (d e : D) : Option Bool := match e with
  | .dct z kvs => if okKey z d then some (dGet kvs d).isSome else none
  | _ => cIn d e
def cNotInA (d e : D) : Option Bool := match e with
  | .dct z kvs => if okKey z d then some (!(dGet kvs d).isSome) else none
  | _ => cNotIn d e
end
end PF
namespace PF
open PySem PySem.Spec L2
open PyProof.Rows hiding St
section
variable {X : Cx} {C : Ct} {q qa qb qc : Bool} {e a b c : Expr} {f fa fb fc : PF.Env → R TD} {pos pos' p : Pos}
variable {K : PySem.W.Frag} {B : Tb} {G G' H H' : Hp} {σ : L2.St} {ρ : PF.Env} {κ κ' : List Rs} {pv : List (Nat × V)} {pr : Nat → Bool}
def mSetA (x : TD) (xs : List TD) : Option (TD × TD) := match x, xs with
  | (.M .F, .dct z kvs), [y, k] => if okKey z k.2 && decide (kvs.length < SZ) then some ((.M .F, .dct z (dPut kvs k.2 y.2)), (.F, .non)) else none
  | x, xs => mSet x xs
def sSetA (fp : PF.Env → R Plc) (fi f : PF.Env → R TD) : PF.Env → R Fl := fun ρ => (f ρ).bind fun x ρ1 => (fp ρ1).bind fun ip ρ2 => (fi ρ2).bind fun y ρ3 => match atP ρ3 ip with
  | some u => match mSetA u [x, y] with
    | some ya => match setP ρ3 ip ya.1 with
      | some ρ4 => .ok .nx ρ4
      | none => .stuck
    | none => .stuck
  | none => .stuck
end
end PF
namespace PFD
open PySem PySem.Spec L2
open PyProof.Rows hiding St
end PFD
namespace PFD
open PySem PySem.Spec L2
open PyProof.Rows hiding St
end PFD
namespace PFD
open PySem PySem.Spec L2
open PyProof.Rows hiding St
end PFD
namespace PF
open PySem PySem.Spec L2
open PyProof.Rows hiding St
section
variable {K : PySem.W.Frag} {B : Tb} {G G' H H' : Hp}
def putsD (acc ps : List (D × D)) : List (D × D) := ps.foldl (fun a p => dPut a p.1 p.2) acc
section
variable {κ : Type} [DecidableEq κ] {e : κ → D}
theorem repP_puts (he : ∀ a b, keq (e a) (e b) = decide (a = b)) : ∀ {kvs acc : List (κ × V)} {ps ac : List (D × D)}, RepP K B G ps (kvs.map fun p => (e p.1, p.2)) → RepP K B G ac (acc.map fun p => (e p.1, p.2)) →
    RepP K B G (putsD ac ps) ((kvs.foldl (fun a kv => putK a kv.1 kv.2) acc).map fun p => (e p.1, p.2))
  | [], acc, ps, ac, h, h' => by
    simp only [List.map_nil] at h
    cases ps with
    | nil => exact h'
    | cons p r => obtain ⟨q, d⟩ := p; simp only [RepP] at h; obtain ⟨v, ks', e1, _⟩ := h; cases e1
  | p :: kvs, acc, ps, ac, h, h' => by
    cases ps with
    | nil => simp only [RepP, List.map_cons] at h; cases h
    | cons q r =>
      obtain ⟨q, d⟩ := q
      simp only [RepP, List.map_cons] at h
      obtain ⟨v, ks', e1, h1, h2⟩ := h
      injection e1 with e2 e3
      injection e2 with e4 e5
      subst e4 e5 e3
      exact repP_puts he (kvs := kvs) (acc := putK acc p.1 p.2) (ps := r) (ac := dPut ac (e p.1) d) h2 (repP_put he p.1 h1 h')
end
end
end PF
namespace PF
open PySem PySem.Spec L2
open PyProof.Rows hiding St
end PF
namespace PF
open PySem PySem.Spec L2
open PyProof.Rows hiding St
section
variable {X : Cx} {C : Ct} {q qa qb qc : Bool} {e a b c : Expr} {f fa fb fc : PF.Env → R TD} {pos pos' p : Pos}
variable {K : PySem.W.Frag} {B : Tb} {G G' H H' : Hp} {σ : L2.St} {ρ : PF.Env} {κ κ' : List Rs} {pv : List (Nat × V)} {pr : Nat → Bool}
def dcD (z : Bool) (vs : List Nat) (g : D → PF.Env → Option PF.Env) (t : PF.Env → R Bool) (fk fe : PF.Env → R TD) : List D → List (D × D) → PF.Env → R (List (D × D))
  | [], acc, ρ => .ok acc ρ
  | d :: r, acc, ρ => match g d ρ with
    | none => .stuck
    | some ρ1 => match t ρ1 with
      | .ok b ρ2 => if b then (match fk ρ2 with
        | .ok yk ρ3 => (match fe ρ3 with
          | .ok y ρ4 => if okKey z yk.2 && decide (acc.length < SZ) then dcD z vs g t fk fe r (dPut acc yk.2 y.2) (hide ρ4 vs) else .stuck
          | _ => .stuck)
        | _ => .stuck) else dcD z vs g t fk fe r acc (hide ρ2 vs)
      | _ => .stuck
def fDc (z : Bool) (vs : List Nat) (fi : PF.Env → R (List D)) (g : D → PF.Env → Option PF.Env) (t : PF.Env → R Bool) (fk fe : PF.Env → R TD) : PF.Env → R TD := fun ρ => (fi ρ).bind fun ds ρ1 => match dcD z vs g t fk fe ds [] (hide ρ1 vs) with
  | .ok mr ρ2 => .ok (.M .F, .dct z mr) (unhide ρ1 ρ2 vs)
  | _ => .stuck
end
end PF
namespace PF
open PySem PySem.Spec L2
open PyProof.Rows hiding St
section
variable {X : Cx} {C : Ct} {q qa qb qc : Bool} {e a b c : Expr} {f fa fb fc : PF.Env → R TD} {pos pos' p : Pos}
variable {K : PySem.W.Frag} {B : Tb} {G G' H H' : Hp} {σ : L2.St} {ρ : PF.Env} {κ κ' : List Rs} {pv : List (Nat × V)} {pr : Nat → Bool}
/-- a shared thing is told more of -/
theorem Okx.reG {xs : List Rs} {d : Addr} {u u' : HO} (h : Okx K B G H xs) (e : G d = some u) (g : Gw u u') : Le G (upd G d u') ∧ Okx K B (upd G d u') (upd H d u') xs := by
  obtain ⟨le, gx, l, h1, nd, dj⟩ := h
  have leG : Le G (upd G d u') := fun a o ha => by
    by_cases hd : a = d
    · subst hd
      rw [e] at ha
      cases ha
      exact ⟨u', upd_same, g⟩
    · exact ⟨o, by rw [upd_ne hd]; exact ha, .refl⟩
  have nd' : ∀ a ∈ l, a ≠ d := fun a ha z => by
    have := dj a ha
    rw [z, e] at this
    cases this
  refine ⟨leG, ?_, fun G' l' => gx G' (leG.trans l'), l, h1.mono leG fun a ha => upd_ne (nd' a ha), nd, fun a ha => by rw [upd_ne (nd' a ha)]; exact dj a ha⟩
  intro a o ha
  by_cases hd : a = d
  · subst hd
    rw [upd_same] at ha ⊢
    cases ha
    exact ⟨_, rfl, .refl⟩
  · rw [upd_ne hd] at ha ⊢
    exact le a o ha
theorem upd_id {d : Addr} {u : HO} (h : H d = some u) : upd H d u = H := by
  funext b
  unfold upd
  split
  · rename_i e; rw [e, h]
  · rfl
theorem StOk.reG {d : Addr} {u u' : HO} (h : StOk K B G H σ ρ κ pv) (e : G d = some u) (g : Gw u u') : Le G (upd G d u') ∧ StOk K B (upd G d u') (upd H d u') σ ρ κ pv := by
  obtain ⟨le, o⟩ := Okx.reG h.ok e g
  exact ⟨le, h.with o⟩
/-- a tuple that stands in the heap is shared -/
theorem StOk.takeTup {d : Addr} {vs : List V} (h : StOk K B G H σ ρ κ pv) (e : H d = some (.tup vs)) : ∃ G', Le G G' ∧ StOk K B G' H σ ρ κ pv ∧ G' d = some (.tup vs) := by
  cases hg : G d with
  | some u =>
    obtain ⟨o', e', g⟩ := h.le d u hg
    rw [e] at e'
    cases e'
    refine ⟨G, .refl, h, ?_⟩
    cases u with
    | tbl ps => obtain ⟨_, z, _⟩ := g; cases z
    | dK ks => rcases g with z | ⟨_, z⟩ <;> cases z
    | dT ks => rcases g with z | ⟨_, z⟩ <;> cases z
    | _ =>
      have z : HO.tup vs = _ := g
      rw [hg, z]
  | none =>
    obtain ⟨le, gx, l, h1, nd, dj⟩ := h.ok
    have nd' : ∀ a ∈ l, a ≠ d := fun a ha z => by
      obtain ⟨o, ho, hb⟩ := h1.there a ha
      rw [z, e] at ho
      cases ho
      exact hb
    have leG : Le G (upd G d (.tup vs)) := .upd hg
    refine ⟨upd G d (.tup vs), leG, h.with ⟨?_, fun G' l' => gx G' (leG.trans l'), l, h1.mono leG fun _ _ => rfl, nd, fun a ha => by rw [upd_ne (nd' a ha)]; exact dj a ha⟩, upd_same⟩
    intro a o ha
    by_cases hd : a = d
    · subst hd
      rw [upd_same] at ha
      cases ha
      exact ⟨_, e, .refl⟩
    · rw [upd_ne hd] at ha
      exact le a o ha
theorem StOk.tl {r : Rs} (h : StOk K B G H σ ρ (r :: κ) pv) : StOk K B G H σ ρ κ pv := StOk.drop (show StOk K B G H σ ρ ([r] ++ κ) pv from h)
def keysOf : D → Option (List D)
  | .dct _ kvs => some (kvs.map (·.1))
  | _ => none
theorem RepP.keys : ∀ {kvs : List (D × D)} {ks : List (D × V)}, RepP K B G kvs ks → kvs.map (·.1) = ks.map (·.1)
  | [], ks, h => by simp only [RepP] at h; subst h; rfl
  | (k, d) :: r, ks, h => by
    simp only [RepP] at h
    obtain ⟨v, ks', e1, _, h2⟩ := h
    subst e1
    simp [h2.keys]
theorem walk_keysF {d : Addr} {od : Obj} {ks : List (Key × V)} {G0 : Hp} (hd : G0 d = some (.frz od (.dK ks))) : WalkG X C G0 (Itk d od ks) [] (ks.map fun p => keyD p.1) := by
  intro σ ρ κ pv G H i le ok
  have hH : H d = some (.frz od (.dK ks)) := ok.le.at (le.at hd)
  refine ⟨fun x hx => ?_, fun hi => ⟨hH, by simpa using hi⟩⟩
  rw [List.getElem?_map] at hx
  obtain ⟨p, hp, e⟩ := Option.map_eq_some_iff.mp hx
  obtain ⟨hlt, _⟩ := List.getElem?_eq_some_iff.mp hp
  refine ⟨⟨hH, hlt⟩, fun v H' ⟨e1, k, w, hkv, e2⟩ => ?_⟩
  subst e1 e2
  rw [hp] at hkv
  cases hkv
  subst e
  refine ⟨G, .refl, ok, ?_⟩
  cases k <;> simp only [keyD, kV, Rep]
theorem walk_keysT' {d : Addr} {od : Obj} {ks : List (List Int × V)} {G0 : Hp} (hd : G0 d = some (.frz od (.dT (dtK ks)))) : WalkG X C G0 (Itkt d od (dtK ks)) [] (ks.map fun p => keyT p.1) := by
  intro σ ρ κ pv G H i le ok
  have hH : H d = some (.frz od (.dT (dtK ks))) := ok.le.at (le.at hd)
  refine ⟨fun x hx => ?_, fun hi => ⟨hH, by simpa [dtK] using hi⟩⟩
  rw [List.getElem?_map] at hx
  obtain ⟨p, hp, e⟩ := Option.map_eq_some_iff.mp hx
  obtain ⟨hlt, _⟩ := List.getElem?_eq_some_iff.mp hp
  refine ⟨⟨hH, by simpa [dtK] using hlt⟩, fun v H' ⟨e1, k, w, q, hkv, e2, hq⟩ => ?_⟩
  subst e1 e2
  unfold dtK at hkv
  rw [List.getElem?_map, hp] at hkv
  cases hkv
  subst e
  obtain ⟨G', le', ok', hG⟩ := ok.takeTup hq
  refine ⟨G', le', ok', ?_⟩
  have hi : ∀ is : List Int, Reps X.K C.B G' (is.map D.int) (is.map V.int) := reps_ints
  simp only [keyT, Rep]
  have hv : ((p.1.map (Sum.inl : Int → Key)).map kV) = p.1.map V.int := by rw [List.map_map]; rfl
  rw [hv] at hG
  exact ⟨q, p.1.map V.int, rfl, ⟨.inl (.inl hG), fun _ => hG⟩, hi p.1⟩
def iDct (f : PF.Env → R TD) : PF.Env → R (List D) := fun ρ => (f ρ).bind fun x ρ1 => match keysOf x.2 with | some ds => .ok ds ρ1 | none => .stuck
theorem pi_dct {tg l : Expr} {tl : TE} (hl : PE X l tl) : PI X tg l (fun σ H R => tl σ H fun x H1 => ∃ d, x = .ref d ∧
    ((∃ kvs, (H1 d = some (.dK kvs) ∧ ∀ od, R (Itk d od kvs) (upd H1 d (.frz od (.dK kvs)))) ∨ ∃ od, H1 d = some (.frz od (.dK kvs)) ∧ R (Itk d od kvs) H1) ∨
     (∃ kvs, (H1 d = some (.dT kvs) ∧ ∀ od, R (Itkt d od kvs) (upd H1 d (.frz od (.dT kvs)))) ∨ ∃ od, H1 d = some (.frz od (.dT kvs)) ∧ R (Itkt d od kvs) H1))) := by
  refine ⟨fun pins s σ H R I h => ?_⟩
  refine thn (hl.run pins s σ H _ I h) fun u s1 ⟨x, H1, I1, rx, d, ex, q⟩ => ?_
  subst ex
  obtain rfl : u = Value.ref d := rx
  have finK : ∀ {H1 : Hp} {o : Obj} {kvs : List (Key × V)}, Inv X pins σ H1 s1 → H1 d = some (.frz o (.dK kvs)) → R (Itk d o kvs) H1 → wpAny (model X.prog X.w) X.A (pyIter (.ref d)) (PIE X pins σ tg R) X.xe s1 := fun {H1 o kvs} I1 hd q => by
    obtain ⟨hs, hgd, hx, es, ep, vs, hdt, hsz, kv, hm⟩ := I1.frzK hd
    refine iter_keys hs hgd hx hdt (pi_one (tk := s1.toks) I1 _ (turn_keys _ hdt) ⟨_, Heap.get?_push_size _ rfl, rfl, ?_⟩ q)
    rw [hsz] <;> rfl
  have finT : ∀ {H1 : Hp} {o : Obj} {kvs : List (List Key × V)}, Inv X pins σ H1 s1 → H1 d = some (.frz o (.dT kvs)) → R (Itkt d o kvs) H1 → wpAny (model X.prog X.w) X.A (pyIter (.ref d)) (PIE X pins σ tg R) X.xe s1 := fun {H1 o kvs} I1 hd q => by
    obtain ⟨hs, hgd, hx, es, ep, hdt, hsz, ent⟩ := I1.frzT hd
    refine iter_keys hs hgd hx hdt (pi_one (tk := s1.toks) I1 _ (turn_keysT _ hdt) ⟨_, Heap.get?_push_size _ rfl, rfl, ?_⟩ q)
    rw [hsz] <;> rfl
  rcases q with ⟨kvs, ⟨hd, q⟩ | ⟨od, hd, q⟩⟩ | ⟨kvs, ⟨hd, q⟩ | ⟨od, hd, q⟩⟩
  · obtain ⟨od, I2⟩ := I1.lock hd True.intro
    exact finK I2 upd_same (q od)
  · exact finK I1 hd q
  · obtain ⟨od, I2⟩ := I1.lock hd True.intro
    exact finT I2 upd_same (q od)
  · exact finT I1 hd q
theorem di_dct {tg : Expr} (h : DE X C q e f) : DI X C tg e (iDct f) := PI.weak (pi_dct h) fun σ H R z => by
  refine ITd.bind (ka := kE) z fun x v H1 G1 ρ κ W pv r ok tk w => ?_
  cases e : keysOf x.2 with
  | none => rw [e] at w; exact w.elim
  | some ds =>
    rw [e] at w
    obtain ⟨G2, le, ok2⟩ := StOk.freeze (t := x.1) (d := x.2) ok
    obtain ⟨t, d⟩ := x
    cases d with
    | dct z kvs =>
      cases e
      have rr := ok2.headF
      simp only [Rep] at rr
      obtain ⟨a, ks, e1, hd, rp⟩ := rr
      subst e1
      refine ⟨a, rfl, ?_⟩
      have w : ∀ (J : It) (G' H' : Hp), WalkG X C G' J [] (kvs.map (·.1)) → Le G1 G' → StOk X.K C.B G' H' σ ρ κ pv → R J H' := fun J G' H' wk le ok => w J [] G' H' wk le ok
      rw [rp.keys] at w
      cases z with
      | false =>
        obtain ⟨ks0, hd, e2⟩ := hd
        subst e2
        rw [List.map_map] at w
        refine .inl ⟨ks0, ?_⟩
        rcases hd with hd | ⟨od, hd⟩
        · obtain ⟨o', hH, g⟩ := ok2.le a _ hd
          rcases g with g | ⟨od, g⟩
          · subst g
            refine .inl ⟨hH, fun od => ?_⟩
            obtain ⟨l3, ok3⟩ := ok2.reG (u' := .frz od (.dK ks0)) hd (.inr ⟨od, rfl⟩)
            exact w _ _ _ (walk_keysF upd_same) (le.trans l3) ok3.tl
          · subst g
            refine .inr ⟨od, hH, ?_⟩
            obtain ⟨l3, ok3⟩ := ok2.reG (u' := .frz od (.dK ks0)) hd (.inr ⟨od, rfl⟩)
            rw [upd_id hH] at ok3
            exact w _ _ _ (walk_keysF upd_same) (le.trans l3) ok3.tl
        · exact .inr ⟨od, ok2.le.at hd, w _ _ _ (walk_keysF hd) le ok2.tl⟩
      | true =>
        obtain ⟨ks0, hd, e2⟩ := hd
        subst e2
        rw [List.map_map] at w
        refine .inr ⟨dtK ks0, ?_⟩
        rcases hd with hd | ⟨od, hd⟩
        · obtain ⟨o', hH, g⟩ := ok2.le a _ hd
          rcases g with g | ⟨od, g⟩
          · subst g
            refine .inl ⟨hH, fun od => ?_⟩
            obtain ⟨l3, ok3⟩ := ok2.reG (u' := .frz od (.dT (dtK ks0))) hd (.inr ⟨od, rfl⟩)
            exact w _ _ _ (walk_keysT' upd_same) (le.trans l3) ok3.tl
          · subst g
            refine .inr ⟨od, hH, ?_⟩
            obtain ⟨l3, ok3⟩ := ok2.reG (u' := .frz od (.dT (dtK ks0))) hd (.inr ⟨od, rfl⟩)
            rw [upd_id hH] at ok3
            exact w _ _ _ (walk_keysT' upd_same) (le.trans l3) ok3.tl
        · exact .inr ⟨od, ok2.le.at hd, w _ _ _ (walk_keysT' hd) le ok2.tl⟩
    | _ => cases e
end
end PF
namespace PFD
open PySem PySem.Spec L2
open PyProof.Rows hiding St
end PFD
namespace PF
open PySem PySem.Spec L2
open PyProof.Rows hiding St
section
variable {X : Cx} {C : Ct}
def mDPop (x : TD) (xs : List TD) : Option (TD × TD) := match x, xs with
  | (.M .F, .dct z kvs), [k] => if okKey z k.2 then (dGet kvs k.2).map fun d => ((.M .F, .dct z (dDel kvs k.2)), (.F, d)) else none
  | _, _ => none
theorem room1 {k : Nat} {A : Around} (hr : Room k A) : A.units + 1 < cLine := by have := hr.un; omega
theorem room2 {k : Nat} {A : Around} (hr : Room k A) : A.units + 2 < cLine := by have := hr.un; omega
end
end PF
namespace PF
open PySem PySem.Spec L2
open PyProof.Rows hiding St
section
variable {X : Cx} {C : Ct} {q : Bool} {a : Expr} {fa : PF.Env → R TD} {pos p : Pos} {K : PySem.W.Frag} {B : Tb} {G H : Hp}
def blsD : List D → Option (List Bool)
  | [] => some []
  | .bl b :: r => (blsD r).map (b :: ·)
  | _ :: _ => none
theorem blsD_ok : ∀ {ds : List D} {bs : List Bool} {vs : List V}, blsD ds = some bs → Reps K B G ds vs → vs = bs.map V.bl
  | [], bs, vs, e, r => by cases e; simp only [Reps] at r; exact r
  | d :: ds, bs, vs, e, r => by
    simp only [Reps] at r
    obtain ⟨v, vs', e1, h1, h2⟩ := r
    cases d with
    | bl b =>
      obtain ⟨bs', e2, e3⟩ := Option.map_eq_some_iff.mp (show (blsD ds).map (b :: ·) = some bs from e)
      subst e3
      simp only [Rep] at h1
      rw [e1, h1, blsD_ok e2 h2]; rfl
    | _ => cases e
def gAll (x : TD) : Option Ans := if boxK x.2 = 1 then none else (elems x).bind fun ds => (blsD ds).map fun bs => .p (.bl (bs.all id))
theorem b1_all : B1Ok X C (rAll X.K) gAll := by
  intro G H x v l an Q le o e post
  unfold gAll at e
  split at e
  · cases e
  · rename_i hb
    obtain ⟨ds, e1, e2⟩ := Option.bind_eq_some_iff.mp e
    obtain ⟨bs, e3, e4⟩ := Option.map_eq_some_iff.mp e2
    subst e4
    obtain ⟨a, vs, e5, r, s⟩ := o.elems le e1
    have hv := blsD_ok e3 r
    subst e5 hv
    have sl : SqL X.K H a (bs.map V.bl) := by
      rcases s with ⟨_, s⟩ | ⟨h, _⟩ | ⟨_, s⟩
      · exact SqL.of s
      · exact absurd h hb
      · exact s
    exact ⟨a, bs, rfl, sl, post _ (by simp only [Rep])⟩
theorem de_allL (hc : X.calm = true) (hg : Gl X "all") (hm : X.mg "all" = none) (ha : DB X C q a fa) (he : starEach [a] X.env = [(false, eval a X.env)] := by rfl) : DE X C q (.Call (.Name "all" p) [a] [] pos) (fB1 gAll fa) :=
  de_b1 (cr_all hc) b1_all hg hm (by decide +kernel) ha (by decide) (by decide) he
end
end PF
namespace PF
open PySem PySem.Spec L2
open PyProof.Rows hiding St
section
variable {X : Cx} {C : Ct} {q qa qb : Bool} {e : Expr} {f : PF.Env → R TD} {pos pos' p : Pos} {pr : Nat → Bool}
variable {K : PySem.W.Frag} {B : Tb} {G H : Hp} {σ : L2.St} {ρ : PF.Env} {κ : List Rs} {pv : List (Nat × V)}
theorem OwnF.look (inj : ∀ n m, B.nm n = B.nm m → n = m) {n : Nat} {d : D} : ∀ {fs : List (Nat × D)} {ts : List T} {vs : List (PySem.Str × V)} {l : List Addr}, OwnF K B G H fs ts vs l → fs.lookup n = some d → ∃ v t l', vs.lookup (B.nm n) = some v ∧ Own K B G H d t v l'
  | [], _, _, _, _, e => by cases e
  | (m, x) :: r, ts, vs, l, h, e => by
    simp only [OwnF] at h
    obtain ⟨w, vs', l1, lr, e1, el, h1, h2⟩ := h
    subst e1
    by_cases hb : n = m
    · subst hb
      rw [List.lookup_cons_self] at e ⊢
      cases e
      exact ⟨w, _, l1, rfl, h1⟩
    · have hb' : (n == m) = false := by simp [hb]
      have hb2 : (B.nm n == B.nm m) = false := by simp; exact fun z => hb (inj _ _ z)
      simp only [List.lookup, hb'] at e
      simp only [List.lookup, hb2]
      exact OwnF.look inj h2 e
end
end PF
namespace PFD
open PySem PySem.Spec PyProof.Rows SrtO Srt
end PFD
namespace PFD
open PySem PySem.Spec L2
open PyProof.Rows hiding St
end PFD
namespace PF
open PySem PySem.Spec L2
open PyProof.Rows hiding St
end PF
namespace PF
open PySem PySem.Spec L2
open PyProof.Rows hiding St
theorem CtOk.su {X : Cx} {C : Ct} {K : PySem.W.Frag} {i c : Nat} {a a' : Addr} {fs : List (Nat × D)} {cls : Value} {dO : Option Addr} {pn : List (Addr × Obj)} (h : CtOk X C) : CtOk (X.suite a' pn) (inS K C i a c fs cls dO) := ⟨h.inj, h.cls, h.noat⟩
section
variable {X : Cx} {C : Ct} {q qa : Bool} {a e : Expr} {fa f : PF.Env → R TD} {pos p p' : Pos}
variable {K : PySem.W.Frag} {B : Tb} {G G' H H' : Hp} {σ : L2.St} {ρ : PF.Env} {κ κ' : List Rs} {pv : List (Nat × V)}
theorem Reps.reverse {ds : List D} {vs : List V} (h : Reps K B G ds vs) : Reps K B G ds.reverse vs.reverse := by
  induction ds generalizing vs with
  | nil => simp only [Reps] at h; subst h; simp only [List.reverse_nil, Reps]
  | cons d r ih =>
    simp only [Reps] at h
    obtain ⟨v, r', e, h1, h2⟩ := h
    subst e
    rw [List.reverse_cons, List.reverse_cons]
    refine (ih h2).append ?_
    simp only [Reps]
    exact ⟨v, [], rfl, h1, rfl⟩
abbrev fOne (f : PF.Env → R TD) : PF.Env → R (List TD) := fun ρ => (f ρ).bind fun x ρ1 => .ok [x] ρ1
def fLRng (f : PF.Env → R (List TD)) : PF.Env → R TD := fun ρ => (f ρ).bind fun xs ρ1 => match int1 xs with
  | some j => if decide (0 ≤ j) && decide (j.toNat ≤ 16777216) then .ok (.L .F, .lst (rngD 0 j.toNat)) ρ1 else .stuck
  | none => .stuck
theorem reps_rg (n : Nat) : Reps K B G (rngD 0 n) (rgV 0 (n : Int)) := by
  have h1 : rngD 0 n = ((List.range n).map fun i : Nat => ((0 : Int) + (i : Int))).map D.int := by unfold rngD; rw [List.map_map]; rfl
  have h2 : rgV 0 (n : Int) = ((List.range n).map fun i : Nat => ((0 : Int) + (i : Int))).map V.int := by
    unfold rgV
    rw [List.map_map, show ((n : Int) - 0).toNat = n by omega]
    rfl
  rw [h1, h2]
  exact reps_ints _
theorem de_lrng {pos2 : Pos} (hc : X.calm = true) (hg : Gl X "list") (hm : X.mg "list" = none) (hg2 : Gl X "range") (hm2 : X.mg "range" = none) (ha : DE X C q a f)
    (na : starEach [a] X.env = (false, eval a X.env) :: starEach [] X.env := by rfl) (na2 : starEach [.Call (.Name "range" p') [a] [] pos] X.env = (false, eval (.Call (.Name "range" p') [a] [] pos) X.env) :: starEach [] X.env := by rfl) :
    DE X C q (.Call (.Name "list" p) [.Call (.Name "range" p') [a] [] pos] [] pos2) (fLRng (fOne f)) := by
  refine (pe_listRg hc hg hm (prg_1 hg2 hm2 ha na) na2).weak fun σ H Q z => ?_
  have z : RT kE X C q (fun ρ => (f ρ).bind fun x ρ1 => match int1 [x] with
    | some j => if decide (0 ≤ j) && decide (j.toNat ≤ 16777216) then .ok (.L .F, .lst (rngD 0 j.toNat)) ρ1 else .stuck
    | none => .stuck) σ H Q := by
    obtain ⟨G, H0, ρ0, G1, ρ1, κ, W, pv, st, tt, ok, tk, w⟩ := z
    refine ⟨G, H0, ρ0, G1, ρ1, κ, W, pv, st, tt, ok, tk, ?_⟩
    unfold fLRng at w
    cases ef : f ρ1 <;> simp only [fOne, ef, R.bind] at w ⊢ <;> exact w
  refine RT.bind (ka := kE) z (fun h => h) fun x v H1 G0 H0 ρ0 z1 => ?_
  obtain ⟨G, ρ, κ, W, pv, st, pp, ok, tk, w⟩ := z1
  cases e : int1 [x] with
  | none => simp only [e] at w; exact w.elim
  | some j =>
    simp only [e] at w
    have hv := int1_ok (vs := [v]) e rfl (κ := κ) ok
    cases hv
    split at w
    · rename_i hj
      have h1 := of_decide_eq_true (Bool.and_eq_true_iff.mp hj).1
      have h2' := of_decide_eq_true (Bool.and_eq_true_iff.mp hj).2
      have h2 : j ≤ 16777216 := by omega
      refine ⟨j, rfl, RgOk.of_le (by omega) h2 (by omega) h1, fun p hp => ?_⟩
      have hr : Reps X.K C.B G (rngD 0 j.toNat) (rgV 0 j) := by
        have := reps_rg (K := X.K) (B := C.B) (G := G) j.toNat
        rwa [Int.toNat_of_nonneg h1] at this
      exact w (.ref p) G _ trivial (st.grow .refl hp) (ok.drop.newLst hp hr)
    · exact w.elim
end
end PF
namespace PF
open PySem PySem.Spec L2
open PyProof.Rows hiding St
/-- iter gives an iterator over xs; o: its record, new -/
def GS (X : Cx) (iter : Expr) (src : L2.St → Hp → (List V → Hp → Prop) → Prop) : Prop :=
  ∀ (pins : List (Addr × Obj)) (s : Shared) (σ : L2.St) (H : Hp) (R : List V → Hp → Prop), Inv X pins σ H s → src σ H R →
    wpAny (model X.prog X.w) X.A (eval iter X.env) (fun v s1 => wpAny (model X.prog X.w) X.A (pyIter v) (fun itv s2 =>
      ∃ (H2 : Hp) (xs : List V) (s1' : Shared) (o : Obj) (tk : Nat) (fp : List Addr) (Pf : Nat → Value → Prop) (St : Nat → Heap → Prop),
        itv = .ref s1'.heap.objs.size ∧ s2 = { s1' with heap := s1'.heap.push o, toks := tk } ∧ Inv X pins σ H2 s1' ∧
        (∀ A' : Around, A'.handled = none → Walks X.prog X.w A' s1'.heap.objs.size fp [s1'.heap.objs.size] xs.length Pf St) ∧ St 0 (s1'.heap.push o) ∧
        (∀ b ∈ fp, b = s1'.heap.objs.size ∨ ∃ ob, s1'.heap.get? b = some ob ∧ ob.cls ≠ .none) ∧
        (∀ i v, Pf i v → ∃ x, xs[i]? = some x ∧ RelV x v) ∧ R xs H2) X.xe s1) X.xe s
/-- the elements, in order -/
def eltsQ (q : List Int → Option D) : List Int → Option (List D)
  | [] => some []
  | i :: r => (q [i]).bind fun y => (eltsQ q r).map (y :: ·)
/-- the ints of a list, of a tuple -/
def iInts (f : PF.Env → R TD) : PF.Env → R (List D) := fun ρ => (f ρ).bind fun x ρ1 => match items x.2 with
  | some ds => (match intsD ds with
    | some _ => .ok ds ρ1
    | none => .stuck)
  | none => .stuck
section
variable {X : Cx} {C : Ct} {qa : Bool}
theorem GS.weak {iter : Expr} {src src' : L2.St → Hp → (List V → Hp → Prop) → Prop} (h : GS X iter src) (w : ∀ σ H R, src' σ H R → src σ H R) : GS X iter src' := fun pins s σ H R I z => h pins s σ H R I (w σ H R z)
/-- any, all, sum of the elements -/
def fGen (an : List D → Option D) (fi : PF.Env → R (List D)) (q : QF_) : PF.Env → R TD := fun ρ => (fi ρ).bind fun ds ρ1 => match intsD ds with
  | some is => (match eltsQ (q ρ1) is with
    | some ys => (match an ys with
      | some d => .ok (.F, d) ρ1
      | none => .stuck)
    | none => .stuck)
  | none => .stuck
variable {c P : Addr} {elt iter : Expr} {x : PySem.Str} {px p pos gpos : Pos} {scope : Scope} {q : QF_} {k : Nat} {cs : List (Addr × Addr)} {fi : PF.Env → R (List D)}
end
end PF
namespace PF
open PySem PySem.Spec L2
open PyProof.Rows hiding St
def max3I (i j k : Int) : Int := if j > i then (if k > j then k else j) else (if k > i then k else i)
def fMax3 (f : PF.Env → R (List TD)) : PF.Env → R TD := fun ρ => (f ρ).bind fun xs ρ1 => match int3 xs with
  | some ijk => .ok (.F, .int (max3I ijk.1 ijk.2.1 ijk.2.2)) ρ1
  | none => .stuck
end PF
namespace PySem.W
open PySem PySem.Spec PySem.Calls PyProof.Rows Builtin
end PySem.W
namespace PF
open PySem PySem.Spec L2
open PyProof.Rows hiding St
section
variable {X : Cx} {C : Ct} {q qa qb : Bool} {e a b : Expr} {pos pos' p : Pos}
/-- what __eq__ answers, turned -/
def mapB (neg : Bool) : RF → RF
  | .ok (_, .bl b) ys => .ok (.F, .bl (if neg then !b else b)) ys
  | .ok _ _ => .stuck
  | .exc c fs ys => .exc c fs ys
  | .me _ _ => .stuck
  | .stuck => .stuck
def g1V (f : Env → R TD) : Env → R Ag := fun ρ => (f ρ).bind fun x ρ1 => .ok (.v x) ρ1
def g1N (i : Nat) : Env → R Ag := fun ρ => match ρ[i]? with | some (some _) => .ok (.n i) ρ | _ => .stuck
def fEqO (neg : Bool) (c : Nat) (cf : List TD → RF) (ga gb : Env → R Ag) : Env → R TD := fun ρ => (ga ρ).bind fun x ρ1 => (gb ρ1).bind fun y ρ2 =>
  if isObjOf c ρ2 x && isObjOf c ρ2 y then doCall (fun tds => mapB neg (cf tds)) [x, y] ρ2 else .stuck
def gIsO (c : Nat) (x : TD) : Option Ans := match x.2 with
  | .obj c' _ => if c' = c then some (.p (.bl true)) else none
  | _ => none
end
end PF
namespace PF
open PySem PySem.Spec L2
open PyProof.Rows hiding St
def fTb (rows : List (List Int)) (fi fj : PF.Env → R TD) : PF.Env → R TD := fun ρ => (fi ρ).bind fun a ρ1 => match a.2 with
  | .int i => (match L2.atI rows i with
    | some r => (fj ρ1).bind fun b ρ2 => (match b.2 with
      | .int j => (match L2.atI r j with
        | some k => .ok (.F, .int k) ρ2
        | none => .stuck)
      | _ => .stuck)
    | none => .stuck)
  | _ => .stuck
@[simp] theorem e_fTb {x : Option TD} {ρ : PF.Env} (rows : List (List Int)) (fi fj : PF.Env → R TD) : fTb rows fi fj (x :: ρ) = (fi (x :: ρ)).bind fun a ρ1 => (match a.2 with
  | .int i => (match L2.atI rows i with
    | some r => (fj ρ1).bind fun b ρ2 => (match b.2 with
      | .int j => (match L2.atI r j with
        | some k => .ok (.F, .int k) ρ2
        | none => .stuck)
      | _ => .stuck)
    | none => .stuck)
  | _ => .stuck) := rfl
def fIxdV (fa fi : PF.Env → R TD) : PF.Env → R TD := fun ρ => (fa ρ).bind fun x ρ1 => (fi ρ1).bind fun y ρ2 => match itemA (.F, x.2) y.2 with
  | some td => .ok (.F, td.2) ρ2
  | none => .stuck
@[simp] theorem e_fIxdV {x : Option TD} {ρ : PF.Env} (fa fi : PF.Env → R TD) : fIxdV fa fi (x :: ρ) = (fa (x :: ρ)).bind fun a ρ1 => (fi ρ1).bind fun y ρ2 => (match itemA (.F, a.2) y.2 with | some td => .ok (.F, td.2) ρ2 | none => .stuck) := rfl
end PF
namespace PF
open PySem PySem.Spec L2
open PyProof.Rows hiding St
section
variable {X : Cx} {C : Ct} {q qa : Bool} {e : Expr} {pos pos' p : Pos} {pr : Nat → Bool}
variable {K : PySem.W.Frag} {B : Tb} {G G' H H' : Hp} {σ : L2.St} {ρ : PF.Env} {κ κ' : List Rs} {pv : List (Nat × V)}
def giveB (i : Nat) (td : TD) (r : R Fl) : R Fl := match r with
  | .ok fl ρ => .ok fl (ρ.set i (some td))
  | .exc c fs ρ => .exc c fs (ρ.set i (some td))
  | .stuck => .stuck
def sForN (i : Nat) (g : D → PF.Env → Option PF.Env) (fb : PF.Env → R Fl) : PF.Env → R Fl := fun ρ => match ρ[i]? with
  | some (some (.L .F, .lst ds)) => giveB i (.L .F, .lst ds) (forD (stepD g fb) ds (ρ.set i none))
  | _ => sFor (iSeq (fV i)) g fb ρ
def fFz (f : PF.Env → R TD) : PF.Env → R TD := fun ρ => (f ρ).bind fun x ρ1 => .ok (.F, x.2) ρ1
variable (x : Option TD) (i : Nat)
@[simp] theorem e_fFz (f : PF.Env → R TD) : fFz f (x :: ρ) = (f (x :: ρ)).bind fun x ρ1 => .ok (.F, x.2) ρ1 := rfl
@[simp] theorem e_sForN (g : D → PF.Env → Option PF.Env) (fb : PF.Env → R Fl) : sForN i g fb (x :: ρ) = (match (x :: ρ)[i]? with
  | some (some (.L .F, .lst ds)) => giveB i (.L .F, .lst ds) (forD (stepD g fb) ds ((x :: ρ).set i none))
  | _ => sFor (iSeq (fV i)) g fb (x :: ρ)) := rfl
@[simp] theorem e_giveB (td : TD) (fl : Fl) : giveB i td (.ok fl ρ) = .ok fl (ρ.set i (some td)) := rfl
@[simp] theorem e_giveX (td : TD) (c : Nat) (fs : List (Nat × D)) : giveB i td (.exc c fs ρ) = .exc c fs (ρ.set i (some td)) := rfl
end
end PF
namespace PF
open PySem PySem.Spec L2
open PyProof.Rows hiding St
section
variable {X : Cx} {C : Ct} {q qa : Bool} {a : Expr} {fa : PF.Env → R TD} {pos p : Pos}
variable {K : PySem.W.Frag} {B : Tb} {G H : Hp}
def gIntsT (g : List Int → Option Ans) (x : TD) : Option Ans := match x.2 with
  | .tup ds => (intsD ds).bind g
  | _ => none
def gMaxT : TD → Option Ans := gIntsT fun is => (maxI is).map fun m => .p (.int m)
def gMinT : TD → Option Ans := gIntsT fun is => (minI is).map fun m => .p (.int m)
def gMaxA : TD → Option Ans := fun x => (gMax x).orElse fun _ => gMaxT x
def gMinA : TD → Option Ans := fun x => (gMin x).orElse fun _ => gMinT x
@[simp] theorem e_maxT3 (t : T) (i j k : Int) : gMaxA (t, .tup [.int i, .int j, .int k]) = some (.p (.int (max (max i j) k))) := rfl
@[simp] theorem e_minT3 (t : T) (i j k : Int) : gMinA (t, .tup [.int i, .int j, .int k]) = some (.p (.int (min (min i j) k))) := rfl
end
end PF
namespace PF
open PySem PySem.Spec L2
open PyProof.Rows hiding St
section
variable {X : Cx} {C : Ct} {q qa : Bool} {pos p : Pos} {pr P : Nat → Bool}
variable {K : PySem.W.Frag} {B : Tb} {G H : Hp}
def gSubI (fp : PF.Env → R Plc) (fi : PF.Env → R TD) : D → PF.Env → Option PF.Env := fun d ρ => match fp ρ with
  | .ok ip ρ1 => (match fi ρ1 with
    | .ok y ρ2 => (match PF.atP ρ2 ip with
      | some u => (match mSet u [(.F, d), y] with
        | some ya => PF.setP ρ2 ip ya.1
        | none => none)
      | none => none)
    | _ => none)
  | _ => none
variable (x : Option TD) (ρ : PF.Env)
@[simp] theorem e_gSubI (fp : PF.Env → R Plc) (fi : PF.Env → R TD) (d : D) : gSubI fp fi d (x :: ρ) = (match fp (x :: ρ) with
  | .ok ip ρ1 => (match fi ρ1 with
    | .ok y ρ2 => (match PF.atP ρ2 ip with
      | some u => (match mSet u [(.F, d), y] with
        | some ya => PF.setP ρ2 ip ya.1
        | none => none)
      | none => none)
    | _ => none)
  | _ => none) := rfl
end
end PF
namespace PF
open PySem PySem.Spec L2
open PyProof.Rows hiding St
section
variable {X : Cx} {C : Ct} {q qa : Bool} {a : Expr} {fa : PF.Env → R TD} {pos p : Pos}
variable {K : PySem.W.Frag} {B : Tb} {G H : Hp}
def keysN : List (D × D) → Option (List Int)
  | [] => some []
  | (.int i, _) :: r => (keysN r).map (i :: ·)
  | _ => none
/-- sorted(d), the keys ints -/
def fSortK (f : PF.Env → R TD) : PF.Env → R TD := fun ρ => (f ρ).bind fun x ρ1 => match x.2 with
  | .dct false kvs => (match keysN kvs with
    | some is => .ok (.L .F, .lst ((sortI is).map .int)) ρ1
    | none => .stuck)
  | _ => .stuck
variable (x : Option TD) (ρ : PF.Env)
@[simp] theorem e_fSortK (f : PF.Env → R TD) : fSortK f (x :: ρ) = (f (x :: ρ)).bind fun x ρ1 => (match x.2 with
  | .dct false kvs => (match keysN kvs with
    | some is => .ok (.L .F, .lst ((sortI is).map .int)) ρ1
    | none => .stuck)
  | _ => .stuck) := rfl
end
end PF
namespace PF
open PySem PySem.Spec L2
open PyProof.Rows hiding St
end PF
namespace PFD
open PySem PySem.Spec L2
open PyProof.Rows hiding St
end PFD
namespace PF
open PySem PySem.Spec L2
open PyProof.Rows hiding St
end PF
namespace PF
open PySem PySem.Spec L2
open PyProof.Rows hiding St
def kTT (iss : List (List Int)) : D := .tup (iss.map fun is => .tup (is.map fun i => .raw (.int i)))
theorem raw_nokey (is : List Int) : keyable (is.map fun i => D.raw (.int i)) = false := by
  cases is with
  | nil => rfl
  | cons i r => rfl
theorem reps_raw {K : PySem.W.Frag} {B : Tb} {G : Hp} : ∀ (is : List Int), Reps K B G (is.map fun i => D.raw (.int i)) (is.map V.int)
  | [] => by simp only [List.map_nil, Reps]
  | i :: r => by
    simp only [List.map_cons, Reps, Rep]
    exact ⟨_, _, rfl, rfl, reps_raw r⟩
theorem ints_inv {K : PySem.W.Frag} {B : Tb} {G : Hp} : ∀ {is : List Int} {vs : List V}, Reps K B G (is.map .int) vs → vs = is.map V.int
  | [], vs, h => by simpa only [List.map_nil, Reps] using h
  | i :: r, vs, h => by
    simp only [List.map_cons, Reps] at h
    obtain ⟨v, vs', e1, h1, h2⟩ := h
    simp only [Rep] at h1
    rw [e1, h1, ints_inv h2]
    rfl
theorem rowB_ok {K : PySem.W.Frag} {is : List Int} {u : Value} (h : rowB K is u = true) : ∃ v, RelV v u ∧ ∀ (B : Tb) (G : Hp), Rep K B G (.tup (is.map fun i => .raw (.int i))) v := by
  unfold rowB at h
  split at h
  · rename_i a
    split at h
    · rename_i T x its n y e
      obtain ⟨h1, h2⟩ := Bool.and_eq_true_iff.mp h
      obtain ⟨h2, h3⟩ := Bool.and_eq_true_iff.mp h2
      have hT := of_decide_eq_true h1
      subst hT
      obtain ⟨vs, rvs, rrs⟩ := kDs_ok h3
      have ev : vs = is.map V.int := ints_inv (B := ⟨fun _ => 0, fun _ => "", fun _ => True, []⟩) (G := fun _ => none) (rrs _ _)
      subst ev
      exact ⟨.ref a, rfl, fun B G => by
        simp only [Rep]
        exact ⟨a, _, rfl, ⟨.inr ⟨_, its, n, e, rfl, rfl, of_decide_eq_true h2, rvs⟩, fun q => by rw [raw_nokey] at q; cases q⟩, reps_raw is⟩⟩
    · cases h
  · cases h
theorem rowsB_ok {K : PySem.W.Frag} : ∀ {iss : List (List Int)} {us : List Value}, rowsB K iss us = true → ∃ vs, Vals vs us ∧ ∀ (B : Tb) (G : Hp), Reps K B G (iss.map fun is => .tup (is.map fun i => .raw (.int i))) vs
  | [], us, h => by
    simp only [rowsB, List.isEmpty_iff] at h
    subst h
    exact ⟨[], .nil, fun B G => by simp only [List.map_nil, Reps]⟩
  | is :: r, us, h => by
    cases us with
    | nil => simp only [rowsB] at h; cases h
    | cons u us =>
      simp only [rowsB] at h
      obtain ⟨h1, h2⟩ := Bool.and_eq_true_iff.mp h
      obtain ⟨v, rv, rr⟩ := rowB_ok h1
      obtain ⟨vs, rvs, rrs⟩ := rowsB_ok h2
      exact ⟨v :: vs, .cons rv rvs, fun B G => by simp only [List.map_cons, Reps]; exact ⟨v, vs, rfl, rr B G, rrs B G⟩⟩
/-- a raw int is an int -/
def unr (d : D) : D := match d with
  | .raw (.int i) => .int i
  | d => d
@[simp] theorem unr_raw (i : Int) : unr (.raw (.int i)) = .int i := rfl
@[simp] theorem unr_int (i : Int) : unr (.int i) = .int i := rfl
theorem rep_unr {K : PySem.W.Frag} {B : Tb} {G : Hp} {d : D} {v : V} (h : Rep K B G d v) : Rep K B G (unr d) v := by
  unfold unr
  split
  · simp only [Rep] at h ⊢
    exact h
  · exact h
def iUnr (f : PF.Env → R (List D)) : PF.Env → R (List D) := fun ρ => (f ρ).bind fun ds ρ1 => .ok (ds.map unr) ρ1
section
variable {X : Cx} {C : Ct}
def gNu (pr : Nat → Bool) (i : Nat) : D → PF.Env → Option PF.Env := fun d ρ => gN pr i (unr d) ρ
theorem dg_nameU {pr P : Nat → Bool} {pos : Pos} {i : Nat} {x : PySem.Str} (hN : X.N.Nodup) (hi : X.N[i]? = some x) (hx : Loc X.env.scope x) (hf : X.fn x = true ∨ X.env.scope.names.lookup x = some .local := by first | exact .inl rfl | exact .inr rfl | assumption) (hP : P i = true := by rfl) : DTgP X C pr P (.Name x pos) (gNu pr i) := PG.weak (dg_name (pr := pr) (P := P) (pos := pos) hN hi hx hf hP) fun v σ H Q z => by
  obtain ⟨G, ρ, ρ', κ, pv, d, ok, r, hp, e, w⟩ := z
  exact ⟨G, ρ, ρ', κ, pv, unr d, ok, rep_unr r, hp, e, w⟩
end
@[simp] theorem e_gNu (pr : Nat → Bool) (i : Nat) (d : D) (x : Option TD) (ρ : PF.Env) : gNu pr i d (x :: ρ) = gN pr i (unr d) (x :: ρ) := rfl
@[simp] theorem e_iUnr (f : PF.Env → R (List D)) (x : Option TD) (ρ : PF.Env) : iUnr f (x :: ρ) = (f (x :: ρ)).bind fun ds ρ1 => .ok (ds.map unr) ρ1 := rfl
end PF
namespace PF
open PySem PySem.Spec L2
open PyProof.Rows hiding St
section
variable {X : Cx} {C : Ct} {q qa qb : Bool} {e a b c : Expr} {f fa fb fc : PF.Env → R TD} {pos pos' p : Pos}
def isDct : D → Bool
  | .dct _ _ => true
  | _ => false
theorem isDct_eq {d : D} (h : isDct d = true) : ∃ z kvs, d = .dct z kvs := by cases d <;> first | exact ⟨_, _, rfl⟩ | cases h
theorem isD_rep {K : PySem.W.Frag} {B : Tb} {H : Hp} {z : Bool} {kvs : List (D × D)} {u : V} (r : Rep K B H (.dct z kvs) u) : ∃ a, u = .ref a ∧ IsD H a := by
  simp only [Rep] at r
  obtain ⟨a, ks, e, h1, _⟩ := r
  refine ⟨a, e, ?_⟩
  cases z with
  | false => obtain ⟨ks0, h, _⟩ := h1; exact .inl ⟨_, h⟩
  | true => obtain ⟨ks0, h, _⟩ := h1; exact .inr ⟨_, h⟩
end
end PF
namespace PF
open PySem PySem.Spec L2
open PyProof.Rows hiding St
end PF
namespace PF
open PySem PySem.Spec L2
open PyProof.Rows hiding St
end PF
namespace PF
open PySem PySem.Spec L2
open PyProof.Rows hiding St
end PF
namespace PFD
open PySem PySem.Spec L2
open PyProof.Rows hiding St
end PFD
namespace PF
open PySem PySem.Spec L2
open PyProof.Rows hiding St
section
variable {X : Cx} {C : Ct} {pr : Nat → Bool}
def sDelA (fp : PF.Env → R Plc) (fi : PF.Env → R TD) : PF.Env → R Fl := fun ρ => (fp ρ).bind fun ip ρ2 => (fi ρ2).bind fun y ρ3 => match atP ρ3 ip with
  | some u => match mDPop u [y] with
    | some ya => match setP ρ3 ip ya.1 with
      | some ρ4 => .ok .nx ρ4
      | none => .stuck
    | none => .stuck
  | none => .stuck
end
@[simp] theorem e_sDelA (fp : PF.Env → R Plc) (fi : PF.Env → R TD) (x : Option TD) (ρ : PF.Env) : sDelA fp fi (x :: ρ) = (fp (x :: ρ)).bind fun ip ρ2 => (fi ρ2).bind fun y ρ3 => match atP ρ3 ip with
  | some u => (match mDPop u [y] with
    | some ya => (match setP ρ3 ip ya.1 with
      | some ρ4 => .ok .nx ρ4
      | none => .stuck)
    | none => .stuck)
  | none => .stuck := rfl
end PF
namespace PF
open PySem PySem.Spec L2
open PyProof.Rows hiding St
end PF
namespace PF
open PySem PySem.Spec L2
open PyProof.Rows hiding St
section
variable {X : Cx} {C : Ct} {q qa : Bool} {a : Expr} {fa : PF.Env → R TD} {pos p : Pos}
def gLenD (x : TD) : Option Ans := match x.2 with
  | .dct _ kvs => some (.p (.int kvs.length))
  | _ => none
def gLenA : TD → Option Ans := fun x => (gLen x).orElse fun _ => gLenD x
def truA (d : D) : Option Bool := match d with
  | .dct _ kvs => some (decide (kvs.length ≠ 0))
  | d => truD d
def tTruA (f : PF.Env → R TD) : PF.Env → R Bool := fun ρ => (f ρ).bind fun x ρ1 => match truA x.2 with | some k => .ok k ρ1 | none => .stuck
end
@[simp] theorem e_lenAd (t : T) (z : Bool) (kvs : List (D × D)) : gLenA (t, .dct z kvs) = some (.p (.int kvs.length)) := rfl
@[simp] theorem e_lenAl (t : T) (ds : List D) : gLenA (t, .lst ds) = some (.p (.int ds.length)) := rfl
@[simp] theorem e_truAd (z : Bool) (kvs : List (D × D)) : truA (.dct z kvs) = some (decide (kvs.length ≠ 0)) := rfl
@[simp] theorem e_tTruA (f : PF.Env → R TD) (x : Option TD) (ρ : PF.Env) : tTruA f (x :: ρ) = (f (x :: ρ)).bind fun a ρ1 => (match truA a.2 with | some k => .ok k ρ1 | none => .stuck) := rfl
end PF
namespace PF
open PySem PySem.Spec L2
open PyProof.Rows hiding St
def KV.v : KV → D
  | .dv x => x
  | .tv iss => kTT iss
theorem ttB_ok {K : PySem.W.Frag} {iss : List (List Int)} {u : Value} (c : ttB K iss u = true) : ∃ v, RelV v u ∧ ∀ (B : Tb) (G : Hp), Rep K B G (kTT iss) v := by
  unfold ttB at c
  split at c
  · rename_i a
    split at c
    · rename_i T x its n y e2
      obtain ⟨h1, h2⟩ := Bool.and_eq_true_iff.mp c
      obtain ⟨h2, h3⟩ := Bool.and_eq_true_iff.mp h2
      have hT := of_decide_eq_true h1
      subst hT
      obtain ⟨vs, rvs, rrs⟩ := rowsB_ok h3
      refine ⟨.ref a, rfl, fun B G => ?_⟩
      unfold kTT
      simp only [Rep]
      refine ⟨a, vs, rfl, ⟨.inr ⟨_, its, n, e2, rfl, rfl, of_decide_eq_true h2, rvs⟩, fun q => ?_⟩, rrs B G⟩
      cases iss with
      | nil => cases q
      | cons i r => cases q
    · cases c
  · cases c
theorem kvB_ok {K : PySem.W.Frag} {x : KV} {u : Value} (c : kvB K x u = true) : ∃ v, RelV v u ∧ ∀ (B : Tb) (G : Hp), Rep K B G x.v v := by
  cases x with
  | dv y => exact kD_ok (d := y) c
  | tv iss => exact ttB_ok (iss := iss) c
/-- the module's name x holds the dict of this table -/
def KTab (K : PySem.W.Frag) (w : World) (mg : PySem.Str → Option Value) (x : PySem.Str) (tab : KTb) : Prop :=
  ∃ a es n, mg x = some (.ref a) ∧ K.lookup a = some ⟨.type "dict", none, .dict es n, #[]⟩ ∧ PySem.W.KeysLit w.params es.toList ∧ (a == sysModules) = false ∧
    ∀ k, match tab.lookup k with
      | some d => ∃ u v, PySem.W.nsIn K a k = some (some u) ∧ RelV v u ∧ ∀ (B : Tb) (G : Hp), Rep K B G d.v v
      | none => PySem.W.nsIn K a k = some none
theorem dicW_inv {K : PySem.W.Frag} {a : Addr} {l : List (Option (PySem.Str × Int))} (h : He.dicW K a = some l) : ∃ es n, K.lookup a = some ⟨.type "dict", none, .dict es n, #[]⟩ ∧ es.toList.map He.keyOf = l ∧ (a == sysModules) = false := by
  unfold He.dicW at h
  split at h
  · rename_i c es n sl e
    split at h
    · rename_i z
      obtain ⟨z1, z2⟩ := Bool.and_eq_true_iff.mp z
      obtain ⟨z3, z4⟩ := Bool.and_eq_true_iff.mp z2
      have e1 : c = "dict" := of_decide_eq_true z1
      have e2 : sl = #[] := Array.isEmpty_iff.mp z3
      subst e1 e2
      refine ⟨es, n, e, Option.some.inj h, ?_⟩
      cases y : a == sysModules with
      | false => rfl
      | true => rw [y] at z4; cases z4
    · cases h
  · cases h
theorem ns_none {K : PySem.W.Frag} {a : Addr} {es : Array DictEntry} {n : Nat} {P : Params} {ks : List PySem.Str} {k : PySem.Str} (hl : K.lookup a = some ⟨.type "dict", none, .dict es n, #[]⟩) (h : es.toList.map He.keyOf = He.keysIn P ks) (hk : k ∉ ks) : PySem.W.nsIn K a k = some none := by
  have all : ∀ (l : List DictEntry) (ks : List PySem.Str), l.map He.keyOf = He.keysIn P ks → k ∉ ks → ∀ e ∈ l, e.key.isStr k = false ∧ e.refKey = false := by
    intro l
    induction l with
    | nil => intro ks _ _ e he; cases he
    | cons e r ih =>
      intro ks h hk e' he
      cases ks with
      | nil => cases h
      | cons x ks =>
        have h1 : He.keyOf e :: r.map He.keyOf = some (x, PyData.keyHash P x) :: He.keysIn P ks := h
        injection h1 with h2 h3
        rcases List.mem_cons.mp he with z | z
        · subst z
          unfold He.keyOf at h2
          split at h2
          · rename_i y t q
            have h4 := Option.some.inj h2
            obtain ⟨h5, h6⟩ := Prod.mk.inj h4
            subst h5
            refine ⟨?_, ?_⟩
            · rw [q]
              show (y == k) = false
              exact beq_eq_false_iff_ne.mpr fun e => hk (by rw [← e]; exact List.mem_cons_self)
            · unfold DictEntry.refKey
              rw [q]
          · cases h2
        · exact ih ks h3 (fun m => hk (List.mem_cons_of_mem _ m)) e' z
  have all := all es.toList ks h hk
  unfold PySem.W.nsIn
  rw [hl]
  dsimp only
  have hf : es.toList.find? (fun x => x.key.isStr k) = none := by
    rw [List.find?_eq_none]
    intro e he
    rw [(all e he).1]
    simp
  rw [hf]
  dsimp only
  have ha : es.toList.any (fun x => x.refKey) = false := by
    rw [List.any_eq_false]
    intro e he
    rw [(all e he).2]
    simp
  rw [ha]
  rfl
theorem lookup_memS {β : Type} {x : PySem.Str} {v : β} : ∀ {l : List (PySem.Str × β)}, l.lookup x = some v → (x, v) ∈ l
  | [], h => by cases h
  | (b, u) :: r, h => by
    have h2 : (match x == b with | true => some u | false => r.lookup x) = some v := h
    cases q : (x == b) with
    | true =>
      rw [q] at h2
      cases h2
      rw [beq_iff_eq.mp q]
      exact List.mem_cons_self
    | false =>
      rw [q] at h2
      exact List.mem_cons_of_mem _ (lookup_memS h2)
theorem lookup_noneS {β : Type} {x : PySem.Str} : ∀ {l : List (PySem.Str × β)}, l.lookup x = none → x ∉ l.map (·.1)
  | [], _ => by simp
  | (b, u) :: r, h => by
    have h2 : (match x == b with | true => some u | false => r.lookup x) = none := h
    cases q : (x == b) with
    | true => rw [q] at h2; cases h2
    | false =>
      rw [q] at h2
      rw [List.map_cons, List.mem_cons]
      rintro (e | e)
      · exact absurd (beq_iff_eq.mpr e) (by rw [q]; simp)
      · exact lookup_noneS h2 e
theorem ktab_ok {K : PySem.W.Frag} {w : World} {h : Heap} {mg : PySem.Str → Option Value} {x : PySem.Str} {tab : KTb} (X : K.In h) (G : h.Ns mainGlobals mg) (hg : (He.Fa.glo x).ok K = true) (hd : He.dicW K (He.ga K x) = some (He.keysIn w.params (tab.map (·.1)))) (hv : tabVB K x tab = true) : KTab K w mg x tab := by
  obtain ⟨es, n, hl, hk, hs⟩ := dicW_inv hd
  refine ⟨He.ga K x, es, n, He.glo_ok X G hg, hl, He.keysLit_of hk, hs, fun k => ?_⟩
  cases e : tab.lookup k with
  | some d =>
    have hm := lookup_memS e
    have c := List.all_eq_true.mp hv _ hm
    dsimp only at c ⊢
    split at c
    · rename_i u eu
      obtain ⟨v, rv, rr⟩ := kvB_ok c
      exact ⟨u, v, eu, rv, rr⟩
    · cases c
  | none => exact ns_none hl hk (lookup_noneS e)
/-- the i-th table of the head -/
theorem tab_dic {fa : List He.Fa} {fn : List He.DefD} {ts : List He.Tab} {w : World} {K : PySem.W.Frag} (c : He.SaysT fa fn ts w K) (i : Nat) {t : He.Tab} (h : ts[i]? = some t := by rfl) : He.dicW K (t.1 K) = some (He.keysIn w.params t.2) := by
  have e : ts.map (fun t => He.dicW K (t.1 K)) = ts.map fun t => some (He.keysIn w.params t.2) := congrArg (fun z : He.AlT => z.2) c
  have e2 : (ts.map fun t => He.dicW K (t.1 K))[i]? = (ts.map fun t => some (He.keysIn w.params t.2))[i]? := by rw [e]
  rw [List.getElem?_map, List.getElem?_map, h] at e2
  exact Option.some.inj e2
section
variable {X : Cx} {C : Ct} {q qb : Bool} {b c : Expr} {fb fc : PF.Env → R TD}
def fKix (tab : KTb) (fi : PF.Env → R TD) : PF.Env → R TD := fun ρ => (fi ρ).bind fun y ρ1 => match y.2 with
  | .str s => match tab.lookup s with
    | some e => .ok (.F, e.v) ρ1
    | none => .stuck
  | _ => .stuck
theorem de_kix {x : PySem.Str} {p pos : Pos} {i : Expr} {fi : PF.Env → R TD} {tab : KTb} (hk : KTab X.K X.w X.mg x tab) (hg : Gl X x) (hi : DE X C q i fi) (hs : PlainIx i := by exact fun _ _ => rfl) (hd : (x == ("__debug__" : PySem.Str)) = false := by decide) :
    DE X C q (.Subscript (.Name x p) i pos) (fKix tab fi) := by
  obtain ⟨a, es, n, hm, hl, hlit, hsy, ht⟩ := hk
  refine (pe_ix ix_kdict (pe_glob (v := .ref a) hg hm rfl hd) hi hs).weak fun σ H Q z => ?_
  refine RT.bind (ka := kE) z (fun h => h) fun y v H1 G0 H0 ρ0 z1 => ?_
  obtain ⟨G, ρ, κ, W, pv, st, _, ok, tk, w⟩ := z1
  obtain ⟨l2, o2⟩ := ok.mem (r := (y.1, y.2, v)) (by simp [kE])
  cases ey : y.2 with
  | str s =>
    rw [ey] at w
    have hv : v = .str s := o2.prim (x := .str s) (by show primV y.2 = _; rw [ey]; rfl)
    subst hv
    have hts := ht s
    dsimp only at w
    cases el : tab.lookup s with
    | none => rw [el] at w; exact w.elim
    | some e =>
      rw [el] at w hts
      obtain ⟨u, v', e1, rv, rr⟩ := hts
      exact ⟨a, s, v', rfl, rfl, ⟨es, n, u, hl, hlit, e1, rv⟩, w v' G H1 trivial st (ok.drop.addF (rr _ _))⟩
  | _ => rw [ey] at w; exact w.elim
theorem pe_kget2 {x : PySem.Str} {p apos cpos : Pos} {e f : Expr} {ty tx : TE} {tab : KTb} (hk : KTab X.K X.w X.mg x tab) (hg : Gl X x) (he : PE X e ty) (hf : PE X f tx) (m : M2 X (.Name x p) "get" apos e f cpos) (hd : (x == ("__debug__" : PySem.Str)) = false := by decide) :
    PE X (.Call (.Attribute (.Name x p) "get" apos) [e, f] [] cpos) (fun σ H Q => ty σ H fun y H1 => tx σ H1 fun d H2 => ∃ s, y = .str s ∧ match tab.lookup s with
      | some kv => ∀ v, (∀ (B : Tb) (G : Hp), Rep X.K B G kv.v v) → Q v H2
      | none => Q d H2) := by
  obtain ⟨a, es, n, hm, hl, hlit, hsy, ht⟩ := hk
  refine ⟨fun pins s σ H Q I h => ?_⟩
  refine wpAny_Call_method m.base m.few m.line PySem.F.plainAttrs_dict PySem.F.slot_dict_get PySem.F.type_dict_get (thn ((pe_glob (v := .ref a) hg hm rfl hd).run pins s σ H (fun v H1 => v = .ref a ∧ ty σ H1 fun y H1 => tx σ H1 fun d H2 => ∃ s, y = .str s ∧ match tab.lookup s with
      | some kv => ∀ v, (∀ (B : Tb) (G : Hp), Rep X.K B G kv.v v) → Q v H2
      | none => Q d H2) I ⟨rfl, h⟩) fun u s1 ⟨x1, H1, I1, rx, ex, q1⟩ => ?_)
  subst ex
  obtain rfl : u = Value.ref a := rx
  have hmp := PySem.W.mapOf_K (prog := X.prog) (w := X.w) I1.kIn hl hlit
  refine ⟨hmp.typeIs, hmp.noDict, ?_⟩
  rw [m.trees]
  refine Calls.callWith_builtin rfl (Calls.evalArgs_plain (Calls.spliced_cons (thn (he.run pins s1 σ H1 _ I1 q1) fun iv s2 ⟨y, H2, I2, ry, q2⟩ =>
    Calls.spliced_cons (thn (hf.run pins s2 σ H2 _ I2 q2) fun fv s3 ⟨z, H3, I3, rz, sx, ey, q3⟩ => Calls.spliced_nil ?_))))
  subst ey
  obtain ⟨t, rfl⟩ := (show ∃ t, iv = Value.str sx t from ry)
  have hm3 := PySem.W.mapOf_K (prog := X.prog) (w := X.w) I3.kIn hl hlit
  refine call_meetsIn PySem.F.slot_dict_get hm3.typeIs PySem.F.entry_dict_get (PySem.F.args_dict_get_3 _ _ _) (meets_dict_get_default (strKind X.prog X.w) a (strKind_is X.prog X.w sx t) hsy fv) ⟨_, hm3, ?_⟩
  have hts := ht sx
  cases el : tab.lookup sx with
  | some kv =>
    rw [el] at hts q3
    obtain ⟨uu, v', e1, rv, rr⟩ := hts
    rw [PySem.W.find_K hl e1]
    exact ⟨v', H3, I3.tok _, rv, q3 v' rr⟩
  | none =>
    rw [el] at hts q3
    rw [PySem.W.find_K hl hts]
    exact ⟨z, H3, I3.tok _, rz, q3⟩
/-- x.get(k, d): the default looked at as it is -/
def fKget (tab : KTb) (fi fd : PF.Env → R TD) : PF.Env → R TD := fun ρ => (fi ρ).bind fun y ρ1 => (fd ρ1).bind fun z ρ2 => match y.2 with
  | .str s => match tab.lookup s with
    | some e => .ok (.F, e.v) ρ2
    | none => .ok (.F, z.2) ρ2
  | _ => .stuck
theorem de_kget {x : PySem.Str} {p apos cpos : Pos} {e f : Expr} {fe ff : PF.Env → R TD} {tab : KTb} (hk : KTab X.K X.w X.mg x tab) (hg : Gl X x) (he : DE X C q e fe) (hf : DE X C true f ff) (m : M2 X (.Name x p) "get" apos e f cpos := by exact ⟨rfl, rfl, rfl, rfl⟩) (hd : (x == ("__debug__" : PySem.Str)) = false := by decide) :
    DE X C q (.Call (.Attribute (.Name x p) "get" apos) [e, f] [] cpos) (fKget tab fe ff) := by
  refine (pe_kget2 hk hg he hf m hd).weak fun σ H Q z => ?_
  refine RT.bind (ka := kE) z (fun h => h) fun y v H1 G0 H0 ρ0 z1 => ?_
  refine z1.quiet (ka := kE) (fun G H G' H' lg lh h => h) fun y2 v2 H2 z2 => ?_
  obtain ⟨G, ρ, κ, W, pv, st, _, ok, tk, w⟩ := z2
  obtain ⟨l2, o2⟩ := ok.mem (r := (y.1, y.2, v)) (by simp [kE])
  cases ey : y.2 with
  | str s =>
    rw [ey] at w
    have hv : v = .str s := o2.prim (x := .str s) (by show primV y.2 = _; rw [ey]; rfl)
    subst hv
    refine ⟨s, rfl, ?_⟩
    dsimp only at w
    cases el : tab.lookup s with
    | none =>
      rw [el] at w
      obtain ⟨G2, le, ok2⟩ := StOk.freeze (t := y2.1) (d := y2.2) (show StOk X.K C.B G H2 σ ρ ((y2.1, y2.2, v2) :: ((y.1, y.2, V.str s) :: κ)) pv from ok)
      exact w v2 G2 H2 trivial ⟨st.1.trans le, st.2⟩ (ok2.permK (List.Perm.swap _ _ _)).tail
    | some e =>
      rw [el] at w
      intro v' rr
      exact w v' G H2 trivial st (ok.drop.addF (rr _ _))
  | _ => rw [ey] at w; exact w.elim
end
@[simp] theorem e_fKix (tab : KTb) (fi : PF.Env → R TD) (x : Option TD) (ρ : PF.Env) : fKix tab fi (x :: ρ) = (fi (x :: ρ)).bind fun y ρ1 => (match y.2 with
  | .str s => (match tab.lookup s with
    | some e => .ok (.F, e.v) ρ1
    | none => .stuck)
  | _ => .stuck) := rfl
@[simp] theorem e_fKget (tab : KTb) (fi fd : PF.Env → R TD) (x : Option TD) (ρ : PF.Env) : fKget tab fi fd (x :: ρ) = (fi (x :: ρ)).bind fun y ρ1 => (fd ρ1).bind fun z ρ2 => (match y.2 with
  | .str s => (match tab.lookup s with
    | some e => .ok (.F, e.v) ρ2
    | none => .ok (.F, z.2) ρ2)
  | _ => .stuck) := rfl
end PF
namespace PF
open PySem PySem.Spec L2
open PyProof.Rows hiding St
section
variable {X : Cx} {C : Ct} {q qa qb : Bool} {pos : Pos}
/-- the pairs of a display -/
def DPs (X : Cx) (C : Ct) (q : Bool) (pos : Pos) (keys : List (Option Expr)) (values : List Expr) (ks : List PySem.Str) (fl : PF.Env → R (List TD)) : Prop :=
  ∃ trs, PPs X pos keys values trs ∧ ∀ (σ : L2.St) (H : Hp) (Q' : List (V × V) → Hp → Prop), RT kA X C q fl σ H (fun vs H' => Q' ((ks.map V.str).zip vs) H') → tPairs trs σ H Q'
theorem dps_nil : DPs X C true pos [] [] [] fNil := ⟨[], pps_nil, fun σ H Q z => by
  obtain ⟨G0, H0, ρ0, z⟩ := z
  exact (Fin.end_ (k := kA) (Q := fun vs H' => Q ((([] : List PySem.Str).map V.str).zip vs) H') (b := ([] : List V)) z fun G ρ κ pv ok p => ⟨rfl, ok⟩ : (fun (vs : List V) H' => Q ((([] : List PySem.Str).map V.str).zip vs) H') [] H)⟩
theorem dps_cons {k : PySem.Str} {j : Nat} {kp : Pos} {v : Expr} {keys : List (Option Expr)} {values : List Expr} {ks : List PySem.Str} {fv : PF.Env → R TD} {fl : PF.Env → R (List TD)} (hv : DE X C qa v fv) (hr : DPs X C qb pos keys values ks fl) :
    DPs X C (qa && qb) pos (some (.Constant (.str k) j kp) :: keys) (v :: values) (k :: ks) (fCons fv fl) := by
  obtain ⟨trs, h1, h2⟩ := hr
  refine ⟨_, pps_cons (pe_str (X := X) (x := k) (j := j) (pos := kp)) hv h1, fun σ H Q z => ?_⟩
  show RT kE X C qa fv σ H _
  refine RT.bind (ka := kE) z (fun h => (Bool.and_eq_true_iff.mp h).1) fun x v1 H1 G0 H0 ρ0 z1 => ?_
  refine h2 σ H1 _ (z1.next (ka := kA) (fun h => (Bool.and_eq_true_iff.mp h).2) fun xs vs H2 z2 => ?_)
  refine Fin.end_ (b := v1 :: vs) z2 fun G ρ κ pv ok p => ⟨?_, ok.permK ?_⟩
  · exact congrArg (· + 1) p
  · show (rsL xs vs ++ [(x.1, x.2, v1)] ++ κ).Perm ((x.1, x.2, v1) :: rsL xs vs ++ κ)
    rw [List.append_assoc]
    exact List.perm_middle
def fDisp (ks : List PySem.Str) (fl : PF.Env → R (List TD)) : PF.Env → R TD := fun ρ => (fl ρ).bind fun xs ρ1 => if xs.length = ks.length then .ok (.M .F, .dct false (putsD [] ((ks.map D.str).zip (xs.map (·.2))))) ρ1 else .stuck
theorem reps_of_rsL {K : PySem.W.Frag} {B : Tb} {G H : Hp} {σ : L2.St} {ρ : PF.Env} {κ : List Rs} {pv : List (Nat × V)} : ∀ {xs : List TD} {vs : List V}, xs.length = vs.length → StOk K B G H σ ρ ((rsL xs vs).map (fun y => (T.F, y.2)) ++ κ) pv → Reps K B G (xs.map (·.2)) vs ∧ StOk K B G H σ ρ κ pv
  | [], [], _, ok => ⟨by simp only [List.map_nil, Reps], ok⟩
  | [], _ :: _, h, _ => by cases h
  | _ :: _, [], h, _ => by cases h
  | x :: xs, v :: vs, h, ok => by
    have ok1 : StOk K B G H σ ρ ((T.F, x.2, v) :: ((rsL xs vs).map (fun y => (T.F, y.2)) ++ κ)) pv := ok
    obtain ⟨r, ok2⟩ := reps_of_rsL (xs := xs) (vs := vs) (by simpa using h) ok1.tail
    refine ⟨?_, ok2⟩
    simp only [List.map_cons, Reps]
    exact ⟨v, vs, rfl, ok1.headF, r⟩
theorem repP_zip {K : PySem.W.Frag} {B : Tb} {G : Hp} : ∀ {ks : List PySem.Str} {ds : List D} {vs : List V}, ds.length = ks.length → Reps K B G ds vs → RepP K B G ((ks.map D.str).zip ds) (((ks.zip vs).map fun p => ((Sum.inr p.1 : Key), p.2)).map fun p => (keyD p.1, p.2))
  | [], [], vs, _, _ => by simp [RepP]
  | [], _ :: _, vs, h, _ => by cases h
  | _ :: _, [], vs, h, _ => by cases h
  | k :: ks, d :: ds, vs, h, r => by
    simp only [Reps] at r
    obtain ⟨v, r', e, h1, h2⟩ := r
    subst e
    simp only [List.map_cons, List.zip_cons_cons, RepP]
    exact ⟨v, _, rfl, h1, repP_zip (by simpa using h) h2⟩
theorem zip_kv : ∀ (ks : List PySem.Str) (vs : List V), (ks.map V.str).zip vs = ((ks.zip vs).map fun p => ((Sum.inr p.1 : Key), p.2)).map fun kv => (kV kv.1, kv.2)
  | [], vs => by simp
  | _ :: _, [] => by simp
  | k :: ks, v :: vs => by
    simp only [List.map_cons, List.zip_cons_cons]
    rw [← zip_kv ks vs]
    rfl
theorem de_disp {keys : List (Option Expr)} {values : List Expr} {ks : List PySem.Str} {fl : PF.Env → R (List TD)} (h : DPs X C q pos keys values ks fl) (hall : keys.all (·.isSome) = true) (hl : keys.length = values.length) (h0 : keys ≠ []) (h15 : keys.length ≤ 15) (hk : ks.length ≤ 15) :
    DE X C q (.Dict keys values pos) (fDisp ks fl) := by
  obtain ⟨trs, h1, h2⟩ := h
  refine (pe_disp h1 hall hl h0 h15).weak fun σ H Q z p hp => ?_
  obtain ⟨G0, H0, ρ0, z⟩ := z
  obtain ⟨G, ρ, κ, W, pv, st, _, ok, tk, w⟩ := z
  have ok1 := ok.newDct (z := false) hp
  refine h2 σ _ _ ?_
  unfold fDisp at w
  rw [R.wp_bind] at w
  refine ⟨G, _, ρ, G, ρ, (T.M .F, D.dct false [], V.ref p) :: κ, W, pv, .refl, trivial, ok1, tk, R.wp_mono w (fun xs ρ1 w1 vs G2 H2 rl st2 ok2 => ?_) fun c fs ρ2 w2 cls dO G' H' l xx ok' => ?_⟩
  · show H2 p = some (.dK []) ∧ ∃ kvs : List (Key × V), (ks.map V.str).zip vs = kvs.map (fun kv => (kV kv.1, kv.2)) ∧ kvs.length ≤ 15 ∧ Q (.ref p) (upd H2 p (.dK (mergeK [] kvs)))
    by_cases hx : xs.length = ks.length
    · rw [if_pos hx] at w1
      obtain ⟨G3, le3, ok3⟩ := StOk.freezes (ys := rsL xs vs) ok2
      obtain ⟨r, ok4⟩ := reps_of_rsL rl ok3
      have hp2 : H2 p = some (.dK []) := by
        obtain ⟨l, o⟩ := ok4.mem (r := (T.M .F, D.dct false [], V.ref p)) List.mem_cons_self
        simp only [Own, OwnP] at o
        obtain ⟨a, k', l', e1, ⟨ks0, e2, e3⟩, _, e4, _⟩ := o
        cases e1
        rw [e4] at e3
        have : ks0 = [] := by simpa using e3.symm
        rw [e2, this]
      refine ⟨hp2, _, zip_kv ks vs, ?_, ?_⟩
      · rw [List.length_map, List.length_zip]; omega
      · have rp := repP_zip (B := C.B) (by rw [List.length_map]; exact hx) r
        have rm := repP_puts keq_D rp (acc := []) (ac := []) (by simp only [List.map_nil, RepP])
        have o3 := ok4.rot (ys := [(T.M .F, D.dct false [], V.ref p)])
        have o4 := Okx.write (zs := [(T.M .F, D.dct false (putsD [] ((ks.map D.str).zip (xs.map (·.2)))), V.ref p)]) (p := p) (o := .dK (mergeK [] ((ks.zip vs).map fun p => ((Sum.inr p.1 : Key), p.2)))) o3 fun l hOwn nd => by
          obtain ⟨l1, l2, e5, h5, h6⟩ := hOwn
          simp only [Own, OwnP] at h5
          obtain ⟨a2, ks2, l3, e6, r5, el2, r6, r7⟩ := h5
          cases e6
          have e9 : l2 = [] := h6
          subst r7 e9 el2 e5
          refine ⟨by simp, [p], [], ⟨[p], [], rfl, ?_, rfl⟩, by simp⟩
          simp only [Own]
          exact ⟨p, _, [], rfl, ⟨_, upd_same, rfl⟩, rfl, rm.own⟩
        have ok5 := ok4.with (Okx.unrot (ys := [(T.M .F, D.dct false (putsD [] ((ks.map D.str).zip (xs.map (·.2)))), V.ref p)]) o4)
        refine w1 (.ref p) G3 _ trivial ⟨(st.1.trans st2.1).trans le3, fun hq => ⟨?_, (st2.2 hq).2.trans (st.2 hq).2⟩⟩ ok5
        intro a o ha
        have hne : a ≠ p := by
          obtain ⟨o1, h1, _⟩ := (st.2 hq).1 a o ha
          rintro rfl
          rw [hp] at h1
          cases h1
        obtain ⟨o2, h2, h3⟩ := (((st.2 hq).1.trans (.upd hp)).trans (st2.2 hq).1) a o ha
        exact ⟨o2, by rw [upd_ne hne]; exact h2, h3⟩
    · rw [if_neg hx] at w1
      exact w1.elim
  · exact w2 cls dO G' H' (st.1.trans l) xx ok'.tail
end
@[simp] theorem e_fDisp (ks : List PySem.Str) (fl : PF.Env → R (List TD)) (x : Option TD) (ρ : PF.Env) : fDisp ks fl (x :: ρ) = (fl (x :: ρ)).bind fun xs ρ1 => if xs.length = ks.length then .ok (.M .F, .dct false (putsD [] ((ks.map D.str).zip (xs.map (·.2))))) ρ1 else .stuck := rfl
end PF
namespace PF
open PySem PySem.Spec L2
open PyProof.Rows hiding St
theorem dct_getG {K : PySem.W.Frag} {B : Tb} {G H : Hp} {a : Addr} {z : Bool} {ks : List (D × V)} {kvs : List (D × D)} {y : D} {vy : V} (h : DctAt H a z ks) (r : RepP K B G kvs ks) (ry : Rep K B H y vy) (hk : okKey z y = true) :
    ∃ ov, DGet H a vy ov ∧ (match dGet kvs y with
      | some d => ∃ v, ov = some v ∧ Rep K B G d v
      | none => ov = none) := by
  have q := key_at ry hk
  cases z with
  | false =>
    obtain ⟨k, e1, e2⟩ := q
    obtain ⟨ks0, h1, h2⟩ := h
    subst e1 e2 h2
    exact ⟨valV ks0 k, .inl ⟨ks0, k, h1, rfl, rfl⟩, repP_get keq_D k r⟩
  | true =>
    obtain ⟨k, b, e1, e2, e3⟩ := q
    obtain ⟨ks0, h1, h2⟩ := h
    subst e1 e2 h2
    refine ⟨valV (dtK ks0) (k.map Sum.inl), .inr ⟨_, _, b, h1, rfl, e3, rfl⟩, ?_⟩
    rw [valV_inl]
    exact repP_get keq_T k r
def shM : T → Bool
  | .F => true
  | .M .F => true
  | _ => false
def fGetS (fa fb fc : PF.Env → R TD) : PF.Env → R TD := fun ρ => (fa ρ).bind fun x ρ1 => if isDct x.2 then (fb ρ1).bind fun y ρ2 => (fc ρ2).bind fun w ρ3 => match x.2 with
  | .dct z kvs => if shM x.1 && okKey z y.2 then (match dGet kvs y.2 with
    | some d => .ok (.F, d) ρ3
    | none => .ok (.F, w.2) ρ3) else .stuck
  | _ => .stuck else .stuck
section
variable {X : Cx} {C : Ct} {q qa qb : Bool} {e a b c : Expr} {f fa fb fc : PF.Env → R TD} {pos pos' p : Pos}
theorem de_getS {apos cpos : Pos} (hu : X.A.units + 1 < cLine) (ha : DB X C q a fa) (hb : DE X C true b fb) (hc : DE X C true c fc) (m : M2 X a "get" apos b c cpos) :
    DE X C q (.Call (.Attribute a "get" apos) [b, c] [] cpos) (fGetS fa fb fc) := by
  refine (pe_dget2 hu ha hb hc m).weak fun σ H Q z => ?_
  refine RT.bind (ka := kB) z (fun h => h) fun x v H1 G0 H0 ρ0 z1 => ?_
  cases hd : isDct x.2 with
  | true =>
    obtain ⟨zz, kvs, ed⟩ := isDct_eq hd
    have hx : ∃ a, v = .ref a ∧ IsD H1 a := by
      obtain ⟨G, ρ, κ, W, pv, st, ⟨l, o⟩, ok, tk, w⟩ := id z1
      have r := o.see ok.le
      rw [ed] at r
      exact isD_rep r
    obtain ⟨av, eav, hIs⟩ := hx
    refine ⟨av, eav, hIs, ?_⟩
    simp only [hd, if_true] at z1
    refine z1.quiet (ka := kE) kB_up fun y u H2 z2 => ?_
    refine z2.quiet (ka := kE) (fun G H G' H' lg lh h => ⟨kB_up G H G' H' lg lh h.1, trivial⟩) fun w u3 H3 z3 => ?_
    obtain ⟨G, ρ, κ, W, pv, st, ⟨⟨⟨l, o⟩, _⟩, _⟩, ok, tk, wq⟩ := z3
    have hy := ok.seeK (r := (y.1, y.2, u)) (by simp [kE])
    obtain ⟨t, d⟩ := x
    dsimp only at ed
    subst ed
    dsimp only at wq o
    split at wq
    · rename_i hk
      obtain ⟨ht, hk⟩ := Bool.and_eq_true_iff.mp hk
      obtain ⟨a2, ks, e1, h1, h2⟩ : ∃ a ks, v = .ref a ∧ DctAt H3 a zz ks ∧ RepP X.K C.B G kvs ks := by
        cases t with
        | F =>
          simp only [Own, Rep] at o
          obtain ⟨⟨a, ks, e1, h1, h2⟩, _⟩ := o
          exact ⟨a, ks, e1, ok.le.dct h1, h2⟩
        | M t' =>
          cases t' with
          | F =>
            simp only [Own] at o
            obtain ⟨a, ks, l', e1, h1, _, h2⟩ := o
            exact ⟨a, ks, e1, h1.at, h2.repF.1⟩
          | _ => cases ht
        | _ => cases ht
      rw [eav] at e1
      cases e1
      obtain ⟨ov, g, hm⟩ := dct_getG h1 h2 hy hk
      refine ⟨ov, g, ?_⟩
      cases hg : dGet kvs y.2 with
      | none =>
        rw [hg] at wq hm
        simp only at hm
        subst hm
        obtain ⟨G2, le, ok2⟩ := StOk.freeze (t := w.1) (d := w.2) (show StOk X.K C.B G H3 σ ρ ((w.1, w.2, u3) :: ((y.1, y.2, u) :: κ)) pv from ok)
        exact wq u3 G2 H3 trivial ⟨st.1.trans le, st.2⟩ (ok2.permK (List.Perm.swap _ _ _)).tail
      | some d =>
        rw [hg] at wq hm
        obtain ⟨w', ew, rw'⟩ := hm
        subst ew
        exact wq w' G H3 trivial st (ok.drop.addF rw')
    · exact wq.elim
  | false =>
    simp only [hd, Bool.false_eq_true, if_false] at z1
    exact z1.no
end
@[simp] theorem e_fGetS (fa fb fc : PF.Env → R TD) (x : Option TD) (ρ : PF.Env) : fGetS fa fb fc (x :: ρ) = (fa (x :: ρ)).bind fun x ρ1 => if isDct x.2 then (fb ρ1).bind fun y ρ2 => (fc ρ2).bind fun w ρ3 => (match x.2 with
  | .dct z kvs => if shM x.1 && okKey z y.2 then (match dGet kvs y.2 with
    | some d => .ok (.F, d) ρ3
    | none => .ok (.F, w.2) ρ3) else .stuck
  | _ => .stuck) else .stuck := rfl
@[simp] theorem e_shF : shM .F = true := rfl
@[simp] theorem e_shM : shM (.M .F) = true := rfl
end PF
namespace PF
open PySem PySem.Spec L2
open PyProof.Rows hiding St
theorem obsZG_eq {nm : List PySem.Str} {n : Nat} {fa : List He.Fa} {fn : List He.DefD} {ts : List He.Tab} {tf : List He.Defn} {ex : PySem.W.Frag → Bool} {xs : List XD} {g : Addr → Option Obj} {s : Shared} (h : ∀ a, g a = s.heap.get? a) : obsZG nm n fa fn ts tf ex xs g = (hookZ nm n fa fn ts tf ex xs).obs s := by
  have e : g = s.heap.get? := funext h
  rw [e] <;> rfl
end PF
namespace LK12
open PySem PySem.Spec L2 PF
open PyProof.Rows hiding St
theorem ex_at {K : PySem.W.Frag} (h : ex K = true) (i : Nat) {b : Bool} (e : (exs K)[i]? = some b) : b = true := List.all_eq_true.mp h b (List.mem_of_getElem? e)
theorem ob_eq (s : PySem.W.SharedT) : ob s = hk.obs s.abs := obsZG_eq (HandSHeadRun.getT_eq s)
end LK12
namespace LK12
open PySem PySem.Spec L2 PF
open PyProof.Rows hiding St
/-- rank(coordinate); names: 0 coordinate -/
def b0 (cf : Nat → List TD → RF) (pr : Nat → Bool) : PF.Env → R Fl :=
    sSeq (sRet (share (bIx (fC kRANKS_grains) (fMod (qV 0) (fC kEIGHTHS)))))
    (sNil)
/-- grain_count(size); names: 0 size -/
def b1 (cf : Nat → List TD → RF) (pr : Nat → Bool) : PF.Env → R Fl :=
    sSeq (sRet (fTimes (fC kSHARES) (fPow (qV 0) (fC (.int 3)))))
    (sNil)
/-- row_middles(size, z, y); names: 0 size, 1 z, 2 y, 3 needed, 4 x, 5 one -/
def b2 (cf : Nat → List TD → RF) (pr : Nat → Bool) : PF.Env → R Fl :=
    sSeq (sAsg pr 3 (fLc [5] (iSeq (fTup (fCons (fC (.int 0)) (fCons (fC (.int 1)) (fCons (fC (.int 2)) (fNil)))))) (gN (fun _ => false) 5) (asT (fCmp cNotIn (fV 5) (fTup (fCons (fCall 1 (cf 0) (gNm 1 (gNil))) (fCons (fCall 1 (cf 0) (gNm 2 (gNil))) (fNil)))))) (fV 5)))
    (sSeq (sIf (tOrF (asT (fCmp cIsN (fCall 1 (cf 0) (gNm 1 (gNil))) (fC .non))) (tOrF (asT (fCmp cIsN (fCall 1 (cf 0) (gNm 2 (gNil))) (fC .non))) (asT (fCmp cNe (fB1 gLen (bV 3)) (fC (.int 1)))))) (sSeq (sRet (fLst (fNil)))
    (sNil)) (sNil))
    (sSeq (sRet (fLc [4] (iRng1' (fCons (fTimes (fC kEIGHTHS) (bV 0)) (fNil))) (gN (fun _ => false) 4) (asT (fCmp cEq (fCall 1 (cf 0) (gNm 4 (gNil))) (bIx (bV 3) (fC (.int 0))))) (fV 4)))
    (sNil)))
/-- middle_of(size, grain); names: 0 size, 1 grain, 2 rest, 3 z, 4 y, 5 row -/
def b3_l0 (cf : Nat → List TD → RF) (pr : Nat → Bool) : PF.Env → R Fl :=
    sSeq (sAug pr 2 gSub (fB1 gLen (bV 5)))
    (sSeq (sAug pr 4 gAdd (fC (.int 1)))
    (sSeq (sAsg pr 5 (fCall 3 (cf 2) (gNm 0 (gNm 3 (gNm 4 (gNil))))))
    (sNil)))
def b3_l1 (cf : Nat → List TD → RF) (pr : Nat → Bool) : PF.Env → R Fl :=
    sSeq (sAug pr 2 gSub (fTimes (bIx (fC kLAYERS) (fMod (qV 3) (fC kEIGHTHS))) (fPow (qV 0) (fC (.int 2)))))
    (sSeq (sAug pr 3 gAdd (fC (.int 1)))
    (sNil))
def b3 (cf : Nat → List TD → RF) (pr : Nat → Bool) : PF.Env → R Fl :=
    sSeq (sAsg pr 2 (fV 1))
    (sSeq (sAsg pr 3 (fC (.int 0)))
    (sSeq (sWhile 1000000000 (asT (fCmp cGe (bV 2) (fTimes (bIx (fC kLAYERS) (fMod (qV 3) (fC kEIGHTHS))) (fPow (qV 0) (fC (.int 2)))))) (b3_l1 cf pr))
    (sSeq (sAsg pr 4 (fC (.int 0)))
    (sSeq (sAsg pr 5 (fCall 3 (cf 2) (gNm 0 (gNm 3 (gNm 4 (gNil))))))
    (sSeq (sWhile 1000000000 (asT (fCmp cGe (bV 2) (fB1 gLen (bV 5)))) (b3_l0 cf pr))
    (sSeq (sRet (fTup (fCons (share (bIx (bV 5) (qV 2))) (fCons (fV 4) (fCons (fV 3) (fNil))))))
    (sNil)))))))
/-- disc_bound(radius); names: 0 radius -/
def b4 (cf : Nat → List TD → RF) (pr : Nat → Bool) : PF.Env → R Fl :=
    sSeq (sRet (fDiv (fPlus (fTimes (fC (.int 181)) (bV 0)) (fC (.int 64))) (fC (.int 128))))
    (sNil)
/-- in_disc(du, dv, radius, scale); names: 0 du, 1 dv, 2 radius, 3 scale -/
def b5 (cf : Nat → List TD → RF) (pr : Nat → Bool) : PF.Env → R Fl :=
    sSeq (sPar pr 0 1 (fCons (fB1 gAbs (bV 0)) (fCons (fB1 gAbs (bV 1)) (fNil))))
    (sSeq (sRet (fAndV (fCmp cLe (bV 0) (fTimes (bV 3) (bV 2))) (fAndV (fCmp cLe (bV 1) (fTimes (bV 3) (bV 2))) (fCmp cLe (fPlus (bV 0) (bV 1)) (fTimes (fV 3) (fCall 1 (cf 4) (gNm 2 (gNil))))))))
    (sNil))
/-- check_size(size); names: 0 size -/
def b6 (cf : Nat → List TD → RF) (pr : Nat → Bool) : PF.Env → R Fl :=
    sSeq (sIf (tNotF (asT (fChain cLe cLe (fC kLEAST) (qV 0) (fC kMOST)))) (sSeq (sRaise 2 [0] (fCons (fV 0) (fNil)))
    (sNil)) (sNil))
    (sNil)
/-- mask_of(grains); names: 0 grains, 1 mask, 2 grain -/
def b7_l0 (cf : Nat → List TD → RF) (pr : Nat → Bool) : PF.Env → R Fl :=
    sSeq (sAug pr 1 gOr (fShl (fC (.int 1)) (qV 2)))
    (sNil)
def b7 (cf : Nat → List TD → RF) (pr : Nat → Bool) : PF.Env → R Fl :=
    sSeq (sAsg pr 1 (fC (.int 0)))
    (sSeq (sFor (iSeq (fV 0)) (gN pr 2) (b7_l0 cf pr))
    (sSeq (sRetV pr 1)
    (sNil)))
/-- bits_of(mask); names: 0 mask, 1 found, 2 place -/
def b8_l0 (cf : Nat → List TD → RF) (pr : Nat → Bool) : PF.Env → R Fl :=
    sSeq (sIf (asT (fCmp cEq (fMod (qV 0) (fC (.int 2))) (fC (.int 1)))) (sSeq (sExpr (fMu 0 (pN 1) mAppend (fCons (fV 2) (fNil))))
    (sNil)) (sNil))
    (sSeq (sAsg pr 0 (fShr (qV 0) (fC (.int 1))))
    (sSeq (sAug pr 2 gAdd (fC (.int 1)))
    (sNil)))
def b8 (cf : Nat → List TD → RF) (pr : Nat → Bool) : PF.Env → R Fl :=
    sSeq (sAsg pr 1 (fLst (fNil)))
    (sSeq (sAsg pr 2 (fC (.int 0)))
    (sSeq (sWhile 1000000000 (asT (fCmp cGt (bV 0) (fC (.int 0)))) (b8_l0 cf pr))
    (sSeq (sRetV pr 1)
    (sNil))))
/-- Solid.__init__(self, size, grains); names: 0 self, 1 size, 2 grains, 3 grain -/
def b9_l0 (cf : Nat → List TD → RF) (pr : Nat → Bool) : PF.Env → R Fl :=
    sSeq (sIf (tNotF (asT (fChain cLe cLt (fC (.int 0)) (qV 3) (fCall 1 (cf 1) (gNm 1 (gNil)))))) (sSeq (sRaise 3 [3] (fCons (fV 3) (fNil)))
    (sNil)) (sNil))
    (sNil)
def b9 (cf : Nat → List TD → RF) (pr : Nat → Bool) : PF.Env → R Fl :=
    sSeq (sExpr (fCall 1 (cf 6) (gNm 1 (gNil))))
    (sSeq (sFor (iSeq (fV 2)) (gN pr 3) (b9_l0 cf pr))
    (sSeq (sFld 0 0 (fV 1))
    (sSeq (sFld 0 1 (fCall 1 (cf 7) (gNm 2 (gNil))))
    (sNil))))
/-- Solid.grains(self); names: 0 self -/
def b10 (cf : Nat → List TD → RF) (pr : Nat → Bool) : PF.Env → R Fl :=
    sSeq (sRet (fCall 1 (cf 8) (gVal (share (bFld 1 (bV 0))) (gNil))))
    (sNil)
/-- field_count(kind); names: 0 kind -/
def b11 (cf : Nat → List TD → RF) (pr : Nat → Bool) : PF.Env → R Fl :=
    sSeq (sRet (share (fKix kt_FIELD_COUNTS (qV 0))))
    (sNil)
/-- check_fields(kind, fields); names: 0 kind, 1 fields, 2 index, 3 least, 4 greatest -/
def b12_l0 (cf : Nat → List TD → RF) (pr : Nat → Bool) : PF.Env → R Fl :=
    sSeq (sIf (tNotF (asT (fChain cLe cLe (qV 3) (share (bIx (bV 1) (qV 2))) (bV 4)))) (sSeq (sRaise 1 [2] (fCons (fV 2) (fNil)))
    (sNil)) (sNil))
    (sNil)
def b12 (cf : Nat → List TD → RF) (pr : Nat → Bool) : PF.Env → R Fl :=
    sSeq (sFor (iSeq (fKget kt_BOUNDS (qV 0) (fTup (fNil)))) (gT 3 (gsCons (gNu pr 2) (gsCons (gNu pr 3) (gsCons (gNu pr 4) (gsNil))))) (b12_l0 cf pr))
    (sNil)
/-- other_axes(axis); names: 0 axis, 1 other -/
def b13 (cf : Nat → List TD → RF) (pr : Nat → Bool) : PF.Env → R Fl :=
    sSeq (sRet (fLc [1] (iSeq (fTup (fCons (fC (.int 0)) (fCons (fC (.int 1)) (fCons (fC (.int 2)) (fNil)))))) (gN (fun _ => false) 1) (asT (fCmp cNe (bV 1) (bV 0))) (fV 1)))
    (sNil)
/-- is_from_to(number, first, second); names: 0 number, 1 first, 2 second -/
def b14 (cf : Nat → List TD → RF) (pr : Nat → Bool) : PF.Env → R Fl :=
    sSeq (sRet (fChain cLe cLe (fTimes (fC (.int 8)) (fI2 (fun i j => if j < i then j else i) (fCons (qV 1) (fCons (qV 2) (fNil))))) (qV 0) (fTimes (fC (.int 8)) (fI2 (fun i j => if j > i then j else i) (fCons (qV 1) (fCons (qV 2) (fNil)))))))
    (sNil)
/-- in_block(middle, fields); names: 0 middle, 1 fields, 2 axis -/
def b15 (cf : Nat → List TD → RF) (pr : Nat → Bool) : PF.Env → R Fl :=
    sSeq (sRet (fB1 gAll (fLc [2] (iRng1' (fCons (fC (.int 3)) (fNil))) (gN (fun _ => false) 2) (tYesF) (fChain cLe cLe (fTimes (fC (.int 8)) (bIx (bV 1) (qV 2))) (share (bIx (bV 0) (qV 2))) (fTimes (fC (.int 8)) (bIx (bV 1) (fPlus (fC (.int 3)) (bV 2))))))))
    (sNil)
/-- in_wedge(middle, fields); names: 0 middle, 1 fields, 2 way, 3 axes, 4 widths, 5 total, 6 k, 7 axis -/
def b16_l0 (cf : Nat → List TD → RF) (pr : Nat → Bool) : PF.Env → R Fl :=
    sSeq (sIf (asT (fCmp cEq (fMod (fDiv (qV 2) (fPlus (fC (.int 1)) (bV 6))) (fC (.int 2))) (fC (.int 1)))) (sSeq (sAug pr 5 gAdd (fSub (fTimes (fC (.int 8)) (bIx (bV 1) (fPlus (fC (.int 3)) (bIx (bV 3) (qV 6))))) (share (bIx (bV 0) (share (bIx (bV 3) (qV 6)))))))
    (sNil)) (sSeq (sAug pr 5 gAdd (fSub (share (bIx (bV 0) (share (bIx (bV 3) (qV 6))))) (fTimes (fC (.int 8)) (bIx (bV 1) (share (bIx (bV 3) (qV 6)))))))
    (sNil)))
    (sNil)
def b16 (cf : Nat → List TD → RF) (pr : Nat → Bool) : PF.Env → R Fl :=
    sSeq (sAsg pr 2 (share (bIx (bV 1) (fC (.int 6)))))
    (sSeq (sAsg pr 3 (fCall 1 (cf 13) (gVal (fDiv (qV 2) (fC (.int 4))) (gNil))))
    (sSeq (sAsg pr 4 (fLc [7] (iSeq (fV 3)) (gN (fun _ => false) 7) (tYesF) (fSub (share (bIx (bV 1) (fPlus (fC (.int 3)) (bV 7)))) (share (bIx (bV 1) (qV 7))))))
    (sSeq (sIf (tOrF (tNotF (tTru (fCall 2 (cf 15) (gNm 0 (gNm 1 (gNil)))))) (asT (fCmp cNe (bIx (bV 4) (fC (.int 0))) (bIx (bV 4) (fC (.int 1)))))) (sSeq (sRet (fC (.bl false)))
    (sNil)) (sNil))
    (sSeq (sAsg pr 5 (fC (.int 0)))
    (sSeq (sFor (iRng1' (fCons (fC (.int 2)) (fNil))) (gN pr 6) (b16_l0 cf pr))
    (sSeq (sRet (fCmp cLe (bV 5) (fTimes (fC (.int 8)) (bIx (bV 4) (fC (.int 0))))))
    (sNil)))))))
/-- in_hole(middle, axis, fields); names: 0 middle, 1 axis, 2 fields, 3 u, 4 v -/
def b17 (cf : Nat → List TD → RF) (pr : Nat → Bool) : PF.Env → R Fl :=
    sSeq (sTg (gT 2 (gsCons (gN pr 3) (gsCons (gN pr 4) (gsNil)))) (fCall 1 (cf 13) (gNm 1 (gNil))))
    (sSeq (sIf (tNotF (tTru (fCall 3 (cf 14) (gVal (share (bIx (bV 0) (qV 1))) (gVal (share (bIx (bV 2) (fC (.int 2)))) (gVal (share (bIx (bV 2) (fC (.int 3)))) (gNil))))))) (sSeq (sRet (fC (.bl false)))
    (sNil)) (sNil))
    (sSeq (sRet (fCall 4 (cf 5) (gVal (fSub (share (bIx (bV 0) (qV 3))) (fTimes (fC (.int 8)) (bIx (bV 2) (fC (.int 0))))) (gVal (fSub (share (bIx (bV 0) (qV 4))) (fTimes (fC (.int 8)) (bIx (bV 2) (fC (.int 1))))) (gVal (share (bIx (bV 2) (fC (.int 4)))) (gVal (fC (.int 8)) (gNil)))))))
    (sNil)))
/-- in_step(middle, axis, fields); names: 0 middle, 1 axis, 2 fields, 3 wider -/
def b18 (cf : Nat → List TD → RF) (pr : Nat → Bool) : PF.Env → R Fl :=
    sSeq (sAsg pr 3 (fTup (fCons (share (bIx (bV 2) (fC (.int 0)))) (fCons (share (bIx (bV 2) (fC (.int 1)))) (fCons (share (bIx (bV 2) (fC (.int 2)))) (fCons (share (bIx (bV 2) (fC (.int 5)))) (fCons (share (bIx (bV 2) (fC (.int 6)))) (fNil))))))))
    (sSeq (sRet (fOrV (fCall 3 (cf 17) (gNm 0 (gNm 1 (gVal (fSl (bV 2) (oNone) (oSome (fC (.int 5)))) (gNil))))) (fCall 3 (cf 17) (gNm 0 (gNm 1 (gNm 3 (gNil)))))))
    (sNil))
/-- in_sink(middle, axis, fields); names: 0 middle, 1 axis, 2 fields, 3 u, 4 v, 5 reach -/
def b19 (cf : Nat → List TD → RF) (pr : Nat → Bool) : PF.Env → R Fl :=
    sSeq (sTg (gT 2 (gsCons (gN pr 3) (gsCons (gN pr 4) (gsNil)))) (fCall 1 (cf 13) (gNm 1 (gNil))))
    (sSeq (sIf (tNotF (tTru (fCall 3 (cf 14) (gVal (share (bIx (bV 0) (qV 1))) (gVal (share (bIx (bV 2) (fC (.int 2)))) (gVal (share (bIx (bV 2) (fC (.int 3)))) (gNil))))))) (sSeq (sRet (fC (.bl false)))
    (sNil)) (sNil))
    (sSeq (sAsg pr 5 (fSub (fTimes (fC (.int 8)) (bIx (bV 2) (fC (.int 4)))) (fB1 gAbs (fSub (share (bIx (bV 0) (qV 1))) (fTimes (fC (.int 8)) (bIx (bV 2) (fC (.int 2))))))))
    (sSeq (sRet (fAndV (fCmp cLe (fB1 gAbs (fSub (share (bIx (bV 0) (qV 3))) (fTimes (fC (.int 8)) (bIx (bV 2) (fC (.int 0)))))) (bV 5)) (fCmp cLe (fB1 gAbs (fSub (share (bIx (bV 0) (qV 4))) (fTimes (fC (.int 8)) (bIx (bV 2) (fC (.int 1)))))) (bV 5))))
    (sNil))))
/-- is_plain(kind, middle, axis, fields); names: 0 kind, 1 middle, 2 axis, 3 fields -/
def b20 (cf : Nat → List TD → RF) (pr : Nat → Bool) : PF.Env → R Fl :=
    sSeq (sIf (asT (fCmp cEq (bV 0) (fC (.str (PySem.Str.ofString "block"))))) (sSeq (sRet (fCall 2 (cf 15) (gNm 1 (gNm 3 (gNil)))))
    (sNil)) (sNil))
    (sSeq (sIf (asT (fCmp cEq (bV 0) (fC (.str (PySem.Str.ofString "wedge"))))) (sSeq (sRet (fCall 2 (cf 16) (gNm 1 (gNm 3 (gNil)))))
    (sNil)) (sNil))
    (sSeq (sIf (asT (fCmp cEq (bV 0) (fC (.str (PySem.Str.ofString "hole"))))) (sSeq (sRet (fCall 3 (cf 17) (gNm 1 (gNm 2 (gNm 3 (gNil))))))
    (sNil)) (sNil))
    (sSeq (sIf (asT (fCmp cEq (bV 0) (fC (.str (PySem.Str.ofString "step"))))) (sSeq (sRet (fCall 3 (cf 18) (gNm 1 (gNm 2 (gNm 3 (gNil))))))
    (sNil)) (sNil))
    (sSeq (sRet (fCall 3 (cf 19) (gNm 1 (gNm 2 (gNm 3 (gNil))))))
    (sNil)))))
/-- body_of(size, kind, fields, sketch, values, axis); names: 0 size, 1 kind, 2 fields, 3 sketch, 4 values, 5 axis, 6 grains, 7 plane, 8 grain -/
def b21 (cf : Nat → List TD → RF) (pr : Nat → Bool) : PF.Env → R Fl :=
    sSeq (sExpr (fCall 2 (cf 12) (gNm 1 (gNm 2 (gNil)))))
    (sSeq (sAsg pr 6 (fLRng (fOne (fCall 1 (cf 1) (gNm 0 (gNil))))))
    (sSeq (sIf (asT (fCmp cNotIn (bV 1) (fC kSKETCH_KINDS))) (sSeq (sRet (fMake 0 3 (cf 9) (gNm 0 (gVal (fLc [8] (iSeq (fV 6)) (gN (fun _ => false) 8) (tTru (fCall 4 (cf 20) (gNm 1 (gVal (fCall 2 (cf 3) (gNm 0 (gNm 8 (gNil)))) (gNm 5 (gNm 2 (gNil))))))) (fV 8)) (gNil)))))
    (sNil)) (sNil))
    (sSeq (sNever)
    (sSeq (sNever)
    (sSeq (sNever)
    (sNil))))))
/-- _law_cell(script, k); names: 0 script, 1 k -/
def b22 (cf : Nat → List TD → RF) (pr : Nat → Bool) : PF.Env → R Fl :=
    sSeq (sIf (asT (fCmp cLt (bV 1) (fB1 gLen (bV 0)))) (sSeq (sRet (fB1 gInt (bIx (bV 0) (qV 1))))
    (sNil)) (sNil))
    (sSeq (sRet (fC (.int 0)))
    (sNil))
/-- _law_middles(size); names: 0 size, 1 found, 2 z, 3 y, 4 x, 5 rests, 6 one -/
def b23_l0 (cf : Nat → List TD → RF) (pr : Nat → Bool) : PF.Env → R Fl :=
    sSeq (sAsg pr 5 (fLc [6] (iSeq (fLst (fCons (fV 4) (fCons (fV 3) (fCons (fV 2) (fNil)))))) (gN (fun _ => false) 6) (tYesF) (fMod (fB1 gInt (bV 6)) (fC (.int 8)))))
    (sSeq (sIf (tAndF (asT (fCmp cIn (fC (.int 4)) (bV 5))) (tAndF (tOrF (asT (fCmp cIn (fC (.int 2)) (bV 5))) (asT (fCmp cIn (fC (.int 6)) (bV 5)))) (tOrF (asT (fCmp cIn (fC (.int 1)) (bV 5))) (asT (fCmp cIn (fC (.int 7)) (bV 5)))))) (sSeq (sExpr (fMu 0 (pN 1) mAppend (fCons (fTup (fCons (fV 4) (fCons (fV 3) (fCons (fV 2) (fNil))))) (fNil))))
    (sNil)) (sNil))
    (sNil))
def b23_l1 (cf : Nat → List TD → RF) (pr : Nat → Bool) : PF.Env → R Fl :=
    sSeq (sFor (iRng1' (fCons (fTimes (fC (.int 8)) (bV 0)) (fNil))) (gN pr 4) (b23_l0 cf pr))
    (sNil)
def b23_l2 (cf : Nat → List TD → RF) (pr : Nat → Bool) : PF.Env → R Fl :=
    sSeq (sFor (iRng1' (fCons (fTimes (fC (.int 8)) (bV 0)) (fNil))) (gN pr 3) (b23_l1 cf pr))
    (sNil)
def b23 (cf : Nat → List TD → RF) (pr : Nat → Bool) : PF.Env → R Fl :=
    sSeq (sAsg pr 1 (fLst (fNil)))
    (sSeq (sFor (iRng1' (fCons (fTimes (fC (.int 8)) (bV 0)) (fNil))) (gN pr 2) (b23_l2 cf pr))
    (sSeq (sRetV pr 1)
    (sNil)))
/-- _law_others(axis); names: 0 axis -/
def b24 (cf : Nat → List TD → RF) (pr : Nat → Bool) : PF.Env → R Fl :=
    sSeq (sRet (share (bIx (fLst (fCons (fLst (fCons (fC (.int 1)) (fCons (fC (.int 2)) (fNil)))) (fCons (fLst (fCons (fC (.int 0)) (fCons (fC (.int 2)) (fNil)))) (fCons (fLst (fCons (fC (.int 0)) (fCons (fC (.int 1)) (fNil)))) (fNil))))) (qV 0))))
    (sNil)
/-- _law_within(number, one, two); names: 0 number, 1 one, 2 two -/
def b25 (cf : Nat → List TD → RF) (pr : Nat → Bool) : PF.Env → R Fl :=
    sSeq (sRet (fChain cLe cLe (fTimes (fC (.int 8)) (fI2 (fun i j => if j < i then j else i) (fCons (qV 1) (fCons (qV 2) (fNil))))) (qV 0) (fTimes (fC (.int 8)) (fI2 (fun i j => if j > i then j else i) (fCons (qV 1) (fCons (qV 2) (fNil)))))))
    (sNil)
/-- _law_round(du, dv, radius); names: 0 du, 1 dv, 2 radius -/
def b26 (cf : Nat → List TD → RF) (pr : Nat → Bool) : PF.Env → R Fl :=
    sSeq (sAsg pr 0 (fB1 gAbs (bV 0)))
    (sSeq (sAsg pr 1 (fB1 gAbs (bV 1)))
    (sSeq (sRet (fAndV (fCmp cLe (fI2 (fun i j => if j > i then j else i) (fCons (qV 0) (fCons (qV 1) (fNil)))) (fTimes (fC (.int 8)) (bV 2))) (fCmp cLe (fPlus (bV 0) (bV 1)) (fTimes (fC (.int 8)) (fDiv (fPlus (fTimes (fC (.int 181)) (bV 2)) (fC (.int 64))) (fC (.int 128)))))))
    (sNil)))
/-- _law_has(kind, middle_v, axis, f); names: 0 kind, 1 middle_v, 2 axis, 3 f, 4 u, 5 v, 6 k, 7 p, 8 q, 9 first, 10 second, 11 reach, 12 near -/
def b27_l0 (cf : Nat → List TD → RF) (pr : Nat → Bool) : PF.Env → R Fl :=
    sSeq (sIf (tNotF (asT (fChain cLe cLe (fTimes (fC (.int 8)) (bIx (bV 3) (qV 6))) (share (bIx (bV 1) (qV 6))) (fTimes (fC (.int 8)) (bIx (bV 3) (fPlus (fC (.int 3)) (bV 6))))))) (sSeq (sRet (fC (.bl false)))
    (sNil)) (sNil))
    (sNil)
def b27 (cf : Nat → List TD → RF) (pr : Nat → Bool) : PF.Env → R Fl :=
    sSeq (sTg (gT 2 (gsCons (gN pr 4) (gsCons (gN pr 5) (gsNil)))) (fCall 1 (cf 24) (gNm 2 (gNil))))
    (sSeq (sIf (tOrF (asT (fCmp cEq (bV 0) (fC (.str (PySem.Str.ofString "block"))))) (asT (fCmp cEq (bV 0) (fC (.str (PySem.Str.ofString "wedge")))))) (sSeq (sFor (iRng1' (fCons (fC (.int 3)) (fNil))) (gN pr 6) (b27_l0 cf pr))
    (sSeq (sIf (asT (fCmp cEq (bV 0) (fC (.str (PySem.Str.ofString "block"))))) (sSeq (sRet (fC (.bl true)))
    (sNil)) (sNil))
    (sSeq (sTg (gT 2 (gsCons (gN pr 7) (gsCons (gN pr 8) (gsNil)))) (fCall 1 (cf 24) (gVal (fDiv (share (bIx (bV 3) (fC (.int 6)))) (fC (.int 4))) (gNil))))
    (sSeq (sAsg pr 9 (fSub (share (bIx (bV 1) (qV 7))) (fTimes (fC (.int 8)) (bIx (bV 3) (qV 7)))))
    (sSeq (sAsg pr 10 (fSub (share (bIx (bV 1) (qV 8))) (fTimes (fC (.int 8)) (bIx (bV 3) (qV 8)))))
    (sSeq (sIf (asT (fCmp cIn (bIx (bV 3) (fC (.int 6))) (fLst (fCons (fC (.int 1)) (fCons (fC (.int 3)) (fCons (fC (.int 5)) (fCons (fC (.int 7)) (fCons (fC (.int 9)) (fCons (fC (.int 11)) (fNil)))))))))) (sSeq (sAsg pr 9 (fSub (fTimes (fC (.int 8)) (bIx (bV 3) (fPlus (fC (.int 3)) (bV 7)))) (share (bIx (bV 1) (qV 7)))))
    (sNil)) (sNil))
    (sSeq (sIf (asT (fCmp cIn (bIx (bV 3) (fC (.int 6))) (fLst (fCons (fC (.int 2)) (fCons (fC (.int 3)) (fCons (fC (.int 6)) (fCons (fC (.int 7)) (fCons (fC (.int 10)) (fCons (fC (.int 11)) (fNil)))))))))) (sSeq (sAsg pr 10 (fSub (fTimes (fC (.int 8)) (bIx (bV 3) (fPlus (fC (.int 3)) (bV 8)))) (share (bIx (bV 1) (qV 8)))))
    (sNil)) (sNil))
    (sSeq (sRet (fAndV (fCmp cEq (fSub (share (bIx (bV 3) (fPlus (fC (.int 3)) (bV 7)))) (share (bIx (bV 3) (qV 7)))) (fSub (share (bIx (bV 3) (fPlus (fC (.int 3)) (bV 8)))) (share (bIx (bV 3) (qV 8))))) (fCmp cLe (fPlus (bV 9) (bV 10)) (fTimes (fC (.int 8)) (fSub (share (bIx (bV 3) (fPlus (fC (.int 3)) (bV 7)))) (share (bIx (bV 3) (qV 7))))))))
    (sNil))))))))) (sNil))
    (sSeq (sIf (tNotF (tTru (fCall 3 (cf 25) (gVal (share (bIx (bV 1) (qV 2))) (gVal (share (bIx (bV 3) (fC (.int 2)))) (gVal (share (bIx (bV 3) (fC (.int 3)))) (gNil))))))) (sSeq (sIf (tOrF (asT (fCmp cNe (bV 0) (fC (.str (PySem.Str.ofString "step"))))) (tNotF (tTru (fCall 3 (cf 25) (gVal (share (bIx (bV 1) (qV 2))) (gVal (share (bIx (bV 3) (fC (.int 2)))) (gVal (share (bIx (bV 3) (fC (.int 5)))) (gNil)))))))) (sSeq (sRet (fC (.bl false)))
    (sNil)) (sNil))
    (sSeq (sRet (fCall 3 (cf 26) (gVal (fSub (share (bIx (bV 1) (qV 4))) (fTimes (fC (.int 8)) (bIx (bV 3) (fC (.int 0))))) (gVal (fSub (share (bIx (bV 1) (qV 5))) (fTimes (fC (.int 8)) (bIx (bV 3) (fC (.int 1))))) (gVal (share (bIx (bV 3) (fC (.int 6)))) (gNil))))))
    (sNil))) (sNil))
    (sSeq (sIf (asT (fCmp cEq (bV 0) (fC (.str (PySem.Str.ofString "sink"))))) (sSeq (sAsg pr 11 (fSub (fTimes (fC (.int 8)) (bIx (bV 3) (fC (.int 4)))) (fB1 gAbs (fSub (share (bIx (bV 1) (qV 2))) (fTimes (fC (.int 8)) (bIx (bV 3) (fC (.int 2))))))))
    (sSeq (sRet (fCmp cLe (fI2 (fun i j => if j > i then j else i) (fCons (fB1 gAbs (fSub (share (bIx (bV 1) (qV 4))) (fTimes (fC (.int 8)) (bIx (bV 3) (fC (.int 0)))))) (fCons (fB1 gAbs (fSub (share (bIx (bV 1) (qV 5))) (fTimes (fC (.int 8)) (bIx (bV 3) (fC (.int 1)))))) (fNil)))) (bV 11)))
    (sNil))) (sNil))
    (sSeq (sAsg pr 12 (fCall 3 (cf 26) (gVal (fSub (share (bIx (bV 1) (qV 4))) (fTimes (fC (.int 8)) (bIx (bV 3) (fC (.int 0))))) (gVal (fSub (share (bIx (bV 1) (qV 5))) (fTimes (fC (.int 8)) (bIx (bV 3) (fC (.int 1))))) (gVal (share (bIx (bV 3) (fC (.int 4)))) (gNil))))))
    (sSeq (sIf (tAndF (asT (fCmp cEq (bV 0) (fC (.str (PySem.Str.ofString "step"))))) (tTru (fCall 3 (cf 25) (gVal (share (bIx (bV 1) (qV 2))) (gVal (share (bIx (bV 3) (fC (.int 2)))) (gVal (share (bIx (bV 3) (fC (.int 5)))) (gNil))))))) (sSeq (sAsg pr 12 (fOrV (qV 12) (fCall 3 (cf 26) (gVal (fSub (share (bIx (bV 1) (qV 4))) (fTimes (fC (.int 8)) (bIx (bV 3) (fC (.int 0))))) (gVal (fSub (share (bIx (bV 1) (qV 5))) (fTimes (fC (.int 8)) (bIx (bV 3) (fC (.int 1))))) (gVal (share (bIx (bV 3) (fC (.int 6)))) (gNil)))))))
    (sNil)) (sNil))
    (sSeq (sRetV pr 12)
    (sNil)))))))
/-- _law_made(size, kind, fields, axis); names: 0 size, 1 kind, 2 fields, 3 axis, 4 e -/
def b28_h0 (cf : Nat → List TD → RF) (pr : Nat → Bool) (c : Nat) (fs : List (Nat × D)) : PF.Env → R Fl :=
    sSeq (sRet (fTup (fCons (fC (.str (PySem.Str.ofString "fault"))) (fCons (fXf fs 2) (fCons (fXi (subOf i_LoftError c)) (fNil))))))
    (sNil)
def b28 (cf : Nat → List TD → RF) (pr : Nat → Bool) : PF.Env → R Fl :=
    sSeq (sTry pr (sSeq (sRet (fTup (fCons (fC (.str (PySem.Str.ofString "body"))) (fCons (fMethV 0 1 (cf 10) (fCall 6 (cf 21) (gNm 0 (gNm 1 (gNm 2 (gVal (fC .non) (gVal (fC .non) (gNm 3 (gNil)))))))) (gNil)) (fNil)))))
    (sNil)) [⟨subOf h_FieldFault, some 4, b28_h0 cf (prX pr 4)⟩])
    (sNil)
/-- law(script); names: 0 script, 1 first, 2 size, 3 kind, 4 counts, 5 name, 6 middles_v, 7 j, 8 fields, 9 k, 10 cell, 11 p, 12 q, 13 axis, 14 due, 15 bounds, 16 row -/
def b29_l0 (cf : Nat → List TD → RF) (pr : Nat → Bool) : PF.Env → R Fl :=
    sSeq (sIf (tAndF (asT (fCmp cIsN (bV 14) (fC .non))) (tNotF (asT (fChain cLe cLe (share (bIx (bV 16) (fC (.int 1)))) (share (bIx (bV 8) (share (bIx (bV 16) (fC (.int 0)))))) (bIx (bV 16) (fC (.int 2))))))) (sSeq (sAsg pr 14 (fTup (fCons (fC (.str (PySem.Str.ofString "fault"))) (fCons (share (bIx (bV 16) (fC (.int 0)))) (fCons (fC (.bl true)) (fNil))))))
    (sNil)) (sNil))
    (sNil)
def b29_l1 (cf : Nat → List TD → RF) (pr : Nat → Bool) : PF.Env → R Fl :=
    sSeq (sAsg pr 10 (fB1 gAbs (fCall 2 (cf 22) (gNm 0 (gVal (fPlus (fPlus (fC (.int 1)) (fTimes (fC (.int 10)) (bV 7))) (bV 9)) (gNil))))))
    (sSeq (sExpr (fMu 0 (pN 8) mAppend (fCons (fSub (fMod (qV 10) (fPlus (bV 2) (fC (.int 3)))) (fC (.int 1))) (fNil))))
    (sSeq (sIf (asT (fCmp cEq (fMod (fDiv (qV 10) (fC (.int 20))) (fC (.int 15))) (fC (.int 7)))) (sSeq (sSetI (pN 8) (qV 9) (share (bIx (fLst (fCons (fNeg (fC (.int 3))) (fCons (fC (.int 0)) (fCons (fC (.int 12)) (fCons (fC (.int 65)) (fCons (fC (.int 64)) (fCons (fNeg (fC (.int 200))) (fCons (fC (.int 200)) (fNil))))))))) (fMod (fDiv (qV 10) (fC (.int 300))) (fC (.int 7))))))
    (sNil)) (sNil))
    (sNil)))
def b29_l2 (cf : Nat → List TD → RF) (pr : Nat → Bool) : PF.Env → R Fl :=
    sSeq (sAsg pr 8 (fLst (fNil)))
    (sSeq (sFor (iRng1' (fCons (share (bIxd (bV 4) (qV 3))) (fNil))) (gN pr 9) (b29_l1 cf pr))
    (sSeq (sIf (tAndF (asT (fCmp cIn (bV 3) (fLst (fCons (fC (.str (PySem.Str.ofString "block"))) (fCons (fC (.str (PySem.Str.ofString "wedge"))) (fNil)))))) (asT (fCmp cGt (fMod (fDiv (qV 1) (fC (.int 10))) (fC (.int 3))) (fC (.int 0))))) (sSeq (sAsg pr 8 (fPlus (fPlus (fLc [9] (iRng1' (fCons (fC (.int 3)) (fNil))) (gN (fun _ => false) 9) (tYesF) (fI2 (fun i j => if j < i then j else i) (fCons (share (bIx (bV 8) (qV 9))) (fCons (share (bIx (bV 8) (fPlus (fC (.int 3)) (bV 9)))) (fNil))))) (fLc [9] (iRng1' (fCons (fC (.int 3)) (fNil))) (gN (fun _ => false) 9) (tYesF) (fI2 (fun i j => if j > i then j else i) (fCons (share (bIx (bV 8) (qV 9))) (fCons (share (bIx (bV 8) (fPlus (fC (.int 3)) (bV 9)))) (fNil)))))) (fSl (bV 8) (oSome (fC (.int 6))) (oNone))))
    (sNil)) (sNil))
    (sSeq (sIf (asT (fCmp cEq (bV 3) (fC (.str (PySem.Str.ofString "wedge"))))) (sSeq (sSetI (pN 8) (fC (.int 6)) (fSub (fMod (fB1 gAbs (fCall 2 (cf 22) (gNm 0 (gVal (fPlus (fC (.int 8)) (fTimes (fC (.int 10)) (bV 7))) (gNil))))) (fC (.int 14))) (fC (.int 1))))
    (sSeq (sIf (tAndF (asT (fCmp cEq (fMod (fDiv (qV 1) (fC (.int 30))) (fC (.int 2))) (fC (.int 0)))) (asT (fChain cLe cLt (fC (.int 0)) (share (bIx (bV 8) (fC (.int 6)))) (fC (.int 12))))) (sSeq (sTg (gT 2 (gsCons (gN pr 11) (gsCons (gN pr 12) (gsNil)))) (fCall 1 (cf 24) (gVal (fDiv (share (bIx (bV 8) (fC (.int 6)))) (fC (.int 4))) (gNil))))
    (sSeq (sSetI (pN 8) (fPlus (fC (.int 3)) (bV 12)) (fSub (fPlus (bIx (bV 8) (qV 12)) (bIx (bV 8) (fPlus (fC (.int 3)) (bV 11)))) (share (bIx (bV 8) (qV 11)))))
    (sNil))) (sNil))
    (sNil))) (sNil))
    (sSeq (sAsg pr 13 (fMod (fDiv (qV 1) (fC (.int 100))) (fC (.int 3))))
    (sSeq (sAsg pr 14 (fC .non))
    (sSeq (sAsg pr 15 (fDisp [PySem.Str.ofString "wedge", PySem.Str.ofString "hole", PySem.Str.ofString "step", PySem.Str.ofString "sink"] (fCons (fLst (fCons (fTup (fCons (fC (.int 6)) (fCons (fC (.int 0)) (fCons (fC (.int 11)) (fNil))))) (fNil))) (fCons (fLst (fCons (fTup (fCons (fC (.int 4)) (fCons (fC (.int 1)) (fCons (fC (.int 64)) (fNil))))) (fNil))) (fCons (fLst (fCons (fTup (fCons (fC (.int 4)) (fCons (fC (.int 1)) (fCons (fC (.int 64)) (fNil))))) (fCons (fTup (fCons (fC (.int 6)) (fCons (fC (.int 1)) (fCons (fC (.int 64)) (fNil))))) (fNil)))) (fCons (fLst (fCons (fTup (fCons (fC (.int 4)) (fCons (fC (.int 1)) (fCons (fC (.int 64)) (fNil))))) (fNil))) (fNil)))))))
    (sSeq (sFor (iSeq (fGetS (bV 15) (qV 3) (fLst (fNil)))) (gN pr 16) (b29_l0 cf pr))
    (sSeq (sIf (asT (fCmp cIsN (bV 14) (fC .non))) (sSeq (sAsg pr 14 (fTup (fCons (fC (.str (PySem.Str.ofString "body"))) (fCons (fLc [9] (iRng1' (fCons (fB1 gLen (bV 6)) (fNil))) (gN (fun _ => false) 9) (tTru (fCall 4 (cf 27) (gNm 3 (gVal (share (bIx (bV 6) (qV 9))) (gNm 13 (gNm 8 (gNil))))))) (fV 9)) (fNil)))))
    (sNil)) (sNil))
    (sSeq (sIf (asT (fCmp cNe (fCall 4 (cf 28) (gNm 2 (gNm 3 (gVal (fB1 gList (bV 8)) (gNm 13 (gNil)))))) (bV 14))) (sSeq (sRet (fC (.bl false)))
    (sNil)) (sNil))
    (sNil))))))))))
def b29_l3 (cf : Nat → List TD → RF) (pr : Nat → Bool) : PF.Env → R Fl :=
    sSeq (sIf (asT (fCmp cNe (fCall 1 (cf 11) (gNm 5 (gNil))) (bIxd (bV 4) (qV 5)))) (sSeq (sRet (fC (.bl false)))
    (sNil)) (sNil))
    (sNil)
def b29 (cf : Nat → List TD → RF) (pr : Nat → Bool) : PF.Env → R Fl :=
    sSeq (sAsg pr 1 (fB1 gAbs (fCall 2 (cf 22) (gNm 0 (gVal (fC (.int 0)) (gNil))))))
    (sSeq (sAsg pr 2 (fPlus (fC (.int 2)) (fMod (qV 1) (fC (.int 2)))))
    (sSeq (sAsg pr 3 (share (bIx (fLst (fCons (fC (.str (PySem.Str.ofString "block"))) (fCons (fC (.str (PySem.Str.ofString "wedge"))) (fCons (fC (.str (PySem.Str.ofString "hole"))) (fCons (fC (.str (PySem.Str.ofString "step"))) (fCons (fC (.str (PySem.Str.ofString "sink"))) (fNil))))))) (fMod (fDiv (qV 1) (fC (.int 2))) (fC (.int 5))))))
    (sSeq (sAsg pr 4 (fDisp [PySem.Str.ofString "block", PySem.Str.ofString "wedge", PySem.Str.ofString "hole", PySem.Str.ofString "step", PySem.Str.ofString "sink", PySem.Str.ofString "prism", PySem.Str.ofString "taper", PySem.Str.ofString "turn", PySem.Str.ofString "wall"] (fCons (fC (.int 6)) (fCons (fC (.int 7)) (fCons (fC (.int 5)) (fCons (fC (.int 7)) (fCons (fC (.int 5)) (fCons (fC (.int 2)) (fCons (fC (.int 2)) (fCons (fC (.int 1)) (fCons (fC (.int 3)) (fNil))))))))))))
    (sSeq (sFor (iDct (fV 4)) (gN pr 5) (b29_l3 cf pr))
    (sSeq (sAsg pr 6 (fCall 1 (cf 23) (gNm 2 (gNil))))
    (sSeq (sFor (iRng1' (fCons (fC (.int 2)) (fNil))) (gN pr 7) (b29_l2 cf pr))
    (sSeq (sRet (fC (.bl true)))
    (sNil))))))))
def runF : Nat → Nat → List TD → RF
  | 0, _ => fun _ => .stuck
  | m + 1, 0 => runB 1 (b0 (runF m))
  | m + 1, 1 => runB 1 (b1 (runF m))
  | m + 1, 2 => runB 6 (b2 (runF m))
  | m + 1, 3 => runB 6 (b3 (runF m))
  | m + 1, 4 => runB 1 (b4 (runF m))
  | m + 1, 5 => runB 4 (b5 (runF m))
  | m + 1, 6 => runB 1 (b6 (runF m))
  | m + 1, 7 => runB 3 (b7 (runF m))
  | m + 1, 8 => runB 3 (b8 (runF m))
  | m + 1, 9 => runB 4 (b9 (runF m))
  | m + 1, 10 => runB 1 (b10 (runF m))
  | m + 1, 11 => runB 1 (b11 (runF m))
  | m + 1, 12 => runB 5 (b12 (runF m))
  | m + 1, 13 => runB 2 (b13 (runF m))
  | m + 1, 14 => runB 3 (b14 (runF m))
  | m + 1, 15 => runB 3 (b15 (runF m))
  | m + 1, 16 => runB 8 (b16 (runF m))
  | m + 1, 17 => runB 5 (b17 (runF m))
  | m + 1, 18 => runB 4 (b18 (runF m))
  | m + 1, 19 => runB 6 (b19 (runF m))
  | m + 1, 20 => runB 4 (b20 (runF m))
  | m + 1, 21 => runB 9 (b21 (runF m))
  | m + 1, 22 => runB 2 (b22 (runF m))
  | m + 1, 23 => runB 7 (b23 (runF m))
  | m + 1, 24 => runB 1 (b24 (runF m))
  | m + 1, 25 => runB 3 (b25 (runF m))
  | m + 1, 26 => runB 3 (b26 (runF m))
  | m + 1, 27 => runB 13 (b27 (runF m))
  | m + 1, 28 => runB 5 (b28 (runF m))
  | m + 1, 29 => runB 17 (b29 (runF m))
  | _ + 1, _ => fun _ => .stuck
end LK12
namespace LK12
open PySem PySem.Spec L2 PF
open PyProof.Rows hiding St
def ad (K : PySem.W.Frag) : Nat → Addr
  | 0 => He.fAd K at0
  | 1 => He.fAd K at1
  | 2 => He.fAd K at2
  | 3 => He.fAd K at3
  | 4 => He.fAd K at4
  | 5 => He.fAd K at5
  | 6 => He.fAd K at6
  | 7 => He.fAd K at7
  | 8 => He.fAd K at8
  | 9 => He.fAd K at9
  | 10 => He.fAd K at10
  | 11 => He.fAd K at11
  | 12 => He.fAd K at12
  | 13 => He.fAd K at13
  | 14 => He.fAd K at14
  | 15 => He.fAd K at15
  | 16 => He.fAd K at16
  | 17 => He.fAd K at17
  | 18 => He.fAd K at18
  | 19 => He.fAd K at19
  | 20 => He.fAd K at20
  | 21 => He.fAd K at21
  | 22 => He.fAd K at22
  | 23 => He.fAd K at23
  | 24 => He.fAd K at24
  | 25 => He.fAd K at25
  | 26 => He.fAd K at26
  | 27 => He.fAd K at27
  | 28 => He.fAd K at28
  | 29 => He.fAd K at29
  | _ => 0
def psT : Nat → List PySem.Str
  | 0 => ["coordinate"]
  | 1 => ["size"]
  | 2 => ["size", "z", "y"]
  | 3 => ["size", "grain"]
  | 4 => ["radius"]
  | 5 => ["du", "dv", "radius", "scale"]
  | 6 => ["size"]
  | 7 => ["grains"]
  | 8 => ["mask"]
  | 9 => ["self", "size", "grains"]
  | 10 => ["self"]
  | 11 => ["kind"]
  | 12 => ["kind", "fields"]
  | 13 => ["axis"]
  | 14 => ["number", "first", "second"]
  | 15 => ["middle", "fields"]
  | 16 => ["middle", "fields"]
  | 17 => ["middle", "axis", "fields"]
  | 18 => ["middle", "axis", "fields"]
  | 19 => ["middle", "axis", "fields"]
  | 20 => ["kind", "middle", "axis", "fields"]
  | 21 => ["size", "kind", "fields", "sketch", "values", "axis"]
  | 22 => ["script", "k"]
  | 23 => ["size"]
  | 24 => ["axis"]
  | 25 => ["number", "one", "two"]
  | 26 => ["du", "dv", "radius"]
  | 27 => ["kind", "middle_v", "axis", "f"]
  | 28 => ["size", "kind", "fields", "axis"]
  | 29 => ["script"]
  | _ => []
theorem sc0 : FnScope ["coordinate"] (psT 0) (defScope s0) := ⟨rfl, rfl, rfl, by decide +kernel, rfl, by decide +kernel, by decide +kernel⟩
theorem sc1 : FnScope ["size"] (psT 1) (defScope s1) := ⟨rfl, rfl, rfl, by decide +kernel, rfl, by decide +kernel, by decide +kernel⟩
theorem sc2 : FnScope ["size", "z", "y", "needed", "x", "one"] (psT 2) (defScope s2) := ⟨rfl, rfl, rfl, by decide +kernel, rfl, by decide +kernel, by decide +kernel⟩
theorem sc3 : FnScope ["size", "grain", "rest", "z", "y", "row"] (psT 3) (defScope s3) := ⟨rfl, rfl, rfl, by decide +kernel, rfl, by decide +kernel, by decide +kernel⟩
theorem sc4 : FnScope ["radius"] (psT 4) (defScope s4) := ⟨rfl, rfl, rfl, by decide +kernel, rfl, by decide +kernel, by decide +kernel⟩
theorem sc5 : FnScope ["du", "dv", "radius", "scale"] (psT 5) (defScope s5) := ⟨rfl, rfl, rfl, by decide +kernel, rfl, by decide +kernel, by decide +kernel⟩
theorem sc6 : FnScope ["size"] (psT 6) (defScope s6) := ⟨rfl, rfl, rfl, by decide +kernel, rfl, by decide +kernel, by decide +kernel⟩
theorem sc7 : FnScope ["grains", "mask", "grain"] (psT 7) (defScope s7) := ⟨rfl, rfl, rfl, by decide +kernel, rfl, by decide +kernel, by decide +kernel⟩
theorem sc8 : FnScope ["mask", "found", "place"] (psT 8) (defScope s8) := ⟨rfl, rfl, rfl, by decide +kernel, rfl, by decide +kernel, by decide +kernel⟩
theorem sc9 : FnScope ["self", "size", "grains", "grain"] (psT 9) (defScope s9) := ⟨rfl, rfl, rfl, by decide +kernel, rfl, by decide +kernel, by decide +kernel⟩
theorem sc10 : FnScope ["self"] (psT 10) (defScope s10) := ⟨rfl, rfl, rfl, by decide +kernel, rfl, by decide +kernel, by decide +kernel⟩
theorem sc11 : FnScope ["kind"] (psT 11) (defScope s11) := ⟨rfl, rfl, rfl, by decide +kernel, rfl, by decide +kernel, by decide +kernel⟩
theorem sc12 : FnScope ["kind", "fields", "index", "least", "greatest"] (psT 12) (defScope s12) := ⟨rfl, rfl, rfl, by decide +kernel, rfl, by decide +kernel, by decide +kernel⟩
theorem sc13 : FnScope ["axis", "other"] (psT 13) (defScope s13) := ⟨rfl, rfl, rfl, by decide +kernel, rfl, by decide +kernel, by decide +kernel⟩
theorem sc14 : FnScope ["number", "first", "second"] (psT 14) (defScope s14) := ⟨rfl, rfl, rfl, by decide +kernel, rfl, by decide +kernel, by decide +kernel⟩
theorem sc15 : FnScope ["middle", "fields", "axis"] (psT 15) (defScope s15) := ⟨rfl, rfl, rfl, by decide +kernel, rfl, by decide +kernel, by decide +kernel⟩
theorem sc16 : FnScope ["middle", "fields", "way", "axes", "widths", "total", "k", "axis"] (psT 16) (defScope s16) := ⟨rfl, rfl, rfl, by decide +kernel, rfl, by decide +kernel, by decide +kernel⟩
theorem sc17 : FnScope ["middle", "axis", "fields", "u", "v"] (psT 17) (defScope s17) := ⟨rfl, rfl, rfl, by decide +kernel, rfl, by decide +kernel, by decide +kernel⟩
theorem sc18 : FnScope ["middle", "axis", "fields", "wider"] (psT 18) (defScope s18) := ⟨rfl, rfl, rfl, by decide +kernel, rfl, by decide +kernel, by decide +kernel⟩
theorem sc19 : FnScope ["middle", "axis", "fields", "u", "v", "reach"] (psT 19) (defScope s19) := ⟨rfl, rfl, rfl, by decide +kernel, rfl, by decide +kernel, by decide +kernel⟩
theorem sc20 : FnScope ["kind", "middle", "axis", "fields"] (psT 20) (defScope s20) := ⟨rfl, rfl, rfl, by decide +kernel, rfl, by decide +kernel, by decide +kernel⟩
theorem sc21 : FnScope ["size", "kind", "fields", "sketch", "values", "axis", "grains", "plane", "grain"] (psT 21) (defScope s21) := ⟨rfl, rfl, rfl, by decide +kernel, rfl, by decide +kernel, by decide +kernel⟩
theorem sc22 : FnScope ["script", "k"] (psT 22) (defScope s22) := ⟨rfl, rfl, rfl, by decide +kernel, rfl, by decide +kernel, by decide +kernel⟩
theorem sc23 : FnScope ["size", "found", "z", "y", "x", "rests", "one"] (psT 23) (defScope s23) := ⟨rfl, rfl, rfl, by decide +kernel, rfl, by decide +kernel, by decide +kernel⟩
theorem sc24 : FnScope ["axis"] (psT 24) (defScope s24) := ⟨rfl, rfl, rfl, by decide +kernel, rfl, by decide +kernel, by decide +kernel⟩
theorem sc25 : FnScope ["number", "one", "two"] (psT 25) (defScope s25) := ⟨rfl, rfl, rfl, by decide +kernel, rfl, by decide +kernel, by decide +kernel⟩
theorem sc26 : FnScope ["du", "dv", "radius"] (psT 26) (defScope s26) := ⟨rfl, rfl, rfl, by decide +kernel, rfl, by decide +kernel, by decide +kernel⟩
theorem sc27 : FnScope ["kind", "middle_v", "axis", "f", "u", "v", "k", "p", "q", "first", "second", "reach", "near"] (psT 27) (defScope s27) := ⟨rfl, rfl, rfl, by decide +kernel, rfl, by decide +kernel, by decide +kernel⟩
theorem sc28 : FnScope ["size", "kind", "fields", "axis", "e"] (psT 28) (defScope s28) := ⟨rfl, rfl, rfl, by decide +kernel, rfl, by decide +kernel, by decide +kernel⟩
theorem sc29 : FnScope ["script", "first", "size", "kind", "counts", "name", "middles_v", "j", "fields", "k", "cell", "p", "q", "axis", "due", "bounds", "row"] (psT 29) (defScope s29) := ⟨rfl, rfl, rfl, by decide +kernel, rfl, by decide +kernel, by decide +kernel⟩
structure Fx (P : Program) (w : World) (K : PySem.W.Frag) (mg : PySem.Str → Option Value) (fd : Nat → FuncData) : Prop where
  f0 : FunD K "rank" "rank" (defArgs s0) (defBody s0) (defScope s0) [] [] (ad K 0) (fd 0)
  f1 : FunD K "grain_count" "grain_count" (defArgs s1) (defBody s1) (defScope s1) [] [] (ad K 1) (fd 1)
  f2 : FunD K "row_middles" "row_middles" (defArgs s2) (defBody s2) (defScope s2) [] [] (ad K 2) (fd 2)
  f3 : FunD K "middle_of" "middle_of" (defArgs s3) (defBody s3) (defScope s3) [] [] (ad K 3) (fd 3)
  f4 : FunD K "disc_bound" "disc_bound" (defArgs s4) (defBody s4) (defScope s4) [] [] (ad K 4) (fd 4)
  f5 : FunD K "in_disc" "in_disc" (defArgs s5) (defBody s5) (defScope s5) [] [] (ad K 5) (fd 5)
  f6 : FunD K "check_size" "check_size" (defArgs s6) (defBody s6) (defScope s6) [] [] (ad K 6) (fd 6)
  f7 : FunD K "mask_of" "mask_of" (defArgs s7) (defBody s7) (defScope s7) [] [] (ad K 7) (fd 7)
  f8 : FunD K "bits_of" "bits_of" (defArgs s8) (defBody s8) (defScope s8) [] [] (ad K 8) (fd 8)
  f9 : FunD K "__init__" "Solid.__init__" (defArgs s9) (defBody s9) (defScope s9) [] [] (ad K 9) (fd 9)
  f10 : FunD K "grains" "Solid.grains" (defArgs s10) (defBody s10) (defScope s10) [] [] (ad K 10) (fd 10)
  f11 : FunD K "field_count" "field_count" (defArgs s11) (defBody s11) (defScope s11) [] [] (ad K 11) (fd 11)
  f12 : FunD K "check_fields" "check_fields" (defArgs s12) (defBody s12) (defScope s12) [] [] (ad K 12) (fd 12)
  f13 : FunD K "other_axes" "other_axes" (defArgs s13) (defBody s13) (defScope s13) [] [] (ad K 13) (fd 13)
  f14 : FunD K "is_from_to" "is_from_to" (defArgs s14) (defBody s14) (defScope s14) [] [] (ad K 14) (fd 14)
  f15 : FunD K "in_block" "in_block" (defArgs s15) (defBody s15) (defScope s15) [] [] (ad K 15) (fd 15)
  f16 : FunD K "in_wedge" "in_wedge" (defArgs s16) (defBody s16) (defScope s16) [] [] (ad K 16) (fd 16)
  f17 : FunD K "in_hole" "in_hole" (defArgs s17) (defBody s17) (defScope s17) [] [] (ad K 17) (fd 17)
  f18 : FunD K "in_step" "in_step" (defArgs s18) (defBody s18) (defScope s18) [] [] (ad K 18) (fd 18)
  f19 : FunD K "in_sink" "in_sink" (defArgs s19) (defBody s19) (defScope s19) [] [] (ad K 19) (fd 19)
  f20 : FunD K "is_plain" "is_plain" (defArgs s20) (defBody s20) (defScope s20) [] [] (ad K 20) (fd 20)
  f21 : FunD K "body_of" "body_of" (defArgs s21) (defBody s21) (defScope s21) [] [] (ad K 21) (fd 21)
  f22 : FunD K "_law_cell" "_law_cell" (defArgs s22) (defBody s22) (defScope s22) [] [] (ad K 22) (fd 22)
  f23 : FunD K "_law_middles" "_law_middles" (defArgs s23) (defBody s23) (defScope s23) [] [] (ad K 23) (fd 23)
  f24 : FunD K "_law_others" "_law_others" (defArgs s24) (defBody s24) (defScope s24) [] [] (ad K 24) (fd 24)
  f25 : FunD K "_law_within" "_law_within" (defArgs s25) (defBody s25) (defScope s25) [] [] (ad K 25) (fd 25)
  f26 : FunD K "_law_round" "_law_round" (defArgs s26) (defBody s26) (defScope s26) [] [] (ad K 26) (fd 26)
  f27 : FunD K "_law_has" "_law_has" (defArgs s27) (defBody s27) (defScope s27) [] [] (ad K 27) (fd 27)
  f28 : FunD K "_law_made" "_law_made" (defArgs s28) (defBody s28) (defScope s28) [] [] (ad K 28) (fd 28)
  f29 : FunD K "law" "law" (defArgs s29) (defBody s29) (defScope s29) [] [] (ad K 29) (fd 29)
  g_rank : mg "rank" = some (.ref (ad K 0))
  g_grain_count : mg "grain_count" = some (.ref (ad K 1))
  g_row_middles : mg "row_middles" = some (.ref (ad K 2))
  g_middle_of : mg "middle_of" = some (.ref (ad K 3))
  g_disc_bound : mg "disc_bound" = some (.ref (ad K 4))
  g_in_disc : mg "in_disc" = some (.ref (ad K 5))
  g_check_size : mg "check_size" = some (.ref (ad K 6))
  g_mask_of : mg "mask_of" = some (.ref (ad K 7))
  g_bits_of : mg "bits_of" = some (.ref (ad K 8))
  g_field_count : mg "field_count" = some (.ref (ad K 11))
  g_check_fields : mg "check_fields" = some (.ref (ad K 12))
  g_other_axes : mg "other_axes" = some (.ref (ad K 13))
  g_is_from_to : mg "is_from_to" = some (.ref (ad K 14))
  g_in_block : mg "in_block" = some (.ref (ad K 15))
  g_in_wedge : mg "in_wedge" = some (.ref (ad K 16))
  g_in_hole : mg "in_hole" = some (.ref (ad K 17))
  g_in_step : mg "in_step" = some (.ref (ad K 18))
  g_in_sink : mg "in_sink" = some (.ref (ad K 19))
  g_is_plain : mg "is_plain" = some (.ref (ad K 20))
  g_body_of : mg "body_of" = some (.ref (ad K 21))
  g__law_cell : mg "_law_cell" = some (.ref (ad K 22))
  g__law_middles : mg "_law_middles" = some (.ref (ad K 23))
  g__law_others : mg "_law_others" = some (.ref (ad K 24))
  g__law_within : mg "_law_within" = some (.ref (ad K 25))
  g__law_round : mg "_law_round" = some (.ref (ad K 26))
  g__law_has : mg "_law_has" = some (.ref (ad K 27))
  g__law_made : mg "_law_made" = some (.ref (ad K 28))
  g_law : mg "law" = some (.ref (ad K 29))
  g_Solid : mg "Solid" = some (.ref ((ct K).B.cls 0))
  fr_abs : mg "abs" = none
  fr_all : mg "all" = none
  fr_int : mg "int" = none
  fr_isinstance : mg "isinstance" = none
  fr_len : mg "len" = none
  fr_list : mg "list" = none
  fr_max : mg "max" = none
  fr_min : mg "min" = none
  fr_range : mg "range" = none
  k_EIGHTHS : Con K mg "EIGHTHS" kEIGHTHS
  k_LAYERS : Con K mg "LAYERS" kLAYERS
  k_LEAST : Con K mg "LEAST" kLEAST
  k_MOST : Con K mg "MOST" kMOST
  k_RANKS_grains : Con K mg "RANKS_grains" kRANKS_grains
  k_SHARES : Con K mg "SHARES" kSHARES
  k_SKETCH_KINDS : Con K mg "SKETCH_KINDS" kSKETCH_KINDS
  sup : mg "super" = none
  x_FieldFault : ExT P K mg "FieldFault" [(PySem.Str.ofString "field")]
  x_InvalidSize : ExT P K mg "InvalidSize" [(PySem.Str.ofString "size")]
  x_NoSuchGrain : ExT P K mg "NoSuchGrain" [(PySem.Str.ofString "grain")]
  kt_FIELD_COUNTS : KTab K w mg "FIELD_COUNTS" kt_FIELD_COUNTS
  kt_BOUNDS : KTab K w mg "BOUNDS" kt_BOUNDS
  mgx_FieldFault : mg "FieldFault" = some (.ref (He.ga K "FieldFault"))
  mgx_InvalidSize : mg "InvalidSize" = some (.ref (He.ga K "InvalidSize"))
  mgx_LoftError : mg "LoftError" = some (.ref (He.ga K "LoftError"))
  mgx_NoSuchGrain : mg "NoSuchGrain" = some (.ref (He.ga K "NoSuchGrain"))
  xm_FieldFault : ∀ c b, subOf h_FieldFault c = some b → PySem.W.exmOne K ((ct K).xc c) (.ref (He.ga K "FieldFault")) = some b
  xf_FieldFault_field : ∀ c, subOf h_FieldFault c = some true → XfC K (xa K c) ∧ PySem.W.findIn K (.ref (xa K c)) "field" = some none
  xc_FieldFault : ∀ c, subOf h_FieldFault c = some true → ExcC K (xa K c)
  xi_LoftError : ∀ c b, subOf i_LoftError c = some b → PySem.W.kitOne K ((ct K).xc c) (.ref (He.ga K "LoftError")) = some b
  cls : ∀ c, Cls K ((ct K).B.cls c)
  noat : ∀ c n, n < 2 → NoAttr K ((ct K).B.cls c) ((ct K).B.nm n)
  mk9 : Mk K ((ct K).B.cls 0) (ad K 9)
  me10 : Meth K ((ct K).B.cls 0) "grains" (ad K 10)
section
variable {P : Program} {w : World} {K : PySem.W.Frag} {mg : PySem.Str → Option Value} {base : Heap} {fd : Nat → FuncData} {m : Nat}
theorem co (h : Fx P w K mg fd) (X : Cx) (e : X.K = K) : CtOk X (ct K) := by
  subst e
  exact ⟨nmOf_inj (by decide +kernel) (by decide +kernel), fun _ => h.cls, h.noat⟩
theorem nn_ {n : Nat} (h : n < 2) : n < (ct K).nn := h
theorem n0_ : 0 < (ct K).nn := by show 0 < 2; decide
theorem bn0 (h : Fx P w K mg fd) : Binds K (fd 0) (psT 0) [] := h.f0.bindsN fun _ _ _ _ _ _ us hl => match us, hl with | [_], _ => rfl
theorem bn1 (h : Fx P w K mg fd) : Binds K (fd 1) (psT 1) [] := h.f1.bindsN fun _ _ _ _ _ _ us hl => match us, hl with | [_], _ => rfl
theorem bn2 (h : Fx P w K mg fd) : Binds K (fd 2) (psT 2) [] := h.f2.bindsN fun _ _ _ _ _ _ us hl => match us, hl with | [_, _, _], _ => rfl
theorem bn3 (h : Fx P w K mg fd) : Binds K (fd 3) (psT 3) [] := h.f3.bindsN fun _ _ _ _ _ _ us hl => match us, hl with | [_, _], _ => rfl
theorem bn4 (h : Fx P w K mg fd) : Binds K (fd 4) (psT 4) [] := h.f4.bindsN fun _ _ _ _ _ _ us hl => match us, hl with | [_], _ => rfl
theorem bn5 (h : Fx P w K mg fd) : Binds K (fd 5) (psT 5) [] := h.f5.bindsN fun _ _ _ _ _ _ us hl => match us, hl with | [_, _, _, _], _ => rfl
theorem bn6 (h : Fx P w K mg fd) : Binds K (fd 6) (psT 6) [] := h.f6.bindsN fun _ _ _ _ _ _ us hl => match us, hl with | [_], _ => rfl
theorem bn7 (h : Fx P w K mg fd) : Binds K (fd 7) (psT 7) [] := h.f7.bindsN fun _ _ _ _ _ _ us hl => match us, hl with | [_], _ => rfl
theorem bn8 (h : Fx P w K mg fd) : Binds K (fd 8) (psT 8) [] := h.f8.bindsN fun _ _ _ _ _ _ us hl => match us, hl with | [_], _ => rfl
theorem bn9 (h : Fx P w K mg fd) : Binds K (fd 9) (psT 9) [] := h.f9.bindsN fun _ _ _ _ _ _ us hl => match us, hl with | [_, _, _], _ => rfl
theorem bn10 (h : Fx P w K mg fd) : Binds K (fd 10) (psT 10) [] := h.f10.bindsN fun _ _ _ _ _ _ us hl => match us, hl with | [_], _ => rfl
theorem bn11 (h : Fx P w K mg fd) : Binds K (fd 11) (psT 11) [] := h.f11.bindsN fun _ _ _ _ _ _ us hl => match us, hl with | [_], _ => rfl
theorem bn12 (h : Fx P w K mg fd) : Binds K (fd 12) (psT 12) [] := h.f12.bindsN fun _ _ _ _ _ _ us hl => match us, hl with | [_, _], _ => rfl
theorem bn13 (h : Fx P w K mg fd) : Binds K (fd 13) (psT 13) [] := h.f13.bindsN fun _ _ _ _ _ _ us hl => match us, hl with | [_], _ => rfl
theorem bn14 (h : Fx P w K mg fd) : Binds K (fd 14) (psT 14) [] := h.f14.bindsN fun _ _ _ _ _ _ us hl => match us, hl with | [_, _, _], _ => rfl
theorem bn15 (h : Fx P w K mg fd) : Binds K (fd 15) (psT 15) [] := h.f15.bindsN fun _ _ _ _ _ _ us hl => match us, hl with | [_, _], _ => rfl
theorem bn16 (h : Fx P w K mg fd) : Binds K (fd 16) (psT 16) [] := h.f16.bindsN fun _ _ _ _ _ _ us hl => match us, hl with | [_, _], _ => rfl
theorem bn17 (h : Fx P w K mg fd) : Binds K (fd 17) (psT 17) [] := h.f17.bindsN fun _ _ _ _ _ _ us hl => match us, hl with | [_, _, _], _ => rfl
theorem bn18 (h : Fx P w K mg fd) : Binds K (fd 18) (psT 18) [] := h.f18.bindsN fun _ _ _ _ _ _ us hl => match us, hl with | [_, _, _], _ => rfl
theorem bn19 (h : Fx P w K mg fd) : Binds K (fd 19) (psT 19) [] := h.f19.bindsN fun _ _ _ _ _ _ us hl => match us, hl with | [_, _, _], _ => rfl
theorem bn20 (h : Fx P w K mg fd) : Binds K (fd 20) (psT 20) [] := h.f20.bindsN fun _ _ _ _ _ _ us hl => match us, hl with | [_, _, _, _], _ => rfl
theorem bn21 (h : Fx P w K mg fd) : Binds K (fd 21) (psT 21) [] := h.f21.bindsN fun _ _ _ _ _ _ us hl => match us, hl with | [_, _, _, _, _, _], _ => rfl
theorem bn22 (h : Fx P w K mg fd) : Binds K (fd 22) (psT 22) [] := h.f22.bindsN fun _ _ _ _ _ _ us hl => match us, hl with | [_, _], _ => rfl
theorem bn23 (h : Fx P w K mg fd) : Binds K (fd 23) (psT 23) [] := h.f23.bindsN fun _ _ _ _ _ _ us hl => match us, hl with | [_], _ => rfl
theorem bn24 (h : Fx P w K mg fd) : Binds K (fd 24) (psT 24) [] := h.f24.bindsN fun _ _ _ _ _ _ us hl => match us, hl with | [_], _ => rfl
theorem bn25 (h : Fx P w K mg fd) : Binds K (fd 25) (psT 25) [] := h.f25.bindsN fun _ _ _ _ _ _ us hl => match us, hl with | [_, _, _], _ => rfl
theorem bn26 (h : Fx P w K mg fd) : Binds K (fd 26) (psT 26) [] := h.f26.bindsN fun _ _ _ _ _ _ us hl => match us, hl with | [_, _, _], _ => rfl
theorem bn27 (h : Fx P w K mg fd) : Binds K (fd 27) (psT 27) [] := h.f27.bindsN fun _ _ _ _ _ _ us hl => match us, hl with | [_, _, _, _], _ => rfl
theorem bn28 (h : Fx P w K mg fd) : Binds K (fd 28) (psT 28) [] := h.f28.bindsN fun _ _ _ _ _ _ us hl => match us, hl with | [_, _, _, _], _ => rfl
def All (P : Program) (w : World) (K : PySem.W.Frag) (mg : PySem.Str → Option Value) (base : Heap) (fd : Nat → FuncData) (m : Nat) : Prop := ∀ i, FnOk P w K mg base (L2.CX P w) (2 * m) (ad K i) (fd i) (psT i) (spF K (ct K) (psT i).length (runF m i))
theorem d0 (h : Fx P w K mg fd) (A : All P w K mg base fd m) (TB : ∀ p ∈ cs K, GxR.TabB base mg p.1 p.2) {cdv : Value} (hcd : cdv = .ref (He.codeOf K at0)) {A0 : Around} {outer : List PySem.Env} {s : Shared} {H : Hp} {E : XK} {pr : Nat → Bool} (hr : Room (2 * m + 1) (A0.deeper (envOfC "rank" (defScope s0) s.heap.objs.size (ad K 0) cdv))) :
    DSs (cxOf (L2.CX P w) P w K mg base ["coordinate"] "rank" (defScope s0) (ad K 0) cdv A0 outer s H E) (ct K) pr (defBody s0) (b0 (runF m) pr) := by
  unfold b0
  exact ds_seq (ds_ret (DB.de (db_ix (DE.db (de_con rfl h.k_RANKS_grains)) (qt (de_mod (de_qvar (pv 0)) (de_con rfl h.k_EIGHTHS))))))
    (ds_nil)
theorem d1 (h : Fx P w K mg fd) (A : All P w K mg base fd m) (TB : ∀ p ∈ cs K, GxR.TabB base mg p.1 p.2) {cdv : Value} (hcd : cdv = .ref (He.codeOf K at1)) {A0 : Around} {outer : List PySem.Env} {s : Shared} {H : Hp} {E : XK} {pr : Nat → Bool} (hr : Room (2 * m + 1) (A0.deeper (envOfC "grain_count" (defScope s1) s.heap.objs.size (ad K 1) cdv))) :
    DSs (cxOf (L2.CX P w) P w K mg base ["size"] "grain_count" (defScope s1) (ad K 1) cdv A0 outer s H E) (ct K) pr (defBody s1) (b1 (runF m) pr) := by
  unfold b1
  exact ds_seq (ds_ret (de_timesB (DE.db (de_con rfl h.k_SHARES)) (qtB (DE.db (de_pow (de_qvar (pv 0)) (de_int))))))
    (ds_nil)
theorem d2 (h : Fx P w K mg fd) (A : All P w K mg base fd m) (TB : ∀ p ∈ cs K, GxR.TabB base mg p.1 p.2) {cdv : Value} (hcd : cdv = .ref (He.codeOf K at2)) {A0 : Around} {outer : List PySem.Env} {s : Shared} {H : Hp} {E : XK} {pr : Nat → Bool} (hr : Room (2 * m + 1) (A0.deeper (envOfC "row_middles" (defScope s2) s.heap.objs.size (ad K 2) cdv))) :
    DSs (cxOf (L2.CX P w) P w K mg base ["size", "z", "y", "needed", "x", "one"] "row_middles" (defScope s2) (ad K 2) cdv A0 outer s H E) (ct K) pr (defBody s2) (b2 (runF m) pr) := by
  unfold b2
  exact ds_seq (ds_asg sc2.nd rfl (Or.inr rfl) (de_lc rfl sc2.nd (own := [("one", 5)]) (di_seq (de_tup (da_cons (de_int) (da_cons (de_int) (da_cons (de_int) (da_nil)))))) (blkOk_by (N := ["size", "z", "y", "needed", "x", "one"]) (sc := defScope s2) (by decide +kernel)) (by decide) rfl (fun _ _ _ _ _ => dg_name sc2.nd rfl (Or.inl rfl)) (fun _ _ _ _ _ => dts_one (dt_cmp (o_notIn (room65 hr)) (de_var (pv 5)) (DE.db (de_tup (da_cons (de_cal (A 0) (hr.mono (Nat.le_succ _)) rfl h.g_rank h.f0.kp (bn0 h) (dg_nm (pv 1) (dg_nil))) (da_cons (de_cal (A 0) (hr.mono (Nat.le_succ _)) rfl h.g_rank h.f0.kp (bn0 h) (dg_nm (pv 2) (dg_nil))) (da_nil))))) rfl)) (fun _ _ _ _ _ => de_var (pv 5))))
    (ds_seq (ds_if (DW.dt (dw_or (dt_cmpB o_isN (DE.db (de_cal (A 0) (hr.mono (Nat.le_succ _)) rfl h.g_rank h.f0.kp (bn0 h) (dg_nm (pv 1) (dg_nil)))) (qtB (DE.db (de_non))) (nomark _)) (dw_or (dt_cmpB o_isN (DE.db (de_cal (A 0) (hr.mono (Nat.le_succ _)) rfl h.g_rank h.f0.kp (bn0 h) (dg_nm (pv 2) (dg_nil)))) (qtB (DE.db (de_non))) (nomark _)) (dw_or1 (dt_cmpB (o_ne (room64 hr)) (DE.db (de_len rfl h.fr_len (db_var (pv 3)))) (qtB (DE.db (de_int))) (nomark _)))))) (ds_seq (ds_ret (de_lst (da_nil)))
    (ds_nil)) (ds_nil))
    (ds_seq (ds_ret (de_lc rfl sc2.nd (own := [("x", 4)]) (di_rng1 rfl h.fr_range (da_cons (de_timesB (DE.db (de_con rfl h.k_EIGHTHS)) (qtB (db_var (pv 0)))) (da_nil))) (blkOk_by (N := ["size", "z", "y", "needed", "x", "one"]) (sc := defScope s2) (by decide +kernel)) (by decide) rfl (fun _ _ _ _ _ => dg_name sc2.nd rfl (Or.inl rfl)) (fun _ _ _ _ _ => dts_one (dt_cmpB (o_eq (room64 hr)) (DE.db (de_cal (A 0) (hr.mono (Nat.le_succ _)) rfl h.g_rank h.f0.kp (bn0 h) (dg_nm (pv 4) (dg_nil)))) (qtB (db_ix (db_var (pv 3)) (qt (de_int)))) (nomark _))) (fun _ _ _ _ _ => de_var (pv 4))))
    (ds_nil)))
theorem d3 (h : Fx P w K mg fd) (A : All P w K mg base fd m) (TB : ∀ p ∈ cs K, GxR.TabB base mg p.1 p.2) {cdv : Value} (hcd : cdv = .ref (He.codeOf K at3)) {A0 : Around} {outer : List PySem.Env} {s : Shared} {H : Hp} {E : XK} {pr : Nat → Bool} (hr : Room (2 * m + 1) (A0.deeper (envOfC "middle_of" (defScope s3) s.heap.objs.size (ad K 3) cdv))) :
    DSs (cxOf (L2.CX P w) P w K mg base ["size", "grain", "rest", "z", "y", "row"] "middle_of" (defScope s3) (ad K 3) cdv A0 outer s H E) (ct K) pr (defBody s3) (b3 (runF m) pr) := by
  unfold b3 b3_l1 b3_l0
  exact ds_seq (ds_asg sc3.nd rfl (Or.inl rfl) (de_var (pv 1)))
    (ds_seq (ds_asg sc3.nd rfl (Or.inl rfl) (de_int))
    (ds_seq (ds_while (passes_of rfl) (dt_cmpB o_ge (db_var (pv 2)) (qtB (DE.db (de_timesB (db_ix (DE.db (de_con rfl h.k_LAYERS)) (qt (de_mod (de_qvar (pv 3)) (de_con rfl h.k_EIGHTHS)))) (qtB (DE.db (de_pow (de_qvar (pv 0)) (de_int))))))) (nomark _)) (ds_seq (ds_aug io_sub gSub_prim sc3.nd rfl (Or.inl rfl) (de_timesB (db_ix (DE.db (de_con rfl h.k_LAYERS)) (qt (de_mod (de_qvar (pv 3)) (de_con rfl h.k_EIGHTHS)))) (qtB (DE.db (de_pow (de_qvar (pv 0)) (de_int))))))
    (ds_seq (ds_aug io_add gAdd_prim sc3.nd rfl (Or.inl rfl) (de_int))
    (ds_nil))))
    (ds_seq (ds_asg sc3.nd rfl (Or.inl rfl) (de_int))
    (ds_seq (ds_asg sc3.nd rfl (Or.inl rfl) (de_cal (A 2) (hr.mono (Nat.le_succ _)) rfl h.g_row_middles h.f2.kp (bn2 h) (dg_nm (pv 0) (dg_nm (pv 3) (dg_nm (pv 4) (dg_nil))))))
    (ds_seq (ds_while (passes_of rfl) (dt_cmpB o_ge (db_var (pv 2)) (qtB (DE.db (de_len rfl h.fr_len (db_var (pv 5))))) (nomark _)) (ds_seq (ds_aug io_sub gSub_prim sc3.nd rfl (Or.inl rfl) (de_len rfl h.fr_len (db_var (pv 5))))
    (ds_seq (ds_aug io_add gAdd_prim sc3.nd rfl (Or.inl rfl) (de_int))
    (ds_seq (ds_asg sc3.nd rfl (Or.inl rfl) (de_cal (A 2) (hr.mono (Nat.le_succ _)) rfl h.g_row_middles h.f2.kp (bn2 h) (dg_nm (pv 0) (dg_nm (pv 3) (dg_nm (pv 4) (dg_nil))))))
    (ds_nil)))))
    (ds_seq (ds_ret (de_tup (da_cons (DB.de (db_ix (db_var (pv 5)) (qt (de_qvar (pv 2))))) (da_cons (de_var (pv 4)) (da_cons (de_var (pv 3)) (da_nil))))))
    (ds_nil)))))))
theorem d4 (h : Fx P w K mg fd) (A : All P w K mg base fd m) (TB : ∀ p ∈ cs K, GxR.TabB base mg p.1 p.2) {cdv : Value} (hcd : cdv = .ref (He.codeOf K at4)) {A0 : Around} {outer : List PySem.Env} {s : Shared} {H : Hp} {E : XK} {pr : Nat → Bool} (hr : Room (2 * m + 1) (A0.deeper (envOfC "disc_bound" (defScope s4) s.heap.objs.size (ad K 4) cdv))) :
    DSs (cxOf (L2.CX P w) P w K mg base ["radius"] "disc_bound" (defScope s4) (ad K 4) cdv A0 outer s H E) (ct K) pr (defBody s4) (b4 (runF m) pr) := by
  unfold b4
  exact ds_seq (ds_ret (de_div (de_plusB (DE.db (de_timesB (DE.db (de_int)) (qtB (db_var (pv 0))))) (qtB (DE.db (de_int)))) (de_int)))
    (ds_nil)
theorem d5 (h : Fx P w K mg fd) (A : All P w K mg base fd m) (TB : ∀ p ∈ cs K, GxR.TabB base mg p.1 p.2) {cdv : Value} (hcd : cdv = .ref (He.codeOf K at5)) {A0 : Around} {outer : List PySem.Env} {s : Shared} {H : Hp} {E : XK} {pr : Nat → Bool} (hr : Room (2 * m + 1) (A0.deeper (envOfC "in_disc" (defScope s5) s.heap.objs.size (ad K 5) cdv))) :
    DSs (cxOf (L2.CX P w) P w K mg base ["du", "dv", "radius", "scale"] "in_disc" (defScope s5) (ad K 5) cdv A0 outer s H E) (ct K) pr (defBody s5) (b5 (runF m) pr) := by
  unfold b5
  exact ds_seq (ds_par (i := 0) (j := 1) rfl sc5.nd rfl rfl (by decide) rfl rfl (da_cons (de_abs rfl h.fr_abs (db_var (pv 0))) (da_cons (de_abs rfl h.fr_abs (db_var (pv 1))) (da_nil))) (by rfl))
    (ds_seq (ds_ret (de_and (de_cmpB o_le (db_var (pv 0)) (qtB (DE.db (de_timesB (db_var (pv 3)) (qtB (db_var (pv 2)))))) (nomark _)) (de_and (de_cmpB o_le (db_var (pv 1)) (qtB (DE.db (de_timesB (db_var (pv 3)) (qtB (db_var (pv 2)))))) (nomark _)) (de_one (de_cmp o_le (de_plusB (db_var (pv 0)) (qtB (db_var (pv 1)))) (DE.db (de_times (de_var (pv 3)) (DE.db (de_cal (A 4) (hr.mono (Nat.le_succ _)) rfl h.g_disc_bound h.f4.kp (bn4 h) (dg_nm (pv 2) (dg_nil)))))) (nomark _))))))
    (ds_nil))
theorem d6 (h : Fx P w K mg fd) (A : All P w K mg base fd m) (TB : ∀ p ∈ cs K, GxR.TabB base mg p.1 p.2) {cdv : Value} (hcd : cdv = .ref (He.codeOf K at6)) {A0 : Around} {outer : List PySem.Env} {s : Shared} {H : Hp} {E : XK} {pr : Nat → Bool} (hr : Room (2 * m + 1) (A0.deeper (envOfC "check_size" (defScope s6) s.heap.objs.size (ad K 6) cdv))) :
    DSs (cxOf (L2.CX P w) P w K mg base ["size"] "check_size" (defScope s6) (ad K 6) cdv A0 outer s H E) (ct K) pr (defBody s6) (b6 (runF m) pr) := by
  unfold b6
  exact ds_seq (ds_if (dt_not (dt_chain o_le o_le (de_con rfl h.k_LEAST) (de_qvar (pv 0)) (DE.db (de_con rfl h.k_MOST)))) (ds_seq (ds_rs h.x_InvalidSize h.sup hr rfl (da_cons (de_var (pv 0)) (da_nil)))
    (ds_nil)) (ds_nil))
    (ds_nil)
theorem d7 (h : Fx P w K mg fd) (A : All P w K mg base fd m) (TB : ∀ p ∈ cs K, GxR.TabB base mg p.1 p.2) {cdv : Value} (hcd : cdv = .ref (He.codeOf K at7)) {A0 : Around} {outer : List PySem.Env} {s : Shared} {H : Hp} {E : XK} {pr : Nat → Bool} (hr : Room (2 * m + 1) (A0.deeper (envOfC "mask_of" (defScope s7) s.heap.objs.size (ad K 7) cdv))) :
    DSs (cxOf (L2.CX P w) P w K mg base ["grains", "mask", "grain"] "mask_of" (defScope s7) (ad K 7) cdv A0 outer s H E) (ct K) pr (defBody s7) (b7 (runF m) pr) := by
  unfold b7 b7_l0
  exact ds_seq (ds_asg sc7.nd rfl (Or.inl rfl) (de_int))
    (ds_seq (ds_for (passes_of rfl) rfl (di_seq (de_var (pv 0))) (dg_name sc7.nd rfl (Or.inl rfl)) (ds_seq (ds_aug io_or gOr_prim sc7.nd rfl (Or.inl rfl) (de_shl (de_int) (de_qvar (pv 2))))
    (ds_nil)))
    (ds_seq (ds_retV (pv 1))
    (ds_nil)))
theorem d8 (h : Fx P w K mg fd) (A : All P w K mg base fd m) (TB : ∀ p ∈ cs K, GxR.TabB base mg p.1 p.2) {cdv : Value} (hcd : cdv = .ref (He.codeOf K at8)) {A0 : Around} {outer : List PySem.Env} {s : Shared} {H : Hp} {E : XK} {pr : Nat → Bool} (hr : Room (2 * m + 1) (A0.deeper (envOfC "bits_of" (defScope s8) s.heap.objs.size (ad K 8) cdv))) :
    DSs (cxOf (L2.CX P w) P w K mg base ["mask", "found", "place"] "bits_of" (defScope s8) (ad K 8) cdv A0 outer s H E) (ct K) pr (defBody s8) (b8 (runF m) pr) := by
  unfold b8 b8_l0
  exact ds_seq (ds_asg sc8.nd rfl (Or.inl rfl) (de_lst (da_nil)))
    (ds_seq (ds_asg sc8.nd rfl (Or.inl rfl) (de_int))
    (ds_seq (ds_while (passes_of rfl) (dt_cmpB o_gt (db_var (pv 0)) (qtB (DE.db (de_int))) (nomark _)) (ds_seq (ds_if (dt_cmpB (o_eq (room64 hr)) (DE.db (de_mod (de_qvar (pv 0)) (de_int))) (qtB (DE.db (de_int))) (nomark _)) (ds_seq (ds_expr (de_muN (k := 0) (co h _ rfl) mu_append mt_append PySem.F.plainAttrs_list PySem.F.slot_list_append PySem.F.type_list_append (pv 1) (da_cons (de_var (pv 2)) (da_nil))))
    (ds_nil)) (ds_nil))
    (ds_seq (ds_asg sc8.nd rfl (Or.inl rfl) (de_shr (de_qvar (pv 0)) (de_int)))
    (ds_seq (ds_aug io_add gAdd_prim sc8.nd rfl (Or.inl rfl) (de_int))
    (ds_nil)))))
    (ds_seq (ds_retV (pv 1))
    (ds_nil))))
theorem d9 (h : Fx P w K mg fd) (A : All P w K mg base fd m) (TB : ∀ p ∈ cs K, GxR.TabB base mg p.1 p.2) {cdv : Value} (hcd : cdv = .ref (He.codeOf K at9)) {A0 : Around} {outer : List PySem.Env} {s : Shared} {H : Hp} {E : XK} {pr : Nat → Bool} (hr : Room (2 * m + 1) (A0.deeper (envOfC "Solid.__init__" (defScope s9) s.heap.objs.size (ad K 9) cdv))) :
    DSs (cxOf (L2.CX P w) P w K mg base ["self", "size", "grains", "grain"] "Solid.__init__" (defScope s9) (ad K 9) cdv A0 outer s H E) (ct K) pr (defBody s9) (b9 (runF m) pr) := by
  unfold b9 b9_l0
  exact ds_seq (ds_expr (de_cal (A 6) (hr.mono (Nat.le_succ _)) rfl h.g_check_size h.f6.kp (bn6 h) (dg_nm (pv 1) (dg_nil))))
    (ds_seq (ds_for (passes_of rfl) rfl (di_seq (de_var (pv 2))) (dg_name sc9.nd rfl (Or.inl rfl)) (ds_seq (ds_if (dt_not (dt_chain o_le o_lt (de_int) (de_qvar (pv 3)) (DE.db (de_cal (A 1) (hr.mono (Nat.le_succ _)) rfl h.g_grain_count h.f1.kp (bn1 h) (dg_nm (pv 1) (dg_nil)))))) (ds_seq (ds_rs h.x_NoSuchGrain h.sup hr rfl (da_cons (de_var (pv 3)) (da_nil)))
    (ds_nil)) (ds_nil))
    (ds_nil)))
    (ds_seq (ds_fld (n := 0) (co h _ rfl) (pv 0) rfl (nn_ (by decide)) (de_var (pv 1)))
    (ds_seq (ds_fld (n := 1) (co h _ rfl) (pv 0) rfl (nn_ (by decide)) (de_cal (A 7) (hr.mono (Nat.le_succ _)) rfl h.g_mask_of h.f7.kp (bn7 h) (dg_nm (pv 2) (dg_nil))))
    (ds_nil))))
theorem d10 (h : Fx P w K mg fd) (A : All P w K mg base fd m) (TB : ∀ p ∈ cs K, GxR.TabB base mg p.1 p.2) {cdv : Value} (hcd : cdv = .ref (He.codeOf K at10)) {A0 : Around} {outer : List PySem.Env} {s : Shared} {H : Hp} {E : XK} {pr : Nat → Bool} (hr : Room (2 * m + 1) (A0.deeper (envOfC "Solid.grains" (defScope s10) s.heap.objs.size (ad K 10) cdv))) :
    DSs (cxOf (L2.CX P w) P w K mg base ["self"] "Solid.grains" (defScope s10) (ad K 10) cdv A0 outer s H E) (ct K) pr (defBody s10) (b10 (runF m) pr) := by
  unfold b10
  exact ds_seq (ds_ret (de_cal (A 8) (hr.mono (Nat.le_succ _)) rfl h.g_bits_of h.f8.kp (bn8 h) (dg_val (DB.de (db_fld (n := 1) (co h _ rfl) rfl (nn_ (by decide)) (db_var (pv 0)))) (dg_nil))))
    (ds_nil)
theorem d11 (h : Fx P w K mg fd) (A : All P w K mg base fd m) (TB : ∀ p ∈ cs K, GxR.TabB base mg p.1 p.2) {cdv : Value} (hcd : cdv = .ref (He.codeOf K at11)) {A0 : Around} {outer : List PySem.Env} {s : Shared} {H : Hp} {E : XK} {pr : Nat → Bool} (hr : Room (2 * m + 1) (A0.deeper (envOfC "field_count" (defScope s11) s.heap.objs.size (ad K 11) cdv))) :
    DSs (cxOf (L2.CX P w) P w K mg base ["kind"] "field_count" (defScope s11) (ad K 11) cdv A0 outer s H E) (ct K) pr (defBody s11) (b11 (runF m) pr) := by
  unfold b11
  exact ds_seq (ds_ret (DB.de (DE.db (de_kix h.kt_FIELD_COUNTS rfl (de_qvar (pv 0))))))
    (ds_nil)
theorem d12 (h : Fx P w K mg fd) (A : All P w K mg base fd m) (TB : ∀ p ∈ cs K, GxR.TabB base mg p.1 p.2) {cdv : Value} (hcd : cdv = .ref (He.codeOf K at12)) {A0 : Around} {outer : List PySem.Env} {s : Shared} {H : Hp} {E : XK} {pr : Nat → Bool} (hr : Room (2 * m + 1) (A0.deeper (envOfC "check_fields" (defScope s12) s.heap.objs.size (ad K 12) cdv))) :
    DSs (cxOf (L2.CX P w) P w K mg base ["kind", "fields", "index", "least", "greatest"] "check_fields" (defScope s12) (ad K 12) cdv A0 outer s H E) (ct K) pr (defBody s12) (b12 (runF m) pr) := by
  unfold b12 b12_l0
  exact ds_seq (ds_for (passes_of rfl) rfl (di_seq (de_kget h.kt_BOUNDS rfl (de_qvar (pv 0)) (qt (de_tup (da_nil))))) (dg_tup rfl (dgs_cons (dg_nameU sc12.nd rfl (Or.inl rfl)) (dgs_cons (dg_nameU sc12.nd rfl (Or.inl rfl)) (dgs_cons (dg_nameU sc12.nd rfl (Or.inl rfl)) (dgs_nil))))) (ds_seq (ds_if (dt_not (dt_chain o_le o_le (de_qvar (pv 3)) (DB.de (db_ix (db_var (pv 1)) (qt (de_qvar (pv 2))))) (db_var (pv 4)))) (ds_seq (ds_rs h.x_FieldFault h.sup hr rfl (da_cons (de_var (pv 2)) (da_nil)))
    (ds_nil)) (ds_nil))
    (ds_nil)))
    (ds_nil)
theorem d13 (h : Fx P w K mg fd) (A : All P w K mg base fd m) (TB : ∀ p ∈ cs K, GxR.TabB base mg p.1 p.2) {cdv : Value} (hcd : cdv = .ref (He.codeOf K at13)) {A0 : Around} {outer : List PySem.Env} {s : Shared} {H : Hp} {E : XK} {pr : Nat → Bool} (hr : Room (2 * m + 1) (A0.deeper (envOfC "other_axes" (defScope s13) s.heap.objs.size (ad K 13) cdv))) :
    DSs (cxOf (L2.CX P w) P w K mg base ["axis", "other"] "other_axes" (defScope s13) (ad K 13) cdv A0 outer s H E) (ct K) pr (defBody s13) (b13 (runF m) pr) := by
  unfold b13
  exact ds_seq (ds_ret (de_lc rfl sc13.nd (own := [("other", 1)]) (di_seq (de_tup (da_cons (de_int) (da_cons (de_int) (da_cons (de_int) (da_nil)))))) (blkOk_by (N := ["axis", "other"]) (sc := defScope s13) (by decide +kernel)) (by decide) rfl (fun _ _ _ _ _ => dg_name sc13.nd rfl (Or.inl rfl)) (fun _ _ _ _ _ => dts_one (dt_cmpB (o_ne (room64 hr)) (db_var (pv 1)) (qtB (db_var (pv 0))) (nomark _))) (fun _ _ _ _ _ => de_var (pv 1))))
    (ds_nil)
theorem d14 (h : Fx P w K mg fd) (A : All P w K mg base fd m) (TB : ∀ p ∈ cs K, GxR.TabB base mg p.1 p.2) {cdv : Value} (hcd : cdv = .ref (He.codeOf K at14)) {A0 : Around} {outer : List PySem.Env} {s : Shared} {H : Hp} {E : XK} {pr : Nat → Bool} (hr : Room (2 * m + 1) (A0.deeper (envOfC "is_from_to" (defScope s14) s.heap.objs.size (ad K 14) cdv))) :
    DSs (cxOf (L2.CX P w) P w K mg base ["number", "first", "second"] "is_from_to" (defScope s14) (ad K 14) cdv A0 outer s H E) (ct K) pr (defBody s14) (b14 (runF m) pr) := by
  unfold b14
  exact ds_seq (ds_ret (de_chain o_le o_le (de_timesB (DE.db (de_int)) (qtB (DE.db (de_min2 rfl rfl h.fr_min (da_cons (de_qvar (pv 1)) (da_cons (de_qvar (pv 2)) (da_nil))))))) (de_qvar (pv 0)) (DE.db (de_timesB (DE.db (de_int)) (qtB (DE.db (de_max2 rfl rfl h.fr_max (da_cons (de_qvar (pv 1)) (da_cons (de_qvar (pv 2)) (da_nil))))))))))
    (ds_nil)
theorem d15 (h : Fx P w K mg fd) (A : All P w K mg base fd m) (TB : ∀ p ∈ cs K, GxR.TabB base mg p.1 p.2) {cdv : Value} (hcd : cdv = .ref (He.codeOf K at15)) {A0 : Around} {outer : List PySem.Env} {s : Shared} {H : Hp} {E : XK} {pr : Nat → Bool} (hr : Room (2 * m + 1) (A0.deeper (envOfC "in_block" (defScope s15) s.heap.objs.size (ad K 15) cdv))) :
    DSs (cxOf (L2.CX P w) P w K mg base ["middle", "fields", "axis"] "in_block" (defScope s15) (ad K 15) cdv A0 outer s H E) (ct K) pr (defBody s15) (b15 (runF m) pr) := by
  unfold b15
  exact ds_seq (ds_ret (de_allL rfl rfl h.fr_all (DE.db (de_lc rfl sc15.nd (own := [("axis", 2)]) (di_rng1 rfl h.fr_range (da_cons (de_int) (da_nil))) (blkOk_by (N := ["middle", "fields", "axis"]) (sc := defScope s15) (by decide +kernel)) (by decide) rfl (fun _ _ _ _ _ => dg_name sc15.nd rfl (Or.inl rfl)) (qa := true) (fun _ _ _ _ _ => dts_nil) (fun _ _ _ _ _ => de_chain o_le o_le (de_timesB (DE.db (de_int)) (qtB (db_ix (db_var (pv 1)) (qt (de_qvar (pv 2)))))) (DB.de (db_ix (db_var (pv 0)) (qt (de_qvar (pv 2))))) (DE.db (de_timesB (DE.db (de_int)) (qtB (db_ix (db_var (pv 1)) (qt (de_plusB (DE.db (de_int)) (qtB (db_var (pv 2))))))))))))))
    (ds_nil)
theorem d16 (h : Fx P w K mg fd) (A : All P w K mg base fd m) (TB : ∀ p ∈ cs K, GxR.TabB base mg p.1 p.2) {cdv : Value} (hcd : cdv = .ref (He.codeOf K at16)) {A0 : Around} {outer : List PySem.Env} {s : Shared} {H : Hp} {E : XK} {pr : Nat → Bool} (hr : Room (2 * m + 1) (A0.deeper (envOfC "in_wedge" (defScope s16) s.heap.objs.size (ad K 16) cdv))) :
    DSs (cxOf (L2.CX P w) P w K mg base ["middle", "fields", "way", "axes", "widths", "total", "k", "axis"] "in_wedge" (defScope s16) (ad K 16) cdv A0 outer s H E) (ct K) pr (defBody s16) (b16 (runF m) pr) := by
  unfold b16 b16_l0
  exact ds_seq (ds_asg sc16.nd rfl (Or.inl rfl) (DB.de (db_ix (db_var (pv 1)) (qt (de_int)))))
    (ds_seq (ds_asg sc16.nd rfl (Or.inl rfl) (de_cal (A 13) (hr.mono (Nat.le_succ _)) rfl h.g_other_axes h.f13.kp (bn13 h) (dg_val (de_div (de_qvar (pv 2)) (de_int)) (dg_nil))))
    (ds_seq (ds_setLc rfl rfl rfl sc16.nd (own := [("axis", 7)]) (di_seq (de_var (pv 3))) (blkOk_by (N := ["middle", "fields", "way", "axes", "widths", "total", "k", "axis"]) (sc := defScope s16) (by decide +kernel)) (by decide) rfl (fun _ _ _ _ _ => dg_name sc16.nd rfl (Or.inl rfl)) (qa := true) (fun _ _ _ _ _ => dts_nil) (fun _ _ _ _ _ => de_sub (DB.de (db_ix (db_var (pv 1)) (qt (de_plusB (DE.db (de_int)) (qtB (db_var (pv 7))))))) (DB.de (db_ix (db_var (pv 1)) (qt (de_qvar (pv 7)))))))
    (ds_seq (ds_if (DW.dt (dw_or (dt_not (dt_tru (DE.db (de_cal (A 15) (hr.mono (Nat.le_succ _)) rfl h.g_in_block h.f15.kp (bn15 h) (dg_nm (pv 0) (dg_nm (pv 1) (dg_nil))))))) (dw_or1 (dt_cmpB (o_ne (room64 hr)) (db_ix (db_var (pv 4)) (qt (de_int))) (qtB (db_ix (db_var (pv 4)) (qt (de_int)))) (nomark _))))) (ds_seq (ds_ret (de_bl))
    (ds_nil)) (ds_nil))
    (ds_seq (ds_asg sc16.nd rfl (Or.inl rfl) (de_int))
    (ds_seq (ds_for (passes_of rfl) rfl (di_rng1 rfl h.fr_range (da_cons (de_int) (da_nil))) (dg_name sc16.nd rfl (Or.inl rfl)) (ds_seq (ds_if (dt_cmpB (o_eq (room64 hr)) (DE.db (de_mod (de_div (de_qvar (pv 2)) (de_plusB (DE.db (de_int)) (qtB (db_var (pv 6))))) (de_int))) (qtB (DE.db (de_int))) (nomark _)) (ds_seq (ds_aug io_add gAdd_prim sc16.nd rfl (Or.inl rfl) (de_sub (de_timesB (DE.db (de_int)) (qtB (db_ix (db_var (pv 1)) (qt (de_plusB (DE.db (de_int)) (qtB (db_ix (db_var (pv 3)) (qt (de_qvar (pv 6)))))))))) (DB.de (db_ix (db_var (pv 0)) (qt (DB.de (db_ix (db_var (pv 3)) (qt (de_qvar (pv 6))))))))))
    (ds_nil)) (ds_seq (ds_aug io_add gAdd_prim sc16.nd rfl (Or.inl rfl) (de_sub (DB.de (db_ix (db_var (pv 0)) (qt (DB.de (db_ix (db_var (pv 3)) (qt (de_qvar (pv 6)))))))) (de_timesB (DE.db (de_int)) (qtB (db_ix (db_var (pv 1)) (qt (DB.de (db_ix (db_var (pv 3)) (qt (de_qvar (pv 6)))))))))))
    (ds_nil)))
    (ds_nil)))
    (ds_seq (ds_ret (de_cmpB o_le (db_var (pv 5)) (qtB (DE.db (de_timesB (DE.db (de_int)) (qtB (db_ix (db_var (pv 4)) (qt (de_int))))))) (nomark _)))
    (ds_nil)))))))
theorem d17 (h : Fx P w K mg fd) (A : All P w K mg base fd m) (TB : ∀ p ∈ cs K, GxR.TabB base mg p.1 p.2) {cdv : Value} (hcd : cdv = .ref (He.codeOf K at17)) {A0 : Around} {outer : List PySem.Env} {s : Shared} {H : Hp} {E : XK} {pr : Nat → Bool} (hr : Room (2 * m + 1) (A0.deeper (envOfC "in_hole" (defScope s17) s.heap.objs.size (ad K 17) cdv))) :
    DSs (cxOf (L2.CX P w) P w K mg base ["middle", "axis", "fields", "u", "v"] "in_hole" (defScope s17) (ad K 17) cdv A0 outer s H E) (ct K) pr (defBody s17) (b17 (runF m) pr) := by
  unfold b17
  exact ds_seq (ds_tg (de_cal (A 13) (hr.mono (Nat.le_succ _)) rfl h.g_other_axes h.f13.kp (bn13 h) (dg_nm (pv 1) (dg_nil))) (dg_tup rfl (dgs_cons (dg_name sc17.nd rfl (Or.inl rfl)) (dgs_cons (dg_name sc17.nd rfl (Or.inl rfl)) (dgs_nil)))))
    (ds_seq (ds_if (dt_not (dt_tru (DE.db (de_cal (A 14) (hr.mono (Nat.le_succ _)) rfl h.g_is_from_to h.f14.kp (bn14 h) (dg_val (DB.de (db_ix (db_var (pv 0)) (qt (de_qvar (pv 1))))) (dg_val (DB.de (db_ix (db_var (pv 2)) (qt (de_int)))) (dg_val (DB.de (db_ix (db_var (pv 2)) (qt (de_int)))) (dg_nil)))))))) (ds_seq (ds_ret (de_bl))
    (ds_nil)) (ds_nil))
    (ds_seq (ds_ret (de_cal (A 5) (hr.mono (Nat.le_succ _)) rfl h.g_in_disc h.f5.kp (bn5 h) (dg_val (de_sub (DB.de (db_ix (db_var (pv 0)) (qt (de_qvar (pv 3))))) (de_timesB (DE.db (de_int)) (qtB (db_ix (db_var (pv 2)) (qt (de_int)))))) (dg_val (de_sub (DB.de (db_ix (db_var (pv 0)) (qt (de_qvar (pv 4))))) (de_timesB (DE.db (de_int)) (qtB (db_ix (db_var (pv 2)) (qt (de_int)))))) (dg_val (DB.de (db_ix (db_var (pv 2)) (qt (de_int)))) (dg_val (de_int) (dg_nil)))))))
    (ds_nil)))
theorem d18 (h : Fx P w K mg fd) (A : All P w K mg base fd m) (TB : ∀ p ∈ cs K, GxR.TabB base mg p.1 p.2) {cdv : Value} (hcd : cdv = .ref (He.codeOf K at18)) {A0 : Around} {outer : List PySem.Env} {s : Shared} {H : Hp} {E : XK} {pr : Nat → Bool} (hr : Room (2 * m + 1) (A0.deeper (envOfC "in_step" (defScope s18) s.heap.objs.size (ad K 18) cdv))) :
    DSs (cxOf (L2.CX P w) P w K mg base ["middle", "axis", "fields", "wider"] "in_step" (defScope s18) (ad K 18) cdv A0 outer s H E) (ct K) pr (defBody s18) (b18 (runF m) pr) := by
  unfold b18
  exact ds_seq (ds_asg sc18.nd rfl (Or.inl rfl) (de_tup (da_cons (DB.de (db_ix (db_var (pv 2)) (qt (de_int)))) (da_cons (DB.de (db_ix (db_var (pv 2)) (qt (de_int)))) (da_cons (DB.de (db_ix (db_var (pv 2)) (qt (de_int)))) (da_cons (DB.de (db_ix (db_var (pv 2)) (qt (de_int)))) (da_cons (DB.de (db_ix (db_var (pv 2)) (qt (de_int)))) (da_nil))))))))
    (ds_seq (ds_ret (de_or (de_cal (A 17) (hr.mono (Nat.le_succ _)) rfl h.g_in_hole h.f17.kp (bn17 h) (dg_nm (pv 0) (dg_nm (pv 1) (dg_val (de_sl (db_var (pv 2)) (do_none) (do_some (qt (de_int)))) (dg_nil))))) (de_one (de_cal (A 17) (hr.mono (Nat.le_succ _)) rfl h.g_in_hole h.f17.kp (bn17 h) (dg_nm (pv 0) (dg_nm (pv 1) (dg_nm (pv 3) (dg_nil))))))))
    (ds_nil))
theorem d19 (h : Fx P w K mg fd) (A : All P w K mg base fd m) (TB : ∀ p ∈ cs K, GxR.TabB base mg p.1 p.2) {cdv : Value} (hcd : cdv = .ref (He.codeOf K at19)) {A0 : Around} {outer : List PySem.Env} {s : Shared} {H : Hp} {E : XK} {pr : Nat → Bool} (hr : Room (2 * m + 1) (A0.deeper (envOfC "in_sink" (defScope s19) s.heap.objs.size (ad K 19) cdv))) :
    DSs (cxOf (L2.CX P w) P w K mg base ["middle", "axis", "fields", "u", "v", "reach"] "in_sink" (defScope s19) (ad K 19) cdv A0 outer s H E) (ct K) pr (defBody s19) (b19 (runF m) pr) := by
  unfold b19
  exact ds_seq (ds_tg (de_cal (A 13) (hr.mono (Nat.le_succ _)) rfl h.g_other_axes h.f13.kp (bn13 h) (dg_nm (pv 1) (dg_nil))) (dg_tup rfl (dgs_cons (dg_name sc19.nd rfl (Or.inl rfl)) (dgs_cons (dg_name sc19.nd rfl (Or.inl rfl)) (dgs_nil)))))
    (ds_seq (ds_if (dt_not (dt_tru (DE.db (de_cal (A 14) (hr.mono (Nat.le_succ _)) rfl h.g_is_from_to h.f14.kp (bn14 h) (dg_val (DB.de (db_ix (db_var (pv 0)) (qt (de_qvar (pv 1))))) (dg_val (DB.de (db_ix (db_var (pv 2)) (qt (de_int)))) (dg_val (DB.de (db_ix (db_var (pv 2)) (qt (de_int)))) (dg_nil)))))))) (ds_seq (ds_ret (de_bl))
    (ds_nil)) (ds_nil))
    (ds_seq (ds_asg sc19.nd rfl (Or.inl rfl) (de_sub (de_timesB (DE.db (de_int)) (qtB (db_ix (db_var (pv 2)) (qt (de_int))))) (de_abs rfl h.fr_abs (DE.db (de_sub (DB.de (db_ix (db_var (pv 0)) (qt (de_qvar (pv 1))))) (de_timesB (DE.db (de_int)) (qtB (db_ix (db_var (pv 2)) (qt (de_int))))))))))
    (ds_seq (ds_ret (de_and (de_cmpB o_le (DE.db (de_abs rfl h.fr_abs (DE.db (de_sub (DB.de (db_ix (db_var (pv 0)) (qt (de_qvar (pv 3))))) (de_timesB (DE.db (de_int)) (qtB (db_ix (db_var (pv 2)) (qt (de_int))))))))) (qtB (db_var (pv 5))) (nomark _)) (de_one (de_cmpB o_le (DE.db (de_abs rfl h.fr_abs (DE.db (de_sub (DB.de (db_ix (db_var (pv 0)) (qt (de_qvar (pv 4))))) (de_timesB (DE.db (de_int)) (qtB (db_ix (db_var (pv 2)) (qt (de_int))))))))) (qtB (db_var (pv 5))) (nomark _)))))
    (ds_nil))))
theorem d20 (h : Fx P w K mg fd) (A : All P w K mg base fd m) (TB : ∀ p ∈ cs K, GxR.TabB base mg p.1 p.2) {cdv : Value} (hcd : cdv = .ref (He.codeOf K at20)) {A0 : Around} {outer : List PySem.Env} {s : Shared} {H : Hp} {E : XK} {pr : Nat → Bool} (hr : Room (2 * m + 1) (A0.deeper (envOfC "is_plain" (defScope s20) s.heap.objs.size (ad K 20) cdv))) :
    DSs (cxOf (L2.CX P w) P w K mg base ["kind", "middle", "axis", "fields"] "is_plain" (defScope s20) (ad K 20) cdv A0 outer s H E) (ct K) pr (defBody s20) (b20 (runF m) pr) := by
  unfold b20
  exact ds_seq (ds_if (dt_cmpB (o_eq (room64 hr)) (db_var (pv 0)) (qtB (DE.db (de_str))) (nomark _)) (ds_seq (ds_ret (de_cal (A 15) (hr.mono (Nat.le_succ _)) rfl h.g_in_block h.f15.kp (bn15 h) (dg_nm (pv 1) (dg_nm (pv 3) (dg_nil)))))
    (ds_nil)) (ds_nil))
    (ds_seq (ds_if (dt_cmpB (o_eq (room64 hr)) (db_var (pv 0)) (qtB (DE.db (de_str))) (nomark _)) (ds_seq (ds_ret (de_cal (A 16) (hr.mono (Nat.le_succ _)) rfl h.g_in_wedge h.f16.kp (bn16 h) (dg_nm (pv 1) (dg_nm (pv 3) (dg_nil)))))
    (ds_nil)) (ds_nil))
    (ds_seq (ds_if (dt_cmpB (o_eq (room64 hr)) (db_var (pv 0)) (qtB (DE.db (de_str))) (nomark _)) (ds_seq (ds_ret (de_cal (A 17) (hr.mono (Nat.le_succ _)) rfl h.g_in_hole h.f17.kp (bn17 h) (dg_nm (pv 1) (dg_nm (pv 2) (dg_nm (pv 3) (dg_nil))))))
    (ds_nil)) (ds_nil))
    (ds_seq (ds_if (dt_cmpB (o_eq (room64 hr)) (db_var (pv 0)) (qtB (DE.db (de_str))) (nomark _)) (ds_seq (ds_ret (de_cal (A 18) (hr.mono (Nat.le_succ _)) rfl h.g_in_step h.f18.kp (bn18 h) (dg_nm (pv 1) (dg_nm (pv 2) (dg_nm (pv 3) (dg_nil))))))
    (ds_nil)) (ds_nil))
    (ds_seq (ds_ret (de_cal (A 19) (hr.mono (Nat.le_succ _)) rfl h.g_in_sink h.f19.kp (bn19 h) (dg_nm (pv 1) (dg_nm (pv 2) (dg_nm (pv 3) (dg_nil))))))
    (ds_nil)))))
theorem d21 (h : Fx P w K mg fd) (A : All P w K mg base fd m) (TB : ∀ p ∈ cs K, GxR.TabB base mg p.1 p.2) {cdv : Value} (hcd : cdv = .ref (He.codeOf K at21)) {A0 : Around} {outer : List PySem.Env} {s : Shared} {H : Hp} {E : XK} {pr : Nat → Bool} (hr : Room (2 * m + 1) (A0.deeper (envOfC "body_of" (defScope s21) s.heap.objs.size (ad K 21) cdv))) :
    DSs (cxOf (L2.CX P w) P w K mg base ["size", "kind", "fields", "sketch", "values", "axis", "grains", "plane", "grain"] "body_of" (defScope s21) (ad K 21) cdv A0 outer s H E) (ct K) pr (defBody s21) (b21 (runF m) pr) := by
  unfold b21
  exact ds_seq (ds_expr (de_cal (A 12) (hr.mono (Nat.le_succ _)) rfl h.g_check_fields h.f12.kp (bn12 h) (dg_nm (pv 1) (dg_nm (pv 2) (dg_nil)))))
    (ds_seq (ds_asg sc21.nd rfl (Or.inl rfl) (de_lrng rfl rfl h.fr_list rfl h.fr_range (de_cal (A 1) (hr.mono (Nat.le_succ _)) rfl h.g_grain_count h.f1.kp (bn1 h) (dg_nm (pv 0) (dg_nil)))))
    (ds_seq (ds_if (dt_cmpB (o_notIn (room65 hr)) (db_var (pv 1)) (qtB (DE.db (de_con rfl h.k_SKETCH_KINDS))) rfl) (ds_seq (ds_ret (de_mkN (c := 0) h.mk9 (A 9) hr rfl h.g_Solid (bn9 h) (dg_nm (pv 0) (dg_val (de_lc rfl sc21.nd (own := [("grain", 8)]) (di_seq (de_var (pv 6))) (blkOk_by (N := ["size", "kind", "fields", "sketch", "values", "axis", "grains", "plane", "grain"]) (sc := defScope s21) (by decide +kernel)) (by decide) rfl (fun _ _ _ _ _ => dg_name sc21.nd rfl (Or.inl rfl)) (fun _ _ _ _ _ => dts_one (dt_tru (DE.db (de_cal (A 20) (hr.mono (Nat.le_succ _)) rfl h.g_is_plain h.f20.kp (bn20 h) (dg_nm (pv 1) (dg_val (de_cal (A 3) (hr.mono (Nat.le_succ _)) rfl h.g_middle_of h.f3.kp (bn3 h) (dg_nm (pv 0) (dg_nm (pv 8) (dg_nil)))) (dg_nm (pv 5) (dg_nm (pv 2) (dg_nil))))))))) (fun _ _ _ _ _ => de_var (pv 8))) (dg_nil)))))
    (ds_nil)) (ds_nil))
    (ds_seq (ds_never)
    (ds_seq (ds_never)
    (ds_seq (ds_never)
    (ds_nil))))))
theorem d22 (h : Fx P w K mg fd) (A : All P w K mg base fd m) (TB : ∀ p ∈ cs K, GxR.TabB base mg p.1 p.2) {cdv : Value} (hcd : cdv = .ref (He.codeOf K at22)) {A0 : Around} {outer : List PySem.Env} {s : Shared} {H : Hp} {E : XK} {pr : Nat → Bool} (hr : Room (2 * m + 1) (A0.deeper (envOfC "_law_cell" (defScope s22) s.heap.objs.size (ad K 22) cdv))) :
    DSs (cxOf (L2.CX P w) P w K mg base ["script", "k"] "_law_cell" (defScope s22) (ad K 22) cdv A0 outer s H E) (ct K) pr (defBody s22) (b22 (runF m) pr) := by
  unfold b22
  exact ds_seq (ds_if (dt_cmpB o_lt (db_var (pv 1)) (qtB (DE.db (de_len rfl h.fr_len (db_var (pv 0))))) (nomark _)) (ds_seq (ds_ret (de_intF rfl h.fr_int (db_ix (db_var (pv 0)) (qt (de_qvar (pv 1))))))
    (ds_nil)) (ds_nil))
    (ds_seq (ds_ret (de_int))
    (ds_nil))
theorem d23 (h : Fx P w K mg fd) (A : All P w K mg base fd m) (TB : ∀ p ∈ cs K, GxR.TabB base mg p.1 p.2) {cdv : Value} (hcd : cdv = .ref (He.codeOf K at23)) {A0 : Around} {outer : List PySem.Env} {s : Shared} {H : Hp} {E : XK} {pr : Nat → Bool} (hr : Room (2 * m + 1) (A0.deeper (envOfC "_law_middles" (defScope s23) s.heap.objs.size (ad K 23) cdv))) :
    DSs (cxOf (L2.CX P w) P w K mg base ["size", "found", "z", "y", "x", "rests", "one"] "_law_middles" (defScope s23) (ad K 23) cdv A0 outer s H E) (ct K) pr (defBody s23) (b23 (runF m) pr) := by
  unfold b23 b23_l2 b23_l1 b23_l0
  exact ds_seq (ds_asg sc23.nd rfl (Or.inl rfl) (de_lst (da_nil)))
    (ds_seq (ds_for (passes_of rfl) rfl (di_rng1 rfl h.fr_range (da_cons (de_timesB (DE.db (de_int)) (qtB (db_var (pv 0)))) (da_nil))) (dg_name sc23.nd rfl (Or.inl rfl)) (ds_seq (ds_for (passes_of rfl) rfl (di_rng1 rfl h.fr_range (da_cons (de_timesB (DE.db (de_int)) (qtB (db_var (pv 0)))) (da_nil))) (dg_name sc23.nd rfl (Or.inl rfl)) (ds_seq (ds_for (passes_of rfl) rfl (di_rng1 rfl h.fr_range (da_cons (de_timesB (DE.db (de_int)) (qtB (db_var (pv 0)))) (da_nil))) (dg_name sc23.nd rfl (Or.inl rfl)) (ds_seq (ds_setLc rfl rfl rfl sc23.nd (own := [("one", 6)]) (di_seq (de_lst (da_cons (de_var (pv 4)) (da_cons (de_var (pv 3)) (da_cons (de_var (pv 2)) (da_nil)))))) (blkOk_by (N := ["size", "found", "z", "y", "x", "rests", "one"]) (sc := defScope s23) (by decide +kernel)) (by decide) rfl (fun _ _ _ _ _ => dg_name sc23.nd rfl (Or.inl rfl)) (qa := true) (fun _ _ _ _ _ => dts_nil) (fun _ _ _ _ _ => de_mod (de_intF rfl h.fr_int (db_var (pv 6))) (de_int)))
    (ds_seq (ds_if (DW.dt (dw_and (dt_cmpB (o_in (room65 hr)) (DE.db (de_int)) (qtB (db_var (pv 5))) rfl) (dw_and (DW.dt (dw_or (dt_cmpB (o_in (room65 hr)) (DE.db (de_int)) (qtB (db_var (pv 5))) rfl) (dw_or1 (dt_cmpB (o_in (room65 hr)) (DE.db (de_int)) (qtB (db_var (pv 5))) rfl)))) (dw_and1 (DW.dt (dw_or (dt_cmpB (o_in (room65 hr)) (DE.db (de_int)) (qtB (db_var (pv 5))) rfl) (dw_or1 (dt_cmpB (o_in (room65 hr)) (DE.db (de_int)) (qtB (db_var (pv 5))) rfl)))))))) (ds_seq (ds_expr (de_muN (k := 0) (co h _ rfl) mu_append mt_append PySem.F.plainAttrs_list PySem.F.slot_list_append PySem.F.type_list_append (pv 1) (da_cons (de_tup (da_cons (de_var (pv 4)) (da_cons (de_var (pv 3)) (da_cons (de_var (pv 2)) (da_nil))))) (da_nil))))
    (ds_nil)) (ds_nil))
    (ds_nil))))
    (ds_nil)))
    (ds_nil)))
    (ds_seq (ds_retV (pv 1))
    (ds_nil)))
theorem d24 (h : Fx P w K mg fd) (A : All P w K mg base fd m) (TB : ∀ p ∈ cs K, GxR.TabB base mg p.1 p.2) {cdv : Value} (hcd : cdv = .ref (He.codeOf K at24)) {A0 : Around} {outer : List PySem.Env} {s : Shared} {H : Hp} {E : XK} {pr : Nat → Bool} (hr : Room (2 * m + 1) (A0.deeper (envOfC "_law_others" (defScope s24) s.heap.objs.size (ad K 24) cdv))) :
    DSs (cxOf (L2.CX P w) P w K mg base ["axis"] "_law_others" (defScope s24) (ad K 24) cdv A0 outer s H E) (ct K) pr (defBody s24) (b24 (runF m) pr) := by
  unfold b24
  exact ds_seq (ds_ret (DB.de (db_ix (DE.db (de_lst (da_cons (de_lst (da_cons (de_int) (da_cons (de_int) (da_nil)))) (da_cons (de_lst (da_cons (de_int) (da_cons (de_int) (da_nil)))) (da_cons (de_lst (da_cons (de_int) (da_cons (de_int) (da_nil)))) (da_nil)))))) (qt (de_qvar (pv 0))))))
    (ds_nil)
theorem d25 (h : Fx P w K mg fd) (A : All P w K mg base fd m) (TB : ∀ p ∈ cs K, GxR.TabB base mg p.1 p.2) {cdv : Value} (hcd : cdv = .ref (He.codeOf K at25)) {A0 : Around} {outer : List PySem.Env} {s : Shared} {H : Hp} {E : XK} {pr : Nat → Bool} (hr : Room (2 * m + 1) (A0.deeper (envOfC "_law_within" (defScope s25) s.heap.objs.size (ad K 25) cdv))) :
    DSs (cxOf (L2.CX P w) P w K mg base ["number", "one", "two"] "_law_within" (defScope s25) (ad K 25) cdv A0 outer s H E) (ct K) pr (defBody s25) (b25 (runF m) pr) := by
  unfold b25
  exact ds_seq (ds_ret (de_chain o_le o_le (de_timesB (DE.db (de_int)) (qtB (DE.db (de_min2 rfl rfl h.fr_min (da_cons (de_qvar (pv 1)) (da_cons (de_qvar (pv 2)) (da_nil))))))) (de_qvar (pv 0)) (DE.db (de_timesB (DE.db (de_int)) (qtB (DE.db (de_max2 rfl rfl h.fr_max (da_cons (de_qvar (pv 1)) (da_cons (de_qvar (pv 2)) (da_nil))))))))))
    (ds_nil)
theorem d26 (h : Fx P w K mg fd) (A : All P w K mg base fd m) (TB : ∀ p ∈ cs K, GxR.TabB base mg p.1 p.2) {cdv : Value} (hcd : cdv = .ref (He.codeOf K at26)) {A0 : Around} {outer : List PySem.Env} {s : Shared} {H : Hp} {E : XK} {pr : Nat → Bool} (hr : Room (2 * m + 1) (A0.deeper (envOfC "_law_round" (defScope s26) s.heap.objs.size (ad K 26) cdv))) :
    DSs (cxOf (L2.CX P w) P w K mg base ["du", "dv", "radius"] "_law_round" (defScope s26) (ad K 26) cdv A0 outer s H E) (ct K) pr (defBody s26) (b26 (runF m) pr) := by
  unfold b26
  exact ds_seq (ds_asg sc26.nd rfl (Or.inl rfl) (de_abs rfl h.fr_abs (db_var (pv 0))))
    (ds_seq (ds_asg sc26.nd rfl (Or.inl rfl) (de_abs rfl h.fr_abs (db_var (pv 1))))
    (ds_seq (ds_ret (de_and (de_cmpB o_le (DE.db (de_max2 rfl rfl h.fr_max (da_cons (de_qvar (pv 0)) (da_cons (de_qvar (pv 1)) (da_nil))))) (qtB (DE.db (de_timesB (DE.db (de_int)) (qtB (db_var (pv 2)))))) (nomark _)) (de_one (de_cmpB o_le (DE.db (de_plusB (db_var (pv 0)) (qtB (db_var (pv 1))))) (qtB (DE.db (de_timesB (DE.db (de_int)) (qtB (DE.db (de_div (de_plusB (DE.db (de_timesB (DE.db (de_int)) (qtB (db_var (pv 2))))) (qtB (DE.db (de_int)))) (de_int))))))) (nomark _)))))
    (ds_nil)))
theorem d27 (h : Fx P w K mg fd) (A : All P w K mg base fd m) (TB : ∀ p ∈ cs K, GxR.TabB base mg p.1 p.2) {cdv : Value} (hcd : cdv = .ref (He.codeOf K at27)) {A0 : Around} {outer : List PySem.Env} {s : Shared} {H : Hp} {E : XK} {pr : Nat → Bool} (hr : Room (2 * m + 1) (A0.deeper (envOfC "_law_has" (defScope s27) s.heap.objs.size (ad K 27) cdv))) :
    DSs (cxOf (L2.CX P w) P w K mg base ["kind", "middle_v", "axis", "f", "u", "v", "k", "p", "q", "first", "second", "reach", "near"] "_law_has" (defScope s27) (ad K 27) cdv A0 outer s H E) (ct K) pr (defBody s27) (b27 (runF m) pr) := by
  unfold b27 b27_l0
  exact ds_seq (ds_tg (de_cal (A 24) (hr.mono (Nat.le_succ _)) rfl h.g__law_others h.f24.kp (bn24 h) (dg_nm (pv 2) (dg_nil))) (dg_tup rfl (dgs_cons (dg_name sc27.nd rfl (Or.inl rfl)) (dgs_cons (dg_name sc27.nd rfl (Or.inl rfl)) (dgs_nil)))))
    (ds_seq (ds_if (DW.dt (dw_or (dt_cmpB (o_eq (room64 hr)) (db_var (pv 0)) (qtB (DE.db (de_str))) (nomark _)) (dw_or1 (dt_cmpB (o_eq (room64 hr)) (db_var (pv 0)) (qtB (DE.db (de_str))) (nomark _))))) (ds_seq (ds_for (passes_of rfl) rfl (di_rng1 rfl h.fr_range (da_cons (de_int) (da_nil))) (dg_name sc27.nd rfl (Or.inl rfl)) (ds_seq (ds_if (dt_not (dt_chain o_le o_le (de_timesB (DE.db (de_int)) (qtB (db_ix (db_var (pv 3)) (qt (de_qvar (pv 6)))))) (DB.de (db_ix (db_var (pv 1)) (qt (de_qvar (pv 6))))) (DE.db (de_timesB (DE.db (de_int)) (qtB (db_ix (db_var (pv 3)) (qt (de_plusB (DE.db (de_int)) (qtB (db_var (pv 6))))))))))) (ds_seq (ds_ret (de_bl))
    (ds_nil)) (ds_nil))
    (ds_nil)))
    (ds_seq (ds_if (dt_cmpB (o_eq (room64 hr)) (db_var (pv 0)) (qtB (DE.db (de_str))) (nomark _)) (ds_seq (ds_ret (de_bl))
    (ds_nil)) (ds_nil))
    (ds_seq (ds_tg (de_cal (A 24) (hr.mono (Nat.le_succ _)) rfl h.g__law_others h.f24.kp (bn24 h) (dg_val (de_div (DB.de (db_ix (db_var (pv 3)) (qt (de_int)))) (de_int)) (dg_nil))) (dg_tup rfl (dgs_cons (dg_name sc27.nd rfl (Or.inl rfl)) (dgs_cons (dg_name sc27.nd rfl (Or.inl rfl)) (dgs_nil)))))
    (ds_seq (ds_asg sc27.nd rfl (Or.inl rfl) (de_sub (DB.de (db_ix (db_var (pv 1)) (qt (de_qvar (pv 7))))) (de_timesB (DE.db (de_int)) (qtB (db_ix (db_var (pv 3)) (qt (de_qvar (pv 7))))))))
    (ds_seq (ds_asg sc27.nd rfl (Or.inl rfl) (de_sub (DB.de (db_ix (db_var (pv 1)) (qt (de_qvar (pv 8))))) (de_timesB (DE.db (de_int)) (qtB (db_ix (db_var (pv 3)) (qt (de_qvar (pv 8))))))))
    (ds_seq (ds_if (dt_cmpB (o_in (room65 hr)) (db_ix (db_var (pv 3)) (qt (de_int))) (qtB (DE.db (de_lst (da_cons (de_int) (da_cons (de_int) (da_cons (de_int) (da_cons (de_int) (da_cons (de_int) (da_cons (de_int) (da_nil)))))))))) rfl) (ds_seq (ds_asg sc27.nd rfl (Or.inl rfl) (de_sub (de_timesB (DE.db (de_int)) (qtB (db_ix (db_var (pv 3)) (qt (de_plusB (DE.db (de_int)) (qtB (db_var (pv 7)))))))) (DB.de (db_ix (db_var (pv 1)) (qt (de_qvar (pv 7)))))))
    (ds_nil)) (ds_nil))
    (ds_seq (ds_if (dt_cmpB (o_in (room65 hr)) (db_ix (db_var (pv 3)) (qt (de_int))) (qtB (DE.db (de_lst (da_cons (de_int) (da_cons (de_int) (da_cons (de_int) (da_cons (de_int) (da_cons (de_int) (da_cons (de_int) (da_nil)))))))))) rfl) (ds_seq (ds_asg sc27.nd rfl (Or.inl rfl) (de_sub (de_timesB (DE.db (de_int)) (qtB (db_ix (db_var (pv 3)) (qt (de_plusB (DE.db (de_int)) (qtB (db_var (pv 8)))))))) (DB.de (db_ix (db_var (pv 1)) (qt (de_qvar (pv 8)))))))
    (ds_nil)) (ds_nil))
    (ds_seq (ds_ret (de_and (de_cmpB (o_eq (room64 hr)) (DE.db (de_sub (DB.de (db_ix (db_var (pv 3)) (qt (de_plusB (DE.db (de_int)) (qtB (db_var (pv 7))))))) (DB.de (db_ix (db_var (pv 3)) (qt (de_qvar (pv 7))))))) (qtB (DE.db (de_sub (DB.de (db_ix (db_var (pv 3)) (qt (de_plusB (DE.db (de_int)) (qtB (db_var (pv 8))))))) (DB.de (db_ix (db_var (pv 3)) (qt (de_qvar (pv 8)))))))) (nomark _)) (de_one (de_cmpB o_le (DE.db (de_plusB (db_var (pv 9)) (qtB (db_var (pv 10))))) (qtB (DE.db (de_timesB (DE.db (de_int)) (qtB (DE.db (de_sub (DB.de (db_ix (db_var (pv 3)) (qt (de_plusB (DE.db (de_int)) (qtB (db_var (pv 7))))))) (DB.de (db_ix (db_var (pv 3)) (qt (de_qvar (pv 7))))))))))) (nomark _)))))
    (ds_nil))))))))) (ds_nil))
    (ds_seq (ds_if (dt_not (dt_tru (DE.db (de_cal (A 25) (hr.mono (Nat.le_succ _)) rfl h.g__law_within h.f25.kp (bn25 h) (dg_val (DB.de (db_ix (db_var (pv 1)) (qt (de_qvar (pv 2))))) (dg_val (DB.de (db_ix (db_var (pv 3)) (qt (de_int)))) (dg_val (DB.de (db_ix (db_var (pv 3)) (qt (de_int)))) (dg_nil)))))))) (ds_seq (ds_if (DW.dt (dw_or (dt_cmpB (o_ne (room64 hr)) (db_var (pv 0)) (qtB (DE.db (de_str))) (nomark _)) (dw_or1 (dt_not (dt_tru (DE.db (de_cal (A 25) (hr.mono (Nat.le_succ _)) rfl h.g__law_within h.f25.kp (bn25 h) (dg_val (DB.de (db_ix (db_var (pv 1)) (qt (de_qvar (pv 2))))) (dg_val (DB.de (db_ix (db_var (pv 3)) (qt (de_int)))) (dg_val (DB.de (db_ix (db_var (pv 3)) (qt (de_int)))) (dg_nil))))))))))) (ds_seq (ds_ret (de_bl))
    (ds_nil)) (ds_nil))
    (ds_seq (ds_ret (de_cal (A 26) (hr.mono (Nat.le_succ _)) rfl h.g__law_round h.f26.kp (bn26 h) (dg_val (de_sub (DB.de (db_ix (db_var (pv 1)) (qt (de_qvar (pv 4))))) (de_timesB (DE.db (de_int)) (qtB (db_ix (db_var (pv 3)) (qt (de_int)))))) (dg_val (de_sub (DB.de (db_ix (db_var (pv 1)) (qt (de_qvar (pv 5))))) (de_timesB (DE.db (de_int)) (qtB (db_ix (db_var (pv 3)) (qt (de_int)))))) (dg_val (DB.de (db_ix (db_var (pv 3)) (qt (de_int)))) (dg_nil))))))
    (ds_nil))) (ds_nil))
    (ds_seq (ds_if (dt_cmpB (o_eq (room64 hr)) (db_var (pv 0)) (qtB (DE.db (de_str))) (nomark _)) (ds_seq (ds_asg sc27.nd rfl (Or.inl rfl) (de_sub (de_timesB (DE.db (de_int)) (qtB (db_ix (db_var (pv 3)) (qt (de_int))))) (de_abs rfl h.fr_abs (DE.db (de_sub (DB.de (db_ix (db_var (pv 1)) (qt (de_qvar (pv 2))))) (de_timesB (DE.db (de_int)) (qtB (db_ix (db_var (pv 3)) (qt (de_int))))))))))
    (ds_seq (ds_ret (de_cmpB o_le (DE.db (de_max2 rfl rfl h.fr_max (da_cons (de_abs rfl h.fr_abs (DE.db (de_sub (DB.de (db_ix (db_var (pv 1)) (qt (de_qvar (pv 4))))) (de_timesB (DE.db (de_int)) (qtB (db_ix (db_var (pv 3)) (qt (de_int)))))))) (da_cons (de_abs rfl h.fr_abs (DE.db (de_sub (DB.de (db_ix (db_var (pv 1)) (qt (de_qvar (pv 5))))) (de_timesB (DE.db (de_int)) (qtB (db_ix (db_var (pv 3)) (qt (de_int)))))))) (da_nil))))) (qtB (db_var (pv 11))) (nomark _)))
    (ds_nil))) (ds_nil))
    (ds_seq (ds_asg sc27.nd rfl (Or.inl rfl) (de_cal (A 26) (hr.mono (Nat.le_succ _)) rfl h.g__law_round h.f26.kp (bn26 h) (dg_val (de_sub (DB.de (db_ix (db_var (pv 1)) (qt (de_qvar (pv 4))))) (de_timesB (DE.db (de_int)) (qtB (db_ix (db_var (pv 3)) (qt (de_int)))))) (dg_val (de_sub (DB.de (db_ix (db_var (pv 1)) (qt (de_qvar (pv 5))))) (de_timesB (DE.db (de_int)) (qtB (db_ix (db_var (pv 3)) (qt (de_int)))))) (dg_val (DB.de (db_ix (db_var (pv 3)) (qt (de_int)))) (dg_nil))))))
    (ds_seq (ds_if (DW.dt (dw_and (dt_cmpB (o_eq (room64 hr)) (db_var (pv 0)) (qtB (DE.db (de_str))) (nomark _)) (dw_and1 (dt_tru (DE.db (de_cal (A 25) (hr.mono (Nat.le_succ _)) rfl h.g__law_within h.f25.kp (bn25 h) (dg_val (DB.de (db_ix (db_var (pv 1)) (qt (de_qvar (pv 2))))) (dg_val (DB.de (db_ix (db_var (pv 3)) (qt (de_int)))) (dg_val (DB.de (db_ix (db_var (pv 3)) (qt (de_int)))) (dg_nil)))))))))) (ds_seq (ds_asg sc27.nd rfl (Or.inl rfl) (de_or (de_qvar (pv 12)) (de_one (de_cal (A 26) (hr.mono (Nat.le_succ _)) rfl h.g__law_round h.f26.kp (bn26 h) (dg_val (de_sub (DB.de (db_ix (db_var (pv 1)) (qt (de_qvar (pv 4))))) (de_timesB (DE.db (de_int)) (qtB (db_ix (db_var (pv 3)) (qt (de_int)))))) (dg_val (de_sub (DB.de (db_ix (db_var (pv 1)) (qt (de_qvar (pv 5))))) (de_timesB (DE.db (de_int)) (qtB (db_ix (db_var (pv 3)) (qt (de_int)))))) (dg_val (DB.de (db_ix (db_var (pv 3)) (qt (de_int)))) (dg_nil))))))))
    (ds_nil)) (ds_nil))
    (ds_seq (ds_retV (pv 12))
    (ds_nil)))))))
theorem d28 (h : Fx P w K mg fd) (A : All P w K mg base fd m) (TB : ∀ p ∈ cs K, GxR.TabB base mg p.1 p.2) {cdv : Value} (hcd : cdv = .ref (He.codeOf K at28)) {A0 : Around} {outer : List PySem.Env} {s : Shared} {H : Hp} {E : XK} {pr : Nat → Bool} (hr : Room (2 * m + 1) (A0.deeper (envOfC "_law_made" (defScope s28) s.heap.objs.size (ad K 28) cdv))) :
    DSs (cxOf (L2.CX P w) P w K mg base ["size", "kind", "fields", "axis", "e"] "_law_made" (defScope s28) (ad K 28) cdv A0 outer s H E) (ct K) pr (defBody s28) (b28 (runF m) pr) := by
  unfold b28 b28_h0
  exact ds_seq (ds_try (fun pn xe hpo => ds_seq (ds_ret (de_tup (da_cons (de_str) (da_cons (de_metV0 (c := 0) (co h _ rfl) n0_ (de_cal (A 21) (hr.mono (Nat.le_succ _)) rfl h.g_body_of h.f21.kp (bn21 h) (dg_nm (pv 0) (dg_nm (pv 1) (dg_nm (pv 2) (dg_val (de_non) (dg_val (de_non) (dg_nm (pv 3) (dg_nil)))))))) h.me10 (A 10) (hr.mono (Nat.le_succ _)) (bn10 h) (nmOf_ne (by decide +kernel) (by decide +kernel))) (da_nil)))))
    (ds_nil)) (.as_ sc28.nd rfl rfl ⟨rfl, by decide, .inl h.mgx_FieldFault⟩ h.xm_FieldFault (fun a oe cls d pn c fs hc hz hf => ds_seq (ds_ret (de_tup (da_cons (de_str) (da_cons (de_xf (n := 2) (nmOf_inj (by decide +kernel) (by decide +kernel)) rfl ⟨_, rfl, h.xf_FieldFault_field c hc⟩ hz hf (pv 4)) (da_cons (de_xi (cv := .ref (He.ga K "LoftError")) (cvV := .ref (He.ga K "LoftError")) ⟨_, rfl, h.xc_FieldFault c hc⟩ (h.xi_LoftError c) (fun u r => r) hz hf rfl h.fr_isinstance (pv 4) (pe_glob rfl h.mgx_LoftError rfl (by decide))) (da_nil))))))
    (ds_nil)) (.nil)))
    (ds_nil)
theorem d29 (h : Fx P w K mg fd) (A : All P w K mg base fd m) (TB : ∀ p ∈ cs K, GxR.TabB base mg p.1 p.2) {cdv : Value} (hcd : cdv = .ref (He.codeOf K at29)) {A0 : Around} {outer : List PySem.Env} {s : Shared} {H : Hp} {E : XK} {pr : Nat → Bool} (hr : Room (2 * m + 1) (A0.deeper (envOfC "law" (defScope s29) s.heap.objs.size (ad K 29) cdv))) :
    DSs (cxOf (L2.CX P w) P w K mg base ["script", "first", "size", "kind", "counts", "name", "middles_v", "j", "fields", "k", "cell", "p", "q", "axis", "due", "bounds", "row"] "law" (defScope s29) (ad K 29) cdv A0 outer s H E) (ct K) pr (defBody s29) (b29 (runF m) pr) := by
  unfold b29 b29_l3 b29_l2 b29_l1 b29_l0
  exact ds_seq (ds_asg sc29.nd rfl (Or.inl rfl) (de_abs rfl h.fr_abs (DE.db (de_cal (A 22) (hr.mono (Nat.le_succ _)) rfl h.g__law_cell h.f22.kp (bn22 h) (dg_nm (pv 0) (dg_val (de_int) (dg_nil)))))))
    (ds_seq (ds_asg sc29.nd rfl (Or.inl rfl) (de_plusB (DE.db (de_int)) (qtB (DE.db (de_mod (de_qvar (pv 1)) (de_int))))))
    (ds_seq (ds_asg sc29.nd rfl (Or.inr rfl) (DB.de (db_ix (DE.db (de_lst (da_cons (de_str) (da_cons (de_str) (da_cons (de_str) (da_cons (de_str) (da_cons (de_str) (da_nil)))))))) (qt (de_mod (de_div (de_qvar (pv 1)) (de_int)) (de_int))))))
    (ds_seq (ds_asg sc29.nd rfl (Or.inl rfl) (de_disp (dps_cons (de_int) (dps_cons (de_int) (dps_cons (de_int) (dps_cons (de_int) (dps_cons (de_int) (dps_cons (de_int) (dps_cons (de_int) (dps_cons (de_int) (dps_cons (de_int) (dps_nil)))))))))) rfl rfl (by simp) (by decide) (by decide)))
    (ds_seq (ds_for (passes_of rfl) rfl (di_dct (de_var (pv 4))) (dg_name sc29.nd rfl (Or.inl rfl)) (ds_seq (ds_if (dt_cmpB (o_ne (room64 hr)) (DE.db (de_cal (A 11) (hr.mono (Nat.le_succ _)) rfl h.g_field_count h.f11.kp (bn11 h) (dg_nm (pv 5) (dg_nil)))) (qtB (db_ixd (room1 hr) (db_var (pv 4)) (qt (de_qvar (pv 5))))) (nomark _)) (ds_seq (ds_ret (de_bl))
    (ds_nil)) (ds_nil))
    (ds_nil)))
    (ds_seq (ds_asg sc29.nd rfl (Or.inr rfl) (de_cal (A 23) (hr.mono (Nat.le_succ _)) rfl h.g__law_middles h.f23.kp (bn23 h) (dg_nm (pv 2) (dg_nil))))
    (ds_seq (ds_for (passes_of rfl) rfl (di_rng1 rfl h.fr_range (da_cons (de_int) (da_nil))) (dg_name sc29.nd rfl (Or.inl rfl)) (ds_seq (ds_asg sc29.nd rfl (Or.inr rfl) (de_lst (da_nil)))
    (ds_seq (ds_for (passes_of rfl) rfl (di_rng1 rfl h.fr_range (da_cons (DB.de (db_ixd (room1 hr) (db_var (pv 4)) (qt (de_qvar (pv 3))))) (da_nil))) (dg_name sc29.nd rfl (Or.inl rfl)) (ds_seq (ds_asg sc29.nd rfl (Or.inl rfl) (de_abs rfl h.fr_abs (DE.db (de_cal (A 22) (hr.mono (Nat.le_succ _)) rfl h.g__law_cell h.f22.kp (bn22 h) (dg_nm (pv 0) (dg_val (de_plusB (DE.db (de_plusB (DE.db (de_int)) (qtB (DE.db (de_timesB (DE.db (de_int)) (qtB (db_var (pv 7)))))))) (qtB (db_var (pv 9)))) (dg_nil)))))))
    (ds_seq (ds_expr (de_muN (k := 0) (co h _ rfl) mu_append mt_append PySem.F.plainAttrs_list PySem.F.slot_list_append PySem.F.type_list_append (pv 8) (da_cons (de_sub (de_mod (de_qvar (pv 10)) (de_plusB (db_var (pv 2)) (qtB (DE.db (de_int))))) (de_int)) (da_nil))))
    (ds_seq (ds_if (dt_cmpB (o_eq (room64 hr)) (DE.db (de_mod (de_div (de_qvar (pv 10)) (de_int)) (de_int))) (qtB (DE.db (de_int))) (nomark _)) (ds_seq (ds_setI (co h _ rfl) (qtP (dp_name (pv 8))) (qt (de_qvar (pv 9))) (DB.de (db_ix (DE.db (de_lst (da_cons (de_neg (de_int)) (da_cons (de_int) (da_cons (de_int) (da_cons (de_int) (da_cons (de_int) (da_cons (de_neg (de_int)) (da_cons (de_int) (da_nil)))))))))) (qt (de_mod (de_div (de_qvar (pv 10)) (de_int)) (de_int))))))
    (ds_nil)) (ds_nil))
    (ds_nil)))))
    (ds_seq (ds_if (DW.dt (dw_and (dt_cmpB (o_in (room65 hr)) (db_var (pv 3)) (qtB (DE.db (de_lst (da_cons (de_str) (da_cons (de_str) (da_nil)))))) rfl) (dw_and1 (dt_cmpB o_gt (DE.db (de_mod (de_div (de_qvar (pv 1)) (de_int)) (de_int))) (qtB (DE.db (de_int))) (nomark _))))) (ds_seq (ds_asg sc29.nd rfl (Or.inr rfl) (de_plusB (DE.db (de_plus (de_lc rfl sc29.nd (own := [("k", 9)]) (di_rng1 rfl h.fr_range (da_cons (de_int) (da_nil))) (blkOk_by (N := ["script", "first", "size", "kind", "counts", "name", "middles_v", "j", "fields", "k", "cell", "p", "q", "axis", "due", "bounds", "row"]) (sc := defScope s29) (by decide +kernel)) (by decide) rfl (fun _ _ _ _ _ => dg_name sc29.nd rfl (Or.inl rfl)) (qa := true) (fun _ _ _ _ _ => dts_nil) (fun _ _ _ _ _ => de_min2 rfl rfl h.fr_min (da_cons (DB.de (db_ix (db_var (pv 8)) (qt (de_qvar (pv 9))))) (da_cons (DB.de (db_ix (db_var (pv 8)) (qt (de_plusB (DE.db (de_int)) (qtB (db_var (pv 9))))))) (da_nil))))) (DE.db (de_lc rfl sc29.nd (own := [("k", 9)]) (di_rng1 rfl h.fr_range (da_cons (de_int) (da_nil))) (blkOk_by (N := ["script", "first", "size", "kind", "counts", "name", "middles_v", "j", "fields", "k", "cell", "p", "q", "axis", "due", "bounds", "row"]) (sc := defScope s29) (by decide +kernel)) (by decide) rfl (fun _ _ _ _ _ => dg_name sc29.nd rfl (Or.inl rfl)) (qa := true) (fun _ _ _ _ _ => dts_nil) (fun _ _ _ _ _ => de_max2 rfl rfl h.fr_max (da_cons (DB.de (db_ix (db_var (pv 8)) (qt (de_qvar (pv 9))))) (da_cons (DB.de (db_ix (db_var (pv 8)) (qt (de_plusB (DE.db (de_int)) (qtB (db_var (pv 9))))))) (da_nil)))))))) (qtB (DE.db (de_sl (db_var (pv 8)) (do_some (qt (de_int))) (do_none))))))
    (ds_nil)) (ds_nil))
    (ds_seq (ds_if (dt_cmpB (o_eq (room64 hr)) (db_var (pv 3)) (qtB (DE.db (de_str))) (nomark _)) (ds_seq (ds_setI (co h _ rfl) (qtP (dp_name (pv 8))) (qt (de_int)) (de_sub (de_mod (de_abs rfl h.fr_abs (DE.db (de_cal (A 22) (hr.mono (Nat.le_succ _)) rfl h.g__law_cell h.f22.kp (bn22 h) (dg_nm (pv 0) (dg_val (de_plusB (DE.db (de_int)) (qtB (DE.db (de_timesB (DE.db (de_int)) (qtB (db_var (pv 7))))))) (dg_nil)))))) (de_int)) (de_int)))
    (ds_seq (ds_if (DW.dt (dw_and (dt_cmpB (o_eq (room64 hr)) (DE.db (de_mod (de_div (de_qvar (pv 1)) (de_int)) (de_int))) (qtB (DE.db (de_int))) (nomark _)) (dw_and1 (dt_chain o_le o_lt (de_int) (DB.de (db_ix (db_var (pv 8)) (qt (de_int)))) (DE.db (de_int)))))) (ds_seq (ds_tg (de_cal (A 24) (hr.mono (Nat.le_succ _)) rfl h.g__law_others h.f24.kp (bn24 h) (dg_val (de_div (DB.de (db_ix (db_var (pv 8)) (qt (de_int)))) (de_int)) (dg_nil))) (dg_tup rfl (dgs_cons (dg_name sc29.nd rfl (Or.inl rfl)) (dgs_cons (dg_name sc29.nd rfl (Or.inl rfl)) (dgs_nil)))))
    (ds_seq (ds_setI (co h _ rfl) (qtP (dp_name (pv 8))) (qt (de_plusB (DE.db (de_int)) (qtB (db_var (pv 12))))) (de_sub (de_plusB (db_ix (db_var (pv 8)) (qt (de_qvar (pv 12)))) (qtB (db_ix (db_var (pv 8)) (qt (de_plusB (DE.db (de_int)) (qtB (db_var (pv 11)))))))) (DB.de (db_ix (db_var (pv 8)) (qt (de_qvar (pv 11)))))))
    (ds_nil))) (ds_nil))
    (ds_nil))) (ds_nil))
    (ds_seq (ds_asg sc29.nd rfl (Or.inr rfl) (de_mod (de_div (de_qvar (pv 1)) (de_int)) (de_int)))
    (ds_seq (ds_asg sc29.nd rfl (Or.inl rfl) (de_non))
    (ds_seq (ds_asg sc29.nd rfl (Or.inl rfl) (de_disp (dps_cons (de_lst (da_cons (de_tup (da_cons (de_int) (da_cons (de_int) (da_cons (de_int) (da_nil))))) (da_nil))) (dps_cons (de_lst (da_cons (de_tup (da_cons (de_int) (da_cons (de_int) (da_cons (de_int) (da_nil))))) (da_nil))) (dps_cons (de_lst (da_cons (de_tup (da_cons (de_int) (da_cons (de_int) (da_cons (de_int) (da_nil))))) (da_cons (de_tup (da_cons (de_int) (da_cons (de_int) (da_cons (de_int) (da_nil))))) (da_nil)))) (dps_cons (de_lst (da_cons (de_tup (da_cons (de_int) (da_cons (de_int) (da_cons (de_int) (da_nil))))) (da_nil))) (dps_nil))))) rfl rfl (by simp) (by decide) (by decide)))
    (ds_seq (ds_for (passes_of rfl) rfl (di_seq (de_getS (room1 hr) (db_var (pv 15)) (qt (de_qvar (pv 3))) (qt (de_lst (da_nil))) ⟨rfl, rfl, rfl, rfl⟩)) (dg_name sc29.nd rfl (Or.inl rfl)) (ds_seq (ds_if (DW.dt (dw_and (dt_cmpB o_isN (db_var (pv 14)) (qtB (DE.db (de_non))) (nomark _)) (dw_and1 (dt_not (dt_chain o_le o_le (DB.de (db_ix (db_var (pv 16)) (qt (de_int)))) (DB.de (db_ix (db_var (pv 8)) (qt (DB.de (db_ix (db_var (pv 16)) (qt (de_int))))))) (db_ix (db_var (pv 16)) (qt (de_int)))))))) (ds_seq (ds_asg sc29.nd rfl (Or.inl rfl) (de_tup (da_cons (de_str) (da_cons (DB.de (db_ix (db_var (pv 16)) (qt (de_int)))) (da_cons (de_bl) (da_nil))))))
    (ds_nil)) (ds_nil))
    (ds_nil)))
    (ds_seq (ds_if (dt_cmpB o_isN (db_var (pv 14)) (qtB (DE.db (de_non))) (nomark _)) (ds_seq (ds_asg sc29.nd rfl (Or.inl rfl) (de_tup (da_cons (de_str) (da_cons (de_lc rfl sc29.nd (own := [("k", 9)]) (di_rng1 rfl h.fr_range (da_cons (de_len rfl h.fr_len (db_var (pv 6))) (da_nil))) (blkOk_by (N := ["script", "first", "size", "kind", "counts", "name", "middles_v", "j", "fields", "k", "cell", "p", "q", "axis", "due", "bounds", "row"]) (sc := defScope s29) (by decide +kernel)) (by decide) rfl (fun _ _ _ _ _ => dg_name sc29.nd rfl (Or.inl rfl)) (fun _ _ _ _ _ => dts_one (dt_tru (DE.db (de_cal (A 27) (hr.mono (Nat.le_succ _)) rfl h.g__law_has h.f27.kp (bn27 h) (dg_nm (pv 3) (dg_val (DB.de (db_ix (db_var (pv 6)) (qt (de_qvar (pv 9))))) (dg_nm (pv 13) (dg_nm (pv 8) (dg_nil))))))))) (fun _ _ _ _ _ => de_var (pv 9))) (da_nil)))))
    (ds_nil)) (ds_nil))
    (ds_seq (ds_if (dt_cmpB (o_ne (room64 hr)) (DE.db (de_cal (A 28) (hr.mono (Nat.le_succ _)) rfl h.g__law_made h.f28.kp (bn28 h) (dg_nm (pv 2) (dg_nm (pv 3) (dg_val (de_listF rfl h.fr_list (db_var (pv 8))) (dg_nm (pv 13) (dg_nil))))))) (qtB (db_var (pv 14))) (nomark _)) (ds_seq (ds_ret (de_bl))
    (ds_nil)) (ds_nil))
    (ds_nil))))))))))))
    (ds_seq (ds_ret (de_bl))
    (ds_nil))))))))
theorem none_ (i : Nat) (hi : 30 ≤ i) (m : Nat) : runF m i = fun _ => .stuck := by
  match m, i, hi with
  | 0, _, _ => rfl
  | m + 1, i, hi =>
    match i, hi with
    | 0, h => exact absurd h (by decide)
    | 1, h => exact absurd h (by decide)
    | 2, h => exact absurd h (by decide)
    | 3, h => exact absurd h (by decide)
    | 4, h => exact absurd h (by decide)
    | 5, h => exact absurd h (by decide)
    | 6, h => exact absurd h (by decide)
    | 7, h => exact absurd h (by decide)
    | 8, h => exact absurd h (by decide)
    | 9, h => exact absurd h (by decide)
    | 10, h => exact absurd h (by decide)
    | 11, h => exact absurd h (by decide)
    | 12, h => exact absurd h (by decide)
    | 13, h => exact absurd h (by decide)
    | 14, h => exact absurd h (by decide)
    | 15, h => exact absurd h (by decide)
    | 16, h => exact absurd h (by decide)
    | 17, h => exact absurd h (by decide)
    | 18, h => exact absurd h (by decide)
    | 19, h => exact absurd h (by decide)
    | 20, h => exact absurd h (by decide)
    | 21, h => exact absurd h (by decide)
    | 22, h => exact absurd h (by decide)
    | 23, h => exact absurd h (by decide)
    | 24, h => exact absurd h (by decide)
    | 25, h => exact absurd h (by decide)
    | 26, h => exact absurd h (by decide)
    | 27, h => exact absurd h (by decide)
    | 28, h => exact absurd h (by decide)
    | 29, h => exact absurd h (by decide)
    | n + 30, _ => rfl
theorem all_ (h : Fx P w K mg fd) (TB : ∀ p ∈ cs K, GxR.TabB base mg p.1 p.2) : ∀ m, All P w K mg base fd m
  | 0 => fun i => fn_pf0
  | m + 1 => fun i => match i with
    | 0 => fn_pf (n := 1) (k := 2 * m + 1) h.f0 sc0 rfl rfl fun cdv hcd A outer s H E pr hr => d0 h (all_ h TB m) TB (code_of (p := at0) h.f0 hcd) hr
    | 1 => fn_pf (n := 1) (k := 2 * m + 1) h.f1 sc1 rfl rfl fun cdv hcd A outer s H E pr hr => d1 h (all_ h TB m) TB (code_of (p := at1) h.f1 hcd) hr
    | 2 => fn_pf (n := 6) (k := 2 * m + 1) h.f2 sc2 rfl rfl fun cdv hcd A outer s H E pr hr => d2 h (all_ h TB m) TB (code_of (p := at2) h.f2 hcd) hr
    | 3 => fn_pf (n := 6) (k := 2 * m + 1) h.f3 sc3 rfl rfl fun cdv hcd A outer s H E pr hr => d3 h (all_ h TB m) TB (code_of (p := at3) h.f3 hcd) hr
    | 4 => fn_pf (n := 1) (k := 2 * m + 1) h.f4 sc4 rfl rfl fun cdv hcd A outer s H E pr hr => d4 h (all_ h TB m) TB (code_of (p := at4) h.f4 hcd) hr
    | 5 => fn_pf (n := 4) (k := 2 * m + 1) h.f5 sc5 rfl rfl fun cdv hcd A outer s H E pr hr => d5 h (all_ h TB m) TB (code_of (p := at5) h.f5 hcd) hr
    | 6 => fn_pf (n := 1) (k := 2 * m + 1) h.f6 sc6 rfl rfl fun cdv hcd A outer s H E pr hr => d6 h (all_ h TB m) TB (code_of (p := at6) h.f6 hcd) hr
    | 7 => fn_pf (n := 3) (k := 2 * m + 1) h.f7 sc7 rfl rfl fun cdv hcd A outer s H E pr hr => d7 h (all_ h TB m) TB (code_of (p := at7) h.f7 hcd) hr
    | 8 => fn_pf (n := 3) (k := 2 * m + 1) h.f8 sc8 rfl rfl fun cdv hcd A outer s H E pr hr => d8 h (all_ h TB m) TB (code_of (p := at8) h.f8 hcd) hr
    | 9 => fn_pf (n := 4) (k := 2 * m + 1) h.f9 sc9 rfl rfl fun cdv hcd A outer s H E pr hr => d9 h (all_ h TB m) TB (code_of (p := at9) h.f9 hcd) hr
    | 10 => fn_pf (n := 1) (k := 2 * m + 1) h.f10 sc10 rfl rfl fun cdv hcd A outer s H E pr hr => d10 h (all_ h TB m) TB (code_of (p := at10) h.f10 hcd) hr
    | 11 => fn_pf (n := 1) (k := 2 * m + 1) h.f11 sc11 rfl rfl fun cdv hcd A outer s H E pr hr => d11 h (all_ h TB m) TB (code_of (p := at11) h.f11 hcd) hr
    | 12 => fn_pf (n := 5) (k := 2 * m + 1) h.f12 sc12 rfl rfl fun cdv hcd A outer s H E pr hr => d12 h (all_ h TB m) TB (code_of (p := at12) h.f12 hcd) hr
    | 13 => fn_pf (n := 2) (k := 2 * m + 1) h.f13 sc13 rfl rfl fun cdv hcd A outer s H E pr hr => d13 h (all_ h TB m) TB (code_of (p := at13) h.f13 hcd) hr
    | 14 => fn_pf (n := 3) (k := 2 * m + 1) h.f14 sc14 rfl rfl fun cdv hcd A outer s H E pr hr => d14 h (all_ h TB m) TB (code_of (p := at14) h.f14 hcd) hr
    | 15 => fn_pf (n := 3) (k := 2 * m + 1) h.f15 sc15 rfl rfl fun cdv hcd A outer s H E pr hr => d15 h (all_ h TB m) TB (code_of (p := at15) h.f15 hcd) hr
    | 16 => fn_pf (n := 8) (k := 2 * m + 1) h.f16 sc16 rfl rfl fun cdv hcd A outer s H E pr hr => d16 h (all_ h TB m) TB (code_of (p := at16) h.f16 hcd) hr
    | 17 => fn_pf (n := 5) (k := 2 * m + 1) h.f17 sc17 rfl rfl fun cdv hcd A outer s H E pr hr => d17 h (all_ h TB m) TB (code_of (p := at17) h.f17 hcd) hr
    | 18 => fn_pf (n := 4) (k := 2 * m + 1) h.f18 sc18 rfl rfl fun cdv hcd A outer s H E pr hr => d18 h (all_ h TB m) TB (code_of (p := at18) h.f18 hcd) hr
    | 19 => fn_pf (n := 6) (k := 2 * m + 1) h.f19 sc19 rfl rfl fun cdv hcd A outer s H E pr hr => d19 h (all_ h TB m) TB (code_of (p := at19) h.f19 hcd) hr
    | 20 => fn_pf (n := 4) (k := 2 * m + 1) h.f20 sc20 rfl rfl fun cdv hcd A outer s H E pr hr => d20 h (all_ h TB m) TB (code_of (p := at20) h.f20 hcd) hr
    | 21 => fn_pf (n := 9) (k := 2 * m + 1) h.f21 sc21 rfl rfl fun cdv hcd A outer s H E pr hr => d21 h (all_ h TB m) TB (code_of (p := at21) h.f21 hcd) hr
    | 22 => fn_pf (n := 2) (k := 2 * m + 1) h.f22 sc22 rfl rfl fun cdv hcd A outer s H E pr hr => d22 h (all_ h TB m) TB (code_of (p := at22) h.f22 hcd) hr
    | 23 => fn_pf (n := 7) (k := 2 * m + 1) h.f23 sc23 rfl rfl fun cdv hcd A outer s H E pr hr => d23 h (all_ h TB m) TB (code_of (p := at23) h.f23 hcd) hr
    | 24 => fn_pf (n := 1) (k := 2 * m + 1) h.f24 sc24 rfl rfl fun cdv hcd A outer s H E pr hr => d24 h (all_ h TB m) TB (code_of (p := at24) h.f24 hcd) hr
    | 25 => fn_pf (n := 3) (k := 2 * m + 1) h.f25 sc25 rfl rfl fun cdv hcd A outer s H E pr hr => d25 h (all_ h TB m) TB (code_of (p := at25) h.f25 hcd) hr
    | 26 => fn_pf (n := 3) (k := 2 * m + 1) h.f26 sc26 rfl rfl fun cdv hcd A outer s H E pr hr => d26 h (all_ h TB m) TB (code_of (p := at26) h.f26 hcd) hr
    | 27 => fn_pf (n := 13) (k := 2 * m + 1) h.f27 sc27 rfl rfl fun cdv hcd A outer s H E pr hr => d27 h (all_ h TB m) TB (code_of (p := at27) h.f27 hcd) hr
    | 28 => fn_pf (n := 5) (k := 2 * m + 1) h.f28 sc28 rfl rfl fun cdv hcd A outer s H E pr hr => d28 h (all_ h TB m) TB (code_of (p := at28) h.f28 hcd) hr
    | 29 => fn_pf (n := 17) (k := 2 * m + 1) h.f29 sc29 rfl rfl fun cdv hcd A outer s H E pr hr => d29 h (all_ h TB m) TB (code_of (p := at29) h.f29 hcd) hr
    | n + 30 => (none_ (n + 30) (Nat.le_add_left _ _) (m + 1)) ▸ ⟨fun vs H Q E h => spF_len vs H Q E h, fun A outer s H args us vs Q E _ _ _ _ h => by
      obtain ⟨G, tds, xs, h1, h2, _, z⟩ := h
      exact z.elim⟩
end
end LK12
namespace LK12
open PySem PySem.Spec L2 PF
open PyProof.Rows hiding St
theorem xok_FieldFault : XdOk xd_FieldFault := ⟨fun _ _ _ _ _ _ _ us hl => match us, hl with | [_, _], _ => rfl, ⟨_, rfl, rfl⟩, ⟨_, _, _, _, _, _, _, _, rfl, .inl ⟨_, _, _, _, _, rfl, rfl⟩⟩, ⟨by decide +kernel, by decide +kernel, by decide +kernel, by decide +kernel, rfl, rfl, rfl, by decide +kernel⟩⟩
theorem xok_InvalidSize : XdOk xd_InvalidSize := ⟨fun _ _ _ _ _ _ _ us hl => match us, hl with | [_, _], _ => rfl, ⟨_, rfl, rfl⟩, ⟨_, _, _, _, _, _, _, _, rfl, .inl ⟨_, _, _, _, _, rfl, rfl⟩⟩, ⟨by decide +kernel, by decide +kernel, by decide +kernel, by decide +kernel, rfl, rfl, rfl, by decide +kernel⟩⟩
theorem xok_NoSuchGrain : XdOk xd_NoSuchGrain := ⟨fun _ _ _ _ _ _ _ us hl => match us, hl with | [_, _], _ => rfl, ⟨_, rfl, rfl⟩, ⟨_, _, _, _, _, _, _, _, rfl, .inl ⟨_, _, _, _, _, rfl, rfl⟩⟩, ⟨by decide +kernel, by decide +kernel, by decide +kernel, by decide +kernel, rfl, rfl, rfl, by decide +kernel⟩⟩
theorem htop : (PySem.Challenge.pw_partloft_k12_bodies_without_sketches.main.scope.names.lookup ("super" : PySem.Str)).isSome = false := by decide +kernel
theorem facts_ {w : World} {K : PySem.W.Frag} {hh : Heap} {mg : PySem.Str → Option Value} (X : K.In hh) (G : hh.Ns mainGlobals mg) (c : He.SaysX fa fn ts tf ex w hh K) (cz : ∀ d ∈ xs, fnY K d.cls = d.val) : ∃ fd : Nat → FuncData, Fx PySem.Challenge.pw_partloft_k12_bodies_without_sketches w K mg fd := by
  have cx := c.more
  obtain ⟨e0, h0⟩ := c.t.d.def_ 0 (d := dd0) rfl
  obtain ⟨e1, h1⟩ := c.t.d.def_ 1 (d := dd1) rfl
  obtain ⟨e2, h2⟩ := c.t.d.def_ 2 (d := dd2) rfl
  obtain ⟨e3, h3⟩ := c.t.d.def_ 3 (d := dd3) rfl
  obtain ⟨e4, h4⟩ := c.t.d.def_ 4 (d := dd4) rfl
  obtain ⟨e5, h5⟩ := c.t.d.def_ 5 (d := dd5) rfl
  obtain ⟨e6, h6⟩ := c.t.d.def_ 6 (d := dd6) rfl
  obtain ⟨e7, h7⟩ := c.t.d.def_ 7 (d := dd7) rfl
  obtain ⟨e8, h8⟩ := c.t.d.def_ 8 (d := dd8) rfl
  obtain ⟨e9, h9⟩ := c.t.d.def_ 9 (d := dd9) rfl
  obtain ⟨e10, h10⟩ := c.t.d.def_ 10 (d := dd10) rfl
  obtain ⟨e11, h11⟩ := c.t.d.def_ 11 (d := dd11) rfl
  obtain ⟨e12, h12⟩ := c.t.d.def_ 12 (d := dd12) rfl
  obtain ⟨e13, h13⟩ := c.t.d.def_ 13 (d := dd13) rfl
  obtain ⟨e14, h14⟩ := c.t.d.def_ 14 (d := dd14) rfl
  obtain ⟨e15, h15⟩ := c.t.d.def_ 15 (d := dd15) rfl
  obtain ⟨e16, h16⟩ := c.t.d.def_ 16 (d := dd16) rfl
  obtain ⟨e17, h17⟩ := c.t.d.def_ 17 (d := dd17) rfl
  obtain ⟨e18, h18⟩ := c.t.d.def_ 18 (d := dd18) rfl
  obtain ⟨e19, h19⟩ := c.t.d.def_ 19 (d := dd19) rfl
  obtain ⟨e20, h20⟩ := c.t.d.def_ 20 (d := dd20) rfl
  obtain ⟨e21, h21⟩ := c.t.d.def_ 21 (d := dd21) rfl
  obtain ⟨e22, h22⟩ := c.t.d.def_ 22 (d := dd22) rfl
  obtain ⟨e23, h23⟩ := c.t.d.def_ 23 (d := dd23) rfl
  obtain ⟨e24, h24⟩ := c.t.d.def_ 24 (d := dd24) rfl
  obtain ⟨e25, h25⟩ := c.t.d.def_ 25 (d := dd25) rfl
  obtain ⟨e26, h26⟩ := c.t.d.def_ 26 (d := dd26) rfl
  obtain ⟨e27, h27⟩ := c.t.d.def_ 27 (d := dd27) rfl
  obtain ⟨e28, h28⟩ := c.t.d.def_ 28 (d := dd28) rfl
  obtain ⟨e29, h29⟩ := c.t.d.def_ 29 (d := dd29) rfl
  refine ⟨fun i => match i with
    | 0 => e0
    | 1 => e1
    | 2 => e2
    | 3 => e3
    | 4 => e4
    | 5 => e5
    | 6 => e6
    | 7 => e7
    | 8 => e8
    | 9 => e9
    | 10 => e10
    | 11 => e11
    | 12 => e12
    | 13 => e13
    | 14 => e14
    | 15 => e15
    | 16 => e16
    | 17 => e17
    | 18 => e18
    | 19 => e19
    | 20 => e20
    | 21 => e21
    | 22 => e22
    | 23 => e23
    | 24 => e24
    | 25 => e25
    | 26 => e26
    | 27 => e27
    | 28 => e28
    | 29 => e29
    | _ => e0, h0,
    h1,
    h2,
    h3,
    h4,
    h5,
    h6,
    h7,
    h8,
    h9,
    h10,
    h11,
    h12,
    h13,
    h14,
    h15,
    h16,
    h17,
    h18,
    h19,
    h20,
    h21,
    h22,
    h23,
    h24,
    h25,
    h26,
    h27,
    h28,
    h29,
    He.glo_ok X G (c.t.d.fact 0 (f := .glo "rank") rfl),
    He.glo_ok X G (c.t.d.fact 1 (f := .glo "grain_count") rfl),
    He.glo_ok X G (c.t.d.fact 2 (f := .glo "row_middles") rfl),
    He.glo_ok X G (c.t.d.fact 3 (f := .glo "middle_of") rfl),
    He.glo_ok X G (c.t.d.fact 4 (f := .glo "disc_bound") rfl),
    He.glo_ok X G (c.t.d.fact 5 (f := .glo "in_disc") rfl),
    He.glo_ok X G (c.t.d.fact 6 (f := .glo "check_size") rfl),
    He.glo_ok X G (c.t.d.fact 7 (f := .glo "mask_of") rfl),
    He.glo_ok X G (c.t.d.fact 8 (f := .glo "bits_of") rfl),
    He.glo_ok X G (c.t.d.fact 9 (f := .glo "field_count") rfl),
    He.glo_ok X G (c.t.d.fact 10 (f := .glo "check_fields") rfl),
    He.glo_ok X G (c.t.d.fact 11 (f := .glo "other_axes") rfl),
    He.glo_ok X G (c.t.d.fact 12 (f := .glo "is_from_to") rfl),
    He.glo_ok X G (c.t.d.fact 13 (f := .glo "in_block") rfl),
    He.glo_ok X G (c.t.d.fact 14 (f := .glo "in_wedge") rfl),
    He.glo_ok X G (c.t.d.fact 15 (f := .glo "in_hole") rfl),
    He.glo_ok X G (c.t.d.fact 16 (f := .glo "in_step") rfl),
    He.glo_ok X G (c.t.d.fact 17 (f := .glo "in_sink") rfl),
    He.glo_ok X G (c.t.d.fact 18 (f := .glo "is_plain") rfl),
    He.glo_ok X G (c.t.d.fact 19 (f := .glo "body_of") rfl),
    He.glo_ok X G (c.t.d.fact 20 (f := .glo "_law_cell") rfl),
    He.glo_ok X G (c.t.d.fact 21 (f := .glo "_law_middles") rfl),
    He.glo_ok X G (c.t.d.fact 22 (f := .glo "_law_others") rfl),
    He.glo_ok X G (c.t.d.fact 23 (f := .glo "_law_within") rfl),
    He.glo_ok X G (c.t.d.fact 24 (f := .glo "_law_round") rfl),
    He.glo_ok X G (c.t.d.fact 25 (f := .glo "_law_has") rfl),
    He.glo_ok X G (c.t.d.fact 26 (f := .glo "_law_made") rfl),
    He.glo_ok X G (c.t.d.fact 27 (f := .glo "law") rfl),
    He.glo_ok X G (c.t.d.fact 28 (f := .glo "Solid") rfl),
    He.free_ok X G (c.t.d.fact 29 (f := .free "abs") rfl),
    He.free_ok X G (c.t.d.fact 30 (f := .free "all") rfl),
    He.free_ok X G (c.t.d.fact 31 (f := .free "int") rfl),
    He.free_ok X G (c.t.d.fact 32 (f := .free "isinstance") rfl),
    He.free_ok X G (c.t.d.fact 33 (f := .free "len") rfl),
    He.free_ok X G (c.t.d.fact 34 (f := .free "list") rfl),
    He.free_ok X G (c.t.d.fact 35 (f := .free "max") rfl),
    He.free_ok X G (c.t.d.fact 36 (f := .free "min") rfl),
    He.free_ok X G (c.t.d.fact 37 (f := .free "range") rfl),
    con_ok X G (ex_at cx 0 rfl),
    con_ok X G (ex_at cx 1 rfl),
    con_ok X G (ex_at cx 2 rfl),
    con_ok X G (ex_at cx 3 rfl),
    con_ok X G (ex_at cx 4 rfl),
    con_ok X G (ex_at cx 5 rfl),
    con_ok X G (ex_at cx 6 rfl),
    He.free_ok X G (c.t.d.fact 38 (f := .free "super") rfl),
    ext_ok (prog := PySem.Challenge.pw_partloft_k12_bodies_without_sketches) X G xok_FieldFault (cz _ (by simp [xs])) (ex_at cx 7 rfl) htop (c.t.d.fact 39 (f := .glo "FieldFault") rfl),
    ext_ok (prog := PySem.Challenge.pw_partloft_k12_bodies_without_sketches) X G xok_InvalidSize (cz _ (by simp [xs])) (ex_at cx 8 rfl) htop (c.t.d.fact 40 (f := .glo "InvalidSize") rfl),
    ext_ok (prog := PySem.Challenge.pw_partloft_k12_bodies_without_sketches) X G xok_NoSuchGrain (cz _ (by simp [xs])) (ex_at cx 9 rfl) htop (c.t.d.fact 41 (f := .glo "NoSuchGrain") rfl),
    ktab_ok X G (c.t.d.fact 42 (f := .glo "FIELD_COUNTS") rfl) (tab_dic c.t 0 rfl) (ex_at cx 10 rfl),
    ktab_ok X G (c.t.d.fact 43 (f := .glo "BOUNDS") rfl) (tab_dic c.t 1 rfl) (ex_at cx 11 rfl),
    He.glo_ok X G (c.t.d.fact 39 (f := .glo "FieldFault") rfl),
    He.glo_ok X G (c.t.d.fact 40 (f := .glo "InvalidSize") rfl),
    He.glo_ok X G (c.t.d.fact 44 (f := .glo "LoftError") rfl),
    He.glo_ok X G (c.t.d.fact 41 (f := .glo "NoSuchGrain") rfl),
    xm_ok (ex_at cx 12 rfl),
    xfL_ok (ex_at cx 13 rfl),
    exL_ok (ex_at cx 14 rfl),
    xi_ok (ex_at cx 15 rfl),
    clsOf_all (p := fun a => Cls K a) (fun a ha => by
      simp only [List.mem_cons, List.not_mem_nil, or_false] at ha
      rcases ha with rfl
      · exact He.cls_ok (c.t.d.fact 45 (f := .cls "Solid") rfl)),
    fun cc n hn => clsOf_all (p := fun a => NoAttr K a (nmOf nmT n)) (fun a ha => by
      simp only [List.mem_cons, List.not_mem_nil, or_false] at ha
      rcases ha with rfl
      · have z : ∀ x ∈ nmT.take 2, NoAttr K (He.ga K "Solid") x := fun x hx => by
          simp only [nmT, List.take_succ_cons, List.take_zero, List.mem_cons, List.not_mem_nil, or_false] at hx
          rcases hx with rfl | rfl
          · exact He.noat_ok (c.t.d.fact 46 (f := .noat "Solid" "size") rfl)
          · exact He.noat_ok (c.t.d.fact 47 (f := .noat "Solid" "_mask") rfl)
        exact z _ (nmOf_at' hn (by decide))) cc,
    He.mkr_ok (c.t.d.fact 48 (f := .mkr "Solid") rfl),
    He.meth_ok (c.t.d.fact 49 (f := .meth "Solid" "grains") rfl)⟩
theorem facts {w : World} {K : PySem.W.Frag} {hh : Heap} {mg : PySem.Str → Option Value} {f : Addr} (X : K.In hh) (G : hh.Ns mainGlobals mg) (hfa : mg "law" = some (.ref f)) (c : He.SaysX fa fn ts tf ex w hh K) (cz : ∀ d ∈ xs, fnY K d.cls = d.val) (m : Nat) :
    ∃ fd : FuncData, (∀ (s : Shared) (v : Value), BindsTo s fd ⟨[v], []⟩ [("script", v)]) ∧ ∀ base : Heap, (∀ p ∈ cs K, LamX.TabB base mg p.1 p.2) → FnOk PySem.Challenge.pw_partloft_k12_bodies_without_sketches w K mg base CX0 (2 * m) f fd ["script"] (fun vs H Q _ => spF K (ct K) 1 (runF m 29) vs H Q fun _ _ _ => False) := by
  obtain ⟨fd, h⟩ := facts_ X G c cz
  have e := hfa.symm.trans h.g_law
  cases e
  have b := FunD.bindsA (ps := ["script"]) h.f29 fun _ _ _ _ _ _ us hl => match us, hl with | [_], _ => rfl
  exact ⟨fd 29, fun s v => b s [v] rfl, fun base TB => fnOk_quiet (all_ h (fun p hp => ⟨(TB p hp).code, (TB p hp).bm, (TB p hp).gP⟩) m 29)⟩
/-- what is left: the law over values -/
def Law (m : Nat) : Prop := ∀ ns : List Int, ns.length ≤ 63 → ∃ t ys, runF m 29 [(.F, .scr ns)] = .ok (t, .bl true) ys ∧ ys.length = 1
end LK12
section
open PySem PySem.W PySem.Calls PyProof.Rows
theorem LK12.holds {m : Nat} (hm : 2 * m ≤ 230) (plain : LK12.Law m) : PySem.Challenge.rw_partloft_k12_bodies_without_sketches.Holds := by
  w_on; o_law
  refine HandSHeadRun.head_any (r := OpenLaw.row PySem.Challenge.rw_partloft_k12_bodies_without_sketches) (q := view (OpenLaw.row PySem.Challenge.rw_partloft_k12_bodies_without_sketches).prog [153]) (H := LK12.hk) (ob := LK12.ob) (M := 20000) (loose := LK12.loose) (d := HandSHeadRun.topDef (OpenLaw.row PySem.Challenge.rw_partloft_k12_bodies_without_sketches).prog 153) (kwd := []) LK12.ob_eq
    (by kernel_rfl) (fun s => by kernel_rfl) LK12.run (by kernel_rfl) (by kernel_rfl) (by kernel_rfl) (by rfl) (by first | assumption | decide +kernel) (by decide +kernel) ⟨rfl, rfl, rfl, rfl, rfl, by decide +kernel⟩ ?hw ?hc
  case hw => w_witness2
  case hc =>
    refine LamX.walk_ofTsE (l := PySem.Challenge.rw_partloft_k12_bodies_without_sketches) (n := 63) (k := 2 * m) (x := "script") (CX := fun _ => L2.CX0) rfl (by decide) (by kernel_rfl) (PF.roomC hm) ?F (fun _ _ _ _ _ z => z)
    intro w mg fa h Y G hmg0
    obtain ⟨K, KX, c, cz⟩ := Y
    have hmg : mg ("law" : PySem.Str) = some (.ref fa) := by
      have e : (HandSHeadRun.topDef (OpenLaw.row PySem.Challenge.rw_partloft_k12_bodies_without_sketches).prog 153).name = ("law" : PySem.Str) := by kernel_rfl
      rw [← e]
      exact hmg0
    obtain ⟨fd, hb, hF⟩ := LK12.facts (w := w) KX G hmg c cz m
    have inT : ∀ p ∈ LK12.cs K, ∃ q ∈ LK12.tf, He.cT K q = p := fun p hp => List.mem_map.mp hp
    refine ⟨K, KX, fd, LK12.cs K, fun vs H Q _ => PF.spF K (LK12.ct K) 1 (LK12.runF m 29) vs H Q fun _ _ _ => False, fun p hp => ?_, fun p hp => ?_, fun p hp => ?_, hb, fun H a ns hl _ hH hS => ?_, fun base _ _ TB => hF base TB⟩
    · obtain ⟨q, hq, rfl⟩ := inT p hp; exact c.empty q hq
    · obtain ⟨q, hq, rfl⟩ := inT p hp; exact c.out q hq
    · obtain ⟨q, hq, rfl⟩ := inT p hp; exact PySem.W.codeHd_of_K KX (c.hd q hq)
    · obtain ⟨t, ys, e, hy⟩ := plain ns hl
      exact PF.law_end hS e hy (PF.gx_start hH)
end
namespace Rm
/-- the three ranks are 0, 1, 2 in some order -/
def okM (p : P3) : Bool := match rk p.2.2, rk p.2.1 with
  | some c, some b => b != c && rk p.1 == some (3 - b - c)
  | _, _ => false
theorem mem_rng {n : Nat} {x : Int} : x ∈ rng n ↔ 0 ≤ x ∧ x < 8 * n := by
  unfold rng
  rw [List.mem_map]
  constructor
  · rintro ⟨k, hk, rfl⟩
    rw [List.mem_range] at hk
    omega
  · rintro ⟨h1, h2⟩
    exact ⟨x.toNat, List.mem_range.mpr (by omega), by omega⟩
theorem mem_good {n : Nat} {x : Int} : x ∈ good n ↔ (0 ≤ x ∧ x < 8 * n) ∧ (rk x).isSome := by
  unfold good
  rw [List.mem_filter, mem_rng]
def inR (n : Nat) (p : P3) : Prop := (0 ≤ p.1 ∧ p.1 < 8 * n) ∧ (0 ≤ p.2.1 ∧ p.2.1 < 8 * n) ∧ (0 ≤ p.2.2 ∧ p.2.2 < 8 * n)
theorem mem_mids {n : Nat} {p : P3} : p ∈ mids n ↔ inR n p ∧ okM p = true := by
  obtain ⟨x, y, z⟩ := p
  unfold mids rowM inR okM
  simp only [List.mem_flatMap, mem_good]
  constructor
  · rintro ⟨z', ⟨hz, hz2⟩, y', ⟨hy, hy2⟩, h⟩
    split at h
    · rename_i hne
      rw [List.mem_map] at h
      obtain ⟨x', h1, h2⟩ := h
      cases h2
      rw [List.mem_filter, mem_rng] at h1
      obtain ⟨h1, h3⟩ := h1
      obtain ⟨b, eb⟩ := Option.isSome_iff_exists.mp hy2
      obtain ⟨c, ec⟩ := Option.isSome_iff_exists.mp hz2
      rw [eb, ec] at h3 hne
      refine ⟨⟨h1, hy, hz⟩, ?_⟩
      have h3 := of_decide_eq_true h3
      simp only [eb, ec, h3, Option.getD_some, beq_self_eq_true, Bool.and_true, bne_iff_ne, ne_eq]
      intro e
      exact hne (by rw [e])
    · cases h
  · rintro ⟨⟨hx, hy, hz⟩, h⟩
    split at h
    · rename_i c b ec eb
      rw [Bool.and_eq_true] at h
      refine ⟨z, ⟨hz, by rw [ec]; rfl⟩, y, ⟨hy, by rw [eb]; rfl⟩, ?_⟩
      have hbc : b ≠ c := by simpa using h.1
      have hx2 : rk x = some (3 - b - c) := by simpa using h.2
      rw [if_pos (by rw [eb, ec]; intro e; exact hbc (Option.some.inj e))]
      rw [List.mem_map]
      refine ⟨x, ?_, rfl⟩
      rw [List.mem_filter, mem_rng]
      exact ⟨hx, by rw [eb, ec, hx2]; simp⟩
    · cases h
theorem okM_iff {x y z : Int} : okM (x, y, z) = true ↔ ∃ b c, rk z = some c ∧ rk y = some b ∧ b ≠ c ∧ rk x = some (3 - b - c) := by
  unfold okM
  constructor
  · intro h
    dsimp only at h
    split at h
    · rename_i c b ec eb
      rw [Bool.and_eq_true] at h
      exact ⟨b, c, ec, eb, by simpa using h.1, by simpa using h.2⟩
    · cases h
  · rintro ⟨b, c, h1, h2, h3, h4⟩
    simp [h1, h2, h3, h4]
/-- the order of the numbers -/
def ltM (p q : P3) : Prop := p.2.2 < q.2.2 ∨ p.2.2 = q.2.2 ∧ (p.2.1 < q.2.1 ∨ p.2.1 = q.2.1 ∧ p.1 < q.1)
theorem rng_lt (n : Nat) : (rng n).Pairwise (· < ·) := by
  unfold rng
  rw [List.pairwise_map]
  exact List.Pairwise.imp (fun {a b} h => by omega) (List.pairwise_lt_range (n := 8 * n))
theorem good_lt (n : Nat) : (good n).Pairwise (· < ·) := (rng_lt n).filter _
theorem mem_row {n : Nat} {z y : Int} {p : P3} (h : p ∈ rowM n z y) : p.2.2 = z ∧ p.2.1 = y := by
  unfold rowM at h
  split at h
  · obtain ⟨x, _, rfl⟩ := List.mem_map.mp h
    exact ⟨rfl, rfl⟩
  · cases h
theorem mids_lt (n : Nat) : (mids n).Pairwise ltM := by
  unfold mids
  rw [List.pairwise_flatMap]
  refine ⟨fun z hz => ?_, ?_⟩
  · rw [List.pairwise_flatMap]
    refine ⟨fun y hy => ?_, ?_⟩
    · unfold rowM
      split
      · rw [List.pairwise_map]
        exact List.Pairwise.imp (fun {a b} h => .inr ⟨rfl, .inr ⟨rfl, h⟩⟩) ((rng_lt n).filter _)
      · exact List.Pairwise.nil
    · refine List.Pairwise.imp ?_ (good_lt n)
      intro a b hab p hp q hq
      have h1 := mem_row hp
      have h2 := mem_row hq
      exact .inr ⟨by rw [h1.1, h2.1], .inl (by rw [h1.2, h2.2]; exact hab)⟩
  · refine List.Pairwise.imp ?_ (good_lt n)
    intro a b hab p hp q hq
    rw [List.mem_flatMap] at hp hq
    obtain ⟨y1, _, hp⟩ := hp
    obtain ⟨y2, _, hq⟩ := hq
    exact .inl (by rw [(mem_row hp).1, (mem_row hq).1]; exact hab)
theorem ltM_irr (p : P3) : ¬ ltM p p := by
  unfold ltM
  omega
theorem mids_nd (n : Nat) : (mids n).Nodup := List.Pairwise.imp (R := ltM) (S := (· ≠ ·)) (fun {a b} h e => ltM_irr a (by rw [← e] at h; exact h)) (mids_lt n)
theorem len_mids2 : (mids 2).length = 192 := by decide +kernel
theorem len_mids3 : (mids 3).length = 648 := by decide +kernel
def iter (f : St → St) : Nat → St → St
  | 0, S => S
  | a + 1, S => f (iter f a S)
abbrev ax1 : P3 := (1, 0, 0)
abbrev ax2 : P3 := (0, 1, 0)
abbrev ax3 : P3 := (0, 0, 1)
def unit (e : P3) : Prop := (e.1 = 0 ∨ e.1 = 1) ∧ (e.2.1 = 0 ∨ e.2.1 = 1) ∧ (e.2.2 = 0 ∨ e.2.2 = 1)
theorem u1 : unit ax1 := by unfold unit; decide
theorem u2 : unit ax2 := by unfold unit; decide
theorem u3 : unit ax3 := by unfold unit; decide
def maskF (m : Nat) (gs : List Nat) : Nat := gs.foldl (fun m g => m ||| 2 ^ g) m
theorem maskF_bit (i : Nat) : ∀ (gs : List Nat) (m : Nat), (maskF m gs).testBit i = (m.testBit i || decide (i ∈ gs))
  | [], m => by simp [maskF]
  | g :: gs, m => by
    have ih := maskF_bit i gs (m ||| 2 ^ g)
    show (maskF (m ||| 2 ^ g) gs).testBit i = _
    rw [ih, Nat.testBit_or, Nat.testBit_two_pow]
    by_cases h : g = i
    · subst h; simp
    · have h' : ¬ i = g := fun z => h z.symm
      simp [h, h']
theorem maskF_lt {f : Nat} {gs : List Nat} (h : ∀ g ∈ gs, g < f) : maskF 0 gs < 2 ^ f := by
  apply Nat.lt_pow_two_of_testBit
  intro i hi
  rw [maskF_bit]
  simp only [Nat.zero_testBit, Bool.false_or, decide_eq_false_iff_not]
  intro hm
  have := h i hm
  omega
def bitsL (f M : Nat) : List Nat := (List.range f).filter fun i => M.testBit i
abbrev LM (n : Nat) : Nat := (mids n).length
theorem mids_inj {n i j : Nat} {p : P3} (h1 : (mids n)[i]? = some p) (h2 : (mids n)[j]? = some p) : i = j := by
  obtain ⟨a1, b1⟩ := List.getElem?_eq_some_iff.mp h1
  obtain ⟨a2, b2⟩ := List.getElem?_eq_some_iff.mp h2
  exact (List.getElem_inj (mids_nd n)).mp (b1.trans b2.symm)
end Rm
namespace PF
def lc1 (vs : List Nat) (g : D → PF.Env → Option PF.Env) (t : PF.Env → R Bool) (fe : PF.Env → R TD) (d : D) (ρ : PF.Env) : Option (Option TD × PF.Env) := match g d ρ with
  | none => none
  | some ρ1 => match t ρ1 with
    | .ok b ρ2 => if b then (match fe ρ2 with
      | .ok y ρ3 => some (some y, hide ρ3 vs)
      | _ => none) else some (none, hide ρ2 vs)
    | _ => none
theorem lc_gen {vs : List Nat} {g : D → PF.Env → Option PF.Env} {t : PF.Env → R Bool} {fe : PF.Env → R TD} {ρ : PF.Env} (p : D → Bool) (f : D → D) : ∀ (ds acc : List D), acc.length + ds.length ≤ SZ →
    (∀ d ∈ ds, lc1 vs g t fe d ρ = some (if p d then some (.F, f d) else none, ρ)) → lcD vs g t fe ds .F acc ρ = .ok (.F, acc ++ (ds.filter p).map f) ρ
  | [], acc, _, _ => by simp [lcD]
  | d :: r, acc, hz, h => by
    have h1 := h d List.mem_cons_self
    have ih := fun acc hz => lc_gen (vs := vs) (g := g) (t := t) (fe := fe) (ρ := ρ) p f r acc hz fun d hd => h d (List.mem_cons_of_mem _ hd)
    rw [List.length_cons] at hz
    unfold lc1 at h1
    unfold lcD
    split at h1
    · cases h1
    · rename_i ρ1 e1
      try rw [e1]
      try dsimp only
      split at h1
      · rename_i b ρ2 e2
        try rw [e2]
        try dsimp only
        cases b
        · simp only [Bool.false_eq_true, if_false, Option.some.injEq, Prod.mk.injEq] at h1 ⊢
          obtain ⟨h3, h4⟩ := h1
          have hp : p d = false := by
            cases e : p d
            · rfl
            · rw [e] at h3; cases h3
          rw [h4, ih acc (by omega), List.filter_cons, hp]
          simp
        · simp only [if_true] at h1 ⊢
          split at h1
          · rename_i y ρ3 e3
            try rw [e3]
            try dsimp only
            simp only [Option.some.injEq, Prod.mk.injEq] at h1
            obtain ⟨h3, h4⟩ := h1
            have hp : p d = true := by
              cases e : p d
              · rw [e] at h3; cases h3
              · rfl
            rw [hp, if_pos rfl] at h3
            have h3 := Option.some.inj h3
            subst h3
            rw [if_pos (by omega), h4, e_pushF, ih _ (by rw [List.length_append]; simp; omega), List.filter_cons, hp]
            simp
          · cases h1
      · cases h1
theorem lc_cons {vs : List Nat} {g : D → PF.Env → Option PF.Env} {t : PF.Env → R Bool} {fe : PF.Env → R TD} {ρ ρ' : PF.Env} {d : D} {y : TD} {r acc : List D} {m : T} (hz : acc.length < SZ) (h : lc1 vs g t fe d ρ = some (some y, ρ')) : lcD vs g t fe (d :: r) m acc ρ = lcD vs g t fe r (pushT m acc y) (acc ++ [y.2]) ρ' := by
  unfold lc1 at h
  rw [lcD]
  split at h
  · cases h
  · rename_i ρ1 e1
    try rw [e1]
    try dsimp only
    split at h
    · rename_i b ρ2 e2
      try rw [e2]
      try dsimp only
      cases b
      · simp at h
      · simp only [if_true] at h ⊢
        split at h
        · rename_i y' ρ3 e3
          try rw [e3]
          try dsimp only
          simp only [Option.some.injEq, Prod.mk.injEq] at h
          obtain ⟨rfl, rfl⟩ := h
          rw [if_pos hz]
        · cases h
    · cases h
@[simp] theorem e_fDc (z : Bool) (vs : List Nat) (fi : PF.Env → R (List D)) (g : D → PF.Env → Option PF.Env) (t : PF.Env → R Bool) (fk fe : PF.Env → R TD) (x : Option TD) (ρ : PF.Env) : fDc z vs fi g t fk fe (x :: ρ) = (fi (x :: ρ)).bind fun ds ρ1 => (match dcD z vs g t fk fe ds [] (hide ρ1 vs) with
  | .ok mr ρ2 => .ok (.M .F, .dct z mr) (unhide ρ1 ρ2 vs)
  | _ => .stuck) := rfl
@[simp] theorem e_yes (x : Option TD) (ρ : PF.Env) : tYesF (x :: ρ) = .ok true (x :: ρ) := rfl
@[simp] theorem e_enum (f : PF.Env → R TD) (x : Option TD) (ρ : PF.Env) : iEnumF f (x :: ρ) = (f (x :: ρ)).bind fun x ρ1 => (match x.2 with
  | .lst ds => .ok (enumD 0 ds) ρ1
  | .scr is => .ok (enumD 0 (is.map D.int)) ρ1
  | _ => .stuck) := rfl
@[simp] theorem e_fDct (z : Bool) (x : Option TD) (ρ : PF.Env) : fDct z (x :: ρ) = .ok (.M .F, .dct z []) (x :: ρ) := rfl
@[simp] theorem e_bIxd (fa fi : PF.Env → R TD) (x : Option TD) (ρ : PF.Env) : bIxd fa fi (x :: ρ) = (fa (x :: ρ)).bind fun x ρ1 => (fi ρ1).bind fun y ρ2 => (match itemA x y.2 with | some td => .ok td ρ2 | none => .stuck) := rfl
@[simp] theorem e_itemAd (t : T) (z : Bool) (kvs : List (D × D)) (y : D) : itemA (t, .dct z kvs) y = if okKey z y then (dGet kvs y).map fun d => (tagD t, d) else none := rfl
@[simp] theorem e_itemAl (t : T) (ds : List D) (y : D) : itemA (t, .lst ds) y = itemB (t, .lst ds) y := rfl
@[simp] theorem e_itemAt (t : T) (ds : List D) (y : D) : itemA (t, .tup ds) y = itemB (t, .tup ds) y := rfl
@[simp] theorem e_tagM (t : T) : tagD (.M t) = t := rfl
@[simp] theorem e_tagF : tagD .F = .F := rfl
@[simp] theorem e_inAd (d : D) (z : Bool) (kvs : List (D × D)) : cInA d (.dct z kvs) = if okKey z d then some (dGet kvs d).isSome else none := rfl
@[simp] theorem e_inAl (d : D) (ds : List D) : cInA d (.lst ds) = cIn d (.lst ds) := rfl
@[simp] theorem e_inAt (d : D) (ds : List D) : cInA d (.tup ds) = cIn d (.tup ds) := rfl
@[simp] theorem e_ninAd (d : D) (z : Bool) (kvs : List (D × D)) : cNotInA d (.dct z kvs) = if okKey z d then some (!(dGet kvs d).isSome) else none := rfl
@[simp] theorem e_ninAl (d : D) (ds : List D) : cNotInA d (.lst ds) = cNotIn d (.lst ds) := rfl
@[simp] theorem e_ninAt (d : D) (ds : List D) : cNotInA d (.tup ds) = cNotIn d (.tup ds) := rfl
@[simp] theorem e_sSetA (fp : PF.Env → R Plc) (fi f : PF.Env → R TD) (x : Option TD) (ρ : PF.Env) : sSetA fp fi f (x :: ρ) = (f (x :: ρ)).bind fun x ρ1 => (fp ρ1).bind fun ip ρ2 => (fi ρ2).bind fun y ρ3 => (match atP ρ3 ip with
  | some u => (match mSetA u [x, y] with
    | some ya => (match setP ρ3 ip ya.1 with
      | some ρ4 => .ok .nx ρ4
      | none => .stuck)
    | none => .stuck)
  | none => .stuck) := rfl
@[simp] theorem e_mSetA (z : Bool) (kvs : List (D × D)) (y : TD) (k : TD) : mSetA (.M .F, .dct z kvs) [y, k] = if okKey z k.2 && decide (kvs.length < SZ) then some ((.M .F, .dct z (dPut kvs k.2 y.2)), (.F, .non)) else none := rfl
@[simp] theorem e_mDPop (z : Bool) (kvs : List (D × D)) (k : TD) : mDPop (.M .F, .dct z kvs) [k] = if okKey z k.2 then (dGet kvs k.2).map fun d => ((.M .F, .dct z (dDel kvs k.2)), (.F, d)) else none := rfl
@[simp] theorem e_iDct (f : PF.Env → R TD) (x : Option TD) (ρ : PF.Env) : iDct f (x :: ρ) = (f (x :: ρ)).bind fun x ρ1 => (match keysOf x.2 with | some ds => .ok ds ρ1 | none => .stuck) := rfl
@[simp] theorem e_keysOf (z : Bool) (kvs : List (D × D)) : keysOf (.dct z kvs) = some (kvs.map (·.1)) := rfl
@[simp] theorem e_iR3 (f : PF.Env → R (List TD)) (x : Option TD) (ρ : PF.Env) : iRng3F f (x :: ρ) = (f (x :: ρ)).bind fun xs ρ1 => (match int3 xs with
  | some ijk => if rgOk ijk.1 ijk.2.1 ijk.2.2 then .ok (rng3D ijk.1 ijk.2.2 (PySem.Builtin.Range.rangeSize ijk.1 ijk.2.1 ijk.2.2).toNat) ρ1 else .stuck
  | none => .stuck) := rfl
theorem iR1_ok {l : PF.Env → R (List TD)} {ρ ρ1 : PF.Env} {j : Int} {t : T} (h : l ρ = .ok [(t, .int j)] ρ1) (hs : small62 j = true) : iRng1' l ρ = .ok (rngD 0 j.toNat) ρ1 := by
  unfold iRng1'
  rw [h, bind_ok]
  show (if small62 j = true then R.ok (rngD 0 j.toNat) ρ1 else R.stuck) = _
  rw [if_pos hs]
theorem sm62 {i : Int} (h1 : -1000000 ≤ i) (h2 : i ≤ 1000000) : small62 i = true := by
  unfold small62
  exact decide_eq_true (by omega)
theorem small8 {n : Nat} (h : n ≤ 100000) : small62 (8 * (n : Int)) = true := sm62 (by omega) (by omega)
theorem iR1_lit (k : Nat) (hk : k ≤ 1000000) (x : Option TD) (ρ : PF.Env) : iRng1' (fCons (fC (.int (k : Int))) fNil) (x :: ρ) = .ok ((List.range k).map fun i : Nat => D.int (i : Int)) (x :: ρ) := by
  rw [iR1_ok (l := fCons (fC (.int (k : Int))) fNil) (ρ := x :: ρ) (j := (k : Int)) (t := .F) (ρ1 := x :: ρ) rfl (sm62 (by omega) (by omega))]
  unfold rngD
  simp
@[simp] theorem e_mExtF (ds es : List D) : mExt (.L .F, .lst ds) [(.L .F, .lst es)] = if ds.length + es.length ≤ SZ then some ((.L .F, .lst (ds ++ es)), (.F, .non)) else none := by
  show (if ds.length + es.length ≤ SZ then some ((T.L (if es.all (fun d => !isBox d) then T.F else .F), D.lst (ds ++ es)), (T.F, D.non)) else none) = _
  simp
/-- [e for v in range(3)] -/
theorem lc3 {v : Nat} {g : D → PF.Env → Option PF.Env} {t : PF.Env → R Bool} {fe : PF.Env → R TD} {x : Option TD} {ρ : PF.Env} {d0 d1 d2 : D} (hh : hide (x :: ρ) [v] = x :: ρ) (hu : unhide (x :: ρ) (x :: ρ) [v] = x :: ρ)
    (o0 : lc1 [v] g t fe (.int ((0 : Nat) : Int)) (x :: ρ) = some (some (.F, d0), x :: ρ)) (o1 : lc1 [v] g t fe (.int ((1 : Nat) : Int)) (x :: ρ) = some (some (.F, d1), x :: ρ)) (o2 : lc1 [v] g t fe (.int ((2 : Nat) : Int)) (x :: ρ) = some (some (.F, d2), x :: ρ)) :
    fLc [v] (iRng1' (fCons (fC (.int 3)) (fNil))) g t fe (x :: ρ) = .ok (.L .F, .lst [d0, d1, d2]) (x :: ρ) := by
  have i3 : iRng1' (fCons (fC (.int 3)) (fNil)) (x :: ρ) = .ok [.int ((0 : Nat) : Int), .int ((1 : Nat) : Int), .int ((2 : Nat) : Int)] (x :: ρ) := iR1_lit 3 (by omega) _ _
  have z : ∀ (l : List D), l.length ≤ 2 → l.length < SZ := fun l h => by rw [SZ_eq]; omega
  unfold fLc
  rw [i3, bind_ok, hh, lc_cons (z _ (by simp)) o0, lc_cons (z _ (by simp)) o1, lc_cons (z _ (by simp)) o2, lcD]
  simp [hu]
@[simp] theorem e_isBoxT1 (t : T) (z : Bool) (kvs : List (D × D)) : isBoxT 1 (.M t, .dct z kvs) = true := rfl
@[simp] theorem e_sRetP (pr : Nat → Bool) (i : Nat) (x : Option TD) (ρ : PF.Env) : sRetP pr i (x :: ρ) = (match (x :: ρ)[i]? with | some (some (t, d)) => if isF t || !isBox d then .ok (.rt (.F, d)) (x :: ρ) else if pr i then .ok (.me i) (x :: ρ) else .ok (.rt (t, d)) ((x :: ρ).set i none) | _ => .stuck) := rfl
@[simp] theorem e_sAsgM (pr : Nat → Bool) (i n : Nat) (cf : List TD → RF) (g : PF.Env → R (List Ag)) (x : Option TD) (ρ : PF.Env) : sAsgM pr i n cf g (x :: ρ) = (g (x :: ρ)).bind fun ags ρ1 => if ags.length = n then (match lend ρ1 ags with
  | none => .stuck
  | some (tds, ρh) => (match cf tds with
    | .ok td ys => if ys.length = tds.length then (if pr i then .stuck else .ok .nx ((back ρh ags tds ys).set i (some td))) else .stuck
    | .exc c fs ys => if ys.length = tds.length then .exc c fs (back ρh ags tds ys) else .stuck
    | .me j ys => if ys.length = tds.length then (match ags[j]? with
      | some (.n i') => if i' = i then .ok .nx (back ρh ags tds ys) else .stuck
      | _ => .stuck) else .stuck
    | .stuck => .stuck)) else .stuck := rfl
/-- a law's body says True -/
def Good (r : R Fl) : Prop := ∃ (t : T) (o : Option TD) (ρ : PF.Env), r = .ok (.rt (t, .bl true)) (o :: ρ)
theorem good_seq {f g : PF.Env → R Fl} {ρ ρ' : PF.Env} (h : f ρ = .ok .nx ρ') (hg : Good (g ρ')) : Good (sSeq f g ρ) := by
  obtain ⟨t, o, ρ2, e⟩ := hg
  refine ⟨t, o, ρ2, ?_⟩
  unfold sSeq
  rw [h, bind_ok]
  exact e
theorem good_ret {f : PF.Env → R TD} {g : PF.Env → R Fl} {ρ ρ' : PF.Env} {t : T} {o : Option TD} (h : f ρ = .ok (t, .bl true) (o :: ρ')) : Good (sSeq (PF.sRet f) g ρ) := by
  refine ⟨t, o, ρ', ?_⟩
  unfold sSeq PF.sRet
  rw [h]
  rfl
theorem good_run {n : Nat} {b : (Nat → Bool) → PF.Env → R Fl} {ns : List Int} (h : Good (b (fun _ => false) (enter n [(.F, .scr ns)]))) : ∃ t ys, runB n b [(.F, .scr ns)] = .ok (t, .bl true) ys ∧ ys.length = 1 := by
  obtain ⟨t, o, ρ, e⟩ := h
  refine ⟨t, [(.F, .scr ns)], ?_, rfl⟩
  unfold runB
  rw [prF0 rfl, e]
  rfl
/-- a loop that changes nothing but α -/
theorem forD_keep {α : Type} {step : D → PF.Env → R Fl} (E : α → PF.Env) : ∀ {ds : List D}, (∀ d ∈ ds, ∀ x, ∃ x', step d (E x) = .ok .nx (E x')) → ∀ x, ∃ x', forD step ds (E x) = .ok .nx (E x')
  | [], _, x => ⟨x, rfl⟩
  | d :: r, h, x => by
    obtain ⟨x1, e1⟩ := h d List.mem_cons_self x
    obtain ⟨x2, e2⟩ := forD_keep E (ds := r) (fun d' hd => h d' (List.mem_cons_of_mem _ hd)) x1
    refine ⟨x2, ?_⟩
    show (R.bind _ _) = _
    rw [e1, bind_ok]
    exact e2
theorem rngD_nat (n : Nat) : rngD 0 n = (List.range n).map fun k : Nat => D.int (k : Int) := by
  unfold rngD
  apply List.map_congr_left
  intro k _
  simp
end PF
namespace Rm
open PF
def oD : Option Int → D
  | none => .non
  | some i => .int i
@[simp] theorem oD_none : oD none = .non := rfl
@[simp] theorem oD_some (i : Int) : oD (some i) = .int i := rfl
@[simp] theorem dsh_oD (o : Option Int) : dsh (oD o) = true := by cases o <;> simp
@[simp] theorem deq_oDi (o : Option Int) (c : Int) : deq (oD o) (.int c) = decide (o = some c) := by cases o <;> simp
@[simp] theorem deq_oDD (o o' : Option Int) : deq (oD o) (oD o') = decide (o = o') := by cases o <;> cases o' <;> simp
@[simp] theorem cNn_oD (o : Option Int) : cNotN (oD o) .non = some o.isSome := by cases o <;> rfl
@[simp] theorem cIn_oD (o : Option Int) : cIsN (oD o) .non = some o.isNone := by cases o <;> rfl
@[simp] theorem isBox_oD (o : Option Int) : isBox (oD o) = false := by cases o <;> rfl
theorem fmod8 (x : Int) : x.fmod 8 = x % 8 := Int.fmod_eq_emod_of_nonneg _ (by decide)
theorem mod8 (x : Int) : x % 8 = 0 ∨ x % 8 = 1 ∨ x % 8 = 2 ∨ x % 8 = 3 ∨ x % 8 = 4 ∨ x % 8 = 5 ∨ x % 8 = 6 ∨ x % 8 = 7 := by omega
abbrev gsD (gs : List Nat) : List D := gs.map fun g : Nat => D.int (g : Int)
abbrev isD (gs : List Int) : List D := gs.map D.int
@[simp] theorem keq_pD (p q : P3) : keq (pD p) (pD q) = decide (p = q) := by
  obtain ⟨x, y, z⟩ := p
  obtain ⟨x', y', z'⟩ := q
  simp [pD, keq, keqs, Prod.mk.injEq]
@[simp] theorem okKey_pD (p : P3) : okKey true (pD p) = true := by
  simp [pD, okKey, keyable, keyI]
theorem rng_D (n : Nat) : rngD 0 (8 * n) = isD (rng n) := by
  rw [rngD_nat]
  unfold rng isD
  rw [List.map_map]
  rfl
@[simp] theorem rng_len (n : Nat) : (rng n).length = 8 * n := by unfold rng; simp
theorem mul8 (n : Nat) : mulOk 8 (n : Int) = true := by
  unfold mulOk
  rw [Bool.or_eq_true]
  left
  decide
theorem toNat8 (n : Nat) : (8 * (n : Int)).toNat = 8 * n := by omega
end Rm
namespace Rm
def rowC (n : Nat) (c b : Option Int) : List Int := match c, b with
  | some c, some b => if b ≠ c then (rng n).filter (fun x => decide (rk x = some (3 - b - c))) else []
  | _, _ => []
def rowI (n : Nat) (z y : Int) : List Int := rowC n (rk z) (rk y)
theorem rowM_eq {n : Nat} {z y : Int} (hz : (rk z).isSome) (hy : (rk y).isSome) : rowM n z y = (rowI n z y).map fun x => (x, y, z) := by
  obtain ⟨b, eb⟩ := Option.isSome_iff_exists.mp hy
  obtain ⟨c, ec⟩ := Option.isSome_iff_exists.mp hz
  unfold rowM rowI rowC
  rw [eb, ec]
  by_cases h : b = c
  · subst h; simp
  · simp [h]
theorem rowI_none1 {n : Nat} {z y : Int} (h : rk z = none) : rowI n z y = [] := by unfold rowI rowC; rw [h]
theorem rowI_none2 {n : Nat} {z y : Int} (h : rk y = none) : rowI n z y = [] := by unfold rowI rowC; rw [h]; cases rk z <;> rfl
theorem flat_filter {α β : Type} (p : α → Bool) (f g : α → List β) : ∀ l : List α, (∀ a ∈ l, p a = true → f a = g a) → (∀ a ∈ l, p a = false → g a = []) → (l.filter p).flatMap f = l.flatMap g
  | [], _, _ => rfl
  | a :: r, h1, h2 => by
    have ih := flat_filter p f g r (fun b hb => h1 b (List.mem_cons_of_mem _ hb)) (fun b hb => h2 b (List.mem_cons_of_mem _ hb))
    rw [List.filter_cons, List.flatMap_cons]
    cases e : p a
    · rw [if_neg (by decide), ih, h2 a List.mem_cons_self e, List.nil_append]
    · rw [if_pos rfl, List.flatMap_cons, ih, h1 a List.mem_cons_self e]
def blk (n : Nat) (z : Int) : List P3 := (rng n).flatMap fun y => (rowI n z y).map fun x => (x, y, z)
theorem mids_rng (n : Nat) : mids n = (rng n).flatMap (blk n) := by
  unfold mids
  refine flat_filter _ _ _ _ (fun z _ hz => ?_) fun z _ hz => ?_
  · refine flat_filter _ _ _ _ (fun y _ hy => rowM_eq hz hy) fun y _ hy => ?_
    rw [rowI_none2 (by cases e : rk y with | none => rfl | some c => rw [e] at hy; cases hy)]
    rfl
  · have e : rk z = none := by cases e : rk z with | none => rfl | some c => rw [e] at hz; cases hz
    unfold blk
    rw [List.flatMap_eq_nil_iff]
    intro y _
    rw [rowI_none1 e]
    rfl
theorem flat_at {α β : Type} (f : α → List β) : ∀ (l : List α) (k i : Nat) (a : α) (b : β), l[k]? = some a → (f a)[i]? = some b → (l.flatMap f)[((l.take k).flatMap f).length + i]? = some b
  | [], k, i, a, b, h, _ => by simp at h
  | x :: r, 0, i, a, b, h, hb => by
    have h : x = a := by simpa using h
    subst h
    have hi : i < (f x).length := (List.getElem?_eq_some_iff.mp hb).1
    rw [List.flatMap_cons, List.take_zero, List.flatMap_nil, List.length_nil, Nat.zero_add, List.getElem?_append_left hi]
    exact hb
  | x :: r, k + 1, i, a, b, h, hb => by
    have ih := flat_at f r k i a b (by simpa using h) hb
    rw [List.flatMap_cons, List.take_succ_cons, List.flatMap_cons, List.length_append, Nat.add_assoc, List.getElem?_append_right (Nat.le_add_right _ _), Nat.add_sub_cancel_left]
    exact ih
theorem rng_at {n : Nat} {z : Nat} (h : z < 8 * n) : (rng n)[z]? = some (z : Int) := by
  unfold rng
  rw [List.getElem?_map, List.getElem?_range h]
  rfl
theorem rng_take {n z : Nat} (h : z ≤ 8 * n) : (rng n).take z = (List.range z).map fun k : Nat => (k : Int) := by
  unfold rng
  rw [← List.map_take, List.take_range, Nat.min_eq_left h]
/-- how many middles a layer has, in a room of size 1 -/
def lay (z : Int) : Nat := [0, 4, 4, 0, 8, 0, 4, 4].getD (z % 8).toNat 0
def layC : Option Int → Nat
  | some 0 => 8
  | some 1 => 4
  | some 2 => 4
  | _ => 0
theorem lay_eq (z : Int) : lay z = layC (rk z) := by
  have h : z % 8 = 0 ∨ z % 8 = 1 ∨ z % 8 = 2 ∨ z % 8 = 3 ∨ z % 8 = 4 ∨ z % 8 = 5 ∨ z % 8 = 6 ∨ z % 8 = 7 := by omega
  unfold lay rk
  rcases h with h | h | h | h | h | h | h | h <;> rw [h] <;> rfl
theorem rk_cases (z : Int) : rk z = none ∨ rk z = some 0 ∨ rk z = some 1 ∨ rk z = some 2 := by
  have h : z % 8 = 0 ∨ z % 8 = 1 ∨ z % 8 = 2 ∨ z % 8 = 3 ∨ z % 8 = 4 ∨ z % 8 = 5 ∨ z % 8 = 6 ∨ z % 8 = 7 := by omega
  unfold rk
  rcases h with h | h | h | h | h | h | h | h <;> rw [h] <;> simp
def cntC (n : Nat) (c : Option Int) : Nat := ((rng n).map fun y => (rowC n c (rk y)).length).sum
theorem flat_sum {α β : Type} (f : α → List β) : ∀ l : List α, (l.flatMap f).length = (l.map fun a => (f a).length).sum
  | [] => rfl
  | a :: r => by rw [List.flatMap_cons, List.length_append, flat_sum f r, List.map_cons, List.sum_cons]
theorem blk_len (n : Nat) (z : Int) : (blk n z).length = cntC n (rk z) := by
  unfold blk cntC
  rw [flat_sum]
  congr 1
  apply List.map_congr_left
  intro y _
  rw [List.length_map]
  rfl
/-- a room whose layers are as long as the table says -/
def RoomOk (n : Nat) : Prop := ∀ c, c = none ∨ c = some 0 ∨ c = some 1 ∨ c = some 2 → cntC n c = layC c * n ^ 2
def layS (z : Nat) : Nat := ((List.range z).map fun k : Nat => lay (k : Int)).sum
def rowS (n : Nat) (z : Int) (y : Nat) : Nat := ((List.range y).map fun k : Nat => (rowI n z (k : Int)).length).sum
theorem sum_mul (f : Nat → Nat) (c : Nat) : ∀ l : List Nat, (l.map fun k => f k * c).sum = (l.map f).sum * c
  | [] => by simp
  | a :: r => by rw [List.map_cons, List.map_cons, List.sum_cons, List.sum_cons, sum_mul f c r, Nat.add_mul]
/-- where the middle (x, y, z) stands -/
theorem mids_at {n : Nat} (R : RoomOk n) {x : Int} {y z i : Nat} (hy : y < 8 * n) (hz : z < 8 * n) (h : (rowI n (z : Int) (y : Int))[i]? = some x) : (mids n)[layS z * n ^ 2 + rowS n (z : Int) y + i]? = some (x, (y : Int), (z : Int)) := by
  rw [mids_rng]
  have h1 : (((rowI n (z : Int) (y : Int)).map fun x => (x, (y : Int), (z : Int))))[i]? = some (x, (y : Int), (z : Int)) := by rw [List.getElem?_map, h]; rfl
  have h2 := flat_at (fun y : Int => (rowI n (z : Int) y).map fun x => (x, y, (z : Int))) (rng n) y i (y : Int) _ (rng_at hy) h1
  have h3 := flat_at (blk n) (rng n) z _ (z : Int) _ (rng_at hz) h2
  rw [rng_take (by omega), rng_take (by omega)] at h3
  have e1 : (((List.range z).map fun k : Nat => (k : Int)).flatMap (blk n)).length = layS z * n ^ 2 := by
    rw [flat_sum, List.map_map]
    unfold layS
    rw [← sum_mul]
    congr 1
    apply List.map_congr_left
    intro k _
    show (blk n (k : Int)).length = _
    rw [blk_len, R _ (rk_cases _), lay_eq]
  have e2 : (((List.range y).map fun k : Nat => (k : Int)).flatMap fun y : Int => (rowI n (z : Int) y).map fun x => (x, y, (z : Int))).length = rowS n (z : Int) y := by
    rw [flat_sum, List.map_map]
    unfold rowS
    congr 1
    apply List.map_congr_left
    intro k _
    show ((rowI n (z : Int) (k : Int)).map _).length = _
    rw [List.length_map]
  rw [e1, e2, ← Nat.add_assoc] at h3
  exact h3
/-- a middle is in its row -/
theorem mem_rowI {n : Nat} {p : P3} (h : p ∈ mids n) : p.1 ∈ rowI n p.2.2 p.2.1 := by
  obtain ⟨⟨hx, _, _⟩, ok⟩ := mem_mids.mp h
  obtain ⟨b, c, e1, e2, hne, e3⟩ := okM_iff.mp (show okM (p.1, p.2.1, p.2.2) = true from ok)
  unfold rowI rowC
  rw [e1, e2]
  dsimp only
  rw [if_pos hne, List.mem_filter]
  exact ⟨mem_rng.mpr hx, by rw [e3]; simp⟩
def absI (i : Int) : Int := if i < 0 then -i else i
def discB (r du dv : Int) : Bool := decide (absI du ≤ 8 * r) && (decide (absI dv ≤ 8 * r) && decide (absI du + absI dv ≤ 8 * ((181 * r + 64).fdiv 128)))
def mn (a b : Int) : Int := if b < a then b else a
end Rm
namespace Rm
end Rm
namespace PF
variable {x : Option TD} {ρ : PF.Env}
@[simp] theorem e_fGen (an : List D → Option D) (fi : PF.Env → R (List D)) (q : QF_) : fGen an fi q (x :: ρ) = (fi (x :: ρ)).bind fun ds ρ1 => (match intsD ds with
  | some is => (match eltsQ (q ρ1) is with
    | some ys => (match an ys with
      | some d => .ok (.F, d) ρ1
      | none => .stuck)
    | none => .stuck)
  | none => .stuck) := rfl
@[simp] theorem e_iInts (f : PF.Env → R TD) : iInts f (x :: ρ) = (f (x :: ρ)).bind fun x ρ1 => (match items x.2 with
  | some ds => (match intsD ds with
    | some _ => .ok ds ρ1
    | none => .stuck)
  | none => .stuck) := rfl
@[simp] theorem e_fMax3 (f : PF.Env → R (List TD)) : fMax3 f (x :: ρ) = (f (x :: ρ)).bind fun xs ρ1 => (match int3 xs with
  | some ijk => .ok (.F, .int (max3I ijk.1 ijk.2.1 ijk.2.2)) ρ1
  | none => .stuck) := rfl
@[simp] theorem e_g1V (f : PF.Env → R TD) : g1V f (x :: ρ) = (f (x :: ρ)).bind fun x ρ1 => .ok (.v x) ρ1 := rfl
@[simp] theorem e_g1N (i : Nat) : g1N i (x :: ρ) = (match (x :: ρ)[i]? with | some (some _) => .ok (.n i) (x :: ρ) | _ => .stuck) := rfl
@[simp] theorem e_fEqO (neg : Bool) (c : Nat) (cf : List TD → RF) (ga gb : PF.Env → R Ag) : fEqO neg c cf ga gb (x :: ρ) = (ga (x :: ρ)).bind fun x ρ1 => (gb ρ1).bind fun y ρ2 =>
  if isObjOf c ρ2 x && isObjOf c ρ2 y then doCall (fun tds => mapB neg (cf tds)) [x, y] ρ2 else .stuck := rfl
@[simp] theorem e_gIsO (c : Nat) (t : T) (fs : List (Nat × D)) : gIsO c (t, .obj c fs) = some (.p (.bl true)) := by simp [gIsO]
@[simp] theorem dshN_oD (n : Nat) (o : Option Int) : dshN n (Rm.oD o) = true := by cases o <;> cases n <;> rfl
theorem mul_sm {i j : Int} (h1 : -1000000 ≤ j) (h2 : j ≤ 1000000) : mulOk i j = true := by
  unfold mulOk
  rw [Bool.or_eq_true]
  right
  exact decide_eq_true (by omega)
theorem pow_sm {i : Int} (j : Nat) (hj : j ≤ 1000) (h1 : -1000000 ≤ i) (h2 : i ≤ 1000000) : powOk i (j : Int) = true := powOk_iff.mpr ⟨by omega, by omega, by omega⟩
theorem nx_seq {f g : PF.Env → R Fl} {ρ ρ' : PF.Env} {r : R Fl} (h : f ρ = .ok .nx ρ') (hg : g ρ' = r) : sSeq f g ρ = r := by
  unfold sSeq
  rw [h, bind_ok]
  exact hg
end PF
namespace Rm
def inR3 (k x y z : Int) : Bool := decide (k = x) || (decide (k = y) || decide (k = z))
def tstB (x y z : Int) : Bool := inR3 4 (x % 8) (y % 8) (z % 8) && ((inR3 2 (x % 8) (y % 8) (z % 8) || inR3 6 (x % 8) (y % 8) (z % 8)) && (inR3 1 (x % 8) (y % 8) (z % 8) || inR3 7 (x % 8) (y % 8) (z % 8)))
theorem res8 (x : Int) : ∃ a : Nat, a < 8 ∧ x % 8 = (a : Int) := ⟨(x % 8).toNat, by omega, by omega⟩
theorem rk_mod (x : Int) : rk (x % 8) = rk x := by unfold rk; rw [Int.emod_emod]
theorem tst_okM (x y z : Int) : tstB x y z = okM (x, y, z) := by
  obtain ⟨a, ha, ea⟩ := res8 x
  obtain ⟨b, hb, eb⟩ := res8 y
  obtain ⟨c, hc, ec⟩ := res8 z
  have e1 : tstB x y z = tstB (x % 8) (y % 8) (z % 8) := by unfold tstB; simp only [Int.emod_emod]
  have e2 : okM (x, y, z) = okM (x % 8, y % 8, z % 8) := by unfold okM; simp only [rk_mod]
  rw [e1, e2, ea, eb, ec]
  have key : ∀ a : Fin 8, ∀ b : Fin 8, ∀ c : Fin 8, tstB (a.1 : Int) (b.1 : Int) (c.1 : Int) = okM ((a.1 : Int), (b.1 : Int), (c.1 : Int)) := by
    decide +kernel
  exact key ⟨a, ha⟩ ⟨b, hb⟩ ⟨c, hc⟩
def cubR (n : Nat) (z y : Int) : List P3 := ((rng n).filter fun x => tstB x y z).map fun x => (x, y, z)
def cubeL (n : Nat) : List P3 := (rng n).flatMap fun z => (rng n).flatMap fun y => cubR n z y
theorem mem_cubR {n : Nat} {z y : Int} {p : P3} (h : p ∈ cubR n z y) : p.2.2 = z ∧ p.2.1 = y := by
  obtain ⟨x, _, rfl⟩ := List.mem_map.mp h
  exact ⟨rfl, rfl⟩
theorem mem_cube {n : Nat} {p : P3} : p ∈ cubeL n ↔ p ∈ mids n := by
  obtain ⟨x, y, z⟩ := p
  rw [mem_mids, ← tst_okM]
  unfold cubeL cubR inR
  simp only [List.mem_flatMap, List.mem_map, List.mem_filter, mem_rng]
  constructor
  · rintro ⟨z', hz, y', hy, x', ⟨hx, ht⟩, e⟩
    cases e
    exact ⟨⟨hx, hy, hz⟩, ht⟩
  · rintro ⟨⟨hx, hy, hz⟩, ht⟩
    exact ⟨z, hz, y, hy, x, ⟨hx, ht⟩, rfl⟩
theorem cube_lt (n : Nat) : (cubeL n).Pairwise ltM := by
  unfold cubeL
  rw [List.pairwise_flatMap]
  refine ⟨fun z hz => ?_, ?_⟩
  · rw [List.pairwise_flatMap]
    refine ⟨fun y hy => ?_, ?_⟩
    · unfold cubR
      rw [List.pairwise_map]
      exact List.Pairwise.imp (fun {a b} h => .inr ⟨rfl, .inr ⟨rfl, h⟩⟩) ((rng_lt n).filter _)
    · refine List.Pairwise.imp ?_ (rng_lt n)
      intro a b hab p hp q hq
      have h1 := mem_cubR hp
      have h2 := mem_cubR hq
      exact .inr ⟨by rw [h1.1, h2.1], .inl (by rw [h1.2, h2.2]; exact hab)⟩
  · refine List.Pairwise.imp ?_ (rng_lt n)
    intro a b hab p hp q hq
    rw [List.mem_flatMap] at hp hq
    obtain ⟨y1, _, hp⟩ := hp
    obtain ⟨y2, _, hq⟩ := hq
    exact .inl (by rw [(mem_cubR hp).1, (mem_cubR hq).1]; exact hab)
theorem ltM_asym {p q : P3} (h : ltM p q) (h' : ltM q p) : p = q := by
  unfold ltM at h h'
  omega
theorem nd_lt {l : List P3} (h : l.Pairwise ltM) : l.Nodup := List.Pairwise.imp (R := ltM) (S := (· ≠ ·)) (fun {a b} h e => ltM_irr a (by rw [← e] at h; exact h)) h
theorem cube_eq (n : Nat) : cubeL n = mids n := List.Perm.eq_of_pairwise (le := ltM) (fun a b _ _ x y => ltM_asym x y) (cube_lt n) (mids_lt n) ((List.perm_ext_iff_of_nodup (nd_lt (cube_lt n)) (mids_nd n)).mpr fun _ => mem_cube)
theorem room2 : RoomOk 2 := by
  intro c h
  rcases h with rfl | rfl | rfl | rfl <;> decide +kernel
theorem room3 : RoomOk 3 := by
  intro c h
  rcases h with rfl | rfl | rfl | rfl <;> decide +kernel
end Rm
namespace PF
open Rm
/-- [e for v in a walk of three], v a name -/
theorem lc3l {v : Nat} {g : D → PF.Env → Option PF.Env} {t : PF.Env → R Bool} {fe : PF.Env → R TD} {fi : PF.Env → R (List D)} {ρ ρ1 : PF.Env} {e0 e1 e2 d0 d1 d2 : D} (it : fi ρ = .ok [e0, e1, e2] ρ) (hh : hide ρ [v] = ρ1) (hu : unhide ρ ρ1 [v] = ρ)
    (o0 : lc1 [v] g t fe e0 ρ1 = some (some (.F, d0), ρ1)) (o1 : lc1 [v] g t fe e1 ρ1 = some (some (.F, d1), ρ1)) (o2 : lc1 [v] g t fe e2 ρ1 = some (some (.F, d2), ρ1)) :
    fLc [v] fi g t fe ρ = .ok (.L .F, .lst [d0, d1, d2]) ρ := by
  have z : ∀ (l : List D), l.length ≤ 2 → l.length < SZ := fun l h => by rw [SZ_eq]; omega
  unfold fLc
  rw [it, bind_ok, hh, lc_cons (z _ (by simp)) o0, lc_cons (z _ (by simp)) o1, lc_cons (z _ (by simp)) o2, lcD]
  simp [hu]
theorem forD_1 {st : D → PF.Env → R Fl} {d : D} {r : List D} {ρ ρ' : PF.Env} {x : R Fl} (h : st d ρ = .ok .nx ρ') (h2 : forD st r ρ' = x) : forD st (d :: r) ρ = x := by
  show R.bind _ _ = _
  rw [h, bind_ok]
  exact h2
theorem forD_2 {st : D → PF.Env → R Fl} {d d' : D} {ρ ρ' ρ2 : PF.Env} (h : st d ρ = .ok .nx ρ') (h' : st d' ρ' = .ok .nx ρ2) : forD st [d, d'] ρ = .ok .nx ρ2 := forD_1 h (forD_1 h' rfl)
end PF
namespace Rm
theorem layS_succ (z : Nat) : layS (z + 1) = layS z + lay (z : Int) := by
  unfold layS
  rw [List.range_succ, List.map_append, List.sum_append]
  simp
theorem rowS_succ (n : Nat) (z : Int) (y : Nat) : rowS n z (y + 1) = rowS n z y + (rowI n z (y : Int)).length := by
  unfold rowS
  rw [List.range_succ, List.map_append, List.sum_append]
  simp
theorem layS_mono {a b : Nat} (h : a ≤ b) : layS a ≤ layS b := by
  induction b with
  | zero => have : a = 0 := by omega
            subst this; exact Nat.le_refl _
  | succ b ih =>
    by_cases e : a = b + 1
    · subst e; exact Nat.le_refl _
    · have := ih (by omega)
      rw [layS_succ]
      omega
theorem rowS_mono {n : Nat} {z : Int} {a b : Nat} (h : a ≤ b) : rowS n z a ≤ rowS n z b := by
  induction b with
  | zero => have : a = 0 := by omega
            subst this; exact Nat.le_refl _
  | succ b ih =>
    by_cases e : a = b + 1
    · subst e; exact Nat.le_refl _
    · have := ih (by omega)
      rw [rowS_succ]
      omega
theorem mid_pos {n : Nat} (R : RoomOk n) {p : P3} {i : Nat} (h : (mids n)[i]? = some p) :
    ∃ y z j : Nat, p = (p.1, (y : Int), (z : Int)) ∧ y < 8 * n ∧ z < 8 * n ∧ (rowI n (z : Int) (y : Int))[j]? = some p.1 ∧ i = layS z * n ^ 2 + rowS n (z : Int) y + j ∧ rowS n (z : Int) y + j < lay (z : Int) * n ^ 2 := by
  have hp : p ∈ mids n := List.mem_of_getElem? h
  obtain ⟨⟨hx, hy, hz⟩, ok⟩ := mem_mids.mp hp
  obtain ⟨y, ey⟩ : ∃ y : Nat, p.2.1 = (y : Int) := ⟨p.2.1.toNat, by omega⟩
  obtain ⟨z, ez⟩ : ∃ z : Nat, p.2.2 = (z : Int) := ⟨p.2.2.toNat, by omega⟩
  have hm := mem_rowI hp
  rw [ey, ez] at hm
  obtain ⟨j, hj⟩ := List.mem_iff_getElem?.mp hm
  have hat := mids_at R (show y < 8 * n by omega) (show z < 8 * n by omega) hj
  have ep : p = (p.1, (y : Int), (z : Int)) := by rw [← ey, ← ez]
  rw [← ep] at hat
  refine ⟨y, z, j, ep, by omega, by omega, hj, mids_inj h hat, ?_⟩
  have h1 : (((rowI n (z : Int) (y : Int)).map fun x => (x, (y : Int), (z : Int))))[j]? = some (p.1, (y : Int), (z : Int)) := by rw [List.getElem?_map, hj]; rfl
  have h2 := flat_at (fun y : Int => (rowI n (z : Int) y).map fun x => (x, y, (z : Int))) (rng n) y j (y : Int) _ (rng_at (show y < 8 * n by omega)) h1
  have e2 : (((rng n).take y).flatMap fun y : Int => (rowI n (z : Int) y).map fun x => (x, y, (z : Int))).length = rowS n (z : Int) y := by
    rw [rng_take (by omega), flat_sum, List.map_map]
    unfold rowS
    congr 1
    apply List.map_congr_left
    intro k _
    show ((rowI n (z : Int) (k : Int)).map _).length = _
    rw [List.length_map]
  rw [e2] at h2
  have h3 : rowS n (z : Int) y + j < (blk n (z : Int)).length := (List.getElem?_eq_some_iff.mp h2).1
  rw [blk_len, R _ (rk_cases _), ← lay_eq] at h3
  exact h3
end Rm
namespace Rm
def hF (p : P3) : P3 := (p.1 / 4, p.2.1 / 4, p.2.2 / 4)
end Rm
namespace LK12
open PF Rm
theorem r0 (m : Nat) : runF (m + 1) 0 = runB 1 (b0 (runF m)) := rfl
theorem r1 (m : Nat) : runF (m + 1) 1 = runB 1 (b1 (runF m)) := rfl
theorem r2 (m : Nat) : runF (m + 1) 2 = runB 6 (b2 (runF m)) := rfl
theorem r3 (m : Nat) : runF (m + 1) 3 = runB 6 (b3 (runF m)) := rfl
theorem r4 (m : Nat) : runF (m + 1) 4 = runB 1 (b4 (runF m)) := rfl
theorem r5 (m : Nat) : runF (m + 1) 5 = runB 4 (b5 (runF m)) := rfl
theorem r6 (m : Nat) : runF (m + 1) 6 = runB 1 (b6 (runF m)) := rfl
theorem r7 (m : Nat) : runF (m + 1) 7 = runB 3 (b7 (runF m)) := rfl
theorem r8 (m : Nat) : runF (m + 1) 8 = runB 3 (b8 (runF m)) := rfl
theorem r9 (m : Nat) : runF (m + 1) 9 = runB 4 (b9 (runF m)) := rfl
theorem r10 (m : Nat) : runF (m + 1) 10 = runB 1 (b10 (runF m)) := rfl
theorem r11 (m : Nat) : runF (m + 1) 11 = runB 1 (b11 (runF m)) := rfl
theorem r12 (m : Nat) : runF (m + 1) 12 = runB 5 (b12 (runF m)) := rfl
theorem r13 (m : Nat) : runF (m + 1) 13 = runB 2 (b13 (runF m)) := rfl
theorem r14 (m : Nat) : runF (m + 1) 14 = runB 3 (b14 (runF m)) := rfl
theorem r15 (m : Nat) : runF (m + 1) 15 = runB 3 (b15 (runF m)) := rfl
theorem r16 (m : Nat) : runF (m + 1) 16 = runB 8 (b16 (runF m)) := rfl
theorem r17 (m : Nat) : runF (m + 1) 17 = runB 5 (b17 (runF m)) := rfl
theorem r18 (m : Nat) : runF (m + 1) 18 = runB 4 (b18 (runF m)) := rfl
theorem r19 (m : Nat) : runF (m + 1) 19 = runB 6 (b19 (runF m)) := rfl
theorem r20 (m : Nat) : runF (m + 1) 20 = runB 4 (b20 (runF m)) := rfl
theorem r21 (m : Nat) : runF (m + 1) 21 = runB 9 (b21 (runF m)) := rfl
theorem r22 (m : Nat) : runF (m + 1) 22 = runB 2 (b22 (runF m)) := rfl
theorem r23 (m : Nat) : runF (m + 1) 23 = runB 7 (b23 (runF m)) := rfl
theorem r24 (m : Nat) : runF (m + 1) 24 = runB 1 (b24 (runF m)) := rfl
theorem r25 (m : Nat) : runF (m + 1) 25 = runB 3 (b25 (runF m)) := rfl
theorem r26 (m : Nat) : runF (m + 1) 26 = runB 3 (b26 (runF m)) := rfl
theorem r27 (m : Nat) : runF (m + 1) 27 = runB 13 (b27 (runF m)) := rfl
theorem r28 (m : Nat) : runF (m + 1) 28 = runB 5 (b28 (runF m)) := rfl
theorem r29 (m : Nat) : runF (m + 1) 29 = runB 17 (b29 (runF m)) := rfl
end LK12
namespace LK12
open PF Rm
theorem rank_ok (k : Nat) (x : Int) : runF (k + 1) 0 [(.F, .int x)] = .ok (.F, oD (rk x)) [(.F, .int x)] := by
  rw [r0, runB, prF0 rfl]
  rcases mod8 x with h | h | h | h | h | h | h | h <;> simp [b0, kRANKS_grains, kEIGHTHS, fmod8, h, rk]
end LK12
namespace LK12
open PF Rm
theorem need_in (k : Nat) (z y : Int) (x0 x3 x4 : Option TD) :
    lcD [5] (gN (fun _ => false) 5) (asT (fCmp cNotIn (fV 5) (fTup (fCons (fCall 1 (runF (k + 1) 0) (gNm 1 (gNil))) (fCons (fCall 1 (runF (k + 1) 0) (gNm 2 (gNil))) (fNil)))))) (fV 5) [.int 0, .int 1, .int 2] .F [] [x0, some (.F, .int z), some (.F, .int y), x3, x4, none] =
      .ok (.F, isD (([0, 1, 2] : List Int).filter fun o => decide (rk z ≠ some o) && decide (rk y ≠ some o))) [x0, some (.F, .int z), some (.F, .int y), x3, x4, none] := by
  have := lc_gen (vs := [5]) (g := gN (fun _ => false) 5) (t := asT (fCmp cNotIn (fV 5) (fTup (fCons (fCall 1 (runF (k + 1) 0) (gNm 1 (gNil))) (fCons (fCall 1 (runF (k + 1) 0) (gNm 2 (gNil))) (fNil)))))) (fe := fV 5) (ρ := [x0, some (.F, .int z), some (.F, .int y), x3, x4, none])
    (fun d => match d with | .int o => decide (rk z ≠ some o) && decide (rk y ≠ some o) | _ => false) id (isD [0, 1, 2]) [] (by rw [SZ_eq]; simp) ?_
  · have e : isD [0, 1, 2] = [D.int 0, D.int 1, D.int 2] := rfl
    rw [e] at this
    rw [this]
    congr 2
    rw [List.nil_append, List.map_id, ← e, List.filter_map]
    rfl
  · intro d hd
    obtain ⟨o, ho, rfl⟩ := List.mem_map.mp hd
    unfold lc1
    by_cases h : rk z = some o
    · simp [rank_ok, h, hide]
    · by_cases h2 : rk y = some o
      · simp [rank_ok, h, h2, hide]
      · simp [rank_ok, h, h2, hide]
theorem xrow_in (k : Nat) (n : Nat) (c : Int) (hn : n ≤ 1000) (x0 x1 x2 x5 : Option TD) :
    lcD [4] (gN (fun _ => false) 4) (asT (fCmp cEq (fCall 1 (runF (k + 1) 0) (gNm 4 (gNil))) (bIx (bV 3) (fC (.int 0))))) (fV 4) (isD (rng n)) .F [] [x0, x1, x2, some (.L .F, .lst [.int c]), none, x5] = .ok (.F, isD ((rng n).filter fun x => decide (rk x = some c))) [x0, x1, x2, some (.L .F, .lst [.int c]), none, x5] := by
  have := lc_gen (vs := [4]) (g := gN (fun _ => false) 4) (t := asT (fCmp cEq (fCall 1 (runF (k + 1) 0) (gNm 4 (gNil))) (bIx (bV 3) (fC (.int 0))))) (fe := fV 4) (ρ := [x0, x1, x2, some (.L .F, .lst [.int c]), none, x5]) (fun d => match d with | .int x => decide (rk x = some c) | _ => false) id (isD (rng n)) [] (by rw [SZ_eq]; simp; omega) ?_
  · rw [this]
    congr 2
    rw [List.nil_append, List.map_id, List.filter_map]
    rfl
  · intro d hd
    obtain ⟨x, hx, rfl⟩ := List.mem_map.mp hd
    unfold lc1
    have ix : itemB (T.L .F, D.lst [.int c]) (.int 0) = some (.F, .int c) := rfl
    by_cases h : rk x = some c
    · simp [rank_ok, h, hide, ix]
    · simp [rank_ok, h, hide, ix]
theorem rowm_ok (k n : Nat) (z y : Int) (hn : n ≤ 1000) : runF (k + 2) 2 [(.F, .int (n : Int)), (.F, .int z), (.F, .int y)] = .ok (.L .F, .lst (isD (rowI n z y))) [(.F, .int (n : Int)), (.F, .int z), (.F, .int y)] := by
  rw [r2, runB, prF0 rfl]
  have hN := need_in k z y (some (.F, .int (n : Int))) none none
  have i8 : ∀ (ρ : PF.Env), iRng1' (fCons (fTimes (fC kEIGHTHS) (bV 0)) (fNil)) (some (.F, .int (n : Int)) :: ρ) = .ok (isD (rng n)) (some (.F, .int (n : Int)) :: ρ) := by
    intro ρ
    rw [iR1_ok (j := 8 * (n : Int)) (t := .F) (by simp [kEIGHTHS, mul8]; rfl) (sm62 (by omega) (by omega)), toNat8, rng_D]
  have hx := fun c => xrow_in k n c hn (some (.F, .int (n : Int))) (some (.F, .int z)) (some (.F, .int y)) none
  unfold kEIGHTHS at i8
  unfold rowI rowC
  have nz : ∀ ds : List Int, (isD ds).length ≠ 1 → (ds.length : Int) ≠ 1 := fun ds h => by rw [List.length_map] at h; omega
  rcases rk_cases z with ez | ez | ez | ez <;> rcases rk_cases y with ey | ey | ey | ey <;> rw [ez, ey] at hN ⊢ <;> simp [b2, kEIGHTHS, -e_iR1, i8, rank_ok, ez, ey, hide, unhide] at hN hx ⊢ <;> simp [hN, hx, rank_ok, ez, ey, -e_iR1, i8, hide, unhide]
end LK12
namespace LK12
open PF Rm
theorem lay_at (w : Nat) : L2.atI [D.int 0, .int 4, .int 4, .int 0, .int 8, .int 0, .int 4, .int 4] ((w : Int).fmod 8) = some (.int ((lay (w : Int) : Nat) : Int)) := by
  rw [fmod8]
  unfold lay
  rcases mod8 (w : Int) with h | h | h | h | h | h | h | h <;> rw [h] <;> rfl
theorem mo_z (cf : Nat → List TD → RF) (pr : Nat → Bool) (p2 : pr 2 = false) (p3 : pr 3 = false) (n i : Nat) (hn : n ≤ 10) (z : Nat) (hi : layS z * n ^ 2 ≤ i) (hi2 : i < (layS z + lay (z : Int)) * n ^ 2) (x4 x5 : Option TD) : ∀ (d w N : Nat), w + d = z → d + 1 ≤ N →
    whileD (asT (fCmp cGe (bV 2) (fTimes (bIx (fC kLAYERS) (fMod (qV 3) (fC kEIGHTHS))) (fPow (qV 0) (fC (.int 2)))))) (b3_l1 cf pr) N [some (.F, .int (n : Int)), some (.F, .int (i : Int)), some (.F, .int ((i - layS w * n ^ 2 : Nat) : Int)), some (.F, .int (w : Int)), x4, x5] =
      .ok .nx [some (.F, .int (n : Int)), some (.F, .int (i : Int)), some (.F, .int ((i - layS z * n ^ 2 : Nat) : Int)), some (.F, .int (z : Int)), x4, x5] := by
  have hp2 : powOk (n : Int) 2 = true := pow_sm 2 (by omega) (by omega) (by omega)
  have hn2 : (n : Int) ^ 2 ≤ 100 := by
    have : n ^ 2 ≤ 10 ^ 2 := Nat.pow_le_pow_left hn 2
    have h3 : ((n ^ 2 : Nat) : Int) ≤ ((10 ^ 2 : Nat) : Int) := by omega
    rw [Int.natCast_pow] at h3
    exact h3
  have hn3 : 0 ≤ (n : Int) ^ 2 := by
    have : ((n ^ 2 : Nat) : Int) = (n : Int) ^ 2 := Int.natCast_pow n 2
    omega
  intro d
  induction d with
  | zero =>
    intro w N hw hN
    obtain ⟨N, rfl⟩ : ∃ M, N = M + 1 := ⟨N - 1, by omega⟩
    have : w = z := by omega
    subst this
    have hl := lay_at w
    have hm : mulOk ((lay (w : Int) : Nat) : Int) ((n : Int) ^ 2) = true := mul_sm (by omega) (by omega)
    have hc : ¬ ((lay (w : Int) : Nat) : Int) * (n : Int) ^ 2 ≤ ((i - layS w * n ^ 2 : Nat) : Int) := by
      rw [← Int.natCast_pow, ← Int.natCast_mul]
      rw [Nat.add_mul] at hi2
      omega
    generalize ((i - layS w * n ^ 2 : Nat) : Int) = rest at hc ⊢
    generalize ((lay (w : Int) : Nat) : Int) = lw at hl hm hc
    unfold whileD
    simp [kLAYERS, kEIGHTHS, hl, hp2, hm, hc]
  | succ d ih =>
    intro w N hw hN
    obtain ⟨N, rfl⟩ : ∃ M, N = M + 1 := ⟨N - 1, by omega⟩
    have e := ih (w + 1) N (by omega) (by omega)
    have hl := lay_at w
    have hm : mulOk ((lay (w : Int) : Nat) : Int) ((n : Int) ^ 2) = true := mul_sm (by omega) (by omega)
    have hle : (layS w + lay (w : Int)) * n ^ 2 ≤ layS z * n ^ 2 := by
      have := layS_mono (show w + 1 ≤ z by omega)
      rw [layS_succ] at this
      exact Nat.mul_le_mul_right _ this
    rw [Nat.add_mul] at hle
    have hc : ((lay (w : Int) : Nat) : Int) * (n : Int) ^ 2 ≤ ((i - layS w * n ^ 2 : Nat) : Int) := by
      rw [← Int.natCast_pow, ← Int.natCast_mul]
      omega
    have es : ((i - layS w * n ^ 2 : Nat) : Int) - ((lay (w : Int) : Nat) : Int) * (n : Int) ^ 2 = ((i - layS (w + 1) * n ^ 2 : Nat) : Int) := by
      rw [← Int.natCast_pow, ← Int.natCast_mul, layS_succ, Nat.add_mul]
      omega
    have ew : (w : Int) + 1 = ((w + 1 : Nat) : Int) := by omega
    generalize ((i - layS (w + 1) * n ^ 2 : Nat) : Int) = rest2 at e es
    generalize ((i - layS w * n ^ 2 : Nat) : Int) = rest at hc es ⊢
    generalize ((lay (w : Int) : Nat) : Int) = lw at hl hm hc es
    rw [← ew] at e
    have t1 : asT (fCmp cGe (bV 2) (fTimes (bIx (fC kLAYERS) (fMod (qV 3) (fC kEIGHTHS))) (fPow (qV 0) (fC (.int 2))))) [some (.F, .int (n : Int)), some (.F, .int (i : Int)), some (.F, .int rest), some (.F, .int (w : Int)), x4, x5] = .ok true [some (.F, .int (n : Int)), some (.F, .int (i : Int)), some (.F, .int rest), some (.F, .int (w : Int)), x4, x5] := by simp [kLAYERS, kEIGHTHS, hl, hp2, hm, hc]
    have s1 : b3_l1 cf pr [some (.F, .int (n : Int)), some (.F, .int (i : Int)), some (.F, .int rest), some (.F, .int (w : Int)), x4, x5] = .ok .nx [some (.F, .int (n : Int)), some (.F, .int (i : Int)), some (.F, .int rest2), some (.F, .int ((w : Int) + 1)), x4, x5] := by simp [b3_l1, kLAYERS, kEIGHTHS, p2, p3, hl, hp2, hm, es]
    unfold whileD
    rw [t1, bind_ok, if_pos rfl, s1, bind_ok]
    exact e
theorem mo_y (k : Nat) (pr : Nat → Bool) (p2 : pr 2 = false) (p4 : pr 4 = false) (p5 : pr 5 = false) (n i : Nat) (hn : n ≤ 10) (z y r : Nat) (hi : rowS n (z : Int) y ≤ r) (hi2 : r < rowS n (z : Int) y + (rowI n (z : Int) (y : Int)).length) : ∀ (d w N : Nat), w + d = y → d + 1 ≤ N →
    whileD (asT (fCmp cGe (bV 2) (fB1 gLen (bV 5)))) (b3_l0 (runF (k + 2)) pr) N [some (.F, .int (n : Int)), some (.F, .int (i : Int)), some (.F, .int ((r - rowS n (z : Int) w : Nat) : Int)), some (.F, .int (z : Int)), some (.F, .int (w : Int)), some (.L .F, .lst (isD (rowI n (z : Int) (w : Int))))] =
      .ok .nx [some (.F, .int (n : Int)), some (.F, .int (i : Int)), some (.F, .int ((r - rowS n (z : Int) y : Nat) : Int)), some (.F, .int (z : Int)), some (.F, .int (y : Int)), some (.L .F, .lst (isD (rowI n (z : Int) (y : Int))))] := by
  intro d
  induction d with
  | zero =>
    intro w N hw hN
    obtain ⟨N, rfl⟩ : ∃ M, N = M + 1 := ⟨N - 1, by omega⟩
    have : w = y := by omega
    subst this
    have hc : ¬ ((isD (rowI n (z : Int) (w : Int))).length : Int) ≤ ((r - rowS n (z : Int) w : Nat) : Int) := by
      rw [List.length_map]
      omega
    generalize isD (rowI n (z : Int) (w : Int)) = L at hc ⊢
    generalize ((r - rowS n (z : Int) w : Nat) : Int) = rest at hc ⊢
    unfold whileD
    simp [hc]
  | succ d ih =>
    intro w N hw hN
    obtain ⟨N, rfl⟩ : ∃ M, N = M + 1 := ⟨N - 1, by omega⟩
    have e := ih (w + 1) N (by omega) (by omega)
    have hle : rowS n (z : Int) w + (rowI n (z : Int) (w : Int)).length ≤ rowS n (z : Int) y := by
      rw [← rowS_succ]
      exact rowS_mono (by omega)
    have hc : ((isD (rowI n (z : Int) (w : Int))).length : Int) ≤ ((r - rowS n (z : Int) w : Nat) : Int) := by
      rw [List.length_map]
      omega
    have es : ((r - rowS n (z : Int) w : Nat) : Int) - ((isD (rowI n (z : Int) (w : Int))).length : Int) = ((r - rowS n (z : Int) (w + 1) : Nat) : Int) := by
      rw [List.length_map, rowS_succ]
      omega
    have ew : (w : Int) + 1 = ((w + 1 : Nat) : Int) := by omega
    have hr := rowm_ok k n (z : Int) ((w + 1 : Nat) : Int) (by omega)
    generalize isD (rowI n (z : Int) ((w + 1 : Nat) : Int)) = L2 at e hr
    generalize ((r - rowS n (z : Int) (w + 1) : Nat) : Int) = rest2 at e es
    generalize ((r - rowS n (z : Int) w : Nat) : Int) = rest at hc es ⊢
    generalize isD (rowI n (z : Int) (w : Int)) = L at hc es ⊢
    rw [← ew] at e hr
    have t1 : asT (fCmp cGe (bV 2) (fB1 gLen (bV 5))) [some (.F, .int (n : Int)), some (.F, .int (i : Int)), some (.F, .int rest), some (.F, .int (z : Int)), some (.F, .int (w : Int)), some (.L .F, .lst L)] = .ok true [some (.F, .int (n : Int)), some (.F, .int (i : Int)), some (.F, .int rest), some (.F, .int (z : Int)), some (.F, .int (w : Int)), some (.L .F, .lst L)] := by simp [hc]
    have s1 : b3_l0 (runF (k + 2)) pr [some (.F, .int (n : Int)), some (.F, .int (i : Int)), some (.F, .int rest), some (.F, .int (z : Int)), some (.F, .int (w : Int)), some (.L .F, .lst L)] = .ok .nx [some (.F, .int (n : Int)), some (.F, .int (i : Int)), some (.F, .int rest2), some (.F, .int (z : Int)), some (.F, .int ((w : Int) + 1)), some (.L .F, .lst L2)] := by simp [b3_l0, p2, p4, p5, es, hr]
    unfold whileD
    rw [t1, bind_ok, if_pos rfl, s1, bind_ok]
    exact e
theorem midof_ok (k n : Nat) (hn : n ≤ 10) (R : RoomOk n) (i : Nat) (p : P3) (hi : (mids n)[i]? = some p) : runF (k + 3) 3 [(.F, .int (n : Int)), (.F, .int (i : Int))] = .ok (.F, pD p) [(.F, .int (n : Int)), (.F, .int (i : Int))] := by
  obtain ⟨y, z, j, ep, hy, hz, hj, ei, hlt⟩ := mid_pos R hi
  have hjl : j < (rowI n (z : Int) (y : Int)).length := (List.getElem?_eq_some_iff.mp hj).1
  rw [r3, runB, prF0 rfl]
  have ez := mo_z (runF (k + 2)) (fun _ => false) rfl rfl n i hn z (by rw [ei]; omega) (by rw [Nat.add_mul, ei]; omega) none none z 0 1000000000 (by omega) (by omega)
  have r0 : i - layS z * n ^ 2 = rowS n (z : Int) y + j := by omega
  rw [r0] at ez
  have ey := mo_y k (fun _ => false) rfl rfl rfl n i hn z y (rowS n (z : Int) y + j) (by omega) (by omega) y 0 1000000000 (by omega) (by omega)
  have r1 : rowS n (z : Int) y + j - rowS n (z : Int) y = j := by omega
  rw [r1] at ey
  have z0 : layS 0 = 0 := rfl
  have z1 : rowS n (z : Int) 0 = 0 := rfl
  rw [z0, Nat.zero_mul, Nat.sub_zero] at ez
  rw [z1, Nat.sub_zero] at ey
  have hr := rowm_ok k n (z : Int) ((0 : Nat) : Int) (by omega)
  have hpt : (isD (rowI n (z : Int) (y : Int)))[j]? = some (.int p.1) := by rw [List.getElem?_map, hj]; rfl
  rw [ep]
  unfold pD
  dsimp only
  generalize ((rowS n (z : Int) y + j : Nat) : Int) = rs at ez ey
  generalize isD (rowI n (z : Int) ((0 : Nat) : Int)) = L0 at ey hr
  generalize isD (rowI n (z : Int) (y : Int)) = L at ey hpt
  rw [show enter 6 [(T.F, D.int (n : Int)), (T.F, D.int (i : Int))] = [some (.F, .int (n : Int)), some (.F, .int (i : Int)), none, none, none, none] from rfl]
  have body : b3 (runF (k + 2)) (fun _ => false) [some (.F, .int (n : Int)), some (.F, .int (i : Int)), none, none, none, none] = .ok (.rt (.F, .tup [.int p.1, .int (y : Int), .int (z : Int)])) [some (.F, .int (n : Int)), some (.F, .int (i : Int)), some (.F, .int (j : Int)), some (.F, .int (z : Int)), some (.F, .int (y : Int)), some (.L .F, .lst L)] := by
    unfold b3
    refine nx_seq (ρ' := [some (.F, .int (n : Int)), some (.F, .int (i : Int)), some (.F, .int (i : Int)), none, none, none]) (by simp) ?_
    refine nx_seq (ρ' := [some (.F, .int (n : Int)), some (.F, .int (i : Int)), some (.F, .int (i : Int)), some (.F, .int ((0 : Nat) : Int)), none, none]) (by simp) ?_
    refine nx_seq ez ?_
    refine nx_seq (ρ' := [some (.F, .int (n : Int)), some (.F, .int (i : Int)), some (.F, .int rs), some (.F, .int (z : Int)), some (.F, .int ((0 : Nat) : Int)), none]) (by simp) ?_
    refine nx_seq (ρ' := [some (.F, .int (n : Int)), some (.F, .int (i : Int)), some (.F, .int rs), some (.F, .int (z : Int)), some (.F, .int ((0 : Nat) : Int)), some (.L .F, .lst L0)]) (by
      simp at hr
      simp [hr]) ?_
    refine nx_seq ey ?_
    simp [atI_cast, hpt]
  rw [body]
  simp
end LK12
namespace LK12
open PF Rm
def uA (a : Nat) : Nat := if a = 0 then 1 else 0
def vA (a : Nat) : Nat := if a = 2 then 1 else 2
theorem oaxes_ok (k a : Nat) (ha : a < 3) : runF (k + 1) 13 [(.F, .int (a : Int))] = .ok (.L .F, .lst [.int (uA a : Int), .int (vA a : Int)]) [(.F, .int (a : Int))] := by
  rw [r13, runB, prF0 rfl]
  have lc := lc_gen (vs := [1]) (g := gN (fun _ => false) 1) (t := asT (fCmp cNe (bV 1) (bV 0))) (fe := fV 1) (ρ := [some (.F, .int (a : Int)), none]) (fun d => match d with | .int i => decide (i ≠ (a : Int)) | _ => false) id [.int 0, .int 1, .int 2] [] (by rw [SZ_eq]; simp) (by
    intro d hd
    have : ∃ i : Int, d = .int i := by
      rcases List.mem_cons.mp hd with rfl | hd
      · exact ⟨_, rfl⟩
      · rcases List.mem_cons.mp hd with rfl | hd
        · exact ⟨_, rfl⟩
        · rw [List.mem_singleton.mp hd]; exact ⟨_, rfl⟩
    obtain ⟨i, rfl⟩ := this
    unfold lc1
    by_cases h : i = (a : Int) <;> simp [hide, h])
  have : fLc [1] (iSeq (fTup (fCons (fC (.int 0)) (fCons (fC (.int 1)) (fCons (fC (.int 2)) (fNil)))))) (gN (fun _ => false) 1) (asT (fCmp cNe (bV 1) (bV 0))) (fV 1) [some (.F, .int (a : Int)), none] = .ok (.L .F, .lst [.int (uA a : Int), .int (vA a : Int)]) [some (.F, .int (a : Int)), none] := by
    have it : iSeq (fTup (fCons (fC (.int 0)) (fCons (fC (.int 1)) (fCons (fC (.int 2)) (fNil))))) [some (.F, .int (a : Int)), none] = .ok [.int 0, .int 1, .int 2] [some (.F, .int (a : Int)), none] := rfl
    have hh : hide [some (T.F, D.int (a : Int)), none] [1] = [some (.F, .int (a : Int)), none] := rfl
    have hu : unhide [some (T.F, D.int (a : Int)), none] [some (.F, .int (a : Int)), none] [1] = [some (.F, .int (a : Int)), none] := rfl
    unfold fLc
    rw [it, bind_ok, hh, lc]
    have : a = 0 ∨ a = 1 ∨ a = 2 := by omega
    rcases this with rfl | rfl | rfl <;> rfl
  simp [b13, this]
end LK12
namespace LK12
open PF Rm
def btw (x i j : Int) : Bool := decide (8 * (if j < i then j else i) ≤ x) && decide (x ≤ 8 * (if j > i then j else i))
def inBl (p : P3) (a0 a1 a2 b0 b1 b2 : Int) : Bool := (decide (8 * a0 ≤ p.1) && decide (p.1 ≤ 8 * b0)) && ((decide (8 * a1 ≤ p.2.1) && decide (p.2.1 ≤ 8 * b1)) && (decide (8 * a2 ≤ p.2.2) && decide (p.2.2 ≤ 8 * b2)))
def hoB (p : P3) (a : Nat) (u v x y r : Int) : Bool := btw (cd p a) x y && discB r (cd p (uA a) - 8 * u) (cd p (vA a) - 8 * v)
def siB (p : P3) (a : Nat) (u v x y r : Int) : Bool := btw (cd p a) x y && (decide (absI (cd p (uA a) - 8 * u) ≤ 8 * r - absI (cd p a - 8 * x)) && decide (absI (cd p (vA a) - 8 * v) ≤ 8 * r - absI (cd p a - 8 * x)))
def sel3 (a b c : Int) : Nat → Int
  | 0 => a
  | 1 => b
  | _ => c
/-- a wedge of the way w -/
def weB (p : P3) (a0 a1 a2 b0 b1 b2 : Int) (w : Nat) : Bool :=
  inBl p a0 a1 a2 b0 b1 b2 && (decide (sel3 b0 b1 b2 (uA (w / 4)) - sel3 a0 a1 a2 (uA (w / 4)) = sel3 b0 b1 b2 (vA (w / 4)) - sel3 a0 a1 a2 (vA (w / 4))) &&
    decide ((if w % 2 = 1 then 8 * sel3 b0 b1 b2 (uA (w / 4)) - cd p (uA (w / 4)) else cd p (uA (w / 4)) - 8 * sel3 a0 a1 a2 (uA (w / 4))) + (if w / 2 % 2 = 1 then 8 * sel3 b0 b1 b2 (vA (w / 4)) - cd p (vA (w / 4)) else cd p (vA (w / 4)) - 8 * sel3 a0 a1 a2 (vA (w / 4))) ≤ 8 * (sel3 b0 b1 b2 (uA (w / 4)) - sel3 a0 a1 a2 (uA (w / 4)))))
theorem m8_ (x : Int) : mulOk 8 x = true := by unfold mulOk; rw [Bool.or_eq_true]; left; decide
theorem m181_ (x : Int) : mulOk 181 x = true := by unfold mulOk; rw [Bool.or_eq_true]; left; decide
theorem d128_ : divOk 128 = true := by decide
theorem pD_at (p : P3) (a : Nat) (ha : a < 3) : L2.atI [D.int p.1, .int p.2.1, .int p.2.2] (a : Int) = some (.int (cd p a)) := by
  have : a = 0 ∨ a = 1 ∨ a = 2 := by omega
  rcases this with rfl | rfl | rfl <;> rfl
theorem bound_ok (k : Nat) (r : Int) : runF (k + 1) 4 [(.F, .int r)] = .ok (.F, .int ((181 * r + 64).fdiv 128)) [(.F, .int r)] := by
  rw [r4, runB, prF0 rfl]
  simp [b4, m181_, d128_]
theorem disc_ok (k : Nat) (x y r : Int) : runF (k + 2) 5 [(.F, .int x), (.F, .int y), (.F, .int r), (.F, .int 8)] = .ok (.F, .bl (discB r x y)) [(.F, .int x), (.F, .int y), (.F, .int r), (.F, .int 8)] := by
  rw [r5, runB, prF0 rfl]
  have hb := bound_ok k r
  unfold discB
  generalize (181 * r + 64).fdiv 128 = b at hb ⊢
  have e1 : ∀ z : Int, (if z < 0 then -z else z) = absI z := fun _ => rfl
  by_cases h1 : absI x ≤ 8 * r
  · by_cases h2 : absI y ≤ 8 * r
    · simp [b5, e1, m8_, h1, h2, hb]
    · simp [b5, e1, m8_, h1, h2]
  · simp [b5, e1, m8_, h1]
theorem btw_ok (k : Nat) (x i j : Int) : runF (k + 1) 14 [(.F, .int x), (.F, .int i), (.F, .int j)] = .ok (.F, .bl (btw x i j)) [(.F, .int x), (.F, .int i), (.F, .int j)] := by
  rw [r14, runB, prF0 rfl]
  unfold btw
  by_cases h : 8 * (if j < i then j else i) ≤ x
  · simp [b14, m8_, h]
  · simp [b14, m8_, h]
theorem bl_lc (x y : Option TD) (p : P3) (a0 a1 a2 b0 b1 b2 : Int) (rest : List Int) (t : T) (ht : t = .F ∨ t = .L .F) :
    fB1 gAll (fLc [2] (iRng1' (fCons (fC (.int 3)) (fNil))) (gN (fun _ => false) 2) (tYesF) (fChain cLe cLe (fTimes (fC (.int 8)) (bIx (bV 1) (qV 2))) (share (bIx (bV 0) (qV 2))) (fTimes (fC (.int 8)) (bIx (bV 1) (fPlus (fC (.int 3)) (bV 2)))))) [some (.F, pD p), some (t, .lst (isD (a0 :: a1 :: a2 :: b0 :: b1 :: b2 :: rest))), none] =
      .ok (.F, .bl (inBl p a0 a1 a2 b0 b1 b2)) [some (.F, pD p), some (t, .lst (isD (a0 :: a1 :: a2 :: b0 :: b1 :: b2 :: rest))), none] := by
  obtain ⟨px, py, pz⟩ := p
  rw [e_fB1]
  have one : ∀ (a c b : Int) (i : Int), L2.atI (isD (a0 :: a1 :: a2 :: b0 :: b1 :: b2 :: rest)) i = some (.int a) → L2.atI [D.int px, .int py, .int pz] i = some (.int c) → L2.atI (isD (a0 :: a1 :: a2 :: b0 :: b1 :: b2 :: rest)) (3 + i) = some (.int b) →
      lc1 [2] (gN (fun _ => false) 2) (tYesF) (fChain cLe cLe (fTimes (fC (.int 8)) (bIx (bV 1) (qV 2))) (share (bIx (bV 0) (qV 2))) (fTimes (fC (.int 8)) (bIx (bV 1) (fPlus (fC (.int 3)) (bV 2))))) (.int i) [some (.F, pD (px, py, pz)), some (t, .lst (isD (a0 :: a1 :: a2 :: b0 :: b1 :: b2 :: rest))), none] = some (some (.F, .bl (decide (8 * a ≤ c) && decide (c ≤ 8 * b))), [some (.F, pD (px, py, pz)), some (t, .lst (isD (a0 :: a1 :: a2 :: b0 :: b1 :: b2 :: rest))), none]) := fun a c b i h1 h2 h3 => by
    generalize isD (a0 :: a1 :: a2 :: b0 :: b1 :: b2 :: rest) = L at h1 h3 ⊢
    unfold lc1
    rcases ht with rfl | rfl <;> by_cases h : 8 * a ≤ c <;> simp [hide, pD, h1, h2, h3, m8_, h]
  have l3 := lc3 (x := some (.F, pD (px, py, pz))) (ρ := [some (t, .lst (isD (a0 :: a1 :: a2 :: b0 :: b1 :: b2 :: rest))), none]) rfl rfl (one a0 px b0 0 (by simp [isD]) rfl (by simp [isD])) (one a1 py b1 1 (by simp [isD]) rfl (by simp [isD])) (one a2 pz b2 2 (by simp [isD]) rfl (by simp [isD]))
  rw [l3, bind_ok]
  unfold inBl
  simp only
  generalize (decide (8 * a0 ≤ px) && decide (px ≤ 8 * b0)) = c0
  generalize (decide (8 * a1 ≤ py) && decide (py ≤ 8 * b1)) = c1
  generalize (decide (8 * a2 ≤ pz) && decide (pz ≤ 8 * b2)) = c2
  cases c0 <;> cases c1 <;> cases c2 <;> rfl
theorem block_ok (k : Nat) (p : P3) (a0 a1 a2 b0 b1 b2 : Int) (rest : List Int) (t : T) (ht : t = .F ∨ t = .L .F) :
    runF (k + 1) 15 [(.F, pD p), (t, .lst (isD (a0 :: a1 :: a2 :: b0 :: b1 :: b2 :: rest)))] = .ok (.F, .bl (inBl p a0 a1 a2 b0 b1 b2)) [(.F, pD p), (t, .lst (isD (a0 :: a1 :: a2 :: b0 :: b1 :: b2 :: rest)))] := by
  rw [r15, runB]
  have h := bl_lc none none p a0 a1 a2 b0 b1 b2 rest t ht
  have b0' : isBox (pD p) = false := rfl
  generalize inBl p a0 a1 a2 b0 b1 b2 = c at h ⊢
  generalize isD (a0 :: a1 :: a2 :: b0 :: b1 :: b2 :: rest) = L at h ⊢
  generalize pD p = PD at h b0' ⊢
  rcases ht with rfl | rfl <;> simp [b15, -e_fB1, h, b0']
theorem ax_cases {a : Nat} (h : a < 3) : a = 0 ∨ a = 1 ∨ a = 2 := by omega
/-- a list or a tuple of fields -/
def SeqD (td : TD) (L : List D) : Prop := td = (.F, .lst L) ∨ td = (.L .F, .lst L) ∨ td = (.F, .tup L)
theorem hole_ok (k : Nat) (p : P3) (a : Nat) (ha : a < 3) (u v x y r : Int) (rest : List D) (td : TD) (htd : SeqD td (.int u :: .int v :: .int x :: .int y :: .int r :: rest)) :
    runF (k + 3) 17 [(.F, pD p), (.F, .int (a : Int)), td] = .ok (.F, .bl (hoB p a u v x y r)) [(.F, pD p), (.F, .int (a : Int)), td] := by
  rw [r17, runB]
  have ho := oaxes_ok (k + 1) a ha
  have hb := btw_ok (k + 1) (cd p a) x y
  have hd := disc_ok k (cd p (uA a) - 8 * u) (cd p (vA a) - 8 * v) r
  have ua : uA a < 3 := by unfold uA; split <;> omega
  have va : vA a < 3 := by unfold vA; split <;> omega
  have p0 := pD_at p a ha
  have p1 := pD_at p (uA a) ua
  have p2 := pD_at p (vA a) va
  unfold hoB
  have e0 : pD p = .tup [.int p.1, .int p.2.1, .int p.2.2] := rfl
  rw [e0]
  generalize discB r (cd p (uA a) - 8 * u) (cd p (vA a) - 8 * v) = dd at hd ⊢
  generalize btw (cd p a) x y = bb at hb ⊢
  generalize cd p a = c0 at p0 hb
  generalize cd p (uA a) = c1 at p1 hd
  generalize cd p (vA a) = c2 at p2 hd
  generalize [D.int p.1, .int p.2.1, .int p.2.2] = PL at p0 p1 p2 ⊢
  generalize ((uA a : Nat) : Int) = UA at ho p1
  generalize ((vA a : Nat) : Int) = VA at ho p2
  rcases htd with rfl | rfl | rfl <;> cases bb <;> simp [b17, ho, hb, hd, p0, p1, p2, m8_]
theorem step_ok (k : Nat) (p : P3) (a : Nat) (ha : a < 3) (u v x y r z s : Int) (t : T) (ht : t = .F ∨ t = .L .F) :
    runF (k + 4) 18 [(.F, pD p), (.F, .int (a : Int)), (t, .lst (isD [u, v, x, y, r, z, s]))] = .ok (.F, .bl (hoB p a u v x y r || hoB p a u v x z s)) [(.F, pD p), (.F, .int (a : Int)), (t, .lst (isD [u, v, x, y, r, z, s]))] := by
  rw [r18, runB]
  have h1 := hole_ok k p a ha u v x y r [] (.L .F, .lst [.int u, .int v, .int x, .int y, .int r]) (.inr (.inl rfl))
  have h2 := hole_ok k p a ha u v x z s [] (.F, .tup [.int u, .int v, .int x, .int z, .int s]) (.inr (.inr rfl))
  have b0 : isBox (pD p) = false := rfl
  have hc : cutD [D.int u, .int v, .int x, .int y, .int r, .int z, .int s] none (some 5) = [D.int u, .int v, .int x, .int y, .int r] := rfl
  generalize hoB p a u v x y r = c1 at h1 ⊢
  generalize hoB p a u v x z s = c2 at h2 ⊢
  generalize pD p = PD at h1 h2 b0 ⊢
  rcases ht with rfl | rfl <;> cases c1 <;> simp [b18, isD, h1, h2, b0, hc]
theorem sink_ok (k : Nat) (p : P3) (a : Nat) (ha : a < 3) (u v x y r : Int) (t : T) (ht : t = .F ∨ t = .L .F) :
    runF (k + 2) 19 [(.F, pD p), (.F, .int (a : Int)), (t, .lst (isD [u, v, x, y, r]))] = .ok (.F, .bl (siB p a u v x y r)) [(.F, pD p), (.F, .int (a : Int)), (t, .lst (isD [u, v, x, y, r]))] := by
  rw [r19, runB]
  have ho := oaxes_ok k a ha
  have hb := btw_ok k (cd p a) x y
  have ua : uA a < 3 := by unfold uA; split <;> omega
  have va : vA a < 3 := by unfold vA; split <;> omega
  have p0 := pD_at p a ha
  have p1 := pD_at p (uA a) ua
  have p2 := pD_at p (vA a) va
  have e1 : ∀ z : Int, (if z < 0 then -z else z) = absI z := fun _ => rfl
  unfold siB
  have e0 : pD p = .tup [.int p.1, .int p.2.1, .int p.2.2] := rfl
  rw [e0]
  generalize btw (cd p a) x y = bb at hb ⊢
  generalize cd p a = c0 at p0 hb ⊢
  generalize cd p (uA a) = c1 at p1 ⊢
  generalize cd p (vA a) = c2 at p2 ⊢
  generalize [D.int p.1, .int p.2.1, .int p.2.2] = PL at p0 p1 p2 ⊢
  generalize ((uA a : Nat) : Int) = UA at ho p1
  generalize ((vA a : Nat) : Int) = VA at ho p2
  by_cases h : absI (c1 - 8 * u) ≤ 8 * r - absI (c0 - 8 * x)
  · rcases ht with rfl | rfl <;> cases bb <;> simp [b19, isD, ho, hb, p0, p1, p2, m8_, e1, h]
  · rcases ht with rfl | rfl <;> cases bb <;> simp [b19, isD, ho, hb, p0, p1, p2, m8_, e1, h]
end LK12
namespace LK12
open PF Rm
theorem d2_ : divOk 2 = true := by decide
theorem d4_ : divOk 4 = true := by decide
theorem wN : ∀ w : Fin 12, Int.fdiv ((w.val : Nat) : Int) 4 = ((w.val / 4 : Nat) : Int) ∧ Int.fmod (Int.fdiv ((w.val : Nat) : Int) (1 + 0)) 2 = ((w.val % 2 : Nat) : Int) ∧ Int.fmod (Int.fdiv ((w.val : Nat) : Int) (1 + 1)) 2 = ((w.val / 2 % 2 : Nat) : Int) := by decide +kernel
theorem fl_at (a0 a1 a2 b0 b1 b2 : Int) (rest : List Int) (a : Nat) (ha : a < 3) : L2.atI (isD (a0 :: a1 :: a2 :: b0 :: b1 :: b2 :: rest)) (a : Int) = some (.int (sel3 a0 a1 a2 a)) ∧ L2.atI (isD (a0 :: a1 :: a2 :: b0 :: b1 :: b2 :: rest)) (3 + (a : Int)) = some (.int (sel3 b0 b1 b2 a)) := by
  rcases ax_cases ha with rfl | rfl | rfl <;> constructor <;> simp [isD, sel3]
abbrev wdE (PL L : List D) (t : T) (w U V wu wv tot : Int) (x6 : Option TD) : PF.Env := [some (.F, .tup PL), some (t, .lst L), some (.F, .int w), some (.F, .lst [.int U, .int V]), some (.L .F, .lst [.int wu, .int wv]), some (.F, .int tot), x6, none]
theorem wd_step (cf : Nat → List TD → RF) (pr : Nat → Bool) (hpr : ∀ i, 2 ≤ i → pr i = false) (PL L : List D) (t : T) (ht : t = .F ∨ t = .L .F) (w U V wu wv tot i X cX aX bX q : Int) (x6 : Option TD)
    (hi : L2.atI [D.int U, D.int V] i = some (.int X)) (hp : L2.atI PL X = some (.int cX)) (ha : L2.atI L X = some (.int aX)) (hb : L2.atI L (3 + X) = some (.int bX)) (hd : divOk (1 + i) = true) (hq : Int.fmod (Int.fdiv w (1 + i)) 2 = q) :
    stepD (gN pr 6) (b16_l0 cf pr) (.int i) (wdE PL L t w U V wu wv tot x6) = .ok .nx (wdE PL L t w U V wu wv (tot + (if q = 1 then 8 * bX - cX else cX - 8 * aX)) (some (.F, .int i))) := by
  have p6 := hpr 6 (by omega)
  have p5 := hpr 5 (by omega)
  unfold wdE
  by_cases h : q = 1
  · subst h
    rcases ht with rfl | rfl <;> simp [b16_l0, p5, p6, hi, hp, ha, hb, hd, hq, d2_, m8_]
  · rcases ht with rfl | rfl <;> simp [b16_l0, p5, p6, hi, hp, ha, hb, hd, hq, d2_, m8_, h]
theorem wd_lc (PL L : List D) (t : T) (ht : t = .F ∨ t = .L .F) (w U V au av bu bv : Int) (hu : L2.atI L U = some (.int au)) (hv : L2.atI L V = some (.int av)) (hu3 : L2.atI L (3 + U) = some (.int bu)) (hv3 : L2.atI L (3 + V) = some (.int bv)) :
    fLc [7] (iSeq (fV 3)) (gN (fun _ => false) 7) (tYesF) (fSub (share (bIx (bV 1) (fPlus (fC (.int 3)) (bV 7)))) (share (bIx (bV 1) (qV 7)))) [some (.F, .tup PL), some (t, .lst L), some (.F, .int w), some (.L .F, .lst [.int U, .int V]), none, none, none, none] =
      .ok (.L .F, .lst [.int (bu - au), .int (bv - av)]) [some (.F, .tup PL), some (t, .lst L), some (.F, .int w), some (.F, .lst [.int U, .int V]), none, none, none, none] := by
  have it : iSeq (fV 3) [some (.F, .tup PL), some (t, .lst L), some (.F, .int w), some (.L .F, .lst [.int U, .int V]), none, none, none, none] = .ok [.int U, .int V] [some (.F, .tup PL), some (t, .lst L), some (.F, .int w), some (.F, .lst [.int U, .int V]), none, none, none, none] := by simp
  have one : ∀ (X a b : Int), L2.atI L X = some (.int a) → L2.atI L (3 + X) = some (.int b) → lc1 [7] (gN (fun _ => false) 7) (tYesF) (fSub (share (bIx (bV 1) (fPlus (fC (.int 3)) (bV 7)))) (share (bIx (bV 1) (qV 7)))) (.int X) [some (.F, .tup PL), some (t, .lst L), some (.F, .int w), some (.F, .lst [.int U, .int V]), none, none, none, none] = some (some (.F, .int (b - a)), [some (.F, .tup PL), some (t, .lst L), some (.F, .int w), some (.F, .lst [.int U, .int V]), none, none, none, none]) := fun X a b h1 h2 => by
    unfold lc1
    rcases ht with rfl | rfl <;> simp [hide, h1, h2]
  unfold fLc
  rw [it, bind_ok]
  simp only [hide, List.foldl_cons, List.foldl_nil, List.set_cons_succ, List.set_cons_zero]
  rw [lc_cons (by rw [SZ_eq]; simp) (one U au bu hu hu3), lc_cons (by rw [SZ_eq]; simp) (one V av bv hv hv3)]
  rfl
theorem wedge_ok (k : Nat) (p : P3) (a0 a1 a2 b0 b1 b2 : Int) (w : Nat) (hw : w < 12) (t : T) (ht : t = .F ∨ t = .L .F) :
    runF (k + 2) 16 [(.F, pD p), (t, .lst (isD [a0, a1, a2, b0, b1, b2, (w : Int)]))] = .ok (.F, .bl (weB p a0 a1 a2 b0 b1 b2 w)) [(.F, pD p), (t, .lst (isD [a0, a1, a2, b0, b1, b2, (w : Int)]))] := by
  rw [r16, runB]
  have ha : w / 4 < 3 := by omega
  have ua : uA (w / 4) < 3 := by unfold uA; split <;> omega
  have va : vA (w / 4) < 3 := by unfold vA; split <;> omega
  have ho := oaxes_ok k (w / 4) ha
  have hb := block_ok k p a0 a1 a2 b0 b1 b2 [(w : Int)] t ht
  have p1 := pD_at p (uA (w / 4)) ua
  have p2 := pD_at p (vA (w / 4)) va
  obtain ⟨u0, u3⟩ := fl_at a0 a1 a2 b0 b1 b2 [(w : Int)] (uA (w / 4)) ua
  obtain ⟨v0, v3⟩ := fl_at a0 a1 a2 b0 b1 b2 [(w : Int)] (vA (w / 4)) va
  obtain ⟨q4, q1, q2⟩ := wN ⟨w, hw⟩
  simp only at q4 q1 q2
  have h6 : (isD [a0, a1, a2, b0, b1, b2, (w : Int)])[6]? = some (.int (w : Int)) := by simp [isD]
  unfold weB
  have e0 : pD p = .tup [.int p.1, .int p.2.1, .int p.2.2] := rfl
  rw [e0] at hb ⊢
  have c1 : (w % 2 = 1) ↔ (((w % 2 : Nat) : Int) = 1) := by omega
  have c2 : (w / 2 % 2 = 1) ↔ (((w / 2 % 2 : Nat) : Int) = 1) := by omega
  simp only [c1, c2]
  generalize ((w / 4 : Nat) : Int) = W4 at q4 ho
  generalize inBl p a0 a1 a2 b0 b1 b2 = bb at hb ⊢
  generalize cd p (uA (w / 4)) = cu at p1 ⊢
  generalize cd p (vA (w / 4)) = cv at p2 ⊢
  generalize sel3 a0 a1 a2 (uA (w / 4)) = au at u0 ⊢
  generalize sel3 a0 a1 a2 (vA (w / 4)) = av at v0 ⊢
  generalize sel3 b0 b1 b2 (uA (w / 4)) = bu at u3 ⊢
  generalize sel3 b0 b1 b2 (vA (w / 4)) = bv at v3 ⊢
  generalize [D.int p.1, .int p.2.1, .int p.2.2] = PL at p1 p2 hb ⊢
  generalize ((uA (w / 4) : Nat) : Int) = U at ho p1 u0 u3
  generalize ((vA (w / 4) : Nat) : Int) = V at ho p2 v0 v3
  generalize ((w % 2 : Nat) : Int) = Q1 at q1 ⊢
  generalize ((w / 2 % 2 : Nat) : Int) = Q2 at q2 ⊢
  generalize isD [a0, a1, a2, b0, b1, b2, (w : Int)] = L at hb u0 u3 v0 v3 h6 ⊢
  generalize (w : Int) = W at q4 q1 q2 h6
  have lc := wd_lc PL L t ht W U V au av bu bv u0 v0 u3 v3
  have s := fun pr hpr => forD_2 (wd_step (runF (k + 1)) pr hpr PL L t ht W U V (bu - au) (bv - av) 0 0 U cu au bu Q1 none rfl p1 u0 u3 (by decide) q1) (wd_step (runF (k + 1)) pr hpr PL L t ht W U V (bu - au) (bv - av) _ 1 V cv av bv Q2 (some (.F, .int 0)) rfl p2 v0 v3 (by decide) q2)
  have hr : ∀ (x : Option TD) (ρ : PF.Env), iRng1' (fCons (fC (.int 2)) (fNil)) (x :: ρ) = .ok [.int 0, .int 1] (x :: ρ) := fun x ρ => rfl
  generalize (if Q1 = 1 then 8 * bu - cu else cu - 8 * au) = t1 at s ⊢
  generalize (if Q2 = 1 then 8 * bv - cv else cv - 8 * av) = t2 at s ⊢
  unfold wdE at s
  clear q1 q2 p1 p2 u0 u3 v0 v3 c1 c2
  rcases ht with rfl | rfl
  · have s := s (prOf [(T.F, .tup PL), (T.F, .lst L)]) (fun i h => by match i, h with | i + 2, _ => rfl)
    simp only [Int.zero_add] at s
    cases bb
    · simp [b16, h6, d4_, q4, ho, lc, hb]
    · by_cases e : bu - au = bv - av
      · rw [e] at s lc
        simp [b16, h6, d4_, q4, ho, lc, hb, e, -e_iR1, hr, s, m8_]
      · simp [b16, h6, d4_, q4, ho, lc, hb, e]
  · have s := s (prOf [(T.F, .tup PL), (T.L .F, .lst L)]) (fun i h => by match i, h with | i + 2, _ => rfl)
    simp only [Int.zero_add] at s
    cases bb
    · simp [b16, h6, d4_, q4, ho, lc, hb]
    · by_cases e : bu - au = bv - av
      · rw [e] at s lc
        simp [b16, h6, d4_, q4, ho, lc, hb, e, -e_iR1, hr, s, m8_]
      · simp [b16, h6, d4_, q4, ho, lc, hb, e]
end LK12
namespace LK12
open PF Rm
def kd : Nat → PySem.Str
  | 0 => PySem.Str.ofString "block"
  | 1 => PySem.Str.ofString "wedge"
  | 2 => PySem.Str.ofString "hole"
  | 3 => PySem.Str.ofString "step"
  | _ => PySem.Str.ofString "sink"
def lenK : Nat → Nat
  | 0 => 6
  | 1 => 7
  | 2 => 5
  | 3 => 7
  | _ => 5
def badK : Nat → List Int → Option Int
  | 1, [_, _, _, _, _, _, w] => if 0 ≤ w ∧ w ≤ 11 then none else some 6
  | 2, [_, _, _, _, r] => if 1 ≤ r ∧ r ≤ 64 then none else some 4
  | 3, [_, _, _, _, r, _, s] => if 1 ≤ r ∧ r ≤ 64 then (if 1 ≤ s ∧ s ≤ 64 then none else some 6) else some 4
  | 4, [_, _, _, _, r] => if 1 ≤ r ∧ r ≤ 64 then none else some 4
  | _, _ => none
def plB : Nat → P3 → Nat → List Int → Bool
  | 0, p, _, [a0, a1, a2, b0, b1, b2] => inBl p a0 a1 a2 b0 b1 b2
  | 1, p, _, [a0, a1, a2, b0, b1, b2, w] => weB p a0 a1 a2 b0 b1 b2 w.toNat
  | 2, p, a, [u, v, x, y, r] => hoB p a u v x y r
  | 3, p, a, [u, v, x, y, r, z, s] => hoB p a u v x y r || hoB p a u v x z s
  | 4, p, a, [u, v, x, y, r] => siB p a u v x y r
  | _, _, _, _ => false
theorem kb0 : List.lookup (kd 0) kt_BOUNDS = none := by decide +kernel
theorem kb1 : List.lookup (kd 1) kt_BOUNDS = some (.tv [[6, 0, 11]]) := rfl
theorem kb2 : List.lookup (kd 2) kt_BOUNDS = some (.tv [[4, 1, 64]]) := rfl
theorem kb3 : List.lookup (kd 3) kt_BOUNDS = some (.tv [[4, 1, 64], [6, 1, 64]]) := rfl
theorem kb4 : List.lookup (kd 4) kt_BOUNDS = some (.tv [[4, 1, 64]]) := rfl
theorem kv1 : KV.v (.tv [[6, 0, 11]]) = .tup [.tup [.raw (.int 6), .raw (.int 0), .raw (.int 11)]] := rfl
theorem kv2 : KV.v (.tv [[4, 1, 64]]) = .tup [.tup [.raw (.int 4), .raw (.int 1), .raw (.int 64)]] := rfl
theorem kv3 : KV.v (.tv [[4, 1, 64], [6, 1, 64]]) = .tup [.tup [.raw (.int 4), .raw (.int 1), .raw (.int 64)], .tup [.raw (.int 6), .raw (.int 1), .raw (.int 64)]] := rfl
theorem kdb (κ : Nat) : (kd κ = PySem.Str.ofString "block") ↔ κ = 0 := by
  match κ with
  | 0 | 1 | 2 | 3 => decide +kernel
  | n + 4 =>
    have : kd (n + 4) = kd 4 := rfl
    rw [this]
    constructor
    · intro h; exact absurd h (by decide +kernel)
    · intro h; omega
theorem kdw (κ : Nat) : (kd κ = PySem.Str.ofString "wedge") ↔ κ = 1 := by
  match κ with
  | 0 | 1 | 2 | 3 => decide +kernel
  | n + 4 =>
    have : kd (n + 4) = kd 4 := rfl
    rw [this]
    constructor
    · intro h; exact absurd h (by decide +kernel)
    · intro h; omega
theorem kdh (κ : Nat) : (kd κ = PySem.Str.ofString "hole") ↔ κ = 2 := by
  match κ with
  | 0 | 1 | 2 | 3 => decide +kernel
  | n + 4 =>
    have : kd (n + 4) = kd 4 := rfl
    rw [this]
    constructor
    · intro h; exact absurd h (by decide +kernel)
    · intro h; omega
theorem kds (κ : Nat) : (kd κ = PySem.Str.ofString "step") ↔ κ = 3 := by
  match κ with
  | 0 | 1 | 2 | 3 => decide +kernel
  | n + 4 =>
    have : kd (n + 4) = kd 4 := rfl
    rw [this]
    constructor
    · intro h; exact absurd h (by decide +kernel)
    · intro h; omega
theorem kdi (κ : Nat) : (kd κ = PySem.Str.ofString "sink") ↔ 4 ≤ κ := by
  match κ with
  | 0 | 1 | 2 | 3 => decide +kernel
  | n + 4 =>
    have : kd (n + 4) = kd 4 := rfl
    rw [this]
    constructor
    · intro _; omega
    · intro _; rfl
theorem dshk (κ : Nat) : dsh (D.str (kd κ)) = true := by
  match κ with
  | 0 => exact dsh_lit _
  | 1 => exact dsh_lit _
  | 2 => exact dsh_lit _
  | 3 => exact dsh_lit _
  | n + 4 => exact dsh_lit _
theorem k5_cases {κ : Nat} (h : κ < 5) : κ = 0 ∨ κ = 1 ∨ κ = 2 ∨ κ = 3 ∨ κ = 4 := by omega
theorem len5 {fl : List Int} (h : fl.length = 5) : ∃ u v x y r, fl = [u, v, x, y, r] := match fl, h with
  | [u, v, x, y, r], _ => ⟨u, v, x, y, r, rfl⟩
theorem len6 {fl : List Int} (h : fl.length = 6) : ∃ u v x y r z, fl = [u, v, x, y, r, z] := match fl, h with
  | [u, v, x, y, r, z], _ => ⟨u, v, x, y, r, z, rfl⟩
theorem len7 {fl : List Int} (h : fl.length = 7) : ∃ u v x y r z s, fl = [u, v, x, y, r, z, s] := match fl, h with
  | [u, v, x, y, r, z, s], _ => ⟨u, v, x, y, r, z, s, rfl⟩
/-- how a check of the fields ends -/
def chR (o : Option Int) (ys : List TD) : RF := match o with
  | none => .ok (.F, .non) ys
  | some i => .exc 1 [(2, .int i)] ys
theorem check_f (k κ : Nat) (hκ : κ < 5) (fl : List Int) (hl : fl.length = lenK κ) (t : T) (ht : t = .F ∨ t = .L .F) :
    runF (k + 1) 12 [(.F, .str (kd κ)), (t, .lst (isD fl))] = chR (badK κ fl) [(.F, .str (kd κ)), (t, .lst (isD fl))] := by
  rw [r12, runB]
  rcases k5_cases hκ with rfl | rfl | rfl | rfl | rfl
  · generalize isD fl = L
    have e : badK 0 fl = none := by unfold badK; split <;> simp_all
    rw [e]
    rcases ht with rfl | rfl <;> simp [b12, kb0, chR, forD]
  · obtain ⟨u, v, x, y, r, z, s, rfl⟩ := len7 hl
    have h6 : (isD [u, v, x, y, r, z, s])[6]? = some (.int s) := by simp [isD]
    have eb : badK 1 [u, v, x, y, r, z, s] = if 0 ≤ s ∧ s ≤ 11 then none else some 6 := rfl
    rw [eb]
    generalize isD [u, v, x, y, r, z, s] = L at h6 ⊢
    by_cases h1 : 0 ≤ s <;> by_cases h2 : s ≤ 11 <;> rcases ht with rfl | rfl <;> simp [b12, b12_l0, kb1, kv1, chR, h6, h1, h2, forD, prX]
  · obtain ⟨u, v, x, y, r, rfl⟩ := len5 hl
    have h4 : (isD [u, v, x, y, r])[4]? = some (.int r) := by simp [isD]
    have eb : badK 2 [u, v, x, y, r] = if 1 ≤ r ∧ r ≤ 64 then none else some 4 := rfl
    rw [eb]
    generalize isD [u, v, x, y, r] = L at h4 ⊢
    by_cases h1 : 1 ≤ r <;> by_cases h2 : r ≤ 64 <;> rcases ht with rfl | rfl <;> simp [b12, b12_l0, kb2, kv2, chR, h4, h1, h2, forD, prX]
  · obtain ⟨u, v, x, y, r, z, s, rfl⟩ := len7 hl
    have h4 : (isD [u, v, x, y, r, z, s])[4]? = some (.int r) := by simp [isD]
    have h6 : (isD [u, v, x, y, r, z, s])[6]? = some (.int s) := by simp [isD]
    have eb : badK 3 [u, v, x, y, r, z, s] = if 1 ≤ r ∧ r ≤ 64 then (if 1 ≤ s ∧ s ≤ 64 then none else some 6) else some 4 := rfl
    rw [eb]
    generalize isD [u, v, x, y, r, z, s] = L at h4 h6 ⊢
    by_cases h1 : 1 ≤ r <;> by_cases h2 : r ≤ 64 <;> by_cases h3 : 1 ≤ s <;> by_cases h5 : s ≤ 64 <;> rcases ht with rfl | rfl <;> simp [b12, b12_l0, kb3, kv3, chR, h4, h6, h1, h2, h3, h5, forD, prX]
  · obtain ⟨u, v, x, y, r, rfl⟩ := len5 hl
    have h4 : (isD [u, v, x, y, r])[4]? = some (.int r) := by simp [isD]
    have eb : badK 4 [u, v, x, y, r] = if 1 ≤ r ∧ r ≤ 64 then none else some 4 := rfl
    rw [eb]
    generalize isD [u, v, x, y, r] = L at h4 ⊢
    by_cases h1 : 1 ≤ r <;> by_cases h2 : r ≤ 64 <;> rcases ht with rfl | rfl <;> simp [b12, b12_l0, kb4, kv2, chR, h4, h1, h2, forD, prX]
theorem count_f (k : Nat) (s : PySem.Str) (c : Int) (h : List.lookup s kt_FIELD_COUNTS = some (.dv (.int c))) : runF (k + 1) 11 [(.F, .str s)] = .ok (.F, .int c) [(.F, .str s)] := by
  rw [r11, runB, prF0 rfl]
  have hv : KV.v (.dv (.int c)) = .int c := rfl
  simp [b11, h, hv]
theorem plain_ok (k κ : Nat) (hκ : κ < 5) (p : P3) (a : Nat) (ha : a < 3) (fl : List Int) (hl : fl.length = lenK κ) (hb : badK κ fl = none) (t : T) (ht : t = .F ∨ t = .L .F) :
    runF (k + 5) 20 [(.F, .str (kd κ)), (.F, pD p), (.F, .int (a : Int)), (t, .lst (isD fl))] = .ok (.F, .bl (plB κ p a fl)) [(.F, .str (kd κ)), (.F, pD p), (.F, .int (a : Int)), (t, .lst (isD fl))] := by
  rw [r20, runB]
  have b0 : isBox (pD p) = false := rfl
  rcases k5_cases hκ with rfl | rfl | rfl | rfl | rfl
  · obtain ⟨a0, a1, a2, c0, c1, c2, rfl⟩ := len6 hl
    have h := block_ok (k + 3) p a0 a1 a2 c0 c1 c2 [] t ht
    show _ = RF.ok (T.F, D.bl (inBl p a0 a1 a2 c0 c1 c2)) _
    generalize inBl p a0 a1 a2 c0 c1 c2 = q at h ⊢
    generalize isD [a0, a1, a2, c0, c1, c2] = L at h ⊢
    generalize pD p = PD at h b0 ⊢
    rcases ht with rfl | rfl <;> simp [b20, dshk, kdb, kdw, kdh, kds, h, b0]
  · obtain ⟨a0, a1, a2, c0, c1, c2, w, rfl⟩ := len7 hl
    have hw : 0 ≤ w ∧ w ≤ 11 := by
      have eb : badK 1 [a0, a1, a2, c0, c1, c2, w] = if 0 ≤ w ∧ w ≤ 11 then none else some 6 := rfl
      rw [eb] at hb
      by_cases h : 0 ≤ w ∧ w ≤ 11
      · exact h
      · rw [if_neg h] at hb; cases hb
    have ew : ((w.toNat : Nat) : Int) = w := by omega
    have h := wedge_ok (k + 2) p a0 a1 a2 c0 c1 c2 w.toNat (by omega) t ht
    rw [ew] at h
    show _ = RF.ok (T.F, D.bl (weB p a0 a1 a2 c0 c1 c2 w.toNat)) _
    generalize weB p a0 a1 a2 c0 c1 c2 w.toNat = q at h ⊢
    generalize isD [a0, a1, a2, c0, c1, c2, w] = L at h ⊢
    generalize pD p = PD at h b0 ⊢
    rcases ht with rfl | rfl <;> simp [b20, dshk, kdb, kdw, kdh, kds, h, b0]
  · obtain ⟨u, v, x, y, r, rfl⟩ := len5 hl
    have h := fun td htd => hole_ok (k + 1) p a ha u v x y r [] td htd
    have e : isD [u, v, x, y, r] = [D.int u, .int v, .int x, .int y, .int r] := rfl
    show _ = RF.ok (T.F, D.bl (hoB p a u v x y r)) _
    rw [e]
    generalize hoB p a u v x y r = q at h ⊢
    generalize pD p = PD at h b0 ⊢
    rcases ht with rfl | rfl
    · have h := h _ (.inl rfl)
      generalize [D.int u, .int v, .int x, .int y, .int r] = L at h ⊢
      simp [b20, dshk, kdb, kdw, kdh, kds, h, b0]
    · have h := h _ (.inr (.inl rfl))
      generalize [D.int u, .int v, .int x, .int y, .int r] = L at h ⊢
      simp [b20, dshk, kdb, kdw, kdh, kds, h, b0]
  · obtain ⟨u, v, x, y, r, z, s, rfl⟩ := len7 hl
    have h := step_ok k p a ha u v x y r z s t ht
    show _ = RF.ok (T.F, D.bl (hoB p a u v x y r || hoB p a u v x z s)) _
    generalize (hoB p a u v x y r || hoB p a u v x z s) = q at h ⊢
    generalize isD [u, v, x, y, r, z, s] = L at h ⊢
    generalize pD p = PD at h b0 ⊢
    rcases ht with rfl | rfl <;> simp [b20, dshk, kdb, kdw, kdh, kds, h, b0]
  · obtain ⟨u, v, x, y, r, rfl⟩ := len5 hl
    have h := sink_ok (k + 2) p a ha u v x y r t ht
    show _ = RF.ok (T.F, D.bl (siB p a u v x y r)) _
    generalize siB p a u v x y r = q at h ⊢
    generalize isD [u, v, x, y, r] = L at h ⊢
    generalize pD p = PD at h b0 ⊢
    rcases ht with rfl | rfl <;> simp [b20, dshk, kdb, kdw, kdh, kds, h, b0]
end LK12
namespace LK12
open PF Rm
def bitsF : Nat → Nat → Nat → List Nat
  | 0, _, _ => []
  | f + 1, m, p => if m = 0 then [] else (if m % 2 = 1 then [p] else []) ++ bitsF f (m / 2) (p + 1)
theorem bitsF_eq : ∀ (f m p : Nat), m < 2 ^ f → bitsF f m p = ((List.range f).filter fun i => m.testBit i).map (p + ·)
  | 0, m, p, h => by simp [bitsF]
  | f + 1, m, p, h => by
    have hm : m / 2 < 2 ^ f := by rw [Nat.pow_succ] at h; omega
    unfold bitsF
    rw [List.range_succ_eq_map, List.filter_cons, List.filter_map]
    have e1 : ((fun i => m.testBit i) ∘ Nat.succ) = fun i => (m / 2).testBit i := by
      funext i
      simp [Nat.testBit_succ]
    rw [e1]
    by_cases h0 : m = 0
    · subst h0; simp
    · rw [if_neg h0, bitsF_eq f (m / 2) (p + 1) hm]
      have e2 : ((p + ·) ∘ Nat.succ) = fun i : Nat => p + 1 + i := by funext i; simp; omega
      by_cases h1 : m % 2 = 1
      · have : m.testBit 0 = true := by simp [Nat.testBit_zero, h1]
        simp [h1, this, List.map_map, e2]
      · have : m.testBit 0 = false := by simp [Nat.testBit_zero, h1]
        simp [h1, this, List.map_map, e2]
theorem bits_step (cf : Nat → List TD → RF) (pr : Nat → Bool) (hpr : ∀ i, pr i = false) (m p : Nat) (ds : List D) (hz : ds.length < SZ) :
    b8_l0 cf pr [some (.F, .int (m : Int)), some (.L .F, .lst ds), some (.F, .int (p : Int))] = .ok .nx [some (.F, .int ((m / 2 : Nat) : Int)), some (.L .F, .lst (ds ++ if m % 2 = 1 then [.int (p : Int)] else [])), some (.F, .int ((p + 1 : Nat) : Int))] := by
  have h2 : (m : Int).fmod 2 = ((m % 2 : Nat) : Int) := by rw [Int.fmod_eq_emod_of_nonneg _ (by decide)]; rfl
  have hs : gShr (.int (m : Int)) (.int 1) = some (.int ((m / 2 : Nat) : Int)) := by
    unfold gShr gI
    simp
  by_cases h : m % 2 = 1
  · have h' : (m : Int) % 2 = 1 := by omega
    simp [b8_l0, hpr, h2, h, h', hz, hs]
  · have h' : ¬ (m : Int) % 2 = 1 := by omega
    simp [b8_l0, hpr, h2, h, h', hz, hs]
theorem bits_loop (cf : Nat → List TD → RF) (pr : Nat → Bool) (hpr : ∀ i, pr i = false) : ∀ (f n m p : Nat) (ds : List D), m < 2 ^ f → f + 1 ≤ n → ds.length + f < SZ →
    ∃ q, whileD (asT (fCmp cGt (bV 0) (fC (.int 0)))) (b8_l0 cf pr) n [some (.F, .int (m : Int)), some (.L .F, .lst ds), some (.F, .int (p : Int))] = .ok .nx [some (.F, .int 0), some (.L .F, .lst (ds ++ (bitsF f m p).map fun i : Nat => D.int (i : Int))), q]
  | 0, n, m, p, ds, hm, hn, hz => by
    obtain ⟨n, rfl⟩ : ∃ k, n = k + 1 := ⟨n - 1, by omega⟩
    have : m = 0 := by simpa using hm
    subst this
    exact ⟨_, by unfold whileD; simp [bitsF]; rfl⟩
  | f + 1, n, m, p, ds, hm, hn, hz => by
    obtain ⟨n, rfl⟩ : ∃ k, n = k + 1 := ⟨n - 1, by omega⟩
    by_cases h0 : m = 0
    · subst h0
      exact ⟨_, by unfold whileD; simp [bitsF]; rfl⟩
    · have hm2 : m / 2 < 2 ^ f := by rw [Nat.pow_succ] at hm; omega
      obtain ⟨q, e⟩ := bits_loop cf pr hpr f n (m / 2) (p + 1) (ds ++ if m % 2 = 1 then [.int (p : Int)] else []) hm2 (by omega) (by split <;> simp <;> omega)
      refine ⟨q, ?_⟩
      have st := bits_step cf pr hpr m p ds (by omega)
      have hpos : 0 < m := by omega
      unfold whileD
      have e2 : (ds ++ (bitsF (f + 1) m p).map fun i : Nat => D.int (i : Int)) = (ds ++ if m % 2 = 1 then [.int (p : Int)] else []) ++ (bitsF f (m / 2) (p + 1)).map fun i : Nat => D.int (i : Int) := by
        rw [bitsF, if_neg h0]
        split <;> simp
      rw [e2]
      simp [hpos, st]
      simpa using e
theorem bits_ok (k m f : Nat) (hm : m < 2 ^ f) (hf : f < 100000) : runF (k + 1) 8 [(.F, .int (m : Int))] = .ok (.L .F, .lst (gsD (bitsL f m))) [(.F, .int (m : Int))] := by
  obtain ⟨q, e⟩ := bits_loop (runF k) (fun _ => false) (fun _ => rfl) f 1000000000 m 0 [] hm (by omega) (by rw [SZ_eq]; simp; omega)
  rw [bitsF_eq f m 0 hm] at e
  rw [r8, runB, prF0 rfl]
  simp [b8, sWhile] at e ⊢
  rw [e]
  simp
  rfl
end LK12
namespace LK12
open PF Rm
theorem count_ok (k n : Nat) (hn : n ≤ 10) : runF (k + 1) 1 [(.F, .int (n : Int))] = .ok (.F, .int ((24 * n ^ 3 : Nat) : Int)) [(.F, .int (n : Int))] := by
  rw [r1, runB, prF0 rfl]
  have hp : powOk (n : Int) 3 = true := powOk_iff.mpr ⟨by omega, by omega, by omega⟩
  have hm : mulOk 24 ((n : Int) ^ 3) = true := by
    unfold mulOk
    rw [Bool.or_eq_true]
    left
    decide
  simp [b1, kSHARES, hp, hm]
end LK12
namespace LK12
open PF Rm
theorem bitOr_nat (a b : Nat) : PySem.Builtin.bitOr (a : Int) (b : Int) = ((a ||| b : Nat) : Int) := by
  rw [← PyProof.Rows.bitOr_eq]
  unfold PySem.Spec.bitOr PySem.Spec.bitAnd PySem.Spec.bitNot
  have h1 : decide (0 ≤ -(a : Int) - 1) = false := decide_eq_false (by omega)
  have h2 : decide (0 ≤ -(b : Int) - 1) = false := decide_eq_false (by omega)
  rw [h1, h2]
  dsimp only
  rw [show (-(-(a : Int) - 1) - 1) = (a : Int) by omega, show (-(-(b : Int) - 1) - 1) = (b : Int) by omega]
  simp
  omega
theorem pow_cast (g : Nat) : ((2 : Int) ^ g) = ((2 ^ g : Nat) : Int) := by simp
theorem mask_step (cf : Nat → List TD → RF) (pr : Nat → Bool) (p1 : pr 1 = false) (p2 : pr 2 = false) (m g : Nat) (hg : g ≤ 1000000) (x0 x2 : Option TD) :
    stepD (gN pr 2) (b7_l0 cf pr) (.int (g : Int)) [x0, some (.F, .int (m : Int)), x2] = .ok .nx [x0, some (.F, .int ((m ||| 2 ^ g : Nat) : Int)), some (.F, .int (g : Int))] := by
  have hp : powOk 1 (g : Int) = true := by exact powOk_iff.mpr ⟨by omega, by omega, by decide⟩
  have hs : gShl (.int 1) (.int (g : Int)) = some (.int ((2 ^ g : Nat) : Int)) := by
    show (if powOk 1 (g : Int) then some (D.int (1 * 2 ^ (g : Int).toNat)) else none) = _
    rw [if_pos hp]
    simp
  have ho : gOr (.int (m : Int)) (.int ((2 ^ g : Nat) : Int)) = some (.int ((m ||| 2 ^ g : Nat) : Int)) := by
    show some (D.int (PySem.Builtin.bitOr (m : Int) ((2 ^ g : Nat) : Int))) = _
    rw [bitOr_nat]
  rw [← pow_cast] at ho
  simp [b7_l0, p1, p2, hs, ho]
theorem mask_loop (cf : Nat → List TD → RF) (pr : Nat → Bool) (p1 : pr 1 = false) (p2 : pr 2 = false) : ∀ (gs : List Nat) (m : Nat) (x0 x2 : Option TD), (∀ g ∈ gs, g ≤ 1000000) →
    ∃ y2, forD (stepD (gN pr 2) (b7_l0 cf pr)) (gs.map fun g : Nat => D.int (g : Int)) [x0, some (.F, .int (m : Int)), x2] = .ok .nx [x0, some (.F, .int (maskF m gs : Nat)), y2]
  | [], m, x0, x2, _ => ⟨x2, rfl⟩
  | g :: gs, m, x0, x2, h => by
    obtain ⟨y2, e⟩ := mask_loop cf pr p1 p2 gs (m ||| 2 ^ g) x0 (some (.F, .int (g : Int))) fun g hg => h g (List.mem_cons_of_mem _ hg)
    refine ⟨y2, ?_⟩
    rw [List.map_cons, forD, mask_step cf pr p1 p2 m g (h g List.mem_cons_self)]
    exact e
theorem mask_ok (k : Nat) (gs : List Nat) (h : ∀ g ∈ gs, g ≤ 1000000) (t : T) (ht : t = .F ∨ t = .L .F) : runF (k + 1) 7 [(t, .lst (gsD gs))] = .ok (.F, .int (maskF 0 gs : Nat)) [(.F, .lst (gsD gs))] := by
  rw [r7, runB]
  rcases ht with rfl | rfl
  · obtain ⟨y2, e⟩ := mask_loop (runF k) (prOf [(T.F, .lst (gsD gs))]) rfl rfl gs 0 (some (.F, .lst (gsD gs))) none h
    simp [b7] at e ⊢
    rw [e]
    simp
  · obtain ⟨y2, e⟩ := mask_loop (runF k) (prOf [(T.L .F, .lst (gsD gs))]) rfl rfl gs 0 (some (.F, .lst (gsD gs))) none h
    simp [b7] at e ⊢
    rw [e]
    simp
end LK12
namespace LK12
open PF Rm
def solD (n M : Nat) : D := .obj 0 [(0, .int (n : Int)), (1, .int (M : Int))]
abbrev RS : T := .R [.F, .F]
theorem size_ok (k n : Nat) (h2 : 2 ≤ n) (h6 : n ≤ 6) : runF (k + 1) 6 [(.F, .int (n : Int))] = .ok (.F, .non) [(.F, .int (n : Int))] := by
  rw [r6, runB, prF0 rfl]
  have h1 : (2 : Int) ≤ (n : Int) := by omega
  have h3 : (n : Int) ≤ 6 := by omega
  simp [b6, kLEAST, kMOST, h1, h3]
theorem init_l (k n : Nat) (hn : n ≤ 6) (pr : Nat → Bool) (p3 : pr 3 = false) (x0 x2 : Option TD) (gs : List Nat) (hg : ∀ g ∈ gs, g < 24 * n ^ 3) (x3 : Option TD) :
    ∃ x3', forD (stepD (gN pr 3) (b9_l0 (runF (k + 1)) pr)) (gsD gs) [x0, some (.F, .int (n : Int)), x2, x3] = .ok .nx [x0, some (.F, .int (n : Int)), x2, x3'] := by
  refine forD_keep (fun x3 => [x0, some (.F, .int (n : Int)), x2, x3]) (fun d hd x => ?_) x3
  obtain ⟨g, hm, rfl⟩ := List.mem_map.mp hd
  have h1 : (0 : Int) ≤ (g : Int) := by omega
  have h2 := hg g hm
  have h3 : (g : Int) < ((24 * n ^ 3 : Nat) : Int) := by omega
  have hc := count_ok k n (by omega)
  revert hc h3
  generalize ((24 * n ^ 3 : Nat) : Int) = c
  intro hc h3
  exact ⟨some (.F, .int (g : Int)), by simp [b9_l0, p3, hc, h1, h3]⟩
theorem init_ok (k n : Nat) (h2 : 2 ≤ n) (h6 : n ≤ 6) (gs : List Nat) (hg : ∀ g ∈ gs, g < 24 * n ^ 3) (hb : 24 * n ^ 3 ≤ 1000000) (t : T) (ht : t = .F ∨ t = .L .F) :
    runF (k + 2) 9 [(.R [], .obj 0 []), (.F, .int (n : Int)), (t, .lst (gsD gs))] = .ok (.F, .non) [(RS, solD n (maskF 0 gs)), (.F, .int (n : Int)), (.F, .lst (gsD gs))] := by
  rw [r9, runB]
  have hs := size_ok k n h2 h6
  have hm := mask_ok k gs (fun g h => by have := hg g h; omega) .F (.inl rfl)
  rcases ht with rfl | rfl
  · obtain ⟨x3, e⟩ := init_l k n h6 (prOf [(.R [], .obj 0 []), (.F, .int (n : Int)), (.F, .lst (gsD gs))]) rfl (some (.R [], .obj 0 [])) (some (.F, .lst (gsD gs))) gs hg none
    simp [b9] at e ⊢
    simp [hs, e, hm, putTs, putD, solD]
  · obtain ⟨x3, e⟩ := init_l k n h6 (prOf [(.R [], .obj 0 []), (.F, .int (n : Int)), (.L .F, .lst (gsD gs))]) rfl (some (.R [], .obj 0 [])) (some (.F, .lst (gsD gs))) gs hg none
    simp [b9] at e ⊢
    simp [hs, e, hm, putTs, putD, solD]
end LK12
namespace LK12
open PF Rm
abbrev ST (t : T) : Prop := t = .F ∨ t = RS
theorem grains_ok (k n M f : Nat) (hM : M < 2 ^ f) (hf : f < 100000) (t : T) (ht : ST t) : runF (k + 2) 10 [(t, solD n M)] = .ok (.L .F, .lst (gsD (bitsL f M))) [(t, solD n M)] := by
  rw [r10, runB]
  have hb := bits_ok k M f hM hf
  revert hb
  generalize gsD (bitsL f M) = ds
  intro hb
  rcases ht with rfl | rfl <;> simp [b10, solD, hb, List.lookup, fldTs]
theorem lrng_ok {f : PF.Env → PF.R TD} {ρ ρ1 : PF.Env} {t : T} {j : Nat} (h : f ρ = .ok (t, .int (j : Int)) ρ1) (hj : j ≤ 16777216) : fLRng (fOne f) ρ = .ok (.L .F, .lst (gsD (List.range j))) ρ1 := by
  have h1 : fOne f ρ = .ok [(t, .int (j : Int))] ρ1 := by
    show PF.R.bind _ _ = _
    rw [h]
    rfl
  unfold fLRng
  rw [h1, bind_ok]
  show (if decide (0 ≤ (j : Int)) && decide ((j : Int).toNat ≤ 16777216) then _ else _) = _
  have e : (j : Int).toNat = j := by omega
  rw [e, if_pos (by simp [hj]), rngD_nat]
/-- has the grain of the number g the kind's body? -/
def plG (n κ a : Nat) (fl : List Int) (g : Nat) : Bool := match (mids n)[g]? with
  | some p => plB κ p a fl
  | none => false
def plL (n κ a : Nat) (fl : List Int) : List Nat := (List.range (LM n)).filter (plG n κ a fl)
theorem pl_bits (n κ a : Nat) (fl : List Int) : bitsL (LM n) (maskF 0 (plL n κ a fl)) = plL n κ a fl := by
  show (List.range (LM n)).filter _ = _
  unfold plL
  apply List.filter_congr
  intro i hi
  rw [maskF_bit]
  simp [List.mem_range.mp hi]
theorem sk_in (κ : Nat) : cNotIn (D.str (kd κ)) kSKETCH_KINDS = some true := by
  match κ with
  | 0 => decide +kernel
  | 1 => decide +kernel
  | 2 => decide +kernel
  | 3 => decide +kernel
  | n + 4 => 
    show cNotIn (D.str (kd 4)) kSKETCH_KINDS = some true
    decide +kernel
theorem pl_lc (k n κ : Nat) (hn : n ≤ 10) (R : RoomOk n) (hL : LM n ≤ 100000) (hκ : κ < 5) (a : Nat) (ha : a < 3) (fl : List Int) (hl : fl.length = lenK κ) (hb : badK κ fl = none) (t : T) (ht : t = .F ∨ t = .L .F) :
    fLc [8] (iSeq (fV 6)) (gN (fun _ => false) 8) (tTru (fCall 4 (runF (k + 5) 20) (gNm 1 (gVal (fCall 2 (runF (k + 5) 3) (gNm 0 (gNm 8 (gNil)))) (gNm 5 (gNm 2 (gNil))))))) (fV 8) [some (.F, .int (n : Int)), some (.F, .str (kd κ)), some (t, .lst (isD fl)), some (.F, .non), some (.F, .non), some (.F, .int (a : Int)), some (.L .F, .lst (gsD (List.range (LM n)))), none, none] =
      .ok (.L .F, .lst (gsD (plL n κ a fl))) [some (.F, .int (n : Int)), some (.F, .str (kd κ)), some (t, .lst (isD fl)), some (.F, .non), some (.F, .non), some (.F, .int (a : Int)), some (.F, .lst (gsD (List.range (LM n)))), none, none] := by
  have it : iSeq (fV 6) [some (.F, .int (n : Int)), some (.F, .str (kd κ)), some (t, .lst (isD fl)), some (.F, .non), some (.F, .non), some (.F, .int (a : Int)), some (.L .F, .lst (gsD (List.range (LM n)))), none, none] = .ok (gsD (List.range (LM n))) [some (.F, .int (n : Int)), some (.F, .str (kd κ)), some (t, .lst (isD fl)), some (.F, .non), some (.F, .non), some (.F, .int (a : Int)), some (.F, .lst (gsD (List.range (LM n)))), none, none] := by
    generalize gsD (List.range (LM n)) = G
    simp
  have gl : (gsD (List.range (LM n))).length = LM n := by unfold gsD; rw [List.length_map, List.length_range]
  have one : ∀ d ∈ gsD (List.range (LM n)), lc1 [8] (gN (fun _ => false) 8) (tTru (fCall 4 (runF (k + 5) 20) (gNm 1 (gVal (fCall 2 (runF (k + 5) 3) (gNm 0 (gNm 8 (gNil)))) (gNm 5 (gNm 2 (gNil))))))) (fV 8) d [some (.F, .int (n : Int)), some (.F, .str (kd κ)), some (t, .lst (isD fl)), some (.F, .non), some (.F, .non), some (.F, .int (a : Int)), some (.F, .lst (gsD (List.range (LM n)))), none, none] =
      some (if (match d with | .int i => plG n κ a fl i.toNat | _ => false) then some (.F, d) else none, [some (.F, .int (n : Int)), some (.F, .str (kd κ)), some (t, .lst (isD fl)), some (.F, .non), some (.F, .non), some (.F, .int (a : Int)), some (.F, .lst (gsD (List.range (LM n)))), none, none]) := by
    intro d hd
    obtain ⟨g, hg, rfl⟩ := List.mem_map.mp hd
    have hg := List.mem_range.mp hg
    obtain ⟨p, hp⟩ : ∃ p, (mids n)[g]? = some p := ⟨_, List.getElem?_eq_getElem (show g < (mids n).length from hg)⟩
    have hm := midof_ok (k + 2) n hn R g p hp
    have h := plain_ok k κ hκ p a ha fl hl hb t ht
    have eg : plG n κ a fl g = plB κ p a fl := by unfold plG; rw [hp]
    simp only [Int.toNat_natCast, eg]
    have b0 : isBox (pD p) = false := rfl
    generalize gsD (List.range (LM n)) = G
    generalize plB κ p a fl = q at h ⊢
    generalize isD fl = L at h ⊢
    generalize pD p = PD at h hm b0 ⊢
    generalize kd κ = KD at h ⊢
    unfold lc1
    rcases ht with rfl | rfl <;> cases q <;> simp [hide, hm, h, b0]
  have lc := lc_gen (vs := [8]) (g := gN (fun _ => false) 8) (t := tTru (fCall 4 (runF (k + 5) 20) (gNm 1 (gVal (fCall 2 (runF (k + 5) 3) (gNm 0 (gNm 8 (gNil)))) (gNm 5 (gNm 2 (gNil))))))) (fe := fV 8) (ρ := [some (.F, .int (n : Int)), some (.F, .str (kd κ)), some (t, .lst (isD fl)), some (.F, .non), some (.F, .non), some (.F, .int (a : Int)), some (.F, .lst (gsD (List.range (LM n)))), none, none]) (fun d => match d with | .int i => plG n κ a fl i.toNat | _ => false) id (gsD (List.range (LM n))) [] (by rw [SZ_eq, gl]; simp; omega) one
  unfold fLc
  rw [it, bind_ok]
  have hh : hide [some (T.F, D.int (n : Int)), some (.F, .str (kd κ)), some (t, .lst (isD fl)), some (.F, .non), some (.F, .non), some (.F, .int (a : Int)), some (.F, .lst (gsD (List.range (LM n)))), none, none] [8] = [some (T.F, D.int (n : Int)), some (.F, .str (kd κ)), some (t, .lst (isD fl)), some (.F, .non), some (.F, .non), some (.F, .int (a : Int)), some (.F, .lst (gsD (List.range (LM n)))), none, none] := rfl
  rw [hh, lc]
  have ef : (gsD (List.range (LM n))).filter (fun d => match d with | .int i => plG n κ a fl i.toNat | _ => false) = gsD (plL n κ a fl) := by
    unfold gsD plL
    rw [List.filter_map]
    congr 1
  rw [List.nil_append, List.map_id, ef]
  rfl
/-- how the body's making ends -/
def boR (n κ a : Nat) (fl : List Int) (ys : List TD) : RF := match badK κ fl with
  | none => .ok (RS, solD n (maskF 0 (plL n κ a fl))) ys
  | some i => .exc 1 [(2, .int i)] ys
theorem body_ok (k n κ : Nat) (h2 : 2 ≤ n) (h6 : n ≤ 6) (R : RoomOk n) (hL : LM n = 24 * n ^ 3) (hκ : κ < 5) (a : Nat) (ha : a < 3) (fl : List Int) (hl : fl.length = lenK κ) (t : T) (ht : t = .F ∨ t = .L .F) :
    runF (k + 6) 21 [(.F, .int (n : Int)), (.F, .str (kd κ)), (t, .lst (isD fl)), (.F, .non), (.F, .non), (.F, .int (a : Int))] = boR n κ a fl [(.F, .int (n : Int)), (.F, .str (kd κ)), (t, .lst (isD fl)), (.F, .non), (.F, .non), (.F, .int (a : Int))] := by
  rw [r21, runB]
  have h3 : 24 * n ^ 3 ≤ 24 * 6 ^ 3 := Nat.mul_le_mul_left _ (Nat.pow_le_pow_left h6 3)
  have hc := check_f (k + 4) κ hκ fl hl t ht
  unfold boR
  cases e : badK κ fl with
  | some i =>
    rw [e] at hc
    unfold chR at hc
    generalize isD fl = L at hc ⊢
    generalize kd κ = KD at hc ⊢
    rcases ht with rfl | rfl <;> simp [b21, hc]
  | none =>
    rw [e] at hc
    unfold chR at hc
    have lc := pl_lc k n κ (by omega) R (by omega) hκ a ha fl hl e t ht
    have hn := count_ok (k + 4) n (by omega)
    rw [← hL] at hn
    have hr : ∀ ρ, fLRng (fOne (fCall 1 (runF (k + 5) 1) (gNm 0 gNil))) (some (.F, .int (n : Int)) :: ρ) = .ok (.L .F, .lst (gsD (List.range (LM n)))) (some (.F, .int (n : Int)) :: ρ) := fun ρ => lrng_ok (t := .F) (by simp [hn]) (by omega)
    have hi := init_ok (k + 3) n h2 h6 (plL n κ a fl) (fun g hg => by
      rw [← hL]
      exact List.mem_range.mp (List.mem_filter.mp hg).1) (by omega) (.L .F) (.inr rfl)
    have sk := sk_in κ
    generalize maskF 0 (plL n κ a fl) = M at hi ⊢
    generalize gsD (plL n κ a fl) = G at hi lc
    generalize gsD (List.range (LM n)) = G2 at hr lc
    generalize isD fl = L at hc lc ⊢
    generalize kd κ = KD at hc lc sk ⊢
    simp [solD] at hi
    rcases ht with rfl | rfl <;> simp [b21, hc, hr, sk, lc, hi, mkR, solD]
end LK12
namespace LK12
open PF Rm
theorem lo_ok (k a : Nat) (ha : a < 3) : runF (k + 1) 24 [(.F, .int (a : Int))] = .ok (.F, .lst [.int (uA a : Int), .int (vA a : Int)]) [(.F, .int (a : Int))] := by
  rw [r24, runB, prF0 rfl]
  rcases ax_cases ha with rfl | rfl | rfl <;> simp [b24, uA, vA]
theorem lw_ok (k : Nat) (x i j : Int) : runF (k + 1) 25 [(.F, .int x), (.F, .int i), (.F, .int j)] = .ok (.F, .bl (btw x i j)) [(.F, .int x), (.F, .int i), (.F, .int j)] := by
  rw [r25, runB, prF0 rfl]
  unfold btw
  by_cases h : 8 * (if j < i then j else i) ≤ x
  · simp [b25, m8_, h]
  · simp [b25, m8_, h]
theorem lr_ok (k : Nat) (x y r : Int) : runF (k + 1) 26 [(.F, .int x), (.F, .int y), (.F, .int r)] = .ok (.F, .bl (discB r x y)) [(.F, .int x), (.F, .int y), (.F, .int r)] := by
  rw [r26, runB, prF0 rfl]
  unfold discB
  have e1 : ∀ z : Int, (if z < 0 then -z else z) = absI z := fun _ => rfl
  have hm : ((if absI x < absI y then absI y else absI x) ≤ 8 * r) ↔ (absI x ≤ 8 * r ∧ absI y ≤ 8 * r) := by split <;> omega
  by_cases h1 : absI x ≤ 8 * r
  · by_cases h2 : absI y ≤ 8 * r
    · simp [b26, e1, hm, m8_, m181_, d128_, h1, h2]
    · simp [b26, e1, hm, m8_, m181_, d128_, h1, h2]
  · simp [b26, e1, hm, m8_, m181_, d128_, h1]
abbrev hsE (KD : PySem.Str) (PL : List D) (A : Int) (t : T) (L : List D) (U V : Int) (x6 : Option TD) : PF.Env := [some (.F, .str KD), some (.F, .tup PL), some (.F, .int A), some (t, .lst L), some (.F, .int U), some (.F, .int V), x6, none, none, none, none, none, none]
theorem hs_step (cf : Nat → List TD → RF) (pr : Nat → Bool) (hpr : ∀ i, 4 ≤ i → pr i = false) (KD : PySem.Str) (PL : List D) (A : Int) (t : T) (ht : t = .F ∨ t = .L .F) (L : List D) (U V i x a b : Int) (x6 : Option TD)
    (hp : L2.atI PL i = some (.int x)) (ha : L2.atI L i = some (.int a)) (hb : L2.atI L (3 + i) = some (.int b)) :
    stepD (gN pr 6) (b27_l0 cf pr) (.int i) (hsE KD PL A t L U V x6) = if decide (8 * a ≤ x) && decide (x ≤ 8 * b) then .ok .nx (hsE KD PL A t L U V (some (.F, .int i))) else .ok (.rt (.F, .bl false)) (hsE KD PL A t L U V (some (.F, .int i))) := by
  have p6 := hpr 6 (by omega)
  unfold hsE
  by_cases h1 : 8 * a ≤ x
  · by_cases h2 : x ≤ 8 * b
    · rcases ht with rfl | rfl <;> simp [b27_l0, p6, hp, ha, hb, m8_, h1, h2]
    · rcases ht with rfl | rfl <;> simp [b27_l0, p6, hp, ha, hb, m8_, h1, h2]
  · rcases ht with rfl | rfl <;> simp [b27_l0, p6, hp, ha, hb, m8_, h1]
theorem hs_loop {st : D → PF.Env → PF.R Fl} {E : Option TD → PF.Env} {c0 c1 c2 : Bool} (s0 : ∀ x, st (.int 0) (E x) = if c0 then .ok .nx (E (some (.F, .int 0))) else .ok (.rt (.F, .bl false)) (E (some (.F, .int 0))))
    (s1 : ∀ x, st (.int 1) (E x) = if c1 then .ok .nx (E (some (.F, .int 1))) else .ok (.rt (.F, .bl false)) (E (some (.F, .int 1)))) (s2 : ∀ x, st (.int 2) (E x) = if c2 then .ok .nx (E (some (.F, .int 2))) else .ok (.rt (.F, .bl false)) (E (some (.F, .int 2)))) (x : Option TD) :
    forD st [.int 0, .int 1, .int 2] (E x) = if c0 && (c1 && c2) then .ok .nx (E (some (.F, .int 2))) else .ok (.rt (.F, .bl false)) (E (some (.F, .int (if c0 then (if c1 then 2 else 1) else 0)))) := by
  cases c0 <;> cases c1 <;> cases c2 <;> simp [forD, s0, s1, s2]
theorem hs_block (cf : Nat → List TD → RF) (pr : Nat → Bool) (hpr : ∀ i, 4 ≤ i → pr i = false) (KD : PySem.Str) (p : P3) (A : Int) (t : T) (ht : t = .F ∨ t = .L .F) (a0 a1 a2 b0 b1 b2 : Int) (rest : List Int) (U V : Int) :
    ∃ y, forD (stepD (gN pr 6) (b27_l0 cf pr)) [.int 0, .int 1, .int 2] (hsE KD [.int p.1, .int p.2.1, .int p.2.2] A t (isD (a0 :: a1 :: a2 :: b0 :: b1 :: b2 :: rest)) U V none) =
      .ok (if inBl p a0 a1 a2 b0 b1 b2 then .nx else .rt (.F, .bl false)) (hsE KD [.int p.1, .int p.2.1, .int p.2.2] A t (isD (a0 :: a1 :: a2 :: b0 :: b1 :: b2 :: rest)) U V y) := by
  obtain ⟨u0, u3⟩ := fl_at a0 a1 a2 b0 b1 b2 rest 0 (by omega)
  obtain ⟨v0, v3⟩ := fl_at a0 a1 a2 b0 b1 b2 rest 1 (by omega)
  obtain ⟨w0, w3⟩ := fl_at a0 a1 a2 b0 b1 b2 rest 2 (by omega)
  have q0 := pD_at p 0 (by omega)
  have q1 := pD_at p 1 (by omega)
  have q2 := pD_at p 2 (by omega)
  have l := hs_loop (E := hsE KD [.int p.1, .int p.2.1, .int p.2.2] A t (isD (a0 :: a1 :: a2 :: b0 :: b1 :: b2 :: rest)) U V) (fun x => hs_step cf pr hpr KD _ A t ht _ U V 0 _ _ _ x q0 u0 u3) (fun x => hs_step cf pr hpr KD _ A t ht _ U V 1 _ _ _ x q1 v0 v3) (fun x => hs_step cf pr hpr KD _ A t ht _ U V 2 _ _ _ x q2 w0 w3) none
  have e : inBl p a0 a1 a2 b0 b1 b2 = ((decide (8 * sel3 a0 a1 a2 0 ≤ cd p 0) && decide (cd p 0 ≤ 8 * sel3 b0 b1 b2 0)) && ((decide (8 * sel3 a0 a1 a2 1 ≤ cd p 1) && decide (cd p 1 ≤ 8 * sel3 b0 b1 b2 1)) && (decide (8 * sel3 a0 a1 a2 2 ≤ cd p 2) && decide (cd p 2 ≤ 8 * sel3 b0 b1 b2 2)))) := rfl
  rw [e, l]
  split <;> exact ⟨_, by first | rfl | simp_all⟩
theorem win (w : Nat) (hw : w < 12) : cIn (.int (w : Int)) (.lst [.int 1, .int 3, .int 5, .int 7, .int 9, .int 11]) = some (decide (w % 2 = 1)) ∧ cIn (.int (w : Int)) (.lst [.int 2, .int 3, .int 6, .int 7, .int 10, .int 11]) = some (decide (w / 2 % 2 = 1)) := by
  have : w = 0 ∨ w = 1 ∨ w = 2 ∨ w = 3 ∨ w = 4 ∨ w = 5 ∨ w = 6 ∨ w = 7 ∨ w = 8 ∨ w = 9 ∨ w = 10 ∨ w = 11 := by omega
  rcases this with rfl | rfl | rfl | rfl | rfl | rfl | rfl | rfl | rfl | rfl | rfl | rfl <;> constructor <;> simp
end LK12
namespace LK12
open PF Rm
theorem lr3 (x : Option TD) (ρ : PF.Env) : iRng1' (fCons (fC (.int 3)) (fNil)) (x :: ρ) = .ok [.int 0, .int 1, .int 2] (x :: ρ) := rfl
theorem has_block (k : Nat) (p : P3) (a : Nat) (ha : a < 3) (a0 a1 a2 b0 b1 b2 : Int) (t : T) (ht : t = .F ∨ t = .L .F) :
    runF (k + 2) 27 [(.F, .str (kd 0)), (.F, pD p), (.F, .int (a : Int)), (t, .lst (isD [a0, a1, a2, b0, b1, b2]))] = .ok (.F, .bl (inBl p a0 a1 a2 b0 b1 b2)) [(.F, .str (kd 0)), (.F, pD p), (.F, .int (a : Int)), (t, .lst (isD [a0, a1, a2, b0, b1, b2]))] := by
  rw [r27, runB]
  have ho := lo_ok k a ha
  have l := fun pr hpr => hs_block (runF (k + 1)) pr hpr (kd 0) p (a : Int) t ht a0 a1 a2 b0 b1 b2 [] (uA a : Int) (vA a : Int)
  have k0 := kdb 0
  have dk := dshk 0
  have e0 : pD p = .tup [.int p.1, .int p.2.1, .int p.2.2] := rfl
  rw [e0]
  generalize inBl p a0 a1 a2 b0 b1 b2 = q at l ⊢
  generalize [D.int p.1, .int p.2.1, .int p.2.2] = PL at l ⊢
  generalize ((uA a : Nat) : Int) = U at ho l
  generalize ((vA a : Nat) : Int) = V at ho l
  generalize isD [a0, a1, a2, b0, b1, b2] = L at l ⊢
  generalize (a : Int) = A at ho l ⊢
  generalize kd 0 = KD at l k0 dk ⊢
  simp only [iff_true] at k0
  subst k0
  unfold hsE at l
  rcases ht with rfl | rfl
  · obtain ⟨y, l⟩ := l (prOf [(T.F, .str (PySem.Str.ofString "block")), (T.F, .tup PL), (T.F, .int A), (T.F, .lst L)]) (fun i h => by match i, h with | i + 4, _ => rfl)
    cases q <;> simp [b27, ho, -e_iR1, lr3, l]
  · obtain ⟨y, l⟩ := l (prOf [(T.F, .str (PySem.Str.ofString "block")), (T.F, .tup PL), (T.F, .int A), (T.L .F, .lst L)]) (fun i h => by match i, h with | i + 4, _ => rfl)
    cases q <;> simp [b27, ho, -e_iR1, lr3, l]
theorem has_wedge (k : Nat) (p : P3) (a : Nat) (ha : a < 3) (a0 a1 a2 b0 b1 b2 : Int) (w : Nat) (hw : w < 12) (t : T) (ht : t = .F ∨ t = .L .F) :
    runF (k + 2) 27 [(.F, .str (kd 1)), (.F, pD p), (.F, .int (a : Int)), (t, .lst (isD [a0, a1, a2, b0, b1, b2, (w : Int)]))] = .ok (.F, .bl (weB p a0 a1 a2 b0 b1 b2 w)) [(.F, .str (kd 1)), (.F, pD p), (.F, .int (a : Int)), (t, .lst (isD [a0, a1, a2, b0, b1, b2, (w : Int)]))] := by
  rw [r27, runB]
  have hw4 : w / 4 < 3 := by omega
  have ua : uA (w / 4) < 3 := by unfold uA; split <;> omega
  have va : vA (w / 4) < 3 := by unfold vA; split <;> omega
  have ho := lo_ok k a ha
  have ho4 := lo_ok k (w / 4) hw4
  have l := fun pr hpr => hs_block (runF (k + 1)) pr hpr (kd 1) p (a : Int) t ht a0 a1 a2 b0 b1 b2 [(w : Int)] (uA a : Int) (vA a : Int)
  have p1 := pD_at p (uA (w / 4)) ua
  have p2 := pD_at p (vA (w / 4)) va
  obtain ⟨u0, u3⟩ := fl_at a0 a1 a2 b0 b1 b2 [(w : Int)] (uA (w / 4)) ua
  obtain ⟨v0, v3⟩ := fl_at a0 a1 a2 b0 b1 b2 [(w : Int)] (vA (w / 4)) va
  obtain ⟨q4, -, -⟩ := wN ⟨w, hw⟩
  simp only at q4
  obtain ⟨i1, i2⟩ := win w hw
  have h6 : (isD [a0, a1, a2, b0, b1, b2, (w : Int)])[6]? = some (.int (w : Int)) := by simp [isD]
  have k1 := kdw 1
  have k0 := kdb 1
  have dk := dshk 1
  unfold weB
  have e0 : pD p = .tup [.int p.1, .int p.2.1, .int p.2.2] := rfl
  rw [e0]
  generalize ((w / 4 : Nat) : Int) = W4 at q4 ho4
  generalize inBl p a0 a1 a2 b0 b1 b2 = bb at l ⊢
  generalize cd p (uA (w / 4)) = cu at p1 ⊢
  generalize cd p (vA (w / 4)) = cv at p2 ⊢
  generalize sel3 a0 a1 a2 (uA (w / 4)) = au at u0 ⊢
  generalize sel3 a0 a1 a2 (vA (w / 4)) = av at v0 ⊢
  generalize sel3 b0 b1 b2 (uA (w / 4)) = bu at u3 ⊢
  generalize sel3 b0 b1 b2 (vA (w / 4)) = bv at v3 ⊢
  generalize [D.int p.1, .int p.2.1, .int p.2.2] = PL at p1 p2 l ⊢
  generalize ((uA (w / 4) : Nat) : Int) = P at ho4 p1 u0 u3
  generalize ((vA (w / 4) : Nat) : Int) = Q at ho4 p2 v0 v3
  generalize ((uA a : Nat) : Int) = U at ho l
  generalize ((vA a : Nat) : Int) = V at ho l
  generalize isD [a0, a1, a2, b0, b1, b2, (w : Int)] = L at l u0 u3 v0 v3 h6 ⊢
  generalize (a : Int) = A at ho l ⊢
  generalize (w : Int) = W at q4 h6 i1 i2
  generalize kd 1 = KD at l k0 k1 dk ⊢
  simp only [iff_true] at k1
  subst k1
  have kb : (PySem.Str.ofString "wedge" = PySem.Str.ofString "block") = False := by simpa using k0
  unfold hsE at l
  have go : ∀ (c1 c2 : Prop) [Decidable c1] [Decidable c2], cIn (.int W) (.lst [.int 1, .int 3, .int 5, .int 7, .int 9, .int 11]) = some (decide c1) → cIn (.int W) (.lst [.int 2, .int 3, .int 6, .int 7, .int 10, .int 11]) = some (decide c2) →
      runB 13 (b27 (runF (k + 1))) [(.F, .str (PySem.Str.ofString "wedge")), (.F, .tup PL), (.F, .int A), (t, .lst L)] = .ok (.F, .bl (bb && (decide (bu - au = bv - av) && decide ((if c1 then 8 * bu - cu else cu - 8 * au) + (if c2 then 8 * bv - cv else cv - 8 * av) ≤ 8 * (bu - au))))) [(.F, .str (PySem.Str.ofString "wedge")), (.F, .tup PL), (.F, .int A), (t, .lst L)] := by
    intro c1 c2 _ _ i1 i2
    rw [runB]
    rcases ht with rfl | rfl
    · obtain ⟨y, l⟩ := l (prOf [(T.F, .str (PySem.Str.ofString "wedge")), (T.F, .tup PL), (T.F, .int A), (T.F, .lst L)]) (fun i h => by match i, h with | i + 4, _ => rfl)
      cases bb
      · simp [b27, ho, kb, -e_iR1, lr3, l]
      · by_cases h1 : c1 <;> by_cases h2 : c2 <;> by_cases e : bu - au = bv - av <;> simp [b27, ho, kb, -e_iR1, lr3, l, -e_inL, i1, i2, h1, h2, h6, q4, d4_, ho4, p1, p2, u0, u3, v0, v3, m8_, e]
    · obtain ⟨y, l⟩ := l (prOf [(T.F, .str (PySem.Str.ofString "wedge")), (T.F, .tup PL), (T.F, .int A), (T.L .F, .lst L)]) (fun i h => by match i, h with | i + 4, _ => rfl)
      cases bb
      · simp [b27, ho, kb, -e_iR1, lr3, l]
      · by_cases h1 : c1 <;> by_cases h2 : c2 <;> by_cases e : bu - au = bv - av <;> simp [b27, ho, kb, -e_iR1, lr3, l, -e_inL, i1, i2, h1, h2, h6, q4, d4_, ho4, p1, p2, u0, u3, v0, v3, m8_, e]
  exact go _ _ i1 i2
end LK12
namespace LK12
open PF Rm
theorem has_hole (k : Nat) (p : P3) (a : Nat) (ha : a < 3) (u v x y r : Int) (t : T) (ht : t = .F ∨ t = .L .F) :
    runF (k + 2) 27 [(.F, .str (kd 2)), (.F, pD p), (.F, .int (a : Int)), (t, .lst (isD [u, v, x, y, r]))] = .ok (.F, .bl (hoB p a u v x y r)) [(.F, .str (kd 2)), (.F, pD p), (.F, .int (a : Int)), (t, .lst (isD [u, v, x, y, r]))] := by
  rw [r27, runB]
  have ho := lo_ok k a ha
  have hb := lw_ok k (cd p a) x y
  have hd := lr_ok k (cd p (uA a) - 8 * u) (cd p (vA a) - 8 * v) r
  have ua : uA a < 3 := by unfold uA; split <;> omega
  have va : vA a < 3 := by unfold vA; split <;> omega
  have p0 := pD_at p a ha
  have p1 := pD_at p (uA a) ua
  have p2 := pD_at p (vA a) va
  have k0 := kdb 2
  have k1 := kdw 2
  have k3 := kds 2
  have k4 := kdi 2
  have dk := dshk 2
  have f0 : (isD [u, v, x, y, r])[0]? = some (.int u) := by simp [isD]
  have f1 : (isD [u, v, x, y, r])[1]? = some (.int v) := by simp [isD]
  have f2 : (isD [u, v, x, y, r])[2]? = some (.int x) := by simp [isD]
  have f3 : (isD [u, v, x, y, r])[3]? = some (.int y) := by simp [isD]
  have f4 : (isD [u, v, x, y, r])[4]? = some (.int r) := by simp [isD]
  unfold hoB
  have e0 : pD p = .tup [.int p.1, .int p.2.1, .int p.2.2] := rfl
  rw [e0]
  generalize discB r (cd p (uA a) - 8 * u) (cd p (vA a) - 8 * v) = dd at hd ⊢
  generalize btw (cd p a) x y = bb at hb ⊢
  generalize cd p a = c0 at p0 hb
  generalize cd p (uA a) = c1 at p1 hd
  generalize cd p (vA a) = c2 at p2 hd
  generalize [D.int p.1, .int p.2.1, .int p.2.2] = PL at p0 p1 p2 ⊢
  generalize ((uA a : Nat) : Int) = U at ho p1
  generalize ((vA a : Nat) : Int) = V at ho p2
  generalize isD [u, v, x, y, r] = L at f0 f1 f2 f3 f4 ⊢
  generalize kd 2 = KD at k0 k1 k3 k4 dk ⊢
  simp only [show ¬ (2 = 0) by omega, show ¬ (2 = 1) by omega, show ¬ (2 = 3) by omega, show ¬ (4 ≤ 2) by omega, iff_false] at k0 k1 k3 k4
  rcases ht with rfl | rfl <;> cases bb <;> simp [b27, ho, hb, hd, p0, p1, p2, f0, f1, f2, f3, f4, k0, k1, k3, k4, dk, m8_]
theorem has_step (k : Nat) (p : P3) (a : Nat) (ha : a < 3) (u v x y r z s : Int) (t : T) (ht : t = .F ∨ t = .L .F) :
    runF (k + 2) 27 [(.F, .str (kd 3)), (.F, pD p), (.F, .int (a : Int)), (t, .lst (isD [u, v, x, y, r, z, s]))] = .ok (.F, .bl (hoB p a u v x y r || hoB p a u v x z s)) [(.F, .str (kd 3)), (.F, pD p), (.F, .int (a : Int)), (t, .lst (isD [u, v, x, y, r, z, s]))] := by
  rw [r27, runB]
  have ho := lo_ok k a ha
  have hb := lw_ok k (cd p a) x y
  have hb2 := lw_ok k (cd p a) x z
  have hd := lr_ok k (cd p (uA a) - 8 * u) (cd p (vA a) - 8 * v) r
  have hd2 := lr_ok k (cd p (uA a) - 8 * u) (cd p (vA a) - 8 * v) s
  have ua : uA a < 3 := by unfold uA; split <;> omega
  have va : vA a < 3 := by unfold vA; split <;> omega
  have p0 := pD_at p a ha
  have p1 := pD_at p (uA a) ua
  have p2 := pD_at p (vA a) va
  have k0 := kdb 3
  have k1 := kdw 3
  have k3 := kds 3
  have k4 := kdi 3
  have dk := dshk 3
  have f0 : (isD [u, v, x, y, r, z, s])[0]? = some (.int u) := by simp [isD]
  have f1 : (isD [u, v, x, y, r, z, s])[1]? = some (.int v) := by simp [isD]
  have f2 : (isD [u, v, x, y, r, z, s])[2]? = some (.int x) := by simp [isD]
  have f3 : (isD [u, v, x, y, r, z, s])[3]? = some (.int y) := by simp [isD]
  have f4 : (isD [u, v, x, y, r, z, s])[4]? = some (.int r) := by simp [isD]
  have f5 : (isD [u, v, x, y, r, z, s])[5]? = some (.int z) := by simp [isD]
  have f6 : (isD [u, v, x, y, r, z, s])[6]? = some (.int s) := by simp [isD]
  unfold hoB
  have e0 : pD p = .tup [.int p.1, .int p.2.1, .int p.2.2] := rfl
  rw [e0]
  generalize discB r (cd p (uA a) - 8 * u) (cd p (vA a) - 8 * v) = dd at hd ⊢
  generalize discB s (cd p (uA a) - 8 * u) (cd p (vA a) - 8 * v) = d2 at hd2 ⊢
  generalize btw (cd p a) x y = bb at hb ⊢
  generalize btw (cd p a) x z = b2 at hb2 ⊢
  generalize cd p a = c0 at p0 hb hb2
  generalize cd p (uA a) = c1 at p1 hd hd2
  generalize cd p (vA a) = c2 at p2 hd hd2
  generalize [D.int p.1, .int p.2.1, .int p.2.2] = PL at p0 p1 p2 ⊢
  generalize ((uA a : Nat) : Int) = U at ho p1
  generalize ((vA a : Nat) : Int) = V at ho p2
  generalize isD [u, v, x, y, r, z, s] = L at f0 f1 f2 f3 f4 f5 f6 ⊢
  generalize kd 3 = KD at k0 k1 k3 k4 dk ⊢
  simp only [show ¬ (3 = 0) by omega, show ¬ (3 = 1) by omega, show ¬ (4 ≤ 3) by omega, iff_false, iff_true] at k0 k1 k3 k4
  subst k3
  rcases ht with rfl | rfl <;> cases bb <;> cases b2 <;> cases dd <;> simp [b27, ho, hb, hb2, hd, hd2, p0, p1, p2, f0, f1, f2, f3, f4, f5, f6, k0, k1, k4, m8_]
theorem has_sink (k : Nat) (p : P3) (a : Nat) (ha : a < 3) (u v x y r : Int) (t : T) (ht : t = .F ∨ t = .L .F) :
    runF (k + 2) 27 [(.F, .str (kd 4)), (.F, pD p), (.F, .int (a : Int)), (t, .lst (isD [u, v, x, y, r]))] = .ok (.F, .bl (siB p a u v x y r)) [(.F, .str (kd 4)), (.F, pD p), (.F, .int (a : Int)), (t, .lst (isD [u, v, x, y, r]))] := by
  rw [r27, runB]
  have ho := lo_ok k a ha
  have hb := lw_ok k (cd p a) x y
  have ua : uA a < 3 := by unfold uA; split <;> omega
  have va : vA a < 3 := by unfold vA; split <;> omega
  have p0 := pD_at p a ha
  have p1 := pD_at p (uA a) ua
  have p2 := pD_at p (vA a) va
  have k0 := kdb 4
  have k1 := kdw 4
  have k3 := kds 4
  have k4 := kdi 4
  have dk := dshk 4
  have f0 : (isD [u, v, x, y, r])[0]? = some (.int u) := by simp [isD]
  have f1 : (isD [u, v, x, y, r])[1]? = some (.int v) := by simp [isD]
  have f2 : (isD [u, v, x, y, r])[2]? = some (.int x) := by simp [isD]
  have f3 : (isD [u, v, x, y, r])[3]? = some (.int y) := by simp [isD]
  have f4 : (isD [u, v, x, y, r])[4]? = some (.int r) := by simp [isD]
  have e1 : ∀ z : Int, (if z < 0 then -z else z) = absI z := fun _ => rfl
  unfold siB
  have e0 : pD p = .tup [.int p.1, .int p.2.1, .int p.2.2] := rfl
  rw [e0]
  generalize btw (cd p a) x y = bb at hb ⊢
  generalize cd p a = c0 at p0 hb ⊢
  generalize cd p (uA a) = c1 at p1 ⊢
  generalize cd p (vA a) = c2 at p2 ⊢
  generalize [D.int p.1, .int p.2.1, .int p.2.2] = PL at p0 p1 p2 ⊢
  generalize ((uA a : Nat) : Int) = U at ho p1
  generalize ((vA a : Nat) : Int) = V at ho p2
  generalize isD [u, v, x, y, r] = L at f0 f1 f2 f3 f4 ⊢
  generalize kd 4 = KD at k0 k1 k3 k4 dk ⊢
  simp only [show ¬ (4 = 0) by omega, show ¬ (4 = 1) by omega, show ¬ (4 = 3) by omega, Nat.le_refl, iff_false, iff_true] at k0 k1 k3 k4
  subst k4
  have hm : ∀ z : Int, ((if absI (c1 - 8 * u) < absI (c2 - 8 * v) then absI (c2 - 8 * v) else absI (c1 - 8 * u)) ≤ z) ↔ (absI (c1 - 8 * u) ≤ z ∧ absI (c2 - 8 * v) ≤ z) := fun z => by split <;> omega
  rcases ht with rfl | rfl <;> cases bb <;> simp [b27, ho, hb, p0, p1, p2, f0, f1, f2, f3, f4, k0, k1, k3, m8_, e1, hm]
/-- _law_has is plB -/
theorem has_ok (k κ : Nat) (hκ : κ < 5) (p : P3) (a : Nat) (ha : a < 3) (fl : List Int) (hl : fl.length = lenK κ) (hb : badK κ fl = none) (t : T) (ht : t = .F ∨ t = .L .F) :
    runF (k + 2) 27 [(.F, .str (kd κ)), (.F, pD p), (.F, .int (a : Int)), (t, .lst (isD fl))] = .ok (.F, .bl (plB κ p a fl)) [(.F, .str (kd κ)), (.F, pD p), (.F, .int (a : Int)), (t, .lst (isD fl))] := by
  rcases k5_cases hκ with rfl | rfl | rfl | rfl | rfl
  · obtain ⟨a0, a1, a2, c0, c1, c2, rfl⟩ := len6 hl
    exact has_block k p a ha a0 a1 a2 c0 c1 c2 t ht
  · obtain ⟨a0, a1, a2, c0, c1, c2, w, rfl⟩ := len7 hl
    have hw : 0 ≤ w ∧ w ≤ 11 := by
      have eb : badK 1 [a0, a1, a2, c0, c1, c2, w] = if 0 ≤ w ∧ w ≤ 11 then none else some 6 := rfl
      rw [eb] at hb
      by_cases h : 0 ≤ w ∧ w ≤ 11
      · exact h
      · rw [if_neg h] at hb; cases hb
    have ew : ((w.toNat : Nat) : Int) = w := by omega
    have h := has_wedge k p a ha a0 a1 a2 c0 c1 c2 w.toNat (by omega) t ht
    rw [ew] at h
    exact h
  · obtain ⟨u, v, x, y, r, rfl⟩ := len5 hl
    exact has_hole k p a ha u v x y r t ht
  · obtain ⟨u, v, x, y, r, z, s, rfl⟩ := len7 hl
    exact has_step k p a ha u v x y r z s t ht
  · obtain ⟨u, v, x, y, r, rfl⟩ := len5 hl
    exact has_sink k p a ha u v x y r t ht
end LK12
namespace LK12
open PF Rm
def maD (n κ a : Nat) (fl : List Int) : D := match badK κ fl with
  | none => .tup [.str (PySem.Str.ofString "body"), .lst (gsD (plL n κ a fl))]
  | some i => .tup [.str (PySem.Str.ofString "fault"), .int i, .bl true]
theorem made_ok (k n κ : Nat) (h2 : 2 ≤ n) (h6 : n ≤ 6) (R : RoomOk n) (hL : LM n = 24 * n ^ 3) (hκ : κ < 5) (a : Nat) (ha : a < 3) (fl : List Int) (hl : fl.length = lenK κ) (t : T) (ht : t = .F ∨ t = .L .F) :
    runF (k + 7) 28 [(.F, .int (n : Int)), (.F, .str (kd κ)), (t, .lst (isD fl)), (.F, .int (a : Int))] = .ok (.F, maD n κ a fl) [(.F, .int (n : Int)), (.F, .str (kd κ)), (t, .lst (isD fl)), (.F, .int (a : Int))] := by
  rw [r28, runB]
  have h3 : 24 * n ^ 3 ≤ 24 * 6 ^ 3 := Nat.mul_le_mul_left _ (Nat.pow_le_pow_left h6 3)
  have hb := body_ok k n κ h2 h6 R hL hκ a ha fl hl t ht
  unfold boR at hb
  unfold maD
  cases e : badK κ fl with
  | some i =>
    rw [e] at hb
    simp only at hb ⊢
    generalize isD fl = L at hb ⊢
    generalize kd κ = KD at hb ⊢
    rcases ht with rfl | rfl <;> simp [b28, b28_h0, h_FieldFault, i_LoftError, hb, List.lookup]
  | none =>
    rw [e] at hb
    simp only at hb ⊢
    have hM : maskF 0 (plL n κ a fl) < 2 ^ LM n := maskF_lt fun g hg => List.mem_range.mp (List.mem_filter.mp hg).1
    have hg := grains_ok (k + 4) n (maskF 0 (plL n κ a fl)) (LM n) hM (by omega) RS (.inr rfl)
    rw [pl_bits] at hg
    generalize maskF 0 (plL n κ a fl) = M at hb hg
    generalize gsD (plL n κ a fl) = G at hg ⊢
    generalize isD fl = L at hb ⊢
    generalize kd κ = KD at hb ⊢
    simp [solD] at hb hg
    rcases ht with rfl | rfl <;> simp [b28, hb, hg, mkR]
end LK12
namespace LK12
open PF Rm
def CT : List (D × D) := [(.str (PySem.Str.ofString "block"), .int 6), (.str (PySem.Str.ofString "wedge"), .int 7), (.str (PySem.Str.ofString "hole"), .int 5), (.str (PySem.Str.ofString "step"), .int 7), (.str (PySem.Str.ofString "sink"), .int 5), (.str (PySem.Str.ofString "prism"), .int 2), (.str (PySem.Str.ofString "taper"), .int 2), (.str (PySem.Str.ofString "turn"), .int 1), (.str (PySem.Str.ofString "wall"), .int 3)]
theorem ct_key {d : D} (h : d ∈ CT.map (·.1)) : ∃ (s : String) (c : Int), d = .str (PySem.Str.ofString s) ∧ List.lookup (PySem.Str.ofString s) kt_FIELD_COUNTS = some (.dv (.int c)) ∧ dGet CT (.str (PySem.Str.ofString s)) = some (.int c) := by
  have : d = .str (PySem.Str.ofString "block") ∨ d = .str (PySem.Str.ofString "wedge") ∨ d = .str (PySem.Str.ofString "hole") ∨ d = .str (PySem.Str.ofString "step") ∨ d = .str (PySem.Str.ofString "sink") ∨ d = .str (PySem.Str.ofString "prism") ∨ d = .str (PySem.Str.ofString "taper") ∨ d = .str (PySem.Str.ofString "turn") ∨ d = .str (PySem.Str.ofString "wall") := by simpa [CT] using h
  rcases this with rfl | rfl | rfl | rfl | rfl | rfl | rfl | rfl | rfl
  · exact ⟨"block", 6, rfl, rfl, by kernel_rfl⟩
  · exact ⟨"wedge", 7, rfl, rfl, by kernel_rfl⟩
  · exact ⟨"hole", 5, rfl, rfl, by kernel_rfl⟩
  · exact ⟨"step", 7, rfl, rfl, by kernel_rfl⟩
  · exact ⟨"sink", 5, rfl, rfl, by kernel_rfl⟩
  · exact ⟨"prism", 2, rfl, rfl, by kernel_rfl⟩
  · exact ⟨"taper", 2, rfl, rfl, by kernel_rfl⟩
  · exact ⟨"turn", 1, rfl, rfl, by kernel_rfl⟩
  · exact ⟨"wall", 3, rfl, rfl, by kernel_rfl⟩
theorem nm_loop (k : Nat) (x0 x1 x2 x3 : Option TD) : ∃ y, forD (stepD (gN (fun _ => false) 5) (b29_l3 (runF (k + 1)) (fun _ => false))) (CT.map (·.1)) [x0, x1, x2, x3, some (.F, .dct false CT), none, none, none, none, none, none, none, none, none, none, none, none] =
    .ok .nx [x0, x1, x2, x3, some (.F, .dct false CT), y, none, none, none, none, none, none, none, none, none, none, none] := by
  refine forD_keep (fun y => [x0, x1, x2, x3, some (.F, .dct false CT), y, none, none, none, none, none, none, none, none, none, none, none]) (fun d hd x => ?_) none
  obtain ⟨s, c, rfl, h1, h2⟩ := ct_key hd
  have hf := count_f k (PySem.Str.ofString s) c h1
  have hk : okKey false (.str (PySem.Str.ofString s)) = true := by simp [okKey]
  generalize CT = C at h2 ⊢
  generalize PySem.Str.ofString s = S at hf h2 hk ⊢
  exact ⟨some (.F, .str S), by simp [b29_l3, hf, h2, hk]⟩
end LK12
namespace LK12
open PF Rm
theorem lcell_ok (k : Nat) (ns : List Int) (j : Nat) : runF (k + 1) 22 [(.F, .scr ns), (.F, .int (j : Int))] = .ok (.F, .int (ns.getD j 0)) [(.F, .scr ns), (.F, .int (j : Int))] := by
  rw [r22, runB, prF0 rfl]
  by_cases h : j < ns.length
  · have e : ns[j]? = some ns[j] := List.getElem?_eq_getElem h
    have h' : (j : Int) < (ns.length : Int) := by omega
    simp [b22, h', atI_cast, e, List.getD_eq_getElem?_getD]
  · have e : ns[j]? = none := List.getElem?_eq_none (by omega)
    have h' : ¬ (j : Int) < (ns.length : Int) := by omega
    simp [b22, h', e, List.getD_eq_getElem?_getD]
end LK12
namespace LK12
open PF Rm
abbrev mcE (n : Nat) (acc : List P3) (z : Option TD × Option TD × Option TD × Option TD) : PF.Env := [some (.F, .int (n : Int)), some (.L .F, .lst (acc.map pD)), z.1, z.2.1, z.2.2.1, z.2.2.2, none]
theorem mc_rests (n : Nat) (acc : List D) (x y z : Int) (x5 : Option TD) :
    fLc [6] (iSeq (fLst (fCons (fV 4) (fCons (fV 3) (fCons (fV 2) (fNil)))))) (gN (fun _ => false) 6) (tYesF) (fMod (fB1 gInt (bV 6)) (fC (.int 8))) [some (.F, .int (n : Int)), some (.L .F, .lst acc), some (.F, .int z), some (.F, .int y), some (.F, .int x), x5, none] =
      .ok (.L .F, .lst [.int (x % 8), .int (y % 8), .int (z % 8)]) [some (.F, .int (n : Int)), some (.L .F, .lst acc), some (.F, .int z), some (.F, .int y), some (.F, .int x), x5, none] := by
  have f : ∀ a : Int, a.fmod 8 = a % 8 := fmod8
  exact lc3l (v := 6) (e0 := .int x) (e1 := .int y) (e2 := .int z) rfl rfl rfl (by unfold lc1; simp [hide, f]) (by unfold lc1; simp [hide, f]) (by unfold lc1; simp [hide, f])
theorem cIn3 (k a b c : Int) : cIn (.int k) (.lst [.int a, .int b, .int c]) = some (inR3 k a b c) := by
  have h : ∀ u v : Int, decide (u = v) = decide (v = u) := fun u v => decide_eq_decide.mpr eq_comm
  unfold inR3
  simp
  rw [h a k, h b k, h c k]
theorem mc_x (cf : Nat → List TD → RF) (pr : Nat → Bool) (p1 : pr 1 = false) (p4 : pr 4 = false) (p5 : pr 5 = false) (n : Nat) (z y : Int) : ∀ (xs : List Int) (acc : List P3) (x4 x5 : Option TD), acc.length + xs.length ≤ 100000 →
    ∃ y4 y5, forD (stepD (gN pr 4) (b23_l0 cf pr)) (isD xs) (mcE n acc (some (.F, .int z), some (.F, .int y), x4, x5)) = .ok .nx (mcE n (acc ++ (xs.filter fun x => tstB x y z).map fun x => (x, y, z)) (some (.F, .int z), some (.F, .int y), y4, y5))
  | [], acc, x4, x5, _ => ⟨x4, x5, by simp [forD]⟩
  | x :: xs, acc, x4, x5, h => by
    rw [List.length_cons] at h
    obtain ⟨y4, y5, e⟩ := mc_x cf pr p1 p4 p5 n z y xs (acc ++ if tstB x y z then [(x, y, z)] else []) (some (.F, .int x)) (some (.L .F, .lst [.int (x % 8), .int (y % 8), .int (z % 8)])) (by rw [List.length_append]; split <;> simp <;> omega)
    refine ⟨y4, y5, ?_⟩
    have st : stepD (gN pr 4) (b23_l0 cf pr) (.int x) (mcE n acc (some (.F, .int z), some (.F, .int y), x4, x5)) = .ok .nx (mcE n (acc ++ if tstB x y z then [(x, y, z)] else []) (some (.F, .int z), some (.F, .int y), some (.F, .int x), some (.L .F, .lst [.int (x % 8), .int (y % 8), .int (z % 8)]))) := by
      have r := mc_rests n (acc.map pD) x y z x5
      have c4 := cIn3 4 (x % 8) (y % 8) (z % 8)
      have c2 := cIn3 2 (x % 8) (y % 8) (z % 8)
      have c6 := cIn3 6 (x % 8) (y % 8) (z % 8)
      have c1 := cIn3 1 (x % 8) (y % 8) (z % 8)
      have c7 := cIn3 7 (x % 8) (y % 8) (z % 8)
      have hz : (acc.map pD).length < SZ := by rw [SZ_eq, List.length_map]; omega
      have ep : (acc ++ [(x, y, z)]).map pD = acc.map pD ++ [.tup [.int x, .int y, .int z]] := by rw [List.map_append]; rfl
      unfold mcE tstB
      dsimp only
      generalize inR3 4 (x % 8) (y % 8) (z % 8) = i4 at c4 ⊢
      generalize inR3 2 (x % 8) (y % 8) (z % 8) = i2 at c2 ⊢
      generalize inR3 6 (x % 8) (y % 8) (z % 8) = i6 at c6 ⊢
      generalize inR3 1 (x % 8) (y % 8) (z % 8) = i1 at c1 ⊢
      generalize inR3 7 (x % 8) (y % 8) (z % 8) = i7 at c7 ⊢
      cases hb : (i4 && ((i2 || i6) && (i1 || i7)))
      · simp only [Bool.false_eq_true, if_false, List.append_nil]
        generalize acc.map pD = AD at r hz ⊢
        revert hb
        cases i4 <;> cases i2 <;> cases i6 <;> cases i1 <;> cases i7 <;> intro hb <;> first | (cases hb; done) | simp [b23_l0, p1, p4, p5, r, -e_inL, c4, c2, c6, c1, c7]
      · simp only [if_true, ep]
        generalize acc.map pD = AD at r hz ⊢
        revert hb
        cases i4 <;> cases i2 <;> cases i6 <;> cases i1 <;> cases i7 <;> intro hb <;> first | (cases hb; done) | simp [b23_l0, p1, p4, p5, r, -e_inL, c4, c2, c6, c1, c7, hz]
    refine forD_1 (d := .int x) (r := isD xs) st ?_
    rw [e]
    congr 2
    rw [List.filter_cons]
    cases tstB x y z <;> simp
theorem cub_len (n : Nat) (z y : Int) : (cubR n z y).length ≤ 8 * n := by
  unfold cubR
  rw [List.length_map]
  exact Nat.le_trans (List.length_filter_le _ _) (by rw [rng_len]; omega)
theorem flat_lenC {α : Type} (f : α → List P3) (m : Nat) (h : ∀ a, (f a).length ≤ m) : ∀ l : List α, (l.flatMap f).length ≤ m * l.length
  | [] => by simp
  | a :: l => by
    have := flat_lenC f m h l
    have := h a
    rw [List.flatMap_cons, List.length_append, List.length_cons, Nat.mul_succ]
    omega
theorem rg8 (n : Nat) (hn : n ≤ 10) (x : Option TD) (r : PF.Env) : iRng1' (fCons (fTimes (fC (.int 8)) (bV 0)) (fNil)) (some (.F, .int (n : Int)) :: r) = .ok (isD (rng n)) (some (.F, .int (n : Int)) :: r) := by
  have := iR1_ok (l := fCons (fTimes (fC (.int 8)) (bV 0)) (fNil)) (ρ := some (T.F, D.int (n : Int)) :: r) (ρ1 := some (T.F, D.int (n : Int)) :: r) (j := 8 * (n : Int)) (t := .F) (by simp [mul8]) (small8 (by omega))
  rw [this, toNat8, rng_D]
theorem mc_y (cf : Nat → List TD → RF) (pr : Nat → Bool) (p1 : pr 1 = false) (p3 : pr 3 = false) (p4 : pr 4 = false) (p5 : pr 5 = false) (n : Nat) (hn : n ≤ 10) (z : Int) : ∀ (ys : List Int) (acc : List P3) (x3 x4 x5 : Option TD), acc.length + 8 * n * ys.length ≤ 100000 →
    ∃ y3 y4 y5, forD (stepD (gN pr 3) (b23_l1 cf pr)) (isD ys) (mcE n acc (some (.F, .int z), x3, x4, x5)) = .ok .nx (mcE n (acc ++ ys.flatMap fun y => cubR n z y) (some (.F, .int z), y3, y4, y5))
  | [], acc, x3, x4, x5, _ => ⟨x3, x4, x5, by simp [forD]⟩
  | y :: ys, acc, x3, x4, x5, h => by
    rw [List.length_cons, Nat.mul_succ] at h
    have cl := cub_len n z y
    obtain ⟨w4, w5, e1⟩ := mc_x cf pr p1 p4 p5 n z y (rng n) acc x4 x5 (by rw [rng_len]; omega)
    obtain ⟨y3, y4, y5, e2⟩ := mc_y cf pr p1 p3 p4 p5 n hn z ys (acc ++ cubR n z y) (some (.F, .int y)) w4 w5 (by rw [List.length_append]; omega)
    refine ⟨y3, y4, y5, ?_⟩
    have st : stepD (gN pr 3) (b23_l1 cf pr) (.int y) (mcE n acc (some (.F, .int z), x3, x4, x5)) = .ok .nx (mcE n (acc ++ cubR n z y) (some (.F, .int z), some (.F, .int y), w4, w5)) := by
      have r := rg8 n hn none [some (.L .F, .lst (acc.map pD)), some (.F, .int z), some (.F, .int y), x4, x5, none]
      unfold mcE at e1 ⊢
      dsimp only at e1 ⊢
      have e1 : forD (stepD (gN pr 4) (b23_l0 cf pr)) (isD (rng n)) [some (.F, .int (n : Int)), some (.L .F, .lst (acc.map pD)), some (.F, .int z), some (.F, .int y), x4, x5, none] = .ok .nx [some (.F, .int (n : Int)), some (.L .F, .lst ((acc ++ cubR n z y).map pD)), some (.F, .int z), some (.F, .int y), w4, w5, none] := e1
      simp [b23_l1, p3, -e_iR1, r, -List.map_append, e1]
    refine forD_1 (d := .int y) (r := isD ys) st ?_
    rw [e2, List.flatMap_cons, List.append_assoc]
theorem mc_z (cf : Nat → List TD → RF) (pr : Nat → Bool) (p1 : pr 1 = false) (p2 : pr 2 = false) (p3 : pr 3 = false) (p4 : pr 4 = false) (p5 : pr 5 = false) (n : Nat) (hn : n ≤ 10) : ∀ (zs : List Int) (acc : List P3) (x2 x3 x4 x5 : Option TD), acc.length + 8 * n * (8 * n) * zs.length ≤ 100000 →
    ∃ y2 y3 y4 y5, forD (stepD (gN pr 2) (b23_l2 cf pr)) (isD zs) (mcE n acc (x2, x3, x4, x5)) = .ok .nx (mcE n (acc ++ zs.flatMap fun z => (rng n).flatMap fun y => cubR n z y) (y2, y3, y4, y5))
  | [], acc, x2, x3, x4, x5, _ => ⟨x2, x3, x4, x5, by simp [forD]⟩
  | z :: zs, acc, x2, x3, x4, x5, h => by
    rw [List.length_cons, Nat.mul_succ] at h
    have cl := flat_lenC (fun y => cubR n z y) (8 * n) (fun y => cub_len n z y) (rng n)
    rw [rng_len] at cl
    obtain ⟨w3, w4, w5, e1⟩ := mc_y cf pr p1 p3 p4 p5 n hn z (rng n) acc x3 x4 x5 (by rw [rng_len]; omega)
    obtain ⟨y2, y3, y4, y5, e2⟩ := mc_z cf pr p1 p2 p3 p4 p5 n hn zs (acc ++ (rng n).flatMap fun y => cubR n z y) (some (.F, .int z)) w3 w4 w5 (by rw [List.length_append]; omega)
    refine ⟨y2, y3, y4, y5, ?_⟩
    have st : stepD (gN pr 2) (b23_l2 cf pr) (.int z) (mcE n acc (x2, x3, x4, x5)) = .ok .nx (mcE n (acc ++ (rng n).flatMap fun y => cubR n z y) (some (.F, .int z), w3, w4, w5)) := by
      have r := rg8 n hn none [some (.L .F, .lst (acc.map pD)), some (.F, .int z), x3, x4, x5, none]
      unfold mcE at e1 ⊢
      dsimp only at e1 ⊢
      simp [b23_l2, p2, -e_iR1, r, -List.map_append, e1]
    refine forD_1 (d := .int z) (r := isD zs) st ?_
    rw [e2, List.flatMap_cons, List.append_assoc]
theorem lmiddles_ok (k n : Nat) (hn : n ≤ 5) : runF (k + 1) 23 [(.F, .int (n : Int))] = .ok (.L .F, .lst ((mids n).map pD)) [(.F, .int (n : Int))] := by
  rw [r23, runB, prF0 rfl]
  have h8 : 8 * n * (8 * n) * (8 * n) ≤ 40 * 40 * 40 := Nat.mul_le_mul (Nat.mul_le_mul (by omega) (by omega)) (by omega)
  obtain ⟨y2, y3, y4, y5, e⟩ := mc_z (runF k) (fun _ => false) rfl rfl rfl rfl rfl n (by omega) (rng n) [] none none none none (by rw [rng_len]; simp; omega)
  rw [List.nil_append] at e
  have ec : ((rng n).flatMap fun z => (rng n).flatMap fun y => cubR n z y) = mids n := cube_eq n
  rw [ec] at e
  have r := rg8 n (by omega) none [some (.L .F, .lst []), none, none, none, none, none]
  unfold mcE at e
  dsimp only at e
  rw [List.map_nil] at e
  generalize (mids n).map pD = ML at e ⊢
  simp [b23, -e_iR1, r, e]
end LK12
namespace LK12
open PF Rm
theorem lc_any (k : Nat) (ns : List Int) (z : Int) (hz : 0 ≤ z) : ∃ c : Int, runF (k + 1) 22 [(.F, .scr ns), (.F, .int z)] = .ok (.F, .int c) [(.F, .scr ns), (.F, .int z)] := by
  have h := lcell_ok k ns z.toNat
  have e : ((z.toNat : Nat) : Int) = z := by omega
  rw [e] at h
  exact ⟨_, h⟩
theorem tab7 (z : Int) : ∃ v : Int, L2.atI [D.int (-3), .int 0, .int 12, .int 65, .int 64, .int (-200), .int 200] (z.fmod 7) = some (.int v) := by
  have f4 : z.fmod 7 = z % 7 := Int.fmod_eq_emod_of_nonneg _ (by decide)
  rw [f4]
  have : z % 7 = 0 ∨ z % 7 = 1 ∨ z % 7 = 2 ∨ z % 7 = 3 ∨ z % 7 = 4 ∨ z % 7 = 5 ∨ z % 7 = 6 := by omega
  rcases this with h | h | h | h | h | h | h <;> rw [h] <;> exact ⟨_, rfl⟩
abbrev jE (ns : List Int) (F n : Int) (KD : PySem.Str) (C : List (D × D)) (x5 : Option TD) (ML : List D) (x7 x8 x9 x10 x11 x12 x13 x14 x15 x16 : Option TD) : PF.Env :=
  [some (.F, .scr ns), some (.F, .int F), some (.F, .int n), some (.F, .str KD), some (.F, .dct false C), x5, some (.L .F, .lst ML), x7, x8, x9, x10, x11, x12, x13, x14, x15, x16]
theorem fl_step (k : Nat) (ns : List Int) (F n : Int) (hn : n + 3 ≠ 0) (KD : PySem.Str) (C : List (D × D)) (x5 : Option TD) (ML : List D) (j : Int) (hj : j = 0 ∨ j = 1) (i : Nat) (hi : i ≤ 10) (fl : List Int) (hl : fl.length = i) (x9 x10 x11 x12 x13 x14 x15 x16 : Option TD) :
    ∃ (fl' : List Int) (c : Int), fl'.length = i + 1 ∧ stepD (gN (fun _ => false) 9) (b29_l1 (runF (k + 1)) (fun _ => false)) (.int (i : Int)) (jE ns F n KD C x5 ML (some (.F, .int j)) (some (.L .F, .lst (isD fl))) x9 x10 x11 x12 x13 x14 x15 x16) =
      .ok .nx (jE ns F n KD C x5 ML (some (.F, .int j)) (some (.L .F, .lst (isD fl'))) (some (.F, .int (i : Int))) (some (.F, .int c)) x11 x12 x13 x14 x15 x16) := by
  obtain ⟨c0, hc⟩ := lc_any k ns (1 + 10 * j + (i : Int)) (by omega)
  obtain ⟨c, hC⟩ : ∃ c : Int, (if c0 < 0 then -c0 else c0) = c := ⟨_, rfl⟩
  obtain ⟨v, hv⟩ := tab7 (c.fdiv 300)
  have hm : mulOk 10 j = true := by rcases hj with rfl | rfl <;> decide
  have d20 : divOk 20 = true := by decide
  have d300 : divOk 300 = true := by decide
  have e1 : isD (fl ++ [c.fmod (n + 3) - 1]) = isD fl ++ [D.int (c.fmod (n + 3) - 1)] := by simp [isD]
  have e2 : isD ((fl ++ [c.fmod (n + 3) - 1]).set i v) = (isD fl ++ [D.int (c.fmod (n + 3) - 1)]).set i (.int v) := by rw [isD, List.map_set, List.map_append]; rfl
  have hL : (isD fl).length = i := by rw [isD, List.length_map, hl]
  unfold jE
  by_cases h : (c.fdiv 20).fmod 15 = 7
  · refine ⟨(fl ++ [c.fmod (n + 3) - 1]).set i v, c, by rw [List.length_set, List.length_append, hl]; rfl, ?_⟩
    rw [e2]
    generalize isD fl = L at hL ⊢
    have hx : L2.ixN (L.length + 1) (i : Int) = some i := by rw [ixN_cast, if_pos (by omega)]
    have hz : L.length < SZ := by rw [SZ_eq]; omega
    simp [b29_l1, hc, hC, hm, d20, d300, h, hv, hn, hz, hx]
  · refine ⟨fl ++ [c.fmod (n + 3) - 1], c, by rw [List.length_append, hl]; rfl, ?_⟩
    rw [e1]
    generalize isD fl = L at hL ⊢
    have hz : L.length < SZ := by rw [SZ_eq]; omega
    simp [b29_l1, hc, hC, hm, d20, h, hn, hz]
theorem fl_loop (k : Nat) (ns : List Int) (F n : Int) (hn : n + 3 ≠ 0) (KD : PySem.Str) (C : List (D × D)) (x5 : Option TD) (ML : List D) (j : Int) (hj : j = 0 ∨ j = 1) (x11 x12 x13 x14 x15 x16 : Option TD) : ∀ (m i : Nat) (fl : List Int) (x9 x10 : Option TD), fl.length = i → i + m ≤ 10 →
    ∃ (fl' : List Int) (y9 y10 : Option TD), fl'.length = i + m ∧ forD (stepD (gN (fun _ => false) 9) (b29_l1 (runF (k + 1)) (fun _ => false))) ((List.range' i m).map fun q : Nat => D.int (q : Int)) (jE ns F n KD C x5 ML (some (.F, .int j)) (some (.L .F, .lst (isD fl))) x9 x10 x11 x12 x13 x14 x15 x16) =
      .ok .nx (jE ns F n KD C x5 ML (some (.F, .int j)) (some (.L .F, .lst (isD fl'))) y9 y10 x11 x12 x13 x14 x15 x16)
  | 0, i, fl, x9, x10, hl, _ => ⟨fl, x9, x10, hl, rfl⟩
  | m + 1, i, fl, x9, x10, hl, h => by
    obtain ⟨fl1, c, h1, e1⟩ := fl_step k ns F n hn KD C x5 ML j hj i (by omega) fl hl x9 x10 x11 x12 x13 x14 x15 x16
    obtain ⟨fl2, y9, y10, h2, e2⟩ := fl_loop k ns F n hn KD C x5 ML j hj x11 x12 x13 x14 x15 x16 m (i + 1) fl1 (some (.F, .int (i : Int))) (some (.F, .int c)) h1 (by omega)
    refine ⟨fl2, y9, y10, by omega, ?_⟩
    rw [List.range'_succ, List.map_cons]
    exact forD_1 e1 e2
/-- the lesser and the greater ends -/
theorem fl_ends (κ : Nat) (hκ : κ < 2) (fl : List Int) (hl : fl.length = lenK κ) (ns : List Int) (F n : Int) (KD : PySem.Str) (C : List (D × D)) (x5 : Option TD) (ML : List D) (x7 x9 x10 x11 x12 x13 x14 x15 x16 : Option TD) :
    ∃ fl' : List Int, fl'.length = lenK κ ∧ fPlus (fPlus (fLc [9] (iRng1' (fCons (fC (.int 3)) (fNil))) (gN (fun _ => false) 9) (tYesF) (fI2 (fun i j => if j < i then j else i) (fCons (share (bIx (bV 8) (qV 9))) (fCons (share (bIx (bV 8) (fPlus (fC (.int 3)) (bV 9)))) (fNil))))) (fLc [9] (iRng1' (fCons (fC (.int 3)) (fNil))) (gN (fun _ => false) 9) (tYesF) (fI2 (fun i j => if j > i then j else i) (fCons (share (bIx (bV 8) (qV 9))) (fCons (share (bIx (bV 8) (fPlus (fC (.int 3)) (bV 9)))) (fNil)))))) (fSl (bV 8) (oSome (fC (.int 6))) (oNone))
      (jE ns F n KD C x5 ML x7 (some (.L .F, .lst (isD fl))) x9 x10 x11 x12 x13 x14 x15 x16) = .ok (.L .F, .lst (isD fl')) (jE ns F n KD C x5 ML x7 (some (.L .F, .lst (isD fl))) x9 x10 x11 x12 x13 x14 x15 x16) := by
  have gen : ∀ (a0 a1 a2 b0 b1 b2 : Int) (rest : List Int), rest.length ≤ 1 → fl = a0 :: a1 :: a2 :: b0 :: b1 :: b2 :: rest → fPlus (fPlus (fLc [9] (iRng1' (fCons (fC (.int 3)) (fNil))) (gN (fun _ => false) 9) (tYesF) (fI2 (fun i j => if j < i then j else i) (fCons (share (bIx (bV 8) (qV 9))) (fCons (share (bIx (bV 8) (fPlus (fC (.int 3)) (bV 9)))) (fNil))))) (fLc [9] (iRng1' (fCons (fC (.int 3)) (fNil))) (gN (fun _ => false) 9) (tYesF) (fI2 (fun i j => if j > i then j else i) (fCons (share (bIx (bV 8) (qV 9))) (fCons (share (bIx (bV 8) (fPlus (fC (.int 3)) (bV 9)))) (fNil)))))) (fSl (bV 8) (oSome (fC (.int 6))) (oNone))
      (jE ns F n KD C x5 ML x7 (some (.L .F, .lst (isD fl))) x9 x10 x11 x12 x13 x14 x15 x16) = .ok (.L .F, .lst (isD ((if b0 < a0 then b0 else a0) :: (if b1 < a1 then b1 else a1) :: (if b2 < a2 then b2 else a2) :: (if b0 > a0 then b0 else a0) :: (if b1 > a1 then b1 else a1) :: (if b2 > a2 then b2 else a2) :: rest))) (jE ns F n KD C x5 ML x7 (some (.L .F, .lst (isD fl))) x9 x10 x11 x12 x13 x14 x15 x16) := by
    intro a0 a1 a2 b0 b1 b2 rest hr e
    have q0 : (isD fl)[0]? = some (.int a0) := by rw [e]; rfl
    have q1 : (isD fl)[1]? = some (.int a1) := by rw [e]; rfl
    have q2 : (isD fl)[2]? = some (.int a2) := by rw [e]; rfl
    have q3 : (isD fl)[3]? = some (.int b0) := by rw [e]; rfl
    have q4 : (isD fl)[4]? = some (.int b1) := by rw [e]; rfl
    have q5 : (isD fl)[5]? = some (.int b2) := by rw [e]; rfl
    have hc : cutD (isD fl) (some 6) none = isD rest := by
      subst e
      match rest, hr with
      | [], _ => rfl
      | [z], _ => rfl
    have hr2 : (isD rest).length ≤ 1 := by rw [isD, List.length_map]; exact hr
    have er : ∀ (u0 u1 u2 u3 u4 u5 : Int), isD (u0 :: u1 :: u2 :: u3 :: u4 :: u5 :: rest) = ([D.int u0, .int u1, .int u2] ++ [D.int u3, .int u4, .int u5]) ++ isD rest := fun _ _ _ _ _ _ => rfl
    rw [er]
    generalize isD rest = RD at hc hr2 ⊢
    generalize isD fl = L at q0 q1 q2 q3 q4 q5 hc ⊢
    have hd : hide (jE ns F n KD C x5 ML x7 (some (.L .F, .lst L)) x9 x10 x11 x12 x13 x14 x15 x16) [9] = jE ns F n KD C x5 ML x7 (some (.L .F, .lst L)) none x10 x11 x12 x13 x14 x15 x16 := rfl
    have hu : unhide (jE ns F n KD C x5 ML x7 (some (.L .F, .lst L)) x9 x10 x11 x12 x13 x14 x15 x16) (jE ns F n KD C x5 ML x7 (some (.L .F, .lst L)) none x10 x11 x12 x13 x14 x15 x16) [9] = jE ns F n KD C x5 ML x7 (some (.L .F, .lst L)) x9 x10 x11 x12 x13 x14 x15 x16 := rfl
    have m1 := lc3l (v := 9) (g := gN (fun _ => false) 9) (t := tYesF) (fe := fI2 (fun i j => if j < i then j else i) (fCons (share (bIx (bV 8) (qV 9))) (fCons (share (bIx (bV 8) (fPlus (fC (.int 3)) (bV 9)))) (fNil)))) (d0 := .int (if b0 < a0 then b0 else a0)) (d1 := .int (if b1 < a1 then b1 else a1)) (d2 := .int (if b2 < a2 then b2 else a2)) (lr3 _ _) hd hu
      (by unfold lc1; simp [hide, q0, q3]) (by unfold lc1; simp [hide, q1, q4]) (by unfold lc1; simp [hide, q2, q5])
    have m2 := lc3l (v := 9) (g := gN (fun _ => false) 9) (t := tYesF) (fe := fI2 (fun i j => if j > i then j else i) (fCons (share (bIx (bV 8) (qV 9))) (fCons (share (bIx (bV 8) (fPlus (fC (.int 3)) (bV 9)))) (fNil)))) (d0 := .int (if b0 > a0 then b0 else a0)) (d1 := .int (if b1 > a1 then b1 else a1)) (d2 := .int (if b2 > a2 then b2 else a2)) (lr3 _ _) hd hu
      (by unfold lc1; simp [hide, q0, q3]) (by unfold lc1; simp [hide, q1, q4]) (by unfold lc1; simp [hide, q2, q5])
    generalize fLc [9] (iRng1' (fCons (fC (.int 3)) (fNil))) (gN (fun _ => false) 9) (tYesF) (fI2 (fun i j => if j < i then j else i) (fCons (share (bIx (bV 8) (qV 9))) (fCons (share (bIx (bV 8) (fPlus (fC (.int 3)) (bV 9)))) (fNil)))) = f1 at m1 ⊢
    generalize fLc [9] (iRng1' (fCons (fC (.int 3)) (fNil))) (gN (fun _ => false) 9) (tYesF) (fI2 (fun i j => if j > i then j else i) (fCons (share (bIx (bV 8) (qV 9))) (fCons (share (bIx (bV 8) (fPlus (fC (.int 3)) (bV 9)))) (fNil)))) = f2 at m2 ⊢
    have hz : 6 + RD.length ≤ SZ := by rw [SZ_eq]; omega
    simp only [fPlus, e_fOp2, m1, bind_ok, m2, e_fSl, e_bV, e_oSome, e_oNone, e_fC]
    simp [hc, hz]
  match κ, hκ with
  | 0, _ =>
    obtain ⟨a0, a1, a2, b0, b1, b2, e⟩ := len6 hl
    exact ⟨_, rfl, gen a0 a1 a2 b0 b1 b2 [] (by simp) e⟩
  | 1, _ =>
    obtain ⟨a0, a1, a2, b0, b1, b2, z, e⟩ := len7 hl
    exact ⟨_, rfl, gen a0 a1 a2 b0 b1 b2 [z] (by simp) e⟩
end LK12
namespace LK12
open PF Rm
theorem lo_lit (k : Nat) : runF (k + 1) 24 [(.F, .int 0)] = .ok (.F, .lst [.int 1, .int 2]) [(.F, .int 0)] ∧ runF (k + 1) 24 [(.F, .int 1)] = .ok (.F, .lst [.int 0, .int 2]) [(.F, .int 1)] ∧ runF (k + 1) 24 [(.F, .int 2)] = .ok (.F, .lst [.int 0, .int 1]) [(.F, .int 2)] :=
  ⟨lo_ok k 0 (by omega), lo_ok k 1 (by omega), lo_ok k 2 (by omega)⟩
theorem fl_wedge (k : Nat) (fl : List Int) (hl : fl.length = 7) (ns : List Int) (F n : Int) (C : List (D × D)) (x5 : Option TD) (ML : List D) (j : Int) (hj : j = 0 ∨ j = 1) (x9 x10 x11 x12 x13 x14 x15 x16 : Option TD) :
    ∃ (fl' : List Int) (y11 y12 : Option TD), fl'.length = 7 ∧ (sSeq (sSetI (pN 8) (fC (.int 6)) (fSub (fMod (fB1 gAbs (fCall 2 (runF (k + 1) 22) (gNm 0 (gVal (fPlus (fC (.int 8)) (fTimes (fC (.int 10)) (bV 7))) (gNil))))) (fC (.int 14))) (fC (.int 1))))
    (sSeq (PF.sIf (tAndF (asT (fCmp cEq (fMod (fDiv (qV 1) (fC (.int 30))) (fC (.int 2))) (fC (.int 0)))) (asT (fChain cLe cLt (fC (.int 0)) (share (bIx (bV 8) (fC (.int 6)))) (fC (.int 12))))) (sSeq (sTg (gT 2 (gsCons (gN (fun _ => false) 11) (gsCons (gN (fun _ => false) 12) (gsNil)))) (fCall 1 (runF (k + 1) 24) (gVal (fDiv (share (bIx (bV 8) (fC (.int 6)))) (fC (.int 4))) (gNil))))
    (sSeq (sSetI (pN 8) (fPlus (fC (.int 3)) (bV 12)) (fSub (fPlus (bIx (bV 8) (qV 12)) (bIx (bV 8) (fPlus (fC (.int 3)) (bV 11)))) (share (bIx (bV 8) (qV 11)))))
    (sNil))) (sNil))
    (sNil))) (jE ns F n (kd 1) C x5 ML (some (.F, .int j)) (some (.L .F, .lst (isD fl))) x9 x10 x11 x12 x13 x14 x15 x16) =
      .ok .nx (jE ns F n (kd 1) C x5 ML (some (.F, .int j)) (some (.L .F, .lst (isD fl'))) x9 x10 y11 y12 x13 x14 x15 x16) := by
  obtain ⟨a0, a1, a2, b0, b1, b2, z, rfl⟩ := len7 hl
  obtain ⟨c0, hc⟩ := lc_any k ns (8 + 10 * j) (by omega)
  obtain ⟨c, hC⟩ : ∃ c : Int, (if c0 < 0 then -c0 else c0) = c := ⟨_, rfl⟩
  have hm : mulOk 10 j = true := by rcases hj with rfl | rfl <;> decide
  have d30 : divOk 30 = true := by decide
  have d4 : divOk 4 = true := by decide
  obtain ⟨w, hw⟩ : ∃ w : Int, c.fmod 14 - 1 = w := ⟨_, rfl⟩
  obtain ⟨l0, l1, l2⟩ := lo_lit k
  have iL : ∀ u0 u1 u2 u3 u4 u5 u6 : Int, isD [u0, u1, u2, u3, u4, u5, u6] = [D.int u0, .int u1, .int u2, .int u3, .int u4, .int u5, .int u6] := fun _ _ _ _ _ _ _ => rfl
  generalize kd 1 = KD
  by_cases g1 : (F.fdiv 30).fmod 2 = 0
  · by_cases g2 : 0 ≤ w
    · by_cases g3 : w < 12
      · have f4 : w.fdiv 4 = w / 4 := Int.fdiv_eq_ediv_of_nonneg _ (by decide)
        have : w.fdiv 4 = 0 ∨ w.fdiv 4 = 1 ∨ w.fdiv 4 = 2 := by rw [f4]; omega
        rcases this with h | h | h
        · refine ⟨[a0, a1, a2, b0, b1, a2 + b1 - a1, w], some (.F, .int 1), some (.F, .int 2), rfl, ?_⟩
          rw [iL, iL]
          simp [hc, hC, hm, d30, d4, hw, g1, g2, g3, h, l0]
        · refine ⟨[a0, a1, a2, b0, b1, a2 + b0 - a0, w], some (.F, .int 0), some (.F, .int 2), rfl, ?_⟩
          rw [iL, iL]
          simp [hc, hC, hm, d30, d4, hw, g1, g2, g3, h, l1]
        · refine ⟨[a0, a1, a2, b0, a1 + b0 - a0, b2, w], some (.F, .int 0), some (.F, .int 1), rfl, ?_⟩
          rw [iL, iL]
          simp [hc, hC, hm, d30, d4, hw, g1, g2, g3, h, l2]
      · refine ⟨[a0, a1, a2, b0, b1, b2, w], x11, x12, rfl, ?_⟩
        rw [iL, iL]
        simp [hc, hC, hm, d30, hw, g1, g2, g3]
    · refine ⟨[a0, a1, a2, b0, b1, b2, w], x11, x12, rfl, ?_⟩
      rw [iL, iL]
      simp [hc, hC, hm, d30, hw, g1, g2]
  · refine ⟨[a0, a1, a2, b0, b1, b2, w], x11, x12, rfl, ?_⟩
    rw [iL, iL]
    simp [hc, hC, hm, d30, hw, g1]
/-- the table of the bounds -/
def BD : List (D × D) := [(.str (PySem.Str.ofString "wedge"), .lst [.tup [.int 6, .int 0, .int 11]]), (.str (PySem.Str.ofString "hole"), .lst [.tup [.int 4, .int 1, .int 64]]), (.str (PySem.Str.ofString "step"), .lst [.tup [.int 4, .int 1, .int 64], .tup [.int 6, .int 1, .int 64]]), (.str (PySem.Str.ofString "sink"), .lst [.tup [.int 4, .int 1, .int 64]])]
theorem bd_puts : putsD [] [(.str (PySem.Str.ofString "wedge"), .lst [.tup [.int 6, .int 0, .int 11]]), (.str (PySem.Str.ofString "hole"), .lst [.tup [.int 4, .int 1, .int 64]]), (.str (PySem.Str.ofString "step"), .lst [.tup [.int 4, .int 1, .int 64], .tup [.int 6, .int 1, .int 64]]), (.str (PySem.Str.ofString "sink"), .lst [.tup [.int 4, .int 1, .int 64]])] = BD := by kernel_rfl
theorem ct_puts : putsD [] CT = CT := by kernel_rfl
def rowsK : Nat → List D
  | 0 => []
  | 1 => [.tup [.int 6, .int 0, .int 11]]
  | 2 => [.tup [.int 4, .int 1, .int 64]]
  | 3 => [.tup [.int 4, .int 1, .int 64], .tup [.int 6, .int 1, .int 64]]
  | _ => [.tup [.int 4, .int 1, .int 64]]
theorem bd_get (κ : Nat) (hκ : κ < 5) : dGet BD (.str (kd κ)) = if κ = 0 then none else some (.lst (rowsK κ)) := by
  rcases k5_cases hκ with rfl | rfl | rfl | rfl | rfl
  · show dGet BD (.str (PySem.Str.ofString "block")) = none; kernel_rfl
  · show dGet BD (.str (PySem.Str.ofString "wedge")) = some (.lst [.tup [.int 6, .int 0, .int 11]]); kernel_rfl
  · show dGet BD (.str (PySem.Str.ofString "hole")) = some (.lst [.tup [.int 4, .int 1, .int 64]]); kernel_rfl
  · show dGet BD (.str (PySem.Str.ofString "step")) = some (.lst [.tup [.int 4, .int 1, .int 64], .tup [.int 6, .int 1, .int 64]]); kernel_rfl
  · show dGet BD (.str (PySem.Str.ofString "sink")) = some (.lst [.tup [.int 4, .int 1, .int 64]]); kernel_rfl
def duD (κ : Nat) (fl : List Int) : D := match badK κ fl with
  | none => .non
  | some i => .tup [.str (PySem.Str.ofString "fault"), .int i, .bl true]
theorem rows_it (κ : Nat) (hκ : κ < 5) (ns : List Int) (F n : Int) (C : List (D × D)) (x5 : Option TD) (ML : List D) (x7 x8 x9 x10 x11 x12 x13 x14 x16 : Option TD) :
    iSeq (fGetS (bV 15) (qV 3) (fLst (fNil))) (jE ns F n (kd κ) C x5 ML x7 x8 x9 x10 x11 x12 x13 x14 (some (.M .F, .dct false BD)) x16) = .ok (rowsK κ) (jE ns F n (kd κ) C x5 ML x7 x8 x9 x10 x11 x12 x13 x14 (some (.M .F, .dct false BD)) x16) := by
  have hg := bd_get κ hκ
  have hk : okKey false (.str (kd κ)) = true := rfl
  have hd : isDct (.dct false BD) = true := rfl
  generalize BD = B at hg hd ⊢
  by_cases h : κ = 0
  · subst h
    have e : rowsK 0 = [] := rfl
    rw [if_pos rfl] at hg
    rw [e]
    generalize kd 0 = KD at hg hk ⊢
    simp [hk, hd, hg]
  · rw [if_neg h] at hg
    generalize kd κ = KD at hg hk ⊢
    generalize rowsK κ = RK at hg ⊢
    simp [hk, hd, hg]
/-- one row: i, lo, hi -/
theorem row_one (cf : Nat → List TD → RF) (i lo hi f : Int) (L : List D) (hf : L2.atI L i = some (.int f)) (ns : List Int) (F n : Int) (KD : PySem.Str) (C : List (D × D)) (x5 : Option TD) (ML : List D) (x7 x9 x10 x11 x12 x13 x15 x16 : Option TD) (d14 : D) (hd : isBox d14 = false) (b : Bool) (hn : cIsN d14 .non = some b) :
    stepD (gN (fun _ => false) 16) (b29_l0 cf (fun _ => false)) (.tup [.int i, .int lo, .int hi]) (jE ns F n KD C x5 ML x7 (some (.L .F, .lst L)) x9 x10 x11 x12 x13 (some (.F, d14)) x15 x16) =
      .ok .nx (jE ns F n KD C x5 ML x7 (some (.L .F, .lst L)) x9 x10 x11 x12 x13 (some (.F, if b && !decide (lo ≤ f ∧ f ≤ hi) then .tup [.str (PySem.Str.ofString "fault"), .int i, .bl true] else d14)) x15 (some (.F, .tup [.int i, .int lo, .int hi]))) := by
  cases b
  · simp [b29_l0, hn]
  · by_cases h1 : lo ≤ f
    · by_cases h2 : f ≤ hi
      · simp [b29_l0, hn, hf, h1, h2]
      · simp [b29_l0, hn, hf, h1, h2]
    · simp [b29_l0, hn, hf, h1]
theorem due_ok (cf : Nat → List TD → RF) (κ : Nat) (hκ : κ < 5) (fl : List Int) (hl : fl.length = lenK κ) (ns : List Int) (F n : Int) (C : List (D × D)) (x5 : Option TD) (ML : List D) (x7 x9 x10 x11 x12 x13 x16 : Option TD) :
    ∃ y16, PF.sFor (iSeq (fGetS (bV 15) (qV 3) (fLst (fNil)))) (gN (fun _ => false) 16) (b29_l0 cf (fun _ => false)) (jE ns F n (kd κ) C x5 ML x7 (some (.L .F, .lst (isD fl))) x9 x10 x11 x12 x13 (some (.F, .non)) (some (.M .F, .dct false BD)) x16) =
      .ok .nx (jE ns F n (kd κ) C x5 ML x7 (some (.L .F, .lst (isD fl))) x9 x10 x11 x12 x13 (some (.F, duD κ fl)) (some (.M .F, .dct false BD)) y16) := by
  have hit := rows_it κ hκ ns F n C x5 ML x7 (some (.L .F, .lst (isD fl))) x9 x10 x11 x12 x13 (some (.F, .non)) x16
  have e0 : PF.sFor (iSeq (fGetS (bV 15) (qV 3) (fLst (fNil)))) (gN (fun _ => false) 16) (b29_l0 cf (fun _ => false)) (jE ns F n (kd κ) C x5 ML x7 (some (.L .F, .lst (isD fl))) x9 x10 x11 x12 x13 (some (.F, .non)) (some (.M .F, .dct false BD)) x16) = forD (stepD (gN (fun _ => false) 16) (b29_l0 cf (fun _ => false))) (rowsK κ) (jE ns F n (kd κ) C x5 ML x7 (some (.L .F, .lst (isD fl))) x9 x10 x11 x12 x13 (some (.F, .non)) (some (.M .F, .dct false BD)) x16) := by
    rw [e_sFor, hit, bind_ok]
  rw [e0]
  have n0 : cIsN .non .non = some true := rfl
  rcases k5_cases hκ with rfl | rfl | rfl | rfl | rfl
  · have e : duD 0 fl = .non := by unfold duD badK; split <;> simp_all
    rw [e]
    exact ⟨x16, rfl⟩
  · obtain ⟨a0, a1, a2, b0, b1, b2, w, rfl⟩ := len7 hl
    have h := row_one cf 6 0 11 w (isD [a0, a1, a2, b0, b1, b2, w]) rfl ns F n (kd 1) C x5 ML x7 x9 x10 x11 x12 x13 (some (.M .F, .dct false BD)) x16 .non rfl true n0
    have e : duD 1 [a0, a1, a2, b0, b1, b2, w] = if true && !decide (0 ≤ w ∧ w ≤ 11) then .tup [.str (PySem.Str.ofString "fault"), .int 6, .bl true] else .non := by
      have eb : badK 1 [a0, a1, a2, b0, b1, b2, w] = if 0 ≤ w ∧ w ≤ 11 then none else some 6 := rfl
      unfold duD
      rw [eb]
      by_cases h : 0 ≤ w ∧ w ≤ 11 <;> simp [h]
    rw [e]
    exact ⟨_, forD_1 h rfl⟩
  · obtain ⟨u, v, x, y, r, rfl⟩ := len5 hl
    have h := row_one cf 4 1 64 r (isD [u, v, x, y, r]) rfl ns F n (kd 2) C x5 ML x7 x9 x10 x11 x12 x13 (some (.M .F, .dct false BD)) x16 .non rfl true n0
    have e : duD 2 [u, v, x, y, r] = if true && !decide (1 ≤ r ∧ r ≤ 64) then .tup [.str (PySem.Str.ofString "fault"), .int 4, .bl true] else .non := by
      have eb : badK 2 [u, v, x, y, r] = if 1 ≤ r ∧ r ≤ 64 then none else some 4 := rfl
      unfold duD
      rw [eb]
      by_cases h : 1 ≤ r ∧ r ≤ 64 <;> simp [h]
    rw [e]
    exact ⟨_, forD_1 h rfl⟩
  · obtain ⟨u, v, x, y, r, z, s, rfl⟩ := len7 hl
    have h := row_one cf 4 1 64 r (isD [u, v, x, y, r, z, s]) rfl ns F n (kd 3) C x5 ML x7 x9 x10 x11 x12 x13 (some (.M .F, .dct false BD)) x16 .non rfl true n0
    have eb : badK 3 [u, v, x, y, r, z, s] = if 1 ≤ r ∧ r ≤ 64 then (if 1 ≤ s ∧ s ≤ 64 then none else some 6) else some 4 := rfl
    by_cases hr : 1 ≤ r ∧ r ≤ 64
    · have h2 := row_one cf 6 1 64 s (isD [u, v, x, y, r, z, s]) rfl ns F n (kd 3) C x5 ML x7 x9 x10 x11 x12 x13 (some (.M .F, .dct false BD)) (some (.F, .tup [.int 4, .int 1, .int 64])) .non rfl true n0
      have e : duD 3 [u, v, x, y, r, z, s] = if true && !decide (1 ≤ s ∧ s ≤ 64) then .tup [.str (PySem.Str.ofString "fault"), .int 6, .bl true] else .non := by
        unfold duD
        rw [eb]
        by_cases h : 1 ≤ s ∧ s ≤ 64 <;> simp [h, hr]
      rw [e]
      rw [decide_eq_true hr] at h
      exact ⟨_, forD_1 h (forD_1 h2 rfl)⟩
    · have h2 := row_one cf 6 1 64 s (isD [u, v, x, y, r, z, s]) rfl ns F n (kd 3) C x5 ML x7 x9 x10 x11 x12 x13 (some (.M .F, .dct false BD)) (some (.F, .tup [.int 4, .int 1, .int 64])) (.tup [.str (PySem.Str.ofString "fault"), .int 4, .bl true]) rfl false rfl
      have e : duD 3 [u, v, x, y, r, z, s] = .tup [.str (PySem.Str.ofString "fault"), .int 4, .bl true] := by
        unfold duD
        rw [eb, if_neg hr]
      rw [e]
      rw [decide_eq_false hr] at h
      exact ⟨_, forD_1 h (forD_1 h2 rfl)⟩
  · obtain ⟨u, v, x, y, r, rfl⟩ := len5 hl
    have h := row_one cf 4 1 64 r (isD [u, v, x, y, r]) rfl ns F n (kd 4) C x5 ML x7 x9 x10 x11 x12 x13 (some (.M .F, .dct false BD)) x16 .non rfl true n0
    have e : duD 4 [u, v, x, y, r] = if true && !decide (1 ≤ r ∧ r ≤ 64) then .tup [.str (PySem.Str.ofString "fault"), .int 4, .bl true] else .non := by
      have eb : badK 4 [u, v, x, y, r] = if 1 ≤ r ∧ r ≤ 64 then none else some 4 := rfl
      unfold duD
      rw [eb]
      by_cases h : 1 ≤ r ∧ r ≤ 64 <;> simp [h]
    rw [e]
    exact ⟨_, forD_1 h rfl⟩
end LK12
namespace LK12
open PF Rm
theorem ne_maD (n κ a : Nat) (fl : List Int) : cNe (maD n κ a fl) (maD n κ a fl) = some false := by
  have h1 : ∀ (gs : List Nat) (m : Nat), (gsD gs).all (dshN m) = true := fun gs m => by
    rw [List.all_eq_true]
    intro d hd
    obtain ⟨g, _, rfl⟩ := List.mem_map.mp hd
    simp
  have h2 : ∀ gs : List Nat, deqs (gsD gs) (gsD gs) = true := fun gs => by
    induction gs with
    | nil => rfl
    | cons g r ih =>
      show (deq (.int (g : Int)) (.int (g : Int)) && deqs (gsD r) (gsD r)) = true
      rw [ih]
      simp
  unfold maD
  cases badK κ fl with
  | some i => simp
  | none =>
    have h3 := h1 (plL n κ a fl) 61
    have h5 := h1 (plL n κ a fl) 62
    have h4 := h2 (plL n κ a fl)
    dsimp only
    generalize gsD (plL n κ a fl) = G at h3 h4 h5 ⊢
    simp [h4, h3, h5]
theorem ct_get (κ : Nat) (hκ : κ < 5) : dGet CT (.str (kd κ)) = some (.int (lenK κ : Int)) := by
  rcases k5_cases hκ with rfl | rfl | rfl | rfl | rfl
  · show dGet CT (.str (PySem.Str.ofString "block")) = some (.int 6); kernel_rfl
  · show dGet CT (.str (PySem.Str.ofString "wedge")) = some (.int 7); kernel_rfl
  · show dGet CT (.str (PySem.Str.ofString "hole")) = some (.int 5); kernel_rfl
  · show dGet CT (.str (PySem.Str.ofString "step")) = some (.int 7); kernel_rfl
  · show dGet CT (.str (PySem.Str.ofString "sink")) = some (.int 5); kernel_rfl
theorem len_le (κ : Nat) : lenK κ ≤ 7 := by unfold lenK; split <;> omega
theorem kd_bw (κ : Nat) (hκ : κ < 5) : cIn (.str (kd κ)) (.lst [.str (PySem.Str.ofString "block"), .str (PySem.Str.ofString "wedge")]) = some (decide (κ < 2)) := by
  rcases k5_cases hκ with rfl | rfl | rfl | rfl | rfl
  · show cIn (.str (PySem.Str.ofString "block")) _ = _; simp
  · show cIn (.str (PySem.Str.ofString "wedge")) _ = _; simp
  · show cIn (.str (PySem.Str.ofString "hole")) _ = _; simp
  · show cIn (.str (PySem.Str.ofString "step")) _ = _; simp
  · show cIn (.str (PySem.Str.ofString "sink")) _ = _; simp
theorem rng_it (κ : Nat) (hκ : κ < 5) (ns : List Int) (F n : Int) (x5 : Option TD) (ML : List D) (x7 x8 x9 x10 x11 x12 x13 x14 x15 x16 : Option TD) :
    iRng1' (fCons (share (bIxd (bV 4) (qV 3))) (fNil)) (jE ns F n (kd κ) CT x5 ML x7 x8 x9 x10 x11 x12 x13 x14 x15 x16) = .ok ((List.range' 0 (lenK κ)).map fun q : Nat => D.int (q : Int)) (jE ns F n (kd κ) CT x5 ML x7 x8 x9 x10 x11 x12 x13 x14 x15 x16) := by
  have hg := ct_get κ hκ
  have hk : okKey false (.str (kd κ)) = true := rfl
  have hl := len_le κ
  have h : fCons (share (bIxd (bV 4) (qV 3))) (fNil) (jE ns F n (kd κ) CT x5 ML x7 x8 x9 x10 x11 x12 x13 x14 x15 x16) = .ok [(.F, .int (lenK κ : Int))] (jE ns F n (kd κ) CT x5 ML x7 x8 x9 x10 x11 x12 x13 x14 x15 x16) := by
    generalize CT = C at hg ⊢
    generalize lenK κ = m at hg ⊢
    generalize kd κ = KD at hg hk ⊢
    simp [hk, hg]
  rw [iR1_ok h (sm62 (by omega) (by omega)), Int.toNat_natCast, rngD_nat, List.range_eq_range']
theorem st3 (κ : Nat) (hκ : κ < 5) (fl : List Int) (hl : fl.length = lenK κ) (ns : List Int) (F n : Int) (C : List (D × D)) (x5 : Option TD) (ML : List D) (x7 x9 x10 x11 x12 x13 x14 x15 x16 : Option TD) :
    ∃ fl' : List Int, fl'.length = lenK κ ∧ (PF.sIf (tAndF (asT (fCmp cIn (bV 3) (fLst (fCons (fC (.str (PySem.Str.ofString "block"))) (fCons (fC (.str (PySem.Str.ofString "wedge"))) (fNil)))))) (asT (fCmp cGt (fMod (fDiv (qV 1) (fC (.int 10))) (fC (.int 3))) (fC (.int 0))))) (sSeq (sAsg (fun _ => false) 8 (fPlus (fPlus (fLc [9] (iRng1' (fCons (fC (.int 3)) (fNil))) (gN (fun _ => false) 9) (tYesF) (fI2 (fun i j => if j < i then j else i) (fCons (share (bIx (bV 8) (qV 9))) (fCons (share (bIx (bV 8) (fPlus (fC (.int 3)) (bV 9)))) (fNil))))) (fLc [9] (iRng1' (fCons (fC (.int 3)) (fNil))) (gN (fun _ => false) 9) (tYesF) (fI2 (fun i j => if j > i then j else i) (fCons (share (bIx (bV 8) (qV 9))) (fCons (share (bIx (bV 8) (fPlus (fC (.int 3)) (bV 9)))) (fNil)))))) (fSl (bV 8) (oSome (fC (.int 6))) (oNone))))
    (sNil)) (sNil)) (jE ns F n (kd κ) C x5 ML x7 (some (.L .F, .lst (isD fl))) x9 x10 x11 x12 x13 x14 x15 x16) = .ok .nx (jE ns F n (kd κ) C x5 ML x7 (some (.L .F, .lst (isD fl'))) x9 x10 x11 x12 x13 x14 x15 x16) := by
  have hb := kd_bw κ hκ
  have d10 : divOk 10 = true := by decide
  by_cases h2 : κ < 2
  · by_cases hg : 0 < (F.fdiv 10).fmod 3
    · obtain ⟨fl', h', e⟩ := fl_ends κ h2 fl hl ns F n (kd κ) C x5 ML x7 x9 x10 x11 x12 x13 x14 x15 x16
      refine ⟨fl', h', ?_⟩
      generalize fPlus (fPlus (fLc [9] (iRng1' (fCons (fC (.int 3)) (fNil))) (gN (fun _ => false) 9) (tYesF) (fI2 (fun i j => if j < i then j else i) (fCons (share (bIx (bV 8) (qV 9))) (fCons (share (bIx (bV 8) (fPlus (fC (.int 3)) (bV 9)))) (fNil))))) (fLc [9] (iRng1' (fCons (fC (.int 3)) (fNil))) (gN (fun _ => false) 9) (tYesF) (fI2 (fun i j => if j > i then j else i) (fCons (share (bIx (bV 8) (qV 9))) (fCons (share (bIx (bV 8) (fPlus (fC (.int 3)) (bV 9)))) (fNil)))))) (fSl (bV 8) (oSome (fC (.int 6))) (oNone)) = f at e ⊢
      generalize isD fl' = L' at e ⊢
      generalize isD fl = L at e ⊢
      generalize kd κ = KD at hb e ⊢
      simp [-e_inL, hb, h2, d10, hg, e]
    · refine ⟨fl, hl, ?_⟩
      generalize isD fl = L
      generalize kd κ = KD at hb ⊢
      simp [-e_inL, hb, h2, d10, hg]
  · refine ⟨fl, hl, ?_⟩
    generalize isD fl = L
    generalize kd κ = KD at hb ⊢
    simp [-e_inL, hb, h2]
theorem st4 (k κ : Nat) (hκ : κ < 5) (fl : List Int) (hl : fl.length = lenK κ) (ns : List Int) (F n : Int) (C : List (D × D)) (x5 : Option TD) (ML : List D) (j : Int) (hj : j = 0 ∨ j = 1) (x9 x10 x11 x12 x13 x14 x15 x16 : Option TD) :
    ∃ (fl' : List Int) (y11 y12 : Option TD), fl'.length = lenK κ ∧ (PF.sIf (asT (fCmp cEq (bV 3) (fC (.str (PySem.Str.ofString "wedge"))))) (sSeq (sSetI (pN 8) (fC (.int 6)) (fSub (fMod (fB1 gAbs (fCall 2 (runF (k + 1) 22) (gNm 0 (gVal (fPlus (fC (.int 8)) (fTimes (fC (.int 10)) (bV 7))) (gNil))))) (fC (.int 14))) (fC (.int 1))))
    (sSeq (PF.sIf (tAndF (asT (fCmp cEq (fMod (fDiv (qV 1) (fC (.int 30))) (fC (.int 2))) (fC (.int 0)))) (asT (fChain cLe cLt (fC (.int 0)) (share (bIx (bV 8) (fC (.int 6)))) (fC (.int 12))))) (sSeq (sTg (gT 2 (gsCons (gN (fun _ => false) 11) (gsCons (gN (fun _ => false) 12) (gsNil)))) (fCall 1 (runF (k + 1) 24) (gVal (fDiv (share (bIx (bV 8) (fC (.int 6)))) (fC (.int 4))) (gNil))))
    (sSeq (sSetI (pN 8) (fPlus (fC (.int 3)) (bV 12)) (fSub (fPlus (bIx (bV 8) (qV 12)) (bIx (bV 8) (fPlus (fC (.int 3)) (bV 11)))) (share (bIx (bV 8) (qV 11)))))
    (sNil))) (sNil))
    (sNil))) (sNil)) (jE ns F n (kd κ) C x5 ML (some (.F, .int j)) (some (.L .F, .lst (isD fl))) x9 x10 x11 x12 x13 x14 x15 x16) =
      .ok .nx (jE ns F n (kd κ) C x5 ML (some (.F, .int j)) (some (.L .F, .lst (isD fl'))) x9 x10 y11 y12 x13 x14 x15 x16) := by
  have hw := kdw κ
  have dk := dshk κ
  by_cases h : κ = 1
  · subst h
    obtain ⟨fl', y11, y12, h', e⟩ := fl_wedge k fl hl ns F n C x5 ML j hj x9 x10 x11 x12 x13 x14 x15 x16
    refine ⟨fl', y11, y12, h', ?_⟩
    have c : asT (fCmp cEq (bV 3) (fC (.str (PySem.Str.ofString "wedge")))) (jE ns F n (kd 1) C x5 ML (some (.F, .int j)) (some (.L .F, .lst (isD fl))) x9 x10 x11 x12 x13 x14 x15 x16) = .ok true (jE ns F n (kd 1) C x5 ML (some (.F, .int j)) (some (.L .F, .lst (isD fl))) x9 x10 x11 x12 x13 x14 x15 x16) := by
      have hw := hw.mpr rfl
      generalize isD fl = L
      generalize kd 1 = KD at hw dk ⊢
      simp [dk, hw]
    rw [e_sIf, c, bind_ok, if_pos rfl]
    exact e
  · refine ⟨fl, x11, x12, hl, ?_⟩
    have hw : ¬ kd κ = PySem.Str.ofString "wedge" := fun e => h (hw.mp e)
    generalize isD fl = L
    generalize kd κ = KD at hw dk ⊢
    simp [dk, hw]
theorem has_lc (k n κ : Nat) (hκ : κ < 5) (hL : (mids n).length ≤ 100000) (a : Nat) (ha : a < 3) (fl : List Int) (hl : fl.length = lenK κ) (hb : badK κ fl = none) (ns : List Int) (F : Int) (C : List (D × D)) (x5 x7 x9 x10 x11 x12 x14 x15 x16 : Option TD) :
    fLc [9] (iRng1' (fCons (fB1 gLen (bV 6)) (fNil))) (gN (fun _ => false) 9) (tTru (fCall 4 (runF (k + 2) 27) (gNm 3 (gVal (share (bIx (bV 6) (qV 9))) (gNm 13 (gNm 8 (gNil))))))) (fV 9) (jE ns F (n : Int) (kd κ) C x5 ((mids n).map pD) x7 (some (.L .F, .lst (isD fl))) x9 x10 x11 x12 (some (.F, .int (a : Int))) x14 x15 x16) =
      .ok (.L .F, .lst (gsD (plL n κ a fl))) (jE ns F (n : Int) (kd κ) C x5 ((mids n).map pD) x7 (some (.L .F, .lst (isD fl))) x9 x10 x11 x12 (some (.F, .int (a : Int))) x14 x15 x16) := by
  have hlen : ((mids n).map pD).length = (mids n).length := List.length_map _
  have it : iRng1' (fCons (fB1 gLen (bV 6)) (fNil)) (jE ns F (n : Int) (kd κ) C x5 ((mids n).map pD) x7 (some (.L .F, .lst (isD fl))) x9 x10 x11 x12 (some (.F, .int (a : Int))) x14 x15 x16) = .ok (gsD (List.range (LM n))) (jE ns F (n : Int) (kd κ) C x5 ((mids n).map pD) x7 (some (.L .F, .lst (isD fl))) x9 x10 x11 x12 (some (.F, .int (a : Int))) x14 x15 x16) := by
    have e : gsD (List.range (LM n)) = rngD 0 ((((mids n).map pD).length : Int).toNat) := by
      rw [Int.toNat_natCast, rngD_nat, hlen]
    rw [e]
    exact iR1_ok (t := .F) (j := (((mids n).map pD).length : Int)) (by simp) (sm62 (by omega) (by omega))
  have gl : (gsD (List.range (LM n))).length = LM n := by unfold gsD; rw [List.length_map, List.length_range]
  have hd : hide (jE ns F (n : Int) (kd κ) C x5 ((mids n).map pD) x7 (some (.L .F, .lst (isD fl))) x9 x10 x11 x12 (some (.F, .int (a : Int))) x14 x15 x16) [9] = jE ns F (n : Int) (kd κ) C x5 ((mids n).map pD) x7 (some (.L .F, .lst (isD fl))) none x10 x11 x12 (some (.F, .int (a : Int))) x14 x15 x16 := rfl
  have one : ∀ d ∈ gsD (List.range (LM n)), lc1 [9] (gN (fun _ => false) 9) (tTru (fCall 4 (runF (k + 2) 27) (gNm 3 (gVal (share (bIx (bV 6) (qV 9))) (gNm 13 (gNm 8 (gNil))))))) (fV 9) d (jE ns F (n : Int) (kd κ) C x5 ((mids n).map pD) x7 (some (.L .F, .lst (isD fl))) none x10 x11 x12 (some (.F, .int (a : Int))) x14 x15 x16) =
      some (if (match d with | .int i => plG n κ a fl i.toNat | _ => false) then some (.F, d) else none, jE ns F (n : Int) (kd κ) C x5 ((mids n).map pD) x7 (some (.L .F, .lst (isD fl))) none x10 x11 x12 (some (.F, .int (a : Int))) x14 x15 x16) := by
    intro d hd
    obtain ⟨g, hg, rfl⟩ := List.mem_map.mp hd
    have hg := List.mem_range.mp hg
    obtain ⟨p, hp⟩ : ∃ p, (mids n)[g]? = some p := ⟨_, List.getElem?_eq_getElem (show g < (mids n).length from hg)⟩
    have hpt : ((mids n).map pD)[g]? = some (pD p) := by rw [List.getElem?_map, hp]; rfl
    have h := has_ok k κ hκ p a ha fl hl hb (.L .F) (.inr rfl)
    have eg : plG n κ a fl g = plB κ p a fl := by unfold plG; rw [hp]
    simp only [Int.toNat_natCast, eg]
    have b0 : isBox (pD p) = false := rfl
    generalize plB κ p a fl = q at h ⊢
    generalize isD fl = L at h ⊢
    generalize (mids n).map pD = ML at hpt ⊢
    generalize pD p = PD at h hpt b0 ⊢
    generalize kd κ = KD at h ⊢
    unfold lc1
    cases q <;> simp [hide, atI_cast, hpt, h, b0]
  have lc := lc_gen (vs := [9]) (g := gN (fun _ => false) 9) (t := tTru (fCall 4 (runF (k + 2) 27) (gNm 3 (gVal (share (bIx (bV 6) (qV 9))) (gNm 13 (gNm 8 (gNil))))))) (fe := fV 9) (fun d => match d with | .int i => plG n κ a fl i.toNat | _ => false) id (gsD (List.range (LM n))) [] (by rw [SZ_eq, gl]; have : LM n = (mids n).length := rfl; simp; omega) one
  unfold fLc
  rw [it, bind_ok, hd, lc]
  have ef : (gsD (List.range (LM n))).filter (fun d => match d with | .int i => plG n κ a fl i.toNat | _ => false) = gsD (plL n κ a fl) := by
    unfold gsD plL
    rw [List.filter_map]
    congr 1
  rw [List.nil_append, List.map_id, ef]
  rfl
theorem du_ma (n κ a : Nat) (fl : List Int) : (badK κ fl = none ∧ duD κ fl = .non ∧ maD n κ a fl = .tup [.str (PySem.Str.ofString "body"), .lst (gsD (plL n κ a fl))]) ∨ (∃ i, badK κ fl = some i ∧ duD κ fl = maD n κ a fl ∧ ∃ l, duD κ fl = .tup l) := by
  unfold duD maD
  cases h : badK κ fl with
  | none => exact .inl ⟨rfl, rfl, rfl⟩
  | some i => exact .inr ⟨i, rfl, rfl, _, rfl⟩
theorem turn_ok (n κ : Nat) (h2 : 2 ≤ n) (h6 : n ≤ 6) (R : RoomOk n) (hL : LM n = 24 * n ^ 3) (hl0 : (mids n).length ≤ 10000) (hκ : κ < 5) (ns : List Int) (F : Int) (hF : 0 ≤ F) (j : Int) (hj : j = 0 ∨ j = 1) (x5 x7 x8 x9 x10 x11 x12 x13 x14 x15 x16 : Option TD) :
    ∃ y8 y9 y10 y11 y12 y13 y14 y15 y16, stepD (gN (fun _ => false) 7) (b29_l2 (runF 7) (fun _ => false)) (.int j) (jE ns F (n : Int) (kd κ) CT x5 ((mids n).map pD) x7 x8 x9 x10 x11 x12 x13 x14 x15 x16) =
      .ok .nx (jE ns F (n : Int) (kd κ) CT x5 ((mids n).map pD) (some (.F, .int j)) y8 y9 y10 y11 y12 y13 y14 y15 y16) := by
  obtain ⟨a, ha, ea⟩ : ∃ a : Nat, a < 3 ∧ (F.fdiv 100).fmod 3 = (a : Int) := by
    have f4 : (F.fdiv 100).fmod 3 = (F.fdiv 100) % 3 := Int.fmod_eq_emod_of_nonneg _ (by decide)
    rw [f4]
    exact ⟨((F.fdiv 100) % 3).toNat, by omega, by omega⟩
  obtain ⟨fl1, y9, y10, h1, e1⟩ := fl_loop 6 ns F (n : Int) (by omega) (kd κ) CT x5 ((mids n).map pD) j hj x11 x12 x13 x14 x15 x16 (lenK κ) 0 [] x9 x10 rfl (by have := len_le κ; omega)
  rw [Nat.zero_add] at h1
  obtain ⟨fl2, h2', e2⟩ := st3 κ hκ fl1 h1 ns F (n : Int) CT x5 ((mids n).map pD) (some (.F, .int j)) y9 y10 x11 x12 x13 x14 x15 x16
  obtain ⟨fl, y11, y12, hl, e3⟩ := st4 6 κ hκ fl2 h2' ns F (n : Int) CT x5 ((mids n).map pD) j hj y9 y10 x11 x12 x13 x14 x15 x16
  obtain ⟨y16, e4⟩ := due_ok (runF 7) κ hκ fl hl ns F (n : Int) CT x5 ((mids n).map pD) (some (.F, .int j)) y9 y10 y11 y12 (some (.F, .int (a : Int))) x16
  have e5 := made_ok 0 n κ h2 h6 R hL hκ a ha fl hl (.L .F) (.inr rfl)
  have d100 : divOk 100 = true := by decide
  refine ⟨some (.L .F, .lst (isD fl)), y9, y10, y11, y12, some (.F, .int (a : Int)), some (.F, maD n κ a fl), some (.M .F, .dct false BD), y16, ?_⟩
  have s0 : stepD (gN (fun _ => false) 7) (b29_l2 (runF 7) (fun _ => false)) (.int j) (jE ns F (n : Int) (kd κ) CT x5 ((mids n).map pD) x7 x8 x9 x10 x11 x12 x13 x14 x15 x16) = b29_l2 (runF 7) (fun _ => false) (jE ns F (n : Int) (kd κ) CT x5 ((mids n).map pD) (some (.F, .int j)) x8 x9 x10 x11 x12 x13 x14 x15 x16) := rfl
  rw [s0]
  unfold b29_l2
  refine nx_seq (ρ' := jE ns F (n : Int) (kd κ) CT x5 ((mids n).map pD) (some (.F, .int j)) (some (.L .F, .lst (isD []))) x9 x10 x11 x12 x13 x14 x15 x16) (by
    generalize (mids n).map pD = ML
    generalize CT = C
    simp) ?_
  refine nx_seq (ρ' := jE ns F (n : Int) (kd κ) CT x5 ((mids n).map pD) (some (.F, .int j)) (some (.L .F, .lst (isD fl1))) y9 y10 x11 x12 x13 x14 x15 x16) (by
    rw [e_sFor, rng_it κ hκ ns F (n : Int) x5 ((mids n).map pD) (some (.F, .int j)) (some (.L .F, .lst (isD []))) x9 x10 x11 x12 x13 x14 x15 x16, bind_ok]
    exact e1) ?_
  refine nx_seq e2 ?_
  refine nx_seq e3 ?_
  refine nx_seq (ρ' := jE ns F (n : Int) (kd κ) CT x5 ((mids n).map pD) (some (.F, .int j)) (some (.L .F, .lst (isD fl))) y9 y10 y11 y12 (some (.F, .int (a : Int))) x14 x15 x16) (by
    generalize (mids n).map pD = ML
    generalize CT = C
    generalize isD fl = L
    simp [d100, ea]) ?_
  refine nx_seq (ρ' := jE ns F (n : Int) (kd κ) CT x5 ((mids n).map pD) (some (.F, .int j)) (some (.L .F, .lst (isD fl))) y9 y10 y11 y12 (some (.F, .int (a : Int))) (some (.F, .non)) x15 x16) (by
    generalize (mids n).map pD = ML
    generalize CT = C
    generalize isD fl = L
    simp) ?_
  refine nx_seq (ρ' := jE ns F (n : Int) (kd κ) CT x5 ((mids n).map pD) (some (.F, .int j)) (some (.L .F, .lst (isD fl))) y9 y10 y11 y12 (some (.F, .int (a : Int))) (some (.F, .non)) (some (.M .F, .dct false BD)) x16) (by
    generalize (mids n).map pD = ML
    generalize CT = C
    generalize isD fl = L
    simp [bd_puts]) ?_
  refine nx_seq e4 ?_
  rcases du_ma n κ a fl with ⟨hb, d1, m1⟩ | ⟨i, hb, d1, l, dl⟩
  · have lc := has_lc 5 n κ hκ (by omega) a ha fl hl hb ns F CT x5 (some (.F, .int j)) y9 y10 y11 y12 (some (.F, .non)) (some (.M .F, .dct false BD)) y16
    rw [d1]
    refine nx_seq (ρ' := jE ns F (n : Int) (kd κ) CT x5 ((mids n).map pD) (some (.F, .int j)) (some (.L .F, .lst (isD fl))) y9 y10 y11 y12 (some (.F, .int (a : Int))) (some (.F, maD n κ a fl)) (some (.M .F, .dct false BD)) y16) (by
      rw [m1]
      generalize fLc [9] (iRng1' (fCons (fB1 gLen (bV 6)) (fNil))) (gN (fun _ => false) 9) (tTru (fCall 4 (runF 7 27) (gNm 3 (gVal (share (bIx (bV 6) (qV 9))) (gNm 13 (gNm 8 (gNil))))))) (fV 9) = f at lc ⊢
      generalize gsD (plL n κ a fl) = G at lc ⊢
      generalize (mids n).map pD = ML at lc ⊢
      generalize CT = C at lc ⊢
      generalize BD = B at lc ⊢
      generalize isD fl = L at lc ⊢
      simp [lc]) ?_
    have ne := ne_maD n κ a fl
    generalize maD n κ a fl = M at e5 ne ⊢
    generalize (mids n).map pD = ML
    generalize CT = C
    generalize BD = B
    generalize isD fl = L at e5 ⊢
    generalize kd κ = KD at e5 ⊢
    simp [e5, -e_ne, ne]
  · refine nx_seq (ρ' := jE ns F (n : Int) (kd κ) CT x5 ((mids n).map pD) (some (.F, .int j)) (some (.L .F, .lst (isD fl))) y9 y10 y11 y12 (some (.F, .int (a : Int))) (some (.F, maD n κ a fl)) (some (.M .F, .dct false BD)) y16) (by
      rw [← d1, dl]
      generalize (mids n).map pD = ML
      generalize CT = C
      generalize BD = B
      generalize isD fl = L
      simp) ?_
    have ne := ne_maD n κ a fl
    generalize maD n κ a fl = M at e5 ne ⊢
    generalize (mids n).map pD = ML
    generalize CT = C
    generalize BD = B
    generalize isD fl = L at e5 ⊢
    generalize kd κ = KD at e5 ⊢
    simp [e5, -e_ne, ne]
theorem kd_at (z : Int) (hz : 0 ≤ z) : ∃ κ : Nat, κ < 5 ∧ L2.atI [D.str (PySem.Str.ofString "block"), .str (PySem.Str.ofString "wedge"), .str (PySem.Str.ofString "hole"), .str (PySem.Str.ofString "step"), .str (PySem.Str.ofString "sink")] (z.fmod 5) = some (.str (kd κ)) := by
  have f4 : z.fmod 5 = z % 5 := Int.fmod_eq_emod_of_nonneg _ (by decide)
  rw [f4]
  have : z % 5 = 0 ∨ z % 5 = 1 ∨ z % 5 = 2 ∨ z % 5 = 3 ∨ z % 5 = 4 := by omega
  rcases this with h | h | h | h | h <;> rw [h]
  · exact ⟨0, by omega, rfl⟩
  · exact ⟨1, by omega, rfl⟩
  · exact ⟨2, by omega, rfl⟩
  · exact ⟨3, by omega, rfl⟩
  · exact ⟨4, by omega, rfl⟩
theorem plain (ns : List Int) : Good (b29 (runF 7) (fun _ => false) (enter 17 [(.F, .scr ns)])) := by
  have cell0 : runF 7 22 [(.F, .scr ns), (.F, .int 0)] = .ok (.F, .int (ns.getD 0 0)) [(.F, .scr ns), (.F, .int 0)] := lcell_ok 6 ns 0
  generalize ns.getD 0 0 = c0 at cell0
  have he : enter 17 [(T.F, D.scr ns)] = [some (.F, .scr ns), none, none, none, none, none, none, none, none, none, none, none, none, none, none, none, none] := rfl
  rw [he]
  obtain ⟨F, hF⟩ : ∃ F : Nat, (if c0 < 0 then -c0 else c0) = (F : Int) := ⟨c0.natAbs, by split <;> omega⟩
  obtain ⟨n, hn, en⟩ : ∃ n : Nat, (n = 2 ∨ n = 3) ∧ (2 + (F : Int).fmod 2 : Int) = (n : Int) := by
    have f2 : (F : Int).fmod 2 = (F : Int) % 2 := Int.fmod_eq_emod_of_nonneg _ (by decide)
    rw [f2]
    exact ⟨(2 + (F : Int) % 2).toNat, by omega, by omega⟩
  have hL : (mids n).length = 24 * n ^ 3 := by
    rcases hn with rfl | rfl
    · exact len_mids2
    · exact len_mids3
  have hl : (mids n).length ≤ 648 := by
    rcases hn with rfl | rfl
    · rw [len_mids2]; omega
    · rw [len_mids3]; omega
  have R : RoomOk n := by
    rcases hn with rfl | rfl
    · exact room2
    · exact room3
  obtain ⟨κ, hκ, eκ⟩ := kd_at ((F : Int).fdiv 2) (by
    have : (F : Int).fdiv 2 = (F : Int) / 2 := Int.fdiv_eq_ediv_of_nonneg _ (by decide)
    rw [this]
    omega)
  have d2 : divOk 2 = true := by decide
  unfold b29
  refine good_seq (ρ' := [some (.F, .scr ns), some (.F, .int (F : Int)), none, none, none, none, none, none, none, none, none, none, none, none, none, none, none]) (by simp [cell0, hF]) ?_
  refine good_seq (ρ' := [some (.F, .scr ns), some (.F, .int (F : Int)), some (.F, .int (n : Int)), none, none, none, none, none, none, none, none, none, none, none, none, none, none]) (by simp [en]) ?_
  refine good_seq (ρ' := [some (.F, .scr ns), some (.F, .int (F : Int)), some (.F, .int (n : Int)), some (.F, .str (kd κ)), none, none, none, none, none, none, none, none, none, none, none, none, none]) (by simp [d2, eκ]) ?_
  have cp := ct_puts
  unfold CT at cp
  refine good_seq (ρ' := [some (.F, .scr ns), some (.F, .int (F : Int)), some (.F, .int (n : Int)), some (.F, .str (kd κ)), some (.M .F, .dct false CT), none, none, none, none, none, none, none, none, none, none, none, none]) (by
    unfold CT
    simp [cp]) ?_
  obtain ⟨y, en2⟩ := nm_loop 6 (some (.F, .scr ns)) (some (.F, .int (F : Int))) (some (.F, .int (n : Int))) (some (.F, .str (kd κ)))
  refine good_seq (ρ' := [some (.F, .scr ns), some (.F, .int (F : Int)), some (.F, .int (n : Int)), some (.F, .str (kd κ)), some (.F, .dct false CT), y, none, none, none, none, none, none, none, none, none, none, none]) (by
    rw [e_sFor]
    generalize CT = C at en2 ⊢
    simp [en2]) ?_
  have hm := lmiddles_ok 6 n (by omega)
  refine good_seq (ρ' := [some (.F, .scr ns), some (.F, .int (F : Int)), some (.F, .int (n : Int)), some (.F, .str (kd κ)), some (.F, .dct false CT), y, some (.L .F, .lst ((mids n).map pD)), none, none, none, none, none, none, none, none, none, none]) (by
    generalize (mids n).map pD = ML at hm ⊢
    generalize CT = C
    simp [hm]) ?_
  obtain ⟨a8, a9, a10, a11, a12, a13, a14, a15, a16, t0⟩ := turn_ok n κ (by omega) (by omega) R hL (by omega) hκ ns F (by omega) 0 (.inl rfl) y none none none none none none none none none none
  obtain ⟨z8, z9, z10, z11, z12, z13, z14, z15, z16, t1⟩ := turn_ok n κ (by omega) (by omega) R hL (by omega) hκ ns F (by omega) 1 (.inr rfl) y (some (.F, .int 0)) a8 a9 a10 a11 a12 a13 a14 a15 a16
  have r2 : ∀ (x : Option TD) (ρ : PF.Env), iRng1' (fCons (fC (.int 2)) (fNil)) (x :: ρ) = .ok [.int 0, .int 1] (x :: ρ) := fun _ _ => rfl
  refine good_seq (ρ' := jE ns F (n : Int) (kd κ) CT y ((mids n).map pD) (some (.F, .int 1)) z8 z9 z10 z11 z12 z13 z14 z15 z16) (by
    rw [e_sFor, r2, bind_ok]
    exact forD_2 t0 t1) ?_
  exact good_ret (t := .F) (o := some (.F, .scr ns)) rfl
end LK12
theorem PySem.Challenge.cw_partloft_k12_bodies_without_sketches_holds : PySem.Challenge.rw_partloft_k12_bodies_without_sketches.Holds :=
  LK12.holds (m := 8) (by decide) fun ns _ => by
    have h := PF.good_run (n := 17) (b := LK12.b29 (LK12.runF 7)) (LK12.plain ns)
    have e : LK12.runF 8 29 = PF.runB 17 (LK12.b29 (LK12.runF 7)) := LK12.r29 7
    rw [← e] at h
    exact h
