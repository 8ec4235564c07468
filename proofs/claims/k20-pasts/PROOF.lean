import PyProof.Rows.All
import Wide.All
import OpenK.AllK
import Wide.FinOn
import HandS.ForMost
import HandS.Exc
import HandS.Deep
import HandS.TryOnly
import HandS.TryMany
import HandS.ExcOwn
import HandS.WordsExc
import HandS.TupAny
import HandS.TupMul
import HandS.IsInst
import HandS.WordsDict
import HandS.RaiseMore
import HandS.Text
import HandS.Words
import HandS.Defaults
import HandS.Style
import HandS.HeadHook1
import HandS.HeadHook2
import HandS.Head0
import HandS.Head1
import HandS.Head2
import HandS.HeadEnd
import PySem.Challenge.RW_partloft_k20_pasts
set_option Elab.async false
set_option linter.all false
set_option maxRecDepth 100000
set_option maxHeartbeats 0
set_option autoImplicit false
namespace PF
open PySem PySem.Spec PyProof.Rows L2

/-- values as trees -/
inductive D where
  | non | bl (b : Bool) | int (i : Int) | str (x : Str)
  | tup (ds : List D) | lst (ds : List D) | dct (kvs : List (D × D))
  | obj (c : Nat) (fs : List (Nat × D))
  | raw (v : V)
  | scr (is : List Int)
  deriving Inhabited
/-- what of a tree is owned: F nothing (shared, never changed); L, M, R the list, the dict, the object itself -/
inductive T where
  | F | L (t : T) | M (t : T) | R (ts : List T)
  deriving Inhabited
abbrev TD := T × D
/-- the text's tables: where the classes stand, the attributes' names -/
structure Tb where
  cls : Nat → Addr
  nm : Nat → Str
def keyD : Key → D
  | .inl i => .int i
  | .inr x => .str x
/-- the dict at a, its keys as trees -/
def DctAt (G : Hp) (a : Addr) (kvs : List (D × V)) : Prop :=
  ∃ ks : List (Key × V), Rd G a (.dK ks) ∧ kvs = ks.map fun p => (keyD p.1, p.2)
def DctOf (H : Hp) (a : Addr) (kvs : List (D × V)) : Prop :=
  ∃ ks : List (Key × V), H a = some (.dK ks) ∧ kvs = ks.map fun p => (keyD p.1, p.2)
theorem DctOf.at {H : Hp} {a : Addr} {kvs : List (D × V)} (h : DctOf H a kvs) : DctAt H a kvs := by
  obtain ⟨ks, h1, h2⟩ := h
  exact ⟨ks, .inl h1, h2⟩

section
variable (K : PySem.W.Frag) (B : Tb)
mutual
def Rep (G : Hp) : D → V → Prop
  | .non, v => v = .non
  | .bl b, v => v = .bl b
  | .int i, v => v = .int i
  | .str x, v => v = .str x
  | .raw w, v => v = w
  | .scr is, v => ∃ a, v = .ref a ∧ SqL K G a (is.map V.int)
  | .tup ds, v => ∃ a vs, v = .ref a ∧ SqT K G a vs ∧ Reps G ds vs
  | .lst ds, v => ∃ a vs, v = .ref a ∧ G a = some (.lst vs) ∧ Reps G ds vs
  | .dct kvs, v => ∃ a ks, v = .ref a ∧ DctAt G a ks ∧ RepP G kvs ks
  | .obj c fs, v => ∃ a dx vs, v = .ref a ∧ G a = some (.ins (B.cls c) dx vs) ∧ RepF G fs vs
def Reps (G : Hp) : List D → List V → Prop
  | [], vs => vs = []
  | d :: ds, vs => ∃ v r, vs = v :: r ∧ Rep G d v ∧ Reps G ds r
def RepP (G : Hp) : List (D × D) → List (D × V) → Prop
  | [], ks => ks = []
  | (k, d) :: r, ks => ∃ v ks', ks = (k, v) :: ks' ∧ Rep G d v ∧ RepP G r ks'
def RepF (G : Hp) : List (Nat × D) → List (Str × V) → Prop
  | [], vs => vs = []
  | (n, d) :: r, vs => ∃ v vs', vs = (B.nm n, v) :: vs' ∧ Rep G d v ∧ RepF G r vs'
end
mutual
def Own (G H : Hp) : D → T → V → List Addr → Prop
  | .non, _, v, l => v = .non ∧ l = []
  | .bl b, _, v, l => v = .bl b ∧ l = []
  | .int i, _, v, l => v = .int i ∧ l = []
  | .str x, _, v, l => v = .str x ∧ l = []
  | .raw w, _, v, l => v = w ∧ l = []
  | .scr is, _, v, l => Rep K B G (.scr is) v ∧ l = []
  | .tup ds, _, v, l => Rep K B G (.tup ds) v ∧ l = []
  | .lst ds, t, v, l => match t with
    | .L t' => ∃ a vs l', v = .ref a ∧ H a = some (.lst vs) ∧ l = a :: l' ∧ Owns G H ds t' vs l'
    | _ => Rep K B G (.lst ds) v ∧ l = []
  | .dct kvs, t, v, l => match t with
    | .M t' => ∃ a ks l', v = .ref a ∧ DctOf H a ks ∧ l = a :: l' ∧ OwnP G H kvs t' ks l'
    | _ => Rep K B G (.dct kvs) v ∧ l = []
  | .obj c fs, t, v, l => match t with
    | .R ts => ∃ a dx vs l', v = .ref a ∧ H a = some (.ins (B.cls c) dx vs) ∧ l = a :: l' ∧ OwnF G H fs ts vs l'
    | _ => Rep K B G (.obj c fs) v ∧ l = []
def Owns (G H : Hp) : List D → T → List V → List Addr → Prop
  | [], _, vs, l => vs = [] ∧ l = []
  | d :: ds, t, vs, l => ∃ v r l1 l2, vs = v :: r ∧ l = l1 ++ l2 ∧ Own G H d t v l1 ∧ Owns G H ds t r l2
def OwnP (G H : Hp) : List (D × D) → T → List (D × V) → List Addr → Prop
  | [], _, ks, l => ks = [] ∧ l = []
  | (k, d) :: r, t, ks, l => ∃ v ks' l1 l2, ks = (k, v) :: ks' ∧ l = l1 ++ l2 ∧ Own G H d t v l1 ∧ OwnP G H r t ks' l2
def OwnF (G H : Hp) : List (Nat × D) → List T → List (Str × V) → List Addr → Prop
  | [], _, vs, l => vs = [] ∧ l = []
  | (n, d) :: r, ts, vs, l => ∃ v vs' l1 l2, vs = (B.nm n, v) :: vs' ∧ l = l1 ++ l2 ∧ Own G H d (ts.headD .F) v l1 ∧ OwnF G H r ts.tail vs' l2
end
end

/-- a heap that says no less -/
def Le (G H : Hp) : Prop := ∀ a o, G a = some o → H a = some o
theorem Le.refl {G : Hp} : Le G G := fun _ _ h => h
theorem Le.trans {G H I : Hp} (a : Le G H) (b : Le H I) : Le G I := fun x o h => b x o (a x o h)
theorem Le.rd {G H : Hp} (l : Le G H) {a : Addr} {o : HO} (r : Rd G a o) : Rd H a o := by
  rcases r with r | ⟨q, r⟩
  · exact .inl (l _ _ r)
  · exact .inr ⟨q, l _ _ r⟩
theorem Le.sqL {G H : Hp} (l : Le G H) {K : PySem.W.Frag} {a : Addr} {xs : List V} (r : SqL K G a xs) : SqL K H a xs := by
  rcases r with r | r
  · exact .inl (l.rd r)
  · exact .inr r
theorem Le.sqT {G H : Hp} (l : Le G H) {K : PySem.W.Frag} {a : Addr} {xs : List V} (r : SqT K G a xs) : SqT K H a xs := by
  rcases r with r | r
  · exact .inl (l.rd r)
  · exact .inr r
theorem Le.dct {G H : Hp} (l : Le G H) {a : Addr} {ks : List (D × V)} (r : DctAt G a ks) : DctAt H a ks := by
  obtain ⟨k, h1, h2⟩ := r
  exact ⟨k, l.rd h1, h2⟩
theorem Le.upd {G : Hp} {p : Addr} {o : HO} (h : G p = none) : Le G (upd G p o) := fun a u e => by
  rw [upd_ne (ne_of_none e h)]; exact e
theorem Le.upd2 {G H : Hp} {p : Addr} {o : HO} (l : Le G H) : Le (L2.upd G p o) (L2.upd H p o) := fun a u e => by
  by_cases h : a = p
  · subst h; rw [upd_same] at e ⊢; exact e
  · rw [upd_ne h] at e ⊢; exact l _ _ e
theorem Le.updR {G H : Hp} {p : Addr} {o : HO} (l : Le G H) (h : G p = none) : Le G (L2.upd H p o) := fun a u e => by
  rw [upd_ne (ne_of_none e h)]; exact l _ _ e

section
variable {K : PySem.W.Frag} {B : Tb} {G G' H H' : Hp}
mutual
theorem Rep.mono (l : Le G G') : ∀ {d : D} {v : V}, Rep K B G d v → Rep K B G' d v
  | .non, _, h => h
  | .bl _, _, h => h
  | .int _, _, h => h
  | .str _, _, h => h
  | .raw _, _, h => h
  | .scr _, v, h => by
    simp only [Rep] at h ⊢
    obtain ⟨a, e, s⟩ := h
    exact ⟨a, e, l.sqL s⟩
  | .tup ds, v, h => by
    simp only [Rep] at h ⊢
    obtain ⟨a, vs, e, s, r⟩ := h
    exact ⟨a, vs, e, l.sqT s, Reps.mono l r⟩
  | .lst ds, v, h => by
    simp only [Rep] at h ⊢
    obtain ⟨a, vs, e, s, r⟩ := h
    exact ⟨a, vs, e, l _ _ s, Reps.mono l r⟩
  | .dct kvs, v, h => by
    simp only [Rep] at h ⊢
    obtain ⟨a, ks, e, s, r⟩ := h
    exact ⟨a, ks, e, l.dct s, RepP.mono l r⟩
  | .obj c fs, v, h => by
    simp only [Rep] at h ⊢
    obtain ⟨a, dx, vs, e, s, r⟩ := h
    exact ⟨a, dx, vs, e, l _ _ s, RepF.mono l r⟩
theorem Reps.mono (l : Le G G') : ∀ {ds : List D} {vs : List V}, Reps K B G ds vs → Reps K B G' ds vs
  | [], _, h => by simp only [Reps] at h ⊢; exact h
  | d :: ds, vs, h => by
    simp only [Reps] at h ⊢
    obtain ⟨v, r, e, h1, h2⟩ := h
    exact ⟨v, r, e, Rep.mono l h1, Reps.mono l h2⟩
theorem RepP.mono (l : Le G G') : ∀ {ds : List (D × D)} {vs : List (D × V)}, RepP K B G ds vs → RepP K B G' ds vs
  | [], _, h => by simp only [RepP] at h ⊢; exact h
  | (k, d) :: ds, vs, h => by
    simp only [RepP] at h ⊢
    obtain ⟨v, r, e, h1, h2⟩ := h
    exact ⟨v, r, e, Rep.mono l h1, RepP.mono l h2⟩
theorem RepF.mono (l : Le G G') : ∀ {ds : List (Nat × D)} {vs : List (Str × V)}, RepF K B G ds vs → RepF K B G' ds vs
  | [], _, h => by simp only [RepF] at h ⊢; exact h
  | (k, d) :: ds, vs, h => by
    simp only [RepF] at h ⊢
    obtain ⟨v, r, e, h1, h2⟩ := h
    exact ⟨v, r, e, Rep.mono l h1, RepF.mono l h2⟩
end

/-- the heap is as it was at these places -/
def At (l : List Addr) (H H' : Hp) : Prop := ∀ a ∈ l, H' a = H a
theorem At.left {l m : List Addr} (h : At (l ++ m) H H') : At l H H' := fun a ha => h a (List.mem_append_left _ ha)
theorem At.right {l m : List Addr} (h : At (l ++ m) H H') : At m H H' := fun a ha => h a (List.mem_append_right _ ha)
theorem At.head {a : Addr} {l : List Addr} (h : At (a :: l) H H') : H' a = H a := h a List.mem_cons_self
theorem At.tail {a : Addr} {l : List Addr} (h : At (a :: l) H H') : At l H H' := fun b hb => h b (List.mem_cons_of_mem _ hb)
theorem DctOf.keep {a : Addr} {ks : List (D × V)} (h : DctOf H a ks) (e : H' a = H a) : DctOf H' a ks := by
  obtain ⟨k, h1, h2⟩ := h
  exact ⟨k, e.trans h1, h2⟩
mutual
theorem Own.mono (le : Le G G') : ∀ {d : D} {t : T} {v : V} {l : List Addr}, Own K B G H d t v l → At l H H' → Own K B G' H' d t v l
  | .non, _, _, _, h, _ => by simp only [Own] at h ⊢; exact h
  | .bl _, _, _, _, h, _ => by simp only [Own] at h ⊢; exact h
  | .int _, _, _, _, h, _ => by simp only [Own] at h ⊢; exact h
  | .str _, _, _, _, h, _ => by simp only [Own] at h ⊢; exact h
  | .raw _, _, _, _, h, _ => by simp only [Own] at h ⊢; exact h
  | .tup ds, _, _, _, h, _ => by simp only [Own] at h ⊢; exact ⟨h.1.mono le, h.2⟩
  | .scr _, _, _, _, h, _ => by simp only [Own] at h ⊢; exact ⟨h.1.mono le, h.2⟩
  | .lst ds, t, v, l, h, k => by
    cases t with
    | L t' =>
      simp only [Own] at h ⊢
      obtain ⟨a, vs, l', e, ha, el, r⟩ := h
      subst el
      exact ⟨a, vs, l', e, k.head.trans ha, rfl, Owns.mono le r k.tail⟩
    | _ => simp only [Own] at h ⊢; exact ⟨h.1.mono le, h.2⟩
  | .dct kvs, t, v, l, h, k => by
    cases t with
    | M t' =>
      simp only [Own] at h ⊢
      obtain ⟨a, ks, l', e, ha, el, r⟩ := h
      subst el
      exact ⟨a, ks, l', e, ha.keep k.head, rfl, OwnP.mono le r k.tail⟩
    | _ => simp only [Own] at h ⊢; exact ⟨h.1.mono le, h.2⟩
  | .obj c fs, t, v, l, h, k => by
    cases t with
    | R ts =>
      simp only [Own] at h ⊢
      obtain ⟨a, dx, vs, l', e, ha, el, r⟩ := h
      subst el
      exact ⟨a, dx, vs, l', e, k.head.trans ha, rfl, OwnF.mono le r k.tail⟩
    | _ => simp only [Own] at h ⊢; exact ⟨h.1.mono le, h.2⟩
theorem Owns.mono (le : Le G G') : ∀ {ds : List D} {t : T} {vs : List V} {l : List Addr}, Owns K B G H ds t vs l → At l H H' → Owns K B G' H' ds t vs l
  | [], _, _, _, h, _ => by simp only [Owns] at h ⊢; exact h
  | d :: ds, t, vs, l, h, k => by
    simp only [Owns] at h ⊢
    obtain ⟨v, r, l1, l2, e, el, h1, h2⟩ := h
    subst el
    exact ⟨v, r, l1, l2, e, rfl, Own.mono le h1 k.left, Owns.mono le h2 k.right⟩
theorem OwnP.mono (le : Le G G') : ∀ {ds : List (D × D)} {t : T} {vs : List (D × V)} {l : List Addr}, OwnP K B G H ds t vs l → At l H H' → OwnP K B G' H' ds t vs l
  | [], _, _, _, h, _ => by simp only [OwnP] at h ⊢; exact h
  | (k', d) :: ds, t, vs, l, h, k => by
    simp only [OwnP] at h ⊢
    obtain ⟨v, r, l1, l2, e, el, h1, h2⟩ := h
    subst el
    exact ⟨v, r, l1, l2, e, rfl, Own.mono le h1 k.left, OwnP.mono le h2 k.right⟩
theorem OwnF.mono (le : Le G G') : ∀ {ds : List (Nat × D)} {t : List T} {vs : List (Str × V)} {l : List Addr}, OwnF K B G H ds t vs l → At l H H' → OwnF K B G' H' ds t vs l
  | [], _, _, _, h, _ => by simp only [OwnF] at h ⊢; exact h
  | (k', d) :: ds, t, vs, l, h, k => by
    simp only [OwnF] at h ⊢
    obtain ⟨v, r, l1, l2, e, el, h1, h2⟩ := h
    subst el
    exact ⟨v, r, l1, l2, e, rfl, Own.mono le h1 k.left, OwnF.mono le h2 k.right⟩
end
mutual
/-- what is owned stands in the heap -/
theorem Own.there : ∀ {d : D} {t : T} {v : V} {l : List Addr}, Own K B G H d t v l → ∀ a ∈ l, ∃ o, H a = some o
  | .non, _, _, _, h, a, ha => by simp only [Own] at h; rw [h.2] at ha; cases ha
  | .bl _, _, _, _, h, a, ha => by simp only [Own] at h; rw [h.2] at ha; cases ha
  | .int _, _, _, _, h, a, ha => by simp only [Own] at h; rw [h.2] at ha; cases ha
  | .str _, _, _, _, h, a, ha => by simp only [Own] at h; rw [h.2] at ha; cases ha
  | .raw _, _, _, _, h, a, ha => by simp only [Own] at h; rw [h.2] at ha; cases ha
  | .tup ds, _, _, _, h, a, ha => by simp only [Own] at h; rw [h.2] at ha; cases ha
  | .scr _, _, _, _, h, a, ha => by simp only [Own] at h; rw [h.2] at ha; cases ha
  | .lst ds, t, v, l, h, b, hb => by
    cases t with
    | L t' =>
      simp only [Own] at h
      obtain ⟨a, vs, l', e, ha, el, r⟩ := h
      subst el
      rcases List.mem_cons.mp hb with q | q
      · exact ⟨_, q ▸ ha⟩
      · exact Owns.there r b q
    | _ => simp only [Own] at h; rw [h.2] at hb; cases hb
  | .dct kvs, t, v, l, h, b, hb => by
    cases t with
    | M t' =>
      simp only [Own] at h
      obtain ⟨a, ks, l', e, ⟨_, ha, _⟩, el, r⟩ := h
      subst el
      rcases List.mem_cons.mp hb with q | q
      · exact ⟨_, q ▸ ha⟩
      · exact OwnP.there r b q
    | _ => simp only [Own] at h; rw [h.2] at hb; cases hb
  | .obj c fs, t, v, l, h, b, hb => by
    cases t with
    | R ts =>
      simp only [Own] at h
      obtain ⟨a, dx, vs, l', e, ha, el, r⟩ := h
      subst el
      rcases List.mem_cons.mp hb with q | q
      · exact ⟨_, q ▸ ha⟩
      · exact OwnF.there r b q
    | _ => simp only [Own] at h; rw [h.2] at hb; cases hb
theorem Owns.there : ∀ {ds : List D} {t : T} {vs : List V} {l : List Addr}, Owns K B G H ds t vs l → ∀ a ∈ l, ∃ o, H a = some o
  | [], _, _, _, h, a, ha => by simp only [Owns] at h; rw [h.2] at ha; cases ha
  | d :: ds, t, vs, l, h, a, ha => by
    simp only [Owns] at h
    obtain ⟨v, r, l1, l2, e, el, h1, h2⟩ := h
    subst el
    rcases List.mem_append.mp ha with q | q
    · exact Own.there h1 a q
    · exact Owns.there h2 a q
theorem OwnP.there : ∀ {ds : List (D × D)} {t : T} {vs : List (D × V)} {l : List Addr}, OwnP K B G H ds t vs l → ∀ a ∈ l, ∃ o, H a = some o
  | [], _, _, _, h, a, ha => by simp only [OwnP] at h; rw [h.2] at ha; cases ha
  | (k, d) :: ds, t, vs, l, h, a, ha => by
    simp only [OwnP] at h
    obtain ⟨v, r, l1, l2, e, el, h1, h2⟩ := h
    subst el
    rcases List.mem_append.mp ha with q | q
    · exact Own.there h1 a q
    · exact OwnP.there h2 a q
theorem OwnF.there : ∀ {ds : List (Nat × D)} {t : List T} {vs : List (Str × V)} {l : List Addr}, OwnF K B G H ds t vs l → ∀ a ∈ l, ∃ o, H a = some o
  | [], _, _, _, h, a, ha => by simp only [OwnF] at h; rw [h.2] at ha; cases ha
  | (k, d) :: ds, t, vs, l, h, a, ha => by
    simp only [OwnF] at h
    obtain ⟨v, r, l1, l2, e, el, h1, h2⟩ := h
    subst el
    rcases List.mem_append.mp ha with q | q
    · exact Own.there h1 a q
    · exact OwnF.there h2 a q
end
mutual
/-- what is owned, read over a heap that says no less than the shared part and the owned places -/
theorem Own.rep (le : Le G G') : ∀ {d : D} {t : T} {v : V} {l : List Addr}, Own K B G H d t v l → At l H G' → Rep K B G' d v
  | .non, _, _, _, h, _ => by simp only [Own] at h; simp only [Rep]; exact h.1
  | .bl _, _, _, _, h, _ => by simp only [Own] at h; simp only [Rep]; exact h.1
  | .int _, _, _, _, h, _ => by simp only [Own] at h; simp only [Rep]; exact h.1
  | .str _, _, _, _, h, _ => by simp only [Own] at h; simp only [Rep]; exact h.1
  | .raw _, _, _, _, h, _ => by simp only [Own] at h; simp only [Rep]; exact h.1
  | .tup ds, _, _, _, h, _ => by simp only [Own] at h; exact h.1.mono le
  | .scr _, _, _, _, h, _ => by simp only [Own] at h; exact h.1.mono le
  | .lst ds, t, v, l, h, k => by
    cases t with
    | L t' =>
      simp only [Own] at h
      obtain ⟨a, vs, l', e, ha, el, r⟩ := h
      subst el
      simp only [Rep]
      exact ⟨a, vs, e, k.head.trans ha, Owns.rep le r k.tail⟩
    | _ => simp only [Own] at h; exact h.1.mono le
  | .dct kvs, t, v, l, h, k => by
    cases t with
    | M t' =>
      simp only [Own] at h
      obtain ⟨a, ks, l', e, ha, el, r⟩ := h
      subst el
      simp only [Rep]
      exact ⟨a, ks, e, (ha.keep k.head).at, OwnP.rep le r k.tail⟩
    | _ => simp only [Own] at h; exact h.1.mono le
  | .obj c fs, t, v, l, h, k => by
    cases t with
    | R ts =>
      simp only [Own] at h
      obtain ⟨a, dx, vs, l', e, ha, el, r⟩ := h
      subst el
      simp only [Rep]
      exact ⟨a, dx, vs, e, k.head.trans ha, OwnF.rep le r k.tail⟩
    | _ => simp only [Own] at h; exact h.1.mono le
theorem Owns.rep (le : Le G G') : ∀ {ds : List D} {t : T} {vs : List V} {l : List Addr}, Owns K B G H ds t vs l → At l H G' → Reps K B G' ds vs
  | [], _, _, _, h, _ => by simp only [Owns] at h; simp only [Reps]; exact h.1
  | d :: ds, t, vs, l, h, k => by
    simp only [Owns] at h
    obtain ⟨v, r, l1, l2, e, el, h1, h2⟩ := h
    subst el
    simp only [Reps]
    exact ⟨v, r, e, Own.rep le h1 k.left, Owns.rep le h2 k.right⟩
theorem OwnP.rep (le : Le G G') : ∀ {ds : List (D × D)} {t : T} {vs : List (D × V)} {l : List Addr}, OwnP K B G H ds t vs l → At l H G' → RepP K B G' ds vs
  | [], _, _, _, h, _ => by simp only [OwnP] at h; simp only [RepP]; exact h.1
  | (k', d) :: ds, t, vs, l, h, k => by
    simp only [OwnP] at h
    obtain ⟨v, r, l1, l2, e, el, h1, h2⟩ := h
    subst el
    simp only [RepP]
    exact ⟨v, r, e, Own.rep le h1 k.left, OwnP.rep le h2 k.right⟩
theorem OwnF.rep (le : Le G G') : ∀ {ds : List (Nat × D)} {t : List T} {vs : List (Str × V)} {l : List Addr}, OwnF K B G H ds t vs l → At l H G' → RepF K B G' ds vs
  | [], _, _, _, h, _ => by simp only [OwnF] at h; simp only [RepF]; exact h.1
  | (k', d) :: ds, t, vs, l, h, k => by
    simp only [OwnF] at h
    obtain ⟨v, r, l1, l2, e, el, h1, h2⟩ := h
    subst el
    simp only [RepF]
    exact ⟨v, r, e, Own.rep le h1 k.left, OwnF.rep le h2 k.right⟩
end
end

/-! ### resources -/
abbrev Rs := T × D × V
section
variable (K : PySem.W.Frag) (B : Tb)
def OwnAll (G H : Hp) : List Rs → List Addr → Prop
  | [], l => l = []
  | (t, d, v) :: r, l => ∃ l1 l2, l = l1 ++ l2 ∧ Own K B G H d t v l1 ∧ OwnAll G H r l2
/-- what is said of the heap: the shared part G of H, and of the rest every resource its own places -/
def Okx (G H : Hp) (xs : List Rs) : Prop := Le G H ∧ ∃ l, OwnAll K B G H xs l ∧ l.Nodup ∧ ∀ a ∈ l, G a = none
end
section
variable {K : PySem.W.Frag} {B : Tb} {G G' H H' : Hp}
theorem OwnAll.mono (le : Le G G') : ∀ {xs : List Rs} {l : List Addr}, OwnAll K B G H xs l → At l H H' → OwnAll K B G' H' xs l
  | [], _, h, _ => h
  | (t, d, v) :: r, _, ⟨l1, l2, e, h1, h2⟩, k => by
    subst e
    exact ⟨l1, l2, rfl, h1.mono le k.left, OwnAll.mono le h2 k.right⟩
theorem OwnAll.there : ∀ {xs : List Rs} {l : List Addr}, OwnAll K B G H xs l → ∀ a ∈ l, ∃ o, H a = some o
  | [], _, h, a, ha => by rw [show _ = [] from h] at ha; cases ha
  | (t, d, v) :: r, _, ⟨l1, l2, e, h1, h2⟩, a, ha => by
    subst e
    rcases List.mem_append.mp ha with q | q
    · exact h1.there a q
    · exact OwnAll.there h2 a q
theorem OwnAll.perm {xs ys : List Rs} (p : xs.Perm ys) : ∀ {l : List Addr}, OwnAll K B G H xs l → ∃ m, OwnAll K B G H ys m ∧ l.Perm m := by
  induction p with
  | nil => intro l h; exact ⟨l, h, .refl _⟩
  | cons x _ ih =>
    obtain ⟨t, d, v⟩ := x
    rintro l ⟨l1, l2, e, h1, h2⟩
    obtain ⟨m, h3, q⟩ := ih h2
    exact ⟨l1 ++ m, ⟨l1, m, rfl, h1, h3⟩, e ▸ List.Perm.append_left _ q⟩
  | swap x y r =>
    obtain ⟨t, d, v⟩ := x
    obtain ⟨t', d', v'⟩ := y
    rintro l ⟨l1, l2, e, h1, l3, l4, e2, h2, h3⟩
    subst e e2
    refine ⟨l3 ++ (l1 ++ l4), ⟨l3, _, rfl, h2, l1, l4, rfl, h1, h3⟩, ?_⟩
    rw [← List.append_assoc, ← List.append_assoc]
    exact List.Perm.append_right _ List.perm_append_comm
  | trans _ _ ih1 ih2 =>
    intro l h
    obtain ⟨m, h1, q1⟩ := ih1 h
    obtain ⟨m', h2, q2⟩ := ih2 h1
    exact ⟨m', h2, q1.trans q2⟩
theorem OwnAll.append : ∀ {xs ys : List Rs} {l m : List Addr}, OwnAll K B G H xs l → OwnAll K B G H ys m → OwnAll K B G H (xs ++ ys) (l ++ m)
  | [], ys, _, m, h, h2 => by rw [show _ = [] from h]; exact h2
  | (t, d, v) :: r, ys, _, m, ⟨l1, l2, e, h1, h2⟩, h3 => by
    subst e
    exact ⟨l1, l2 ++ m, by rw [List.append_assoc], h1, OwnAll.append h2 h3⟩
theorem OwnAll.split : ∀ {xs ys : List Rs} {l : List Addr}, OwnAll K B G H (xs ++ ys) l → ∃ l1 l2, l = l1 ++ l2 ∧ OwnAll K B G H xs l1 ∧ OwnAll K B G H ys l2
  | [], ys, l, h => ⟨[], l, rfl, rfl, h⟩
  | (t, d, v) :: r, ys, _, ⟨l1, l2, e, h1, h2⟩ => by
    obtain ⟨m1, m2, e2, h3, h4⟩ := OwnAll.split h2
    subst e e2
    exact ⟨l1 ++ m1, m2, by rw [List.append_assoc], ⟨l1, m1, rfl, h1, h3⟩, h4⟩

theorem Okx.le {xs : List Rs} (h : Okx K B G H xs) : Le G H := h.1
theorem Okx.perm {xs ys : List Rs} (h : Okx K B G H xs) (p : xs.Perm ys) : Okx K B G H ys := by
  obtain ⟨le, l, h1, nd, dj⟩ := h
  obtain ⟨m, h2, q⟩ := h1.perm p
  exact ⟨le, m, h2, q.nodup nd, fun a ha => dj a (q.mem_iff.mpr ha)⟩
theorem Okx.tail {x : Rs} {xs : List Rs} (h : Okx K B G H (x :: xs)) : Okx K B G H xs := by
  obtain ⟨t, d, v⟩ := x
  obtain ⟨le, l, ⟨l1, l2, e, h1, h2⟩, nd, dj⟩ := h
  subst e
  exact ⟨le, l2, h2, (List.nodup_append.mp nd).2.1, fun a ha => dj a (List.mem_append_right _ ha)⟩
theorem Okx.drop {xs ys : List Rs} (h : Okx K B G H (xs ++ ys)) : Okx K B G H ys := by
  induction xs with
  | nil => exact h
  | cons x r ih => exact ih h.tail
theorem Okx.head {t : T} {d : D} {v : V} {xs : List Rs} (h : Okx K B G H ((t, d, v) :: xs)) : ∃ l, Own K B G H d t v l := by
  obtain ⟨le, l, ⟨l1, l2, e, h1, h2⟩, nd, dj⟩ := h
  exact ⟨l1, h1⟩
/-- read over the whole heap -/
theorem Own.see (le : Le G H) {d : D} {t : T} {v : V} {l : List Addr} (h : Own K B G H d t v l) : Rep K B H d v := h.rep le fun _ _ => rfl
theorem Okx.see {t : T} {d : D} {v : V} {xs : List Rs} (h : Okx K B G H ((t, d, v) :: xs)) : Rep K B H d v := by
  obtain ⟨l, q⟩ := h.head
  exact q.see h.le
/-- a resource that owns nothing may be added -/
theorem Okx.add {t : T} {d : D} {v : V} {xs : List Rs} (h : Okx K B G H xs) (q : Own K B G H d t v []) : Okx K B G H ((t, d, v) :: xs) := by
  obtain ⟨le, l, h1, nd, dj⟩ := h
  exact ⟨le, l, ⟨[], l, rfl, q, h1⟩, nd, dj⟩
theorem Rep.own {d : D} {v : V} (h : Rep K B G d v) : Own K B G H d .F v [] := by
  cases d <;> simp only [Own, Rep] at h ⊢ <;> exact ⟨h, trivial⟩
theorem Own.repF {d : D} {v : V} {l : List Addr} (h : Own K B G H d .F v l) : Rep K B G d v ∧ l = [] := by
  cases d <;> simp only [Own, Rep] at h ⊢ <;> exact h
theorem Okx.addF {d : D} {v : V} {xs : List Rs} (h : Okx K B G H xs) (q : Rep K B G d v) : Okx K B G H ((.F, d, v) :: xs) := h.add q.own
theorem Okx.headF {d : D} {v : V} {xs : List Rs} (h : Okx K B G H ((.F, d, v) :: xs)) : Rep K B G d v := by
  obtain ⟨l, q⟩ := h.head
  exact q.repF.1
/-- a resource is shared: its places go to the shared part -/
theorem Okx.freeze {t : T} {d : D} {v : V} {xs : List Rs} (h : Okx K B G H ((t, d, v) :: xs)) : ∃ G', Le G G' ∧ Okx K B G' H ((.F, d, v) :: xs) := by
  obtain ⟨le, l, ⟨l1, l2, e, h1, h2⟩, nd, dj⟩ := h
  subst e
  have nd' := List.nodup_append.mp nd
  refine ⟨fun a => if a ∈ l1 then H a else G a, ?_, ?_, l2, ⟨[], l2, rfl, Rep.own (h1.rep ?_ ?_), h2.mono ?_ fun _ _ => rfl⟩, nd'.2.1, fun a ha => ?_⟩
  · intro a o ha
    show (if a ∈ l1 then H a else G a) = some o
    split
    · exact le _ _ ha
    · exact ha
  · intro a o ha
    have ha : (if a ∈ l1 then H a else G a) = some o := ha
    split at ha
    · exact ha
    · exact le _ _ ha
  · intro a o ha
    show (if a ∈ l1 then H a else G a) = some o
    split
    · exact le _ _ ha
    · exact ha
  · intro a ha
    show (if a ∈ l1 then H a else G a) = H a
    rw [if_pos ha]
  · intro a o ha
    show (if a ∈ l1 then H a else G a) = some o
    split
    · exact le _ _ ha
    · exact ha
  · show (if a ∈ l1 then H a else G a) = none
    rw [if_neg (fun q => nd'.2.2 a q a ha rfl)]
    exact dj a (List.mem_append_right _ ha)
/-- all resources at the head are shared -/
theorem Okx.freezes {xs : List Rs} : ∀ {ys : List Rs} {G : Hp}, Okx K B G H (ys ++ xs) → ∃ G', Le G G' ∧ Okx K B G' H (ys.map (fun y => (T.F, y.2)) ++ xs)
  | [], G, h => ⟨G, .refl, h⟩
  | (t, d, v) :: r, G, h => by
    obtain ⟨G1, l1, h1⟩ := Okx.freeze h
    have h2 := h1.perm (ys := r ++ ((.F, d, v) :: xs)) (List.perm_middle.symm)
    obtain ⟨G2, l2, h3⟩ := Okx.freezes h2
    exact ⟨G2, l1.trans l2, h3.perm List.perm_middle⟩
theorem Okx.mono {xs : List Rs} (h : Okx K B G H xs) (le : Le G H') (k : ∀ a o, H a = some o → G a = none → H' a = H a) : Okx K B G H' xs := by
  obtain ⟨_, l, h1, nd, dj⟩ := h
  refine ⟨le, l, h1.mono .refl fun a ha => ?_, nd, dj⟩
  obtain ⟨o, ho⟩ := h1.there a ha
  exact k a o ho (dj a ha)
/-- the heap has grown -/
theorem Okx.grow {xs : List Rs} (h : Okx K B G H xs) (k : Le H H') : Okx K B G H' xs :=
  h.mono (h.le.trans k) fun a o ho _ => by rw [ho]; exact k _ _ ho
theorem Okx.new {xs : List Rs} {p : Addr} (h : Okx K B G H xs) (hp : H p = none) : G p = none := by
  cases e : G p with
  | none => rfl
  | some u => rw [h.le _ _ e] at hp; cases hp
/-- a shared object is laid -/
theorem Okx.layF {xs : List Rs} {p : Addr} {o : HO} (h : Okx K B G H xs) (hp : H p = none) : Le G (upd G p o) ∧ Okx K B (upd G p o) (upd H p o) xs := by
  have gp := h.new hp
  obtain ⟨le, l, h1, nd, dj⟩ := h
  have np : ∀ a ∈ l, a ≠ p := fun a ha => by
    obtain ⟨u, hu⟩ := h1.there a ha
    exact ne_of_none hu hp
  exact ⟨.upd gp, le.upd2, l, h1.mono (.upd gp) fun a ha => upd_ne (np a ha), nd, fun a ha => by rw [upd_ne (np a ha)]; exact dj a ha⟩
/-- an object is laid that is owned, of what is owned -/
theorem Okx.layO {xs ys : List Rs} {p : Addr} {o : HO} {t : T} {d : D} {v : V} (h : Okx K B G H (ys ++ xs)) (hp : H p = none)
    (k : ∀ (G' H' : Hp) (l : List Addr), Le G G' → H' p = some o → OwnAll K B G' H' ys l → ∃ m, Own K B G' H' d t v m ∧ (p :: l).Perm m) : Okx K B G (upd H p o) ((t, d, v) :: xs) := by
  have gp := h.new hp
  obtain ⟨le, l, h1, nd, dj⟩ := h
  have np : ∀ a ∈ l, a ≠ p := fun a ha => by
    obtain ⟨u, hu⟩ := h1.there a ha
    exact ne_of_none hu hp
  have h2 : OwnAll K B G (upd H p o) (ys ++ xs) l := h1.mono .refl fun a ha => upd_ne (np a ha)
  obtain ⟨l1, l2, e, h3, h4⟩ := h2.split
  subst e
  obtain ⟨m, h5, q⟩ := k G (upd H p o) l1 .refl upd_same h3
  have q2 : (p :: (l1 ++ l2)).Perm (m ++ l2) := List.Perm.append_right l2 q
  refine ⟨le.updR gp, m ++ l2, ⟨m, l2, rfl, h5, h4⟩, q2.nodup (List.nodup_cons.mpr ⟨fun z => np p z rfl, nd⟩), fun a ha => ?_⟩
  rcases List.mem_cons.mp (q2.mem_iff.mpr ha) with z | z
  · rw [z]; exact gp
  · exact dj a z
/-- an owned object is changed: what stood before, with what is put in, makes what stands behind, with what is let go -/
theorem Okx.write {xs ys zs : List Rs} {p : Addr} {o : HO} (h : Okx K B G H (ys ++ xs)) 
    (k : ∀ (l : List Addr), OwnAll K B G H ys l → l.Nodup → p ∈ l ∧ ∃ m l', OwnAll K B G (upd H p o) zs m ∧ l.Perm (m ++ l')) : Okx K B G (upd H p o) (zs ++ xs) := by
  obtain ⟨le, l, h1, nd, dj⟩ := h
  obtain ⟨l1, l2, e, h3, h4⟩ := h1.split
  subst e
  have nd1 := List.nodup_append.mp nd
  obtain ⟨hp, m, l', h5, q⟩ := k l1 h3 nd1.1
  have h6 : OwnAll K B G (upd H p o) xs l2 := h4.mono .refl fun a ha => upd_ne fun z => nd1.2.2 p hp a ha z.symm
  have q2 : (l1 ++ l2).Perm (m ++ l' ++ l2) := List.Perm.append_right l2 q
  have nd2 := q2.nodup nd
  have gp : G p = none := dj p (List.mem_append_left _ hp)
  refine ⟨le.updR gp, m ++ l2, h5.append h6, ?_, fun a ha => dj a (q2.mem_iff.mpr ?_)⟩
  · rw [List.append_assoc] at nd2
    exact nd2.sublist (List.Sublist.append_left (List.sublist_append_right _ _) _)
  · rcases List.mem_append.mp ha with z | z
    · exact List.mem_append_left _ (List.mem_append_left _ z)
    · exact List.mem_append_right _ z
end
end PF
namespace PF
open PySem L2

/-! ### the semantics: results -/
abbrev Env := List (Option TD)
/-- a result: an answer and the names behind it; an exception of the class c with attributes; or no word -/
inductive R (α : Type) where
  | ok (a : α) (ρ : Env)
  | exc (c : Nat) (fs : List (Nat × D)) (ρ : Env)
  | stuck
def R.bind {α β : Type} (r : R α) (k : α → Env → R β) : R β := match r with
  | .ok a ρ => k a ρ
  | .exc c fs ρ => .exc c fs ρ
  | .stuck => .stuck
def R.wp {α : Type} (r : R α) (Q : α → Env → Prop) (E : Nat → List (Nat × D) → Env → Prop) : Prop := match r with
  | .ok a ρ => Q a ρ
  | .exc c fs ρ => E c fs ρ
  | .stuck => False
theorem R.wp_bind {α β : Type} {r : R α} {k : α → Env → R β} {Q : β → Env → Prop} {E : Nat → List (Nat × D) → Env → Prop} :
    (r.bind k).wp Q E = r.wp (fun a ρ => (k a ρ).wp Q E) E := by
  cases r <;> rfl
theorem R.wp_mono {α : Type} {r : R α} {Q Q' : α → Env → Prop} {E E' : Nat → List (Nat × D) → Env → Prop} (h : r.wp Q E) (q : ∀ a ρ, Q a ρ → Q' a ρ) (e : ∀ c fs ρ, E c fs ρ → E' c fs ρ) : r.wp Q' E' := by
  cases r with
  | ok a ρ => exact q _ _ h
  | exc c fs ρ => exact e _ _ _ h
  | stuck => exact h

/-! ### the frame's names as resources -/
def ent (sv : Option V) (r : Option TD) : Rs := match r, sv with
  | some (t, d), some v => (t, d, v)
  | _, _ => (.F, .non, .non)
def ents (σ : St) (ρ : Env) : List Rs := List.zipWith ent σ ρ
section
variable (K : PySem.W.Frag) (B : Tb)
/-- the names' values are what the trees say; κ: what else is held; pv: names that keep their value (an argument that is lent) -/
structure StOk (G H : Hp) (σ : St) (ρ : Env) (κ : List Rs) (pv : List (Nat × V)) : Prop where
  len : σ.length = ρ.length
  val : ∀ (i : Nat) (t : T) (d : D), ρ[i]? = some (some (t, d)) → ∃ v, σ[i]? = some (some v)
  ok : Okx K B G H (ents σ ρ ++ κ)
  pvs : ∀ p ∈ pv, σ[p.1]? = some (some p.2)
end
section
variable {K : PySem.W.Frag} {B : Tb} {G G' H H' : Hp} {σ : St} {ρ : Env} {κ κ' : List Rs} {pv : List (Nat × V)}
theorem StOk.le (h : StOk K B G H σ ρ κ pv) : Le G H := h.ok.le
/-- the names stay, what is held besides changes -/
theorem StOk.with {G' H' : Hp} (h : StOk K B G H σ ρ κ pv) (o : Okx K B G' H' (ents σ ρ ++ κ')) : StOk K B G' H' σ ρ κ' pv := ⟨h.len, h.val, o, h.pvs⟩
theorem StOk.rot {ys : List Rs} (h : StOk K B G H σ ρ (ys ++ κ) pv) : Okx K B G H (ys ++ (ents σ ρ ++ κ)) :=
  h.ok.perm (by rw [← List.append_assoc, ← List.append_assoc]; exact List.perm_append_comm.append_right κ)
theorem Okx.unrot {E ys : List Rs} (h : Okx K B G H (ys ++ (E ++ κ))) : Okx K B G H (E ++ (ys ++ κ)) :=
  h.perm (by rw [← List.append_assoc, ← List.append_assoc]; exact List.perm_append_comm.append_right κ)
theorem StOk.swap {ys zs : List Rs} (h : StOk K B G H σ ρ (ys ++ κ) pv) (k : Okx K B G H (ys ++ (ents σ ρ ++ κ)) → Okx K B G' H' (zs ++ (ents σ ρ ++ κ))) : StOk K B G' H' σ ρ (zs ++ κ) pv :=
  h.with (k h.rot).unrot
theorem StOk.drop {ys : List Rs} (h : StOk K B G H σ ρ (ys ++ κ) pv) : StOk K B G H σ ρ κ pv := h.with (h.rot.drop)
theorem StOk.tail {y : Rs} (h : StOk K B G H σ ρ (y :: κ) pv) : StOk K B G H σ ρ κ pv := h.drop (ys := [y])
theorem StOk.permK (h : StOk K B G H σ ρ κ pv) (p : κ.Perm κ') : StOk K B G H σ ρ κ' pv := h.with (h.ok.perm (p.append_left _))
theorem StOk.addF {d : D} {v : V} (h : StOk K B G H σ ρ κ pv) (q : Rep K B G d v) : StOk K B G H σ ρ ((.F, d, v) :: κ) pv :=
  h.with (Okx.unrot (ys := [(T.F, d, v)]) (h.ok.addF q))
theorem StOk.grow (h : StOk K B G H σ ρ κ pv) (k : Le H H') : StOk K B G H' σ ρ κ pv := h.with (h.ok.grow k)
theorem StOk.head {t : T} {d : D} {v : V} (h : StOk K B G H σ ρ ((t, d, v) :: κ) pv) : ∃ l, Own K B G H d t v l := (h.rot (ys := [(t, d, v)])).head
theorem StOk.headF {d : D} {v : V} (h : StOk K B G H σ ρ ((.F, d, v) :: κ) pv) : Rep K B G d v := (h.rot (ys := [(.F, d, v)])).headF
theorem StOk.see {t : T} {d : D} {v : V} (h : StOk K B G H σ ρ ((t, d, v) :: κ) pv) : Rep K B H d v := (h.rot (ys := [(t, d, v)])).see
theorem StOk.freeze {t : T} {d : D} {v : V} (h : StOk K B G H σ ρ ((t, d, v) :: κ) pv) : ∃ G', Le G G' ∧ StOk K B G' H σ ρ ((.F, d, v) :: κ) pv := by
  obtain ⟨G', l, o⟩ := (h.rot (ys := [(t, d, v)])).freeze
  exact ⟨G', l, h.with (Okx.unrot (ys := [(T.F, d, v)]) o)⟩
theorem StOk.freezes {ys : List Rs} (h : StOk K B G H σ ρ (ys ++ κ) pv) : ∃ G', Le G G' ∧ StOk K B G' H σ ρ (ys.map (fun y => (T.F, y.2)) ++ κ) pv := by
  obtain ⟨G', l, o⟩ := h.rot.freezes
  exact ⟨G', l, h.with o.unrot⟩
theorem ents_at : ∀ {σ : St} {ρ : Env} {i : Nat} {t : T} {d : D} {v : V}, ρ[i]? = some (some (t, d)) → σ[i]? = some (some v) → (ents σ ρ)[i]? = some (t, d, v) := by
  intro σ ρ i t d v h1 h2
  unfold ents
  rw [List.getElem?_zipWith, h1, h2]
  rfl
/-- a name's resource is taken to the front -/
theorem perm_front {α : Type} {l : List α} {i : Nat} {x : α} (h : l[i]? = some x) : l.Perm (x :: l.eraseIdx i) := by
  induction l generalizing i with
  | nil => cases h
  | cons a l ih => cases i with
    | zero =>
      simp only [List.getElem?_cons_zero, Option.some.injEq] at h
      subst h
      exact .refl _
    | succ i =>
      simp only [List.getElem?_cons_succ] at h
      simp only [List.eraseIdx_cons_succ]
      exact ((ih h).cons a).trans (List.Perm.swap _ _ _)
theorem set_perm {α : Type} : ∀ {l : List α} {i : Nat} (x : α), i < l.length → (l.set i x).Perm (x :: l.eraseIdx i)
  | [], i, x, h => by cases h
  | a :: l, 0, x, h => by simp
  | a :: l, i + 1, x, h => by
    simp only [List.set_cons_succ, List.eraseIdx_cons_succ]
    exact ((set_perm x (Nat.lt_of_succ_lt_succ h)).cons a).trans (List.Perm.swap _ _ _)
theorem ents_set {σ : St} {ρ : Env} {i : Nat} (sv : Option V) (r : Option TD) : ents (σ.set i sv) (ρ.set i r) = (ents σ ρ).set i (ent sv r) := by
  unfold ents
  induction σ generalizing ρ i with
  | nil => simp
  | cons a σ ih => cases ρ with
    | nil => simp
    | cons b ρ => cases i with
      | zero => simp
      | succ i => simp [ih]
theorem set_self {α : Type} : ∀ {l : List α} {i : Nat} {x : α}, l[i]? = some x → l.set i x = l := by
  intro l i x h
  obtain ⟨hi, e⟩ := List.getElem?_eq_some_iff.mp h
  subst e
  exact List.set_getElem_self hi
theorem ents_setR {σ : St} {ρ : Env} {i : Nat} {v : V} (r : Option TD) (h : σ[i]? = some (some v)) : ents σ (ρ.set i r) = (ents σ ρ).set i (ent (some v) r) := by
  rw [← ents_set, set_self h]
theorem StOk.lenE (h : StOk K B G H σ ρ κ pv) : (ents σ ρ).length = ρ.length := by
  unfold ents; rw [List.length_zipWith, h.len, Nat.min_self]
/-- a name's resource, to be looked at -/
theorem StOk.at {i : Nat} {t : T} {d : D} (h : StOk K B G H σ ρ κ pv) (e : ρ[i]? = some (some (t, d))) : ∃ v l, σ[i]? = some (some v) ∧ Own K B G H d t v l := by
  obtain ⟨v, hv⟩ := h.val _ _ _ e
  have p := (perm_front (ents_at e hv)).append_right κ
  obtain ⟨l, q⟩ := (h.ok.perm p).head
  exact ⟨v, l, hv, q⟩
/-- the resource of the name i, and what comes of it, in its place -/
theorem StOk.turn {i : Nat} {t t' : T} {d d' : D} {v : V} {ys zs : List Rs} (h : StOk K B G H σ ρ (ys ++ κ) pv) (e : ρ[i]? = some (some (t, d))) (hv : σ[i]? = some (some v))
    (k : ∀ xs, Okx K B G H ((t, d, v) :: ys ++ xs) → Okx K B G' H' ((t', d', v) :: zs ++ xs)) : StOk K B G' H' σ (ρ.set i (some (t', d'))) (zs ++ κ) pv := by
  have hi : i < ρ.length := (List.getElem?_eq_some_iff.mp e).1
  have p := perm_front (ents_at e hv)
  have o : Okx K B G H (((t, d, v) :: ys) ++ ((ents σ ρ).eraseIdx i ++ κ)) := h.ok.perm (by
    refine (p.append_right _).trans ?_
    rw [List.cons_append, List.cons_append, ← List.append_assoc, ← List.append_assoc]
    exact (List.perm_append_comm.append_right κ).cons _)
  have o2 := k _ o
  refine ⟨by simpa using h.len, fun j t1 d1 e1 => ?_, o2.perm ?_, h.pvs⟩
  · by_cases q : j = i
    · subst q; exact ⟨v, hv⟩
    · rw [List.getElem?_set_ne (Ne.symm q)] at e1
      exact h.val _ _ _ e1
  · rw [ents_setR _ hv]
    have p2 : ((ents σ ρ).set i (ent (some v) (some (t', d')))).Perm ((t', d', v) :: (ents σ ρ).eraseIdx i) := set_perm _ (by rw [h.lenE]; exact hi)
    refine List.Perm.symm ((p2.append_right (zs ++ κ)).trans ?_)
    rw [List.cons_append, List.cons_append, ← List.append_assoc, ← List.append_assoc]
    exact (List.perm_append_comm.append_right κ).cons _
/-- a name is stored: the resource at the front goes there, what was there is let go -/
theorem StOk.store {i : Nat} {t : T} {d : D} {v : V} (h : StOk K B G H σ ρ ((t, d, v) :: κ) pv) (hi : i < ρ.length) (hp : ∀ p ∈ pv, p.1 ≠ i) : StOk K B G H (σ.set i (some v)) (ρ.set i (some (t, d))) κ pv := by
  refine ⟨by simpa using h.len, fun j t1 d1 e1 => ?_, ?_, fun p hp' => ?_⟩
  · by_cases q : j = i
    · subst q
      exact ⟨v, List.getElem?_set_self (by rw [h.len]; exact hi)⟩
    · rw [List.getElem?_set_ne (Ne.symm q)] at e1 ⊢
      exact h.val _ _ _ e1
  · rw [ents_set]
    have hl : i < (ents σ ρ).length := by rw [h.lenE]; exact hi
    have p1 : (ents σ ρ).Perm ((ents σ ρ)[i] :: (ents σ ρ).eraseIdx i) := perm_front (List.getElem?_eq_getElem hl)
    have o := h.ok.perm (ys := (ents σ ρ)[i] :: ((t, d, v) :: ((ents σ ρ).eraseIdx i ++ κ))) (by
      refine (p1.append_right _).trans ?_
      rw [List.cons_append]
      exact List.perm_middle.cons _)
    refine o.tail.perm (List.Perm.symm ?_)
    exact ((set_perm (ent (some v) (some (t, d))) hl).append_right κ)
  · rw [List.getElem?_set_ne (Ne.symm (hp p hp'))]
    exact h.pvs p hp'
/-- a name is forgotten -/
theorem StOk.forget {i : Nat} (h : StOk K B G H σ ρ κ pv) : StOk K B G H σ (ρ.set i none) κ pv := by
  by_cases hi : i < ρ.length
  · refine ⟨by simpa using h.len, fun j t1 d1 e1 => ?_, ?_, h.pvs⟩
    · by_cases q : j = i
      · subst q
        rw [List.getElem?_set_self hi] at e1
        cases e1
      · rw [List.getElem?_set_ne (Ne.symm q)] at e1
        exact h.val _ _ _ e1
    · have hs : i < σ.length := by rw [h.len]; exact hi
      have e : ents σ (ρ.set i none) = (ents σ ρ).set i (.F, .non, .non) := by
        have q := ents_set (σ := σ) (ρ := ρ) (i := i) (σ[i]) none
        rw [set_self (List.getElem?_eq_getElem hs)] at q
        rw [q]
        rfl
      rw [e]
      have hl : i < (ents σ ρ).length := by rw [h.lenE]; exact hi
      have p1 : (ents σ ρ).Perm ((ents σ ρ)[i] :: (ents σ ρ).eraseIdx i) := perm_front (List.getElem?_eq_getElem hl)
      have o := (h.ok.perm (p1.append_right κ)).tail
      refine (o.addF (d := .non) (v := .non) (by simp only [Rep])).perm (List.Perm.symm ?_)
      exact (set_perm (T.F, D.non, V.non) hl).append_right κ
  · rw [List.set_eq_of_length_le (by omega)]
    exact h
end
end PF
namespace L2
open PySem
/-- a weaker reading -/
theorem PE.weak {X : Cx} {e : Expr} {t t' : TE} (h : PE X e t) (k : ∀ σ H Q, t' σ H Q → t σ H Q) : PE X e t' := ⟨fun pins s σ H Q I q => h.run pins s σ H Q I (k _ _ _ q)⟩
theorem PT.weak {X : Cx} {e : Expr} {t t' : TT} (h : PT X e t) (k : ∀ σ H Q, t' σ H Q → t σ H Q) : PT X e t' := ⟨fun pins s σ H Q I q => h.run pins s σ H Q I (k _ _ _ q)⟩
theorem PW.weak {X : Cx} {e : Expr} {t t' : TT} (h : PW X e t) (k : ∀ σ H Q, t' σ H Q → t σ H Q) : PW X e t' := ⟨fun w pins s σ H Q I q => h.run w pins s σ H Q I (k _ _ _ q)⟩
theorem PA.weak {X : Cx} {e : List Expr} {t t' : TA} (h : PA X e t) (k : ∀ σ H Q, t' σ H Q → t σ H Q) : PA X e t' := ⟨fun pos pins s σ H Q I q => h.run pos pins s σ H Q I (k _ _ _ q)⟩
theorem PS.weak {X : Cx} {e : Stmt} {t t' : TS} (h : PS X e t) (k : ∀ D σ H, t' D σ H → t D σ H) : PS X e t' := ⟨fun pins s σ H D I q => h.run pins s σ H D I (k _ _ _ q)⟩
theorem PSs.weak {X : Cx} {e : List Stmt} {t t' : TS} (h : PSs X e t) (k : ∀ D σ H, t' D σ H → t D σ H) : PSs X e t' := ⟨fun pins s σ H D I q => h.run pins s σ H D I (k _ _ _ q)⟩

end L2
namespace PF
open PySem L2

/-- an exception of the class c: its class, its attributes in its own dict -/
def ExcIs (K : PySem.W.Frag) (B : Tb) (xc : Nat → Value) (G : Hp) (c : Nat) (fs : List (Nat × D)) (cls : Value) (dO : Option Addr) : Prop :=
  cls = xc c ∧ ((dO = none ∧ fs = []) ∨ ∃ d vs, dO = some d ∧ G d = some (.xd vs) ∧ RepF K B G fs vs)

/-- the text's context for the rules: the class tables -/
structure Ct where
  B : Tb
  xc : Nat → Value
  nn : Nat

def Step (q : Bool) (G H : Hp) (ρ : Env) (G' H' : Hp) (ρ' : Env) : Prop := Le G G' ∧ (q = true → Le H H' ∧ ρ' = ρ)
theorem Step.refl {q : Bool} {G H : Hp} {ρ : Env} : Step q G H ρ G H ρ := ⟨.refl, fun _ => ⟨.refl, rfl⟩⟩
theorem Step.trans {q q' : Bool} {G H G' H' G2 H2 : Hp} {ρ ρ' ρ2 : Env} (a : Step q G H ρ G' H' ρ') (b : Step q' G' H' ρ' G2 H2 ρ2) (hq : q = true → q' = true) : Step q G H ρ G2 H2 ρ2 :=
  ⟨a.1.trans b.1, fun z => ⟨(a.2 z).1.trans (b.2 (hq z)).1, (b.2 (hq z)).2.trans (a.2 z).2⟩⟩

/-- a kind of answers: α as trees, β as values -/
structure Kd (α β : Type) where
  rs : α → β → List Rs
  rel : PySem.W.Frag → Tb → L2.St → α → β → Hp → Hp → Prop
section
variable {α β γ δ : Type}
/-- what is wanted of a part that is left to do: g; tmp: what is held for it -/
def Fin (k : Kd α β) (X : Cx) (C : Ct) (q : Bool) (G0 H0 : Hp) (ρ0 : Env) (σ : L2.St) (H : Hp) (Q : β → Hp → Prop) (P : Hp → Hp → Prop) (tmp : List Rs) (g : Env → R α) : Prop :=
  ∃ (G : Hp) (ρ : Env) (κ : List Rs) (W : WX) (pv : List (Nat × V)), Step q G0 H0 ρ0 G H ρ ∧ P G H ∧ StOk X.K C.B G H σ ρ (tmp ++ κ) pv ∧ Takes X W ∧
    (g ρ).wp (fun a ρ' => ∀ b G' H', k.rel X.K C.B σ a b G' H' → Step q G0 H0 ρ0 G' H' ρ' → StOk X.K C.B G' H' σ ρ' (k.rs a b ++ κ) pv → Q b H')
      (fun c fs ρ' => ∀ cls dO G' H', Le G0 G' → ExcIs X.K C.B C.xc G' c fs cls dO → StOk X.K C.B G' H' σ ρ' κ pv → W cls dO σ H')
def RT (k : Kd α β) (X : Cx) (C : Ct) (q : Bool) (f : Env → R α) : L2.St → Hp → (β → Hp → Prop) → Prop :=
  fun σ H Q => ∃ G0 H0 ρ0, Fin k X C q G0 H0 ρ0 σ H Q (fun _ _ => True) [] f
theorem Fin.bind {k : Kd α β} {ka : Kd γ δ} {X : Cx} {C : Ct} {q qa : Bool} {G0 H0 : Hp} {ρ0 : Env} {σ : L2.St} {H : Hp} {Q : β → Hp → Prop} {P : Hp → Hp → Prop} {tmp : List Rs} {fa : Env → R γ} {g : γ → Env → R α}
    (h : Fin k X C q G0 H0 ρ0 σ H Q P tmp fun ρ => (fa ρ).bind g) (hq : q = true → qa = true) :
    RT ka X C qa fa σ H fun b H1 => ∃ a, Fin k X C q G0 H0 ρ0 σ H1 Q (fun G H => ka.rel X.K C.B σ a b G H) (ka.rs a b ++ tmp) (g a) := by
  obtain ⟨G, ρ, κ, W, pv, st, _, ok, tk, w⟩ := h
  rw [R.wp_bind] at w
  refine ⟨G, H, ρ, G, ρ, tmp ++ κ, W, pv, .refl, trivial, ok, tk, R.wp_mono w (fun a ρ1 w1 => ?_) fun c fs ρ1 w1 => ?_⟩
  · intro b G' H' r st' ok'
    exact ⟨a, G', ρ1, κ, W, pv, st.trans st' hq, r, by rw [List.append_assoc]; exact ok', tk, w1⟩
  · intro cls dO G' H' l x ok'
    exact w1 cls dO G' H' (st.1.trans l) x ok'.drop
theorem RT.fin {k : Kd α β} {X : Cx} {C : Ct} {q : Bool} {σ : L2.St} {H : Hp} {Q : β → Hp → Prop} {f : Env → R α} (h : RT k X C q f σ H Q) : ∃ G0 H0 ρ0, Fin k X C q G0 H0 ρ0 σ H Q (fun _ _ => True) [] f := h
theorem RT.mono {k : Kd α β} {X : Cx} {C : Ct} {q : Bool} {σ : L2.St} {H : Hp} {Q Q' : β → Hp → Prop} {f : Env → R α} (h : RT k X C q f σ H Q) (m : ∀ b H, Q b H → Q' b H) : RT k X C q f σ H Q' := by
  obtain ⟨G0, H0, ρ0, G, ρ, κ, W, pv, st, p, ok, tk, w⟩ := h
  exact ⟨G0, H0, ρ0, G, ρ, κ, W, pv, st, p, ok, tk, R.wp_mono w (fun a ρ' w1 b G' H' r s o => m _ _ (w1 b G' H' r s o)) fun _ _ _ z => z⟩
/-- a first part, then the rest: the form of most rules -/
theorem RT.bind {k : Kd α β} {ka : Kd γ δ} {X : Cx} {C : Ct} {q qa : Bool} {σ : L2.St} {H : Hp} {Q : β → Hp → Prop} {fa : Env → R γ} {g : γ → Env → R α}
    (h : RT k X C q (fun ρ => (fa ρ).bind g) σ H Q) (hq : q = true → qa = true) {Q' : δ → Hp → Prop}
    (m : ∀ a b H1 G0 H0 ρ0, Fin k X C q G0 H0 ρ0 σ H1 Q (fun G H => ka.rel X.K C.B σ a b G H) (ka.rs a b) (g a) → Q' b H1) : RT ka X C qa fa σ H Q' := by
  obtain ⟨G0, H0, ρ0, f⟩ := h
  refine (f.bind (ka := ka) hq).mono fun b H1 ⟨a, z⟩ => m a b H1 G0 H0 ρ0 ?_
  rw [List.append_nil] at z
  exact z
theorem Fin.next {k : Kd α β} {ka : Kd γ δ} {X : Cx} {C : Ct} {q qa : Bool} {G0 H0 : Hp} {ρ0 : Env} {σ : L2.St} {H : Hp} {Q : β → Hp → Prop} {P : Hp → Hp → Prop} {tmp : List Rs} {fa : Env → R γ} {g : γ → Env → R α}
    (h : Fin k X C q G0 H0 ρ0 σ H Q P tmp fun ρ => (fa ρ).bind g) (hq : q = true → qa = true) {Q' : δ → Hp → Prop}
    (m : ∀ a b H1, Fin k X C q G0 H0 ρ0 σ H1 Q (fun G H => ka.rel X.K C.B σ a b G H) (ka.rs a b ++ tmp) (g a) → Q' b H1) : RT ka X C qa fa σ H Q' :=
  (h.bind (ka := ka) hq).mono fun b H1 ⟨a, z⟩ => m a b H1 z
end

/-- a value; a value that is only looked at; a truth; arguments -/
def kE : Kd TD V := ⟨fun td v => [(td.1, td.2, v)], fun _ _ _ _ _ _ _ => True⟩
def kB : Kd TD V := ⟨fun _ _ => [], fun K B _ td v G H => ∃ l, Own K B G H td.2 td.1 v l⟩
def kT : Kd Bool Bool := ⟨fun _ _ => [], fun _ _ _ a b _ _ => a = b⟩
def rsL : List TD → List V → List Rs
  | td :: r, v :: vs => (td.1, td.2, v) :: rsL r vs
  | _, _ => []
def kA : Kd (List TD) (List V) := ⟨rsL, fun _ _ _ tds vs _ _ => tds.length = vs.length⟩
abbrev DE (X : Cx) (C : Ct) (q : Bool) (e : Expr) (f : Env → R TD) : Prop := PE X e (RT kE X C q f)
abbrev DB (X : Cx) (C : Ct) (q : Bool) (e : Expr) (f : Env → R TD) : Prop := PE X e (RT kB X C q f)
abbrev DT (X : Cx) (C : Ct) (q : Bool) (e : Expr) (f : Env → R Bool) : Prop := PT X e (RT kT X C q f)
abbrev DW (X : Cx) (C : Ct) (q : Bool) (e : Expr) (f : Env → R Bool) : Prop := PW X e (RT kT X C q f)
abbrev DA (X : Cx) (C : Ct) (q : Bool) (es : List Expr) (f : Env → R (List TD)) : Prop := PA X es (RT kA X C q f)

/-! ### the combinators: small ones -/
def ret (td : TD) : Env → R TD := fun ρ => .ok td ρ
def retP (d : D) : Env → R TD := fun ρ => .ok (.F, d) ρ
def fC (d : D) : Env → R TD := fun ρ => .ok (.F, d) ρ
def isBox : D → Bool
  | .lst _ => true
  | .dct _ => true
  | .obj _ _ => true
  | _ => false
/-- a name, looked at -/
def bV (i : Nat) : Env → R TD := fun ρ => match ρ[i]? with
  | some (some td) => .ok td ρ
  | _ => .stuck
def isF : T → Bool
  | .F => true
  | _ => false
/-- a name, whose value goes on: what it owned is shared from now on -/
def fV (i : Nat) : Env → R TD := fun ρ => match ρ[i]? with
  | some (some (t, d)) => .ok (.F, d) (if isF t || !isBox d then ρ else ρ.set i (some (.F, d)))
  | _ => .stuck
/-- a name whose value is shared or plain -/
def qV (i : Nat) : Env → R TD := fun ρ => match ρ[i]? with
  | some (some (t, d)) => if isF t || !isBox d then .ok (.F, d) ρ else .stuck
  | _ => .stuck

section
variable {X : Cx} {C : Ct} {q qa qb : Bool} {e a b : Expr} {f fa fb : Env → R TD} {pos : Pos}
variable {K : PySem.W.Frag} {B : Tb} {G H : Hp}
theorem Own.plain {d : D} {t : T} {v : V} {l : List Addr} (h : Own K B G H d t v l) (p : isBox d = false) : Rep K B G d v := by
  cases d <;> simp only [Own, Rep, isBox] at h p ⊢ <;> first | exact h.1 | exact absurd p (by decide)
theorem isF_eq {t : T} (h : isF t = true) : t = .F := by cases t <;> first | rfl | cases h
theorem Own.shared {d : D} {t : T} {v : V} {l : List Addr} (h : Own K B G H d t v l) (p : (isF t || !isBox d) = true) : Rep K B G d v := by
  rcases Bool.or_eq_true_iff.mp p with z | z
  · rw [isF_eq z] at h; exact h.repF.1
  · exact h.plain (by simpa using z)
/-- a value may be looked at -/
theorem DE.db (h : DE X C q e f) : DB X C q e f := h.weak fun σ H Q z => by
  obtain ⟨G0, H0, ρ0, G, ρ, κ, W, pv, st, p, ok, tk, w⟩ := z
  refine ⟨G0, H0, ρ0, G, ρ, κ, W, pv, st, p, ok, tk, R.wp_mono w (fun td ρ' w1 v G' H' _ s o => ?_) fun _ _ _ z => z⟩
  exact w1 v G' H' o.head s o.tail
theorem de_q (h : DE X C true e f) : DE X C q e f := h.weak fun σ H Q z => by
  obtain ⟨G0, H0, ρ0, G, ρ, κ, W, pv, st, p, ok, tk, w⟩ := z
  refine ⟨G, H, ρ, G, ρ, κ, W, pv, .refl, p, ok, tk, R.wp_mono w (fun td ρ' w1 v G' H' r s o => w1 v G' H' r (st.trans ⟨s.1, fun _ => s.2 rfl⟩ fun _ => (rfl : true = true)) o) fun c fs ρ' w1 cls dO G' H' l => w1 cls dO G' H' (st.1.trans l)⟩
theorem de_any (h : DE X C q e f) : DE X C false e f := h.weak fun σ H Q z => by
  obtain ⟨G0, H0, ρ0, G, ρ, κ, W, pv, st, p, ok, tk, w⟩ := z
  refine ⟨G, H, ρ, G, ρ, κ, W, pv, .refl, p, ok, tk, R.wp_mono w (fun td ρ' w1 v G' H' r s o => w1 v G' H' r ⟨st.1.trans s.1, fun z => nomatch z⟩ o) fun c fs ρ' w1 cls dO G' H' l => w1 cls dO G' H' (st.1.trans l)⟩
/-- a constant -/
def primV : D → Option V
  | .non => some .non
  | .bl b => some (.bl b)
  | .int i => some (.int i)
  | .str x => some (.str x)
  | .raw v => some v
  | _ => none
theorem primV_rep {d : D} {v : V} (h : primV d = some v) : Rep K B G d v := by
  cases d <;> simp only [primV, Option.some.injEq, Rep] at h ⊢ <;> first | exact h.symm | cases h
theorem Fin.ret {k : Kd TD V} {Q : VK} {G0 H0 : Hp} {ρ0 : Env} {σ : L2.St} {P : Hp → Hp → Prop} {tmp : List Rs} {d : D} {v : V} (hk : k = kE)
    (h : Fin k X C q G0 H0 ρ0 σ H Q P tmp (retP d)) (r : primV d = some v) : Q v H := by
  subst hk
  obtain ⟨G, ρ, κ, W, pv, st, p, ok, tk, w⟩ := h
  exact w v G H trivial st (ok.drop.addF (primV_rep r))
/-- a shared answer -/
theorem Fin.retF {Q : VK} {G0 H0 : Hp} {ρ0 : Env} {σ : L2.St} {P : Hp → Hp → Prop} {tmp : List Rs} {d : D} {v : V}
    (h : Fin kE X C q G0 H0 ρ0 σ H Q P tmp (retP d)) (r : ∀ G, P G H → (∃ ρ κ pv, StOk X.K C.B G H σ ρ (tmp ++ κ) pv) → Rep X.K C.B G d v) : Q v H := by
  obtain ⟨G, ρ, κ, W, pv, st, p, ok, tk, w⟩ := h
  exact w v G H trivial st (ok.drop.addF (r G p ⟨ρ, κ, pv, ok⟩))
theorem de_const {v : V} {d : D} (h : PE X e (tC v)) (r : primV d = some v) : DE X C true e (fC d) := h.weak fun σ H Q z => by
  obtain ⟨G0, H0, ρ0, f⟩ := z
  exact f.ret rfl r
theorem de_int {i : Int} {j : Nat} : DE X C true (.Constant (.int i) j pos) (fC (.int i)) := de_const pe_int rfl
theorem de_bl {b : Bool} {j : Nat} : DE X C true (.Constant (.bool b) j pos) (fC (.bl b)) := de_const pe_bl rfl
theorem de_non {j : Nat} : DE X C true (.Constant .none j pos) (fC .non) := de_const pe_non rfl
theorem de_str {x : PySem.Str} {j : Nat} : DE X C true (.Constant (.str x) j pos) (fC (.str x)) := de_const pe_str rfl
/-- names -/
theorem db_var {i : Nat} {x : PySem.Str} (h : PE X (.Name x pos) (tVar i)) : DB X C true (.Name x pos) (bV i) := h.weak fun σ H Q z => by
  obtain ⟨G0, H0, ρ0, G, ρ, κ, W, pv, st, p, ok, tk, w⟩ := z
  unfold bV at w
  cases e : ρ[i]? with
  | none => rw [e] at w; exact w.elim
  | some o => cases o with
    | none => rw [e] at w; exact w.elim
    | some td =>
      rw [e] at w
      obtain ⟨v, l, hv, q⟩ := ok.at (i := i) (t := td.1) (d := td.2) e
      exact ⟨v, hv, w v G H ⟨l, q⟩ st ok⟩
theorem de_qvar {i : Nat} {x : PySem.Str} (h : PE X (.Name x pos) (tVar i)) : DE X C true (.Name x pos) (qV i) := h.weak fun σ H Q z => by
  obtain ⟨G0, H0, ρ0, G, ρ, κ, W, pv, st, p, ok, tk, w⟩ := z
  unfold qV at w
  cases e : ρ[i]? with
  | none => rw [e] at w; exact w.elim
  | some o => cases o with
    | none => rw [e] at w; exact w.elim
    | some td =>
      obtain ⟨t, d⟩ := td
      rw [e] at w
      obtain ⟨v, l, hv, q⟩ := ok.at e
      dsimp only at w
      cases hb : (isF t || !isBox d) with
      | false => rw [hb] at w; exact w.elim
      | true =>
        rw [hb, if_pos rfl] at w
        exact ⟨v, hv, w v G H trivial st (ok.addF (q.shared hb))⟩
theorem de_var {i : Nat} {x : PySem.Str} (h : PE X (.Name x pos) (tVar i)) : DE X C false (.Name x pos) (fV i) := h.weak fun σ H Q z => by
  obtain ⟨G0, H0, ρ0, G, ρ, κ, W, pv, st, p, ok, tk, w⟩ := z
  unfold fV at w
  cases e : ρ[i]? with
  | none => rw [e] at w; exact w.elim
  | some o => cases o with
    | none => rw [e] at w; exact w.elim
    | some td =>
      obtain ⟨t, d⟩ := td
      rw [e] at w
      obtain ⟨v, l, hv, q⟩ := ok.at e
      refine ⟨v, hv, ?_⟩
      dsimp only at w
      cases hb : (isF t || !isBox d) with
      | true =>
        rw [hb, if_pos rfl] at w
        exact w v G H trivial st (ok.addF (q.shared hb))
      | false =>
        rw [hb, if_neg (by decide)] at w
        -- the resource is shared
        have hi : i < ρ.length := (List.getElem?_eq_some_iff.mp e).1
        have pm := (perm_front (ents_at e hv)).append_right κ
        obtain ⟨G', le, o⟩ := (ok.ok.perm pm).freeze
        have hr := o.headF
        have ok2 : StOk X.K C.B G' H σ (ρ.set i (some (.F, d))) κ pv := by
          refine ⟨by simpa using ok.len, fun j t1 d1 e1 => ?_, o.perm ?_, ok.pvs⟩
          · by_cases qq : j = i
            · subst qq; exact ⟨v, hv⟩
            · rw [List.getElem?_set_ne (Ne.symm qq)] at e1
              exact ok.val _ _ _ e1
          · rw [ents_setR _ hv]
            exact (List.Perm.append_right κ (set_perm (T.F, d, v) (by rw [ok.lenE]; exact hi))).symm
        exact w v G' H trivial ⟨st.1.trans le, fun z => nomatch z⟩ (ok2.addF hr)
end
end PF
namespace L2
open PySem
theorem OpR.weak {X : Cx} {f : Value → Value → Sem Value} {r r' : R2} (h : OpR X f r) (k : ∀ x y H Q, r' x y H Q → r x y H Q) : OpR X f r' := fun pins s σ H x y v u Q I rx ry q => h pins s σ H x y v u Q I rx ry (k _ _ _ _ q)
theorem CallR.weak {X : Cx} {f : Value} {r r' : List V → Hp → VK → Prop} (h : CallR X f r) (k : ∀ xs H Q, r' xs H Q → r xs H Q) : CallR X f r' := fun pins s σ H xs us Q I rx q => h pins s σ H xs us Q I rx (k _ _ _ q)
end L2
namespace PF
open PySem L2
abbrev SZ : Nat := sizeLine
section
variable {X : Cx} {C : Ct} {q qa qb : Bool} {e a b : Expr} {f fa fb : Env → R TD} {pos : Pos}

/-! ### binary operators, by values -/
def fBin (g : D → D → Option D) (fa fb : Env → R TD) : Env → R TD := fun ρ =>
  (fa ρ).bind fun x ρ1 => (fb ρ1).bind fun y ρ2 => match g x.2 y.2 with | some d => .ok (.F, d) ρ2 | none => .stuck
/-- an operator upon plain values -/
def rPrim (g : D → D → Option D) : R2 := fun x y H Q => ∃ d d' d2 v, primV d = some x ∧ primV d' = some y ∧ g d d' = some d2 ∧ primV d2 = some v ∧ Q v H
/-- the operator's trees are plain -/
def PrimOp (g : D → D → Option D) : Prop := ∀ d d' d2, g d d' = some d2 → (∃ x, primV d = some x) ∧ (∃ y, primV d' = some y) ∧ ∃ v, primV d2 = some v
theorem Own.prim {K : PySem.W.Frag} {B : Tb} {G H : Hp} {d : D} {t : T} {v x : V} {l : List Addr} (h : Own K B G H d t v l) (p : primV d = some x) : v = x := by
  cases d <;> simp only [primV, Option.some.injEq] at p <;> first | (subst p; simp only [Own] at h; exact h.1) | cases p
theorem Rep.prim {K : PySem.W.Frag} {B : Tb} {G : Hp} {d : D} {v x : V} (h : Rep K B G d v) (p : primV d = some x) : v = x := h.own.prim (H := G) p
theorem Okx.own2 {K : PySem.W.Frag} {B : Tb} {G H : Hp} {r : Rs} {xs : List Rs} (h : Okx K B G H xs) (m : r ∈ xs) : ∃ l, Own K B G H r.2.1 r.1 r.2.2 l := by
  obtain ⟨t, d, v⟩ := r
  obtain ⟨i, hi⟩ := List.getElem?_of_mem m
  exact (h.perm (perm_front hi)).head
theorem StOk.mem {K : PySem.W.Frag} {B : Tb} {G H : Hp} {σ : L2.St} {ρ : Env} {κ : List Rs} {pv : List (Nat × V)} {r : Rs} (h : StOk K B G H σ ρ κ pv) (m : r ∈ κ) : ∃ l, Own K B G H r.2.1 r.1 r.2.2 l :=
  h.ok.own2 (List.mem_append_right _ m)
theorem de_bin {op : Operator} {g : D → D → Option D} (ho : OpR X (binaryOp op) (rPrim g)) (hg : PrimOp g) (ha : DE X C qa a fa) (hb : DE X C qb b fb) : DE X C (qa && qb) (.BinOp a op b pos) (fBin g fa fb) := by
  refine (pe_op ho ha hb).weak fun σ H Q z => ?_
  refine RT.bind (ka := kE) z (fun h => (Bool.and_eq_true_iff.mp h).1) fun x v1 H1 G0 H0 ρ0 z1 => ?_
  refine z1.next (ka := kE) (fun h => (Bool.and_eq_true_iff.mp h).2) fun y v2 H2 z2 => ?_
  cases e : g x.2 y.2 with
  | none =>
    simp only [e] at z2
    obtain ⟨G, ρ, κ, W, pv, st, p, ok, tk, w⟩ := z2
    exact w.elim
  | some d2 =>
    simp only [e] at z2
    obtain ⟨⟨x1, e1⟩, ⟨y1, e2⟩, ⟨v, e3⟩⟩ := hg _ _ _ e
    obtain ⟨G, ρ, κ, W, pv, st, p, ok, tk, w⟩ := id z2
    obtain ⟨l1, o1⟩ := ok.mem (r := (x.1, x.2, v1)) (by simp [kE])
    obtain ⟨l2, o2⟩ := ok.mem (r := (y.1, y.2, v2)) (by simp [kE])
    have h1 := o1.prim e1
    have h2 := o2.prim e2
    subst h1 h2
    exact ⟨_, _, _, v, e1, e2, e, e3, w v G H2 trivial st (ok.drop.addF (primV_rep e3))⟩

/-! #### ints and texts -/
def gI (f : Int → Int → Option D) : D → D → Option D
  | .int i, .int j => f i j
  | _, _ => none
theorem gI_prim {f : Int → Int → Option D} (h : ∀ i j d, f i j = some d → ∃ v, primV d = some v) : PrimOp (gI f) := by
  intro d d' d2 e
  cases d with
  | int i => cases d' with
    | int j => exact ⟨⟨_, rfl⟩, ⟨_, rfl⟩, h i j d2 e⟩
    | _ => cases e
  | _ => cases e
theorem op_int {op : Operator} {P : Int → Int → Prop} {F : Int → Int → V} {f : Int → Int → Option D} (h : OpR X (binaryOp op) (rI P F)) (k : ∀ i j d, f i j = some d → P i j ∧ primV d = some (F i j)) : OpR X (binaryOp op) (rPrim (gI f)) :=
  h.weak fun x y H Q ⟨d, d', d2, v, e1, e2, e3, e4, q⟩ => by
    cases d with
    | int i => cases d' with
      | int j =>
        obtain ⟨p, e5⟩ := k i j d2 e3
        have e6 := e5.symm.trans e4
        cases e1; cases e2; cases e6
        exact ⟨i, j, rfl, rfl, p, q⟩
      | _ => cases e3
    | _ => cases e3
theorem op_int0 {op : Operator} {F : Int → Int → V} {f : Int → Int → Option D} (h : OpR X (binaryOp op) (rI0 F)) (k : ∀ i j d, f i j = some d → primV d = some (F i j)) : OpR X (binaryOp op) (rPrim (gI f)) :=
  h.weak fun x y H Q ⟨d, d', d2, v, e1, e2, e3, e4, q⟩ => by
    cases d with
    | int i => cases d' with
      | int j =>
        have e6 := (k i j d2 e3).symm.trans e4
        cases e1; cases e2; cases e6
        exact ⟨i, j, rfl, rfl, q⟩
      | _ => cases e3
    | _ => cases e3
def mulOk (i j : Int) : Bool := decide (i.natAbs < 2 ^ 64) || decide (j.natAbs < 2 ^ 64)
theorem mulOk_c {i j : Int} (h : mulOk i j = true) : CMul i j := by
  rcases Bool.or_eq_true_iff.mp h with z | z
  · have := of_decide_eq_true z
    exact .inl ⟨by omega, by omega⟩
  · have := of_decide_eq_true z
    exact .inr ⟨by omega, by omega⟩
def gAdd : D → D → Option D
  | .int i, .int j => some (.int (i + j))
  | .str x, .str y => if x.length + y.length ≤ SZ then some (.str (x ++ y)) else none
  | _, _ => none
def gSub : D → D → Option D := gI fun i j => some (.int (i - j))
def gMul : D → D → Option D := gI fun i j => if mulOk i j then some (.int (i * j)) else none
def divOk (j : Int) : Bool := decide (j ≠ 0 ∧ j.natAbs < 1073741824)
def gDiv : D → D → Option D := gI fun i j => if divOk j then some (.int (i.fdiv j)) else none
def gMod : D → D → Option D := gI fun i j => if j = 0 then none else some (.int (i.fmod j))
def powOk (i j : Int) : Bool := decide (0 ≤ j ∧ j ≤ 1000000 ∧ i.natAbs < 2 ^ 64)
def gPow : D → D → Option D := gI fun i j => if powOk i j then some (.int (i ^ j.toNat)) else none
def gShl : D → D → Option D := gI fun i j => if powOk i j then some (.int (i * 2 ^ j.toNat)) else none
def gShr : D → D → Option D := gI fun i j => if 0 ≤ j then some (.int (i / 2 ^ j.toNat)) else none
def gAnd : D → D → Option D := gI fun i j => some (.int (Builtin.bitAnd i j))
def gOr : D → D → Option D := gI fun i j => some (.int (Builtin.bitOr i j))
def gXor : D → D → Option D := gI fun i j => some (.int (Builtin.bitXor i j))
theorem gAdd_prim : PrimOp gAdd := by
  intro d d' d2 e
  cases d <;> cases d' <;> simp only [gAdd] at e <;> first
    | (injection e with e; subst e; exact ⟨⟨_, rfl⟩, ⟨_, rfl⟩, ⟨_, rfl⟩⟩)
    | (split at e <;> first | (injection e with e; subst e; exact ⟨⟨_, rfl⟩, ⟨_, rfl⟩, ⟨_, rfl⟩⟩) | cases e)
    | cases e
theorem o_add : OpR X (binaryOp .Add) (rPrim gAdd) := (op_add.or op_add_str).weak fun x y H Q ⟨d, d', d2, v, e1, e2, e3, e4, q⟩ => by
  cases d <;> cases d' <;> simp only [gAdd] at e3 <;> first
    | (cases e3; cases e1; cases e2; cases e4; exact .inl ⟨_, _, rfl, rfl, q⟩)
    | (split at e3
       · cases e3; cases e1; cases e2; cases e4; exact .inr ⟨_, _, rfl, rfl, by assumption, q⟩
       · cases e3)
    | cases e3
theorem o_sub : OpR X (binaryOp .Sub) (rPrim gSub) := op_int0 op_sub fun i j d e => by cases e; rfl
theorem o_mul : OpR X (binaryOp .Mult) (rPrim gMul) := op_int op_mul fun i j d e => by
  split at e
  · cases e; exact ⟨mulOk_c (by assumption), rfl⟩
  · cases e
theorem o_div : OpR X (binaryOp .FloorDiv) (rPrim gDiv) := op_int op_fdivN fun i j d e => by
  split at e
  · rename_i h
    have h := of_decide_eq_true h
    cases e; exact ⟨h, rfl⟩
  · cases e
theorem o_mod : OpR X (binaryOp .Mod) (rPrim gMod) := op_int op_modN fun i j d e => by
  split at e
  · cases e
  · cases e; exact ⟨by assumption, rfl⟩
theorem o_pow : OpR X (binaryOp .Pow) (rPrim gPow) := op_int op_pow fun i j d e => by
  split at e
  · rename_i h
    have h := of_decide_eq_true h
    cases e; exact ⟨h, rfl⟩
  · cases e
theorem o_shl : OpR X (binaryOp .LShift) (rPrim gShl) := op_int op_shl fun i j d e => by
  split at e
  · rename_i h
    have h := of_decide_eq_true h
    cases e; exact ⟨h, rfl⟩
  · cases e
theorem o_shr : OpR X (binaryOp .RShift) (rPrim gShr) := op_int op_shr fun i j d e => by
  split at e
  · cases e; exact ⟨by assumption, rfl⟩
  · cases e
theorem o_and : OpR X (binaryOp .BitAnd) (rPrim gAnd) := op_int0 op_and fun i j d e => by cases e; rfl
theorem o_or : OpR X (binaryOp .BitOr) (rPrim gOr) := op_int0 op_or fun i j d e => by cases e; rfl
theorem o_xor : OpR X (binaryOp .BitXor) (rPrim gXor) := op_int0 op_xor fun i j d e => by cases e; rfl
theorem gSub_prim : PrimOp gSub := gI_prim fun i j d e => by cases e; exact ⟨_, rfl⟩
theorem gAnd_prim : PrimOp gAnd := gI_prim fun i j d e => by cases e; exact ⟨_, rfl⟩
theorem gOr_prim : PrimOp gOr := gI_prim fun i j d e => by cases e; exact ⟨_, rfl⟩
theorem gXor_prim : PrimOp gXor := gI_prim fun i j d e => by cases e; exact ⟨_, rfl⟩
theorem gMul_prim : PrimOp gMul := gI_prim fun i j d e => by split at e <;> cases e; exact ⟨_, rfl⟩
theorem gDiv_prim : PrimOp gDiv := gI_prim fun i j d e => by split at e <;> cases e; exact ⟨_, rfl⟩
theorem gMod_prim : PrimOp gMod := gI_prim fun i j d e => by split at e <;> cases e; exact ⟨_, rfl⟩
theorem gPow_prim : PrimOp gPow := gI_prim fun i j d e => by split at e <;> cases e; exact ⟨_, rfl⟩
theorem gShl_prim : PrimOp gShl := gI_prim fun i j d e => by split at e <;> cases e; exact ⟨_, rfl⟩
theorem gShr_prim : PrimOp gShr := gI_prim fun i j d e => by split at e <;> cases e; exact ⟨_, rfl⟩
abbrev fAdd := fBin gAdd
abbrev fSub := fBin gSub
abbrev fMul := fBin gMul
abbrev fDiv := fBin gDiv
abbrev fMod := fBin gMod
abbrev fPow := fBin gPow
abbrev fShl := fBin gShl
abbrev fShr := fBin gShr
abbrev fAnd := fBin gAnd
abbrev fOr := fBin gOr
abbrev fXor := fBin gXor
theorem de_add (ha : DE X C qa a fa) (hb : DE X C qb b fb) : DE X C (qa && qb) (.BinOp a .Add b pos) (fAdd fa fb) := de_bin o_add gAdd_prim ha hb
theorem de_sub (ha : DE X C qa a fa) (hb : DE X C qb b fb) : DE X C (qa && qb) (.BinOp a .Sub b pos) (fSub fa fb) := de_bin o_sub gSub_prim ha hb
theorem de_mul (ha : DE X C qa a fa) (hb : DE X C qb b fb) : DE X C (qa && qb) (.BinOp a .Mult b pos) (fMul fa fb) := de_bin o_mul gMul_prim ha hb
theorem de_div (ha : DE X C qa a fa) (hb : DE X C qb b fb) : DE X C (qa && qb) (.BinOp a .FloorDiv b pos) (fDiv fa fb) := de_bin o_div gDiv_prim ha hb
theorem de_mod (ha : DE X C qa a fa) (hb : DE X C qb b fb) : DE X C (qa && qb) (.BinOp a .Mod b pos) (fMod fa fb) := de_bin o_mod gMod_prim ha hb
theorem de_pow (ha : DE X C qa a fa) (hb : DE X C qb b fb) : DE X C (qa && qb) (.BinOp a .Pow b pos) (fPow fa fb) := de_bin o_pow gPow_prim ha hb
theorem de_shl (ha : DE X C qa a fa) (hb : DE X C qb b fb) : DE X C (qa && qb) (.BinOp a .LShift b pos) (fShl fa fb) := de_bin o_shl gShl_prim ha hb
theorem de_shr (ha : DE X C qa a fa) (hb : DE X C qb b fb) : DE X C (qa && qb) (.BinOp a .RShift b pos) (fShr fa fb) := de_bin o_shr gShr_prim ha hb
theorem de_and_ (ha : DE X C qa a fa) (hb : DE X C qb b fb) : DE X C (qa && qb) (.BinOp a .BitAnd b pos) (fAnd fa fb) := de_bin o_and gAnd_prim ha hb
theorem de_or_ (ha : DE X C qa a fa) (hb : DE X C qb b fb) : DE X C (qa && qb) (.BinOp a .BitOr b pos) (fOr fa fb) := de_bin o_or gOr_prim ha hb
theorem de_xor (ha : DE X C qa a fa) (hb : DE X C qb b fb) : DE X C (qa && qb) (.BinOp a .BitXor b pos) (fXor fa fb) := de_bin o_xor gXor_prim ha hb

/-! ### data, compared -/
mutual
def D.py : D → PyData
  | .non => .none
  | .bl b => .bool b
  | .int i => .int i
  | .str x => .str x
  | .tup ds => .tuple (D.pys ds)
  | .lst ds => .list (D.pys ds)
  | .dct _ => .dict []
  | .obj _ _ => .dict []
  | .raw _ => .dict []
  | .scr _ => .dict []
def D.pys : List D → List PyData
  | [] => []
  | d :: r => D.py d :: D.pys r
end
theorem D.pys_map : ∀ ds : List D, D.pys ds = ds.map D.py
  | [] => by simp [D.pys]
  | d :: r => by simp [D.pys, D.pys_map r]
/-- data that may be compared: no dict, no object, not too deep -/
def dsh (d : D) : Bool := SeqAt.shaped d.py
def deq (d e : D) : Bool := PyData.eqv d.py e.py
mutual
theorem Rep.dp {K : PySem.W.Frag} {B : Tb} {G : Hp} : ∀ {d : D} {v : V}, Rep K B G d v → d.py.canLay0 = true → Dp K G v d.py
  | .non, v, h, _ => by simp only [Rep] at h; subst h; simp only [D.py]; exact .non
  | .bl _, v, h, _ => by simp only [Rep] at h; subst h; simp only [D.py]; exact .bl _
  | .int _, v, h, _ => by simp only [Rep] at h; subst h; simp only [D.py]; exact .int _
  | .str _, v, h, _ => by simp only [Rep] at h; subst h; simp only [D.py]; exact .str _
  | .tup ds, v, h, c => by
    simp only [Rep] at h
    obtain ⟨a, vs, e, s, r⟩ := h
    subst e
    simp only [D.py]
    exact .tup s (Reps.dp r (by simpa [D.py, PyData.canLay0] using c))
  | .lst ds, v, h, c => by
    simp only [Rep] at h
    obtain ⟨a, vs, e, s, r⟩ := h
    subst e
    simp only [D.py]
    exact .lst (SqL.of s) (Reps.dp r (by simpa [D.py, PyData.canLay0] using c))
  | .dct _, v, h, c => by simp [D.py, PyData.canLay0] at c
  | .obj _ _, v, h, c => by simp [D.py, PyData.canLay0] at c
  | .raw _, v, h, c => by simp [D.py, PyData.canLay0] at c
  | .scr _, v, h, c => by simp [D.py, PyData.canLay0] at c
theorem Reps.dp {K : PySem.W.Frag} {B : Tb} {G : Hp} : ∀ {ds : List D} {vs : List V}, Reps K B G ds vs → PyData.canLayAll0 (D.pys ds) = true → DpAll K G vs (D.pys ds)
  | [], vs, h, _ => by simp only [Reps] at h; subst h; simp only [D.pys]; exact .nil
  | d :: ds, vs, h, c => by
    simp only [Reps] at h
    obtain ⟨v, r, e, h1, h2⟩ := h
    subst e
    simp only [D.pys, PyData.canLayAll0, Bool.and_eq_true] at c
    simp only [D.pys]
    exact .cons (Rep.dp h1 c.1) (Reps.dp h2 c.2)
end
theorem Rep.dpS {K : PySem.W.Frag} {B : Tb} {G : Hp} {d : D} {v : V} (h : Rep K B G d v) (c : dsh d = true) : Dp K G v d.py := h.dp (SeqAt.canLay_of_shaped c)
/-- a comparison: the left one a value, the right one looked at -/
def fCmp (g : D → D → Option Bool) (fa fb : Env → R TD) : Env → R TD := fun ρ =>
  (fa ρ).bind fun x ρ1 => (fb ρ1).bind fun y ρ2 => match g x.2 y.2 with | some k => .ok (.F, .bl k) ρ2 | none => .stuck
def rCmp (X : Cx) (C : Ct) (g : D → D → Option Bool) : R2 := fun x y H Q => ∃ d d' k, Rep X.K C.B H d x ∧ Rep X.K C.B H d' y ∧ g d d' = some k ∧ Q (.bl k) H
theorem StOk.seeK {K : PySem.W.Frag} {B : Tb} {G H : Hp} {σ : L2.St} {ρ : Env} {κ : List Rs} {pv : List (Nat × V)} {r : Rs} (h : StOk K B G H σ ρ κ pv) (m : r ∈ κ) : Rep K B H r.2.1 r.2.2 := by
  obtain ⟨l, o⟩ := h.mem m
  exact o.see h.le
theorem de_cmp {op : CmpOp} {g : D → D → Option Bool} (ho : OpR X (compareOp op) (rCmp X C g)) (ha : DE X C qa a fa) (hb : DB X C qb b fb) (hm : behindInMarks op b = false) : DE X C (qa && qb) (.Compare a [op] [b] pos) (fCmp g fa fb) := by
  refine (pe_cmpR ho ha hb hm).weak fun σ H Q z => ?_
  refine RT.bind (ka := kE) z (fun h => (Bool.and_eq_true_iff.mp h).1) fun x v1 H1 G0 H0 ρ0 z1 => ?_
  refine z1.next (ka := kB) (fun h => (Bool.and_eq_true_iff.mp h).2) fun y v2 H2 z2 => ?_
  cases e : g x.2 y.2 with
  | none =>
    simp only [e] at z2
    obtain ⟨G, ρ, κ, W, pv, st, p, ok, tk, w⟩ := z2
    exact w.elim
  | some k =>
    simp only [e] at z2
    obtain ⟨G, ρ, κ, W, pv, st, p, ok, tk, w⟩ := id z2
    obtain ⟨l, o2⟩ := p
    have h1 := ok.seeK (r := (x.1, x.2, v1)) (by simp [kE, kB])
    exact ⟨_, _, k, h1, o2.see ok.le, e, w (.bl k) G H2 trivial st (ok.drop.addF (by simp only [Rep]))⟩
/-- .. as a test -/
def asT (f : Env → R TD) : Env → R Bool := fun ρ => (f ρ).bind fun x ρ1 => match x.2 with | .bl k => .ok k ρ1 | _ => .stuck
theorem dt_of (ha : DE X C q a fa) (he : ∀ whole, isTrue a X.env whole = (do let v ← whole; standAt a.pos; holding [v] (truthy v)) := by intro _; rfl) : DT X C q a (asT fa) := by
  refine (pt_val ha he).weak fun σ H Q z => ?_
  refine RT.bind (ka := kE) z (fun h => h) fun x v1 H1 G0 H0 ρ0 z1 => ?_
  obtain ⟨G, ρ, κ, W, pv, st, p, ok, tk, w⟩ := z1
  cases e : x.2 with
  | bl k =>
    rw [e] at w
    obtain ⟨l, o⟩ := ok.mem (r := (x.1, x.2, v1)) (by simp [kE])
    have h1 : v1 = V.bl k := Own.prim (x := V.bl k) o (by show primV x.2 = _; rw [e]; rfl)
    exact ⟨k, h1, w k G H1 rfl st ok.drop⟩
  | _ => rw [e] at w; exact w.elim
theorem dt_cmp {op : CmpOp} {g : D → D → Option Bool} (ho : OpR X (compareOp op) (rCmp X C g)) (ha : DE X C qa a fa) (hb : DB X C qb b fb) (hm : behindInMarks op b = false) : DT X C (qa && qb) (.Compare a [op] [b] pos) (asT (fCmp g fa fb)) := by
  refine (pt_cmpR ho ha hb hm).weak fun σ H Q z => ?_
  obtain ⟨G0, H0, ρ0, G, ρ, κ, W, pv, st, p, ok, tk, w⟩ := z
  unfold asT at w
  rw [R.wp_bind] at w
  unfold fCmp at w
  rw [R.wp_bind] at w
  refine ⟨G, H, ρ, G, ρ, κ, W, pv, .refl, trivial, ok, tk, R.wp_mono w (fun x ρ1 w1 v1 G1 H1 _ st1 ok1 => ?_) fun c fs ρ1 w1 cls dO G' H' l x ok' => w1 cls dO G' H' (st.1.trans l) x ok'⟩
  rw [R.wp_bind] at w1
  refine ⟨G1, H1, ρ1, G1, ρ1, (x.1, x.2, v1) :: κ, W, pv, .refl, trivial, ok1, tk, R.wp_mono w1 (fun y ρ2 w2 v2 G2 H2 hb2 st2 ok2 => ?_) fun c fs ρ2 w2 cls dO G' H' l xx ok' => w2 cls dO G' H' ((st.1.trans st1.1).trans l) xx ok'.tail⟩
  cases e : g x.2 y.2 with
  | none => simp only [e] at w2; exact w2.elim
  | some k =>
    simp only [e] at w2
    obtain ⟨l, o2⟩ := hb2
    have h1 := ok2.seeK (r := (x.1, x.2, v1)) (by simp [kB])
    refine ⟨_, _, k, h1, o2.see ok2.le, e, k, rfl, w2 k G2 H2 rfl ((st.trans st1 fun h => (Bool.and_eq_true_iff.mp h).1).trans st2 fun h => (Bool.and_eq_true_iff.mp h).2) ok2.tail⟩

/-! #### the comparisons -/
def cI (f : Int → Int → Bool) : D → D → Option Bool
  | .int i, .int j => some (f i j)
  | _, _ => none
theorem c_int {op : CmpOp} {F : Int → Int → Bool} (h : OpR X (compareOp op) (rI0 fun i j => .bl (F i j))) : OpR X (compareOp op) (rCmp X C (cI F)) := h.weak fun x y H Q ⟨d, d', k, r1, r2, e, q⟩ => by
  cases d with
  | int i => cases d' with
    | int j =>
      cases e
      exact ⟨i, j, r1.prim (x := .int i) rfl, r2.prim (x := .int j) rfl, q⟩
    | _ => cases e
  | _ => cases e
def cLt := cI fun i j => decide (i < j)
def cLe := cI fun i j => decide (i ≤ j)
def cGt := cI fun i j => decide (j < i)
def cGe := cI fun i j => decide (j ≤ i)
theorem o_lt : OpR X (compareOp .Lt) (rCmp X C cLt) := c_int op_lt
theorem o_le : OpR X (compareOp .LtE) (rCmp X C cLe) := c_int op_le
theorem o_gt : OpR X (compareOp .Gt) (rCmp X C cGt) := c_int op_gt
theorem o_ge : OpR X (compareOp .GtE) (rCmp X C cGe) := c_int op_ge
def cEq (d e : D) : Option Bool := if dsh d && dsh e then some (deq d e) else none
def cNe (d e : D) : Option Bool := if dsh d && dsh e then some (!deq d e) else none
theorem o_eq (hu : X.A.units + 64 < cLine) : OpR X (compareOp .Eq) (rCmp X C cEq) := (op_eqD hu).weak fun x y H Q ⟨d, d', k, r1, r2, e, q⟩ => by
  unfold cEq at e
  split at e
  · rename_i h
    obtain ⟨h1, h2⟩ := Bool.and_eq_true_iff.mp h
    cases e
    exact ⟨_, _, r1.dpS h1, r2.dpS h2, h1, h2, q⟩
  · cases e
theorem o_ne (hu : X.A.units + 64 < cLine) : OpR X (compareOp .NotEq) (rCmp X C cNe) := (op_neD hu).weak fun x y H Q ⟨d, d', k, r1, r2, e, q⟩ => by
  unfold cNe at e
  split at e
  · rename_i h
    obtain ⟨h1, h2⟩ := Bool.and_eq_true_iff.mp h
    cases e
    exact ⟨_, _, r1.dpS h1, r2.dpS h2, h1, h2, q⟩
  · cases e
def cIsN (d e : D) : Option Bool := match e with
  | .non => match d with | .non => some true | .raw _ => none | _ => some false
  | _ => none
def cNotN (d e : D) : Option Bool := match e with
  | .non => match d with | .non => some false | .raw _ => none | _ => some true
  | _ => none
theorem Rep.isN {K : PySem.W.Frag} {B : Tb} {G : Hp} {d : D} {v : V} {k : Bool} (h : Rep K B G d v) (e : cIsN d .non = some k) : decide (v = .non) = k := by
  cases d <;> simp only [Rep] at h <;> simp only [cIsN] at e <;> first
    | (cases e; subst h; rfl)
    | (cases e; obtain ⟨a, rfl, _⟩ := h; rfl)
    | (cases e; obtain ⟨a, _, rfl, _⟩ := h; rfl)
    | (cases e; obtain ⟨a, _, _, rfl, _⟩ := h; rfl)
    | cases e
theorem cNotN_isN {d : D} {k : Bool} (e : cNotN d .non = some k) : cIsN d .non = some (!k) := by
  cases d <;> simp only [cNotN] at e <;> cases e <;> rfl
theorem o_isN : OpR X (compareOp .Is) (rCmp X C cIsN) := op_isN.weak fun x y H Q ⟨d, d', k, r1, r2, e, q⟩ => by
  cases d' <;> first
    | (refine ⟨r2.prim (x := .non) rfl, ?_⟩; rw [r1.isN e]; exact q)
    | cases e
theorem o_notN : OpR X (compareOp .IsNot) (rCmp X C cNotN) := op_notN.weak fun x y H Q ⟨d, d', k, r1, r2, e, q⟩ => by
  cases d' <;> first
    | (refine ⟨r2.prim (x := .non) rfl, ?_⟩; rw [r1.isN (cNotN_isN e), Bool.not_not]; exact q)
    | cases e
abbrev fLt := fCmp cLt
abbrev fLe := fCmp cLe
abbrev fGt := fCmp cGt
abbrev fGe := fCmp cGe
abbrev fEq := fCmp cEq
abbrev fNe := fCmp cNe
abbrev fIsN := fCmp cIsN
abbrev fNotN := fCmp cNotN
end
end PF
namespace PF
open PySem L2
theorem SZ_eq : SZ = 16777216 := by show sizeLine = _; rw [sizeLine_eq]
section
variable {X : Cx} {C : Ct} {q qa qb : Bool} {e a b c : Expr} {f fa fb fc : Env → R TD} {pos : Pos}
variable {K : PySem.W.Frag} {B : Tb} {G G' H H' : Hp}

/-! ### tests -/
def tNotF (f : Env → R Bool) : Env → R Bool := fun ρ => (f ρ).bind fun k ρ1 => .ok (!k) ρ1
def tAndF (f g : Env → R Bool) : Env → R Bool := fun ρ => (f ρ).bind fun k ρ1 => if k then g ρ1 else .ok false ρ1
def tOrF (f g : Env → R Bool) : Env → R Bool := fun ρ => (f ρ).bind fun k ρ1 => if k then .ok true ρ1 else g ρ1
theorem dt_q {f : Env → R Bool} (h : DT X C true e f) : DT X C q e f := h.weak fun σ H Q z => by
  obtain ⟨G0, H0, ρ0, G, ρ, κ, W, pv, st, p, ok, tk, w⟩ := z
  exact ⟨G, H, ρ, G, ρ, κ, W, pv, .refl, p, ok, tk, R.wp_mono w (fun td ρ' w1 v G' H' r s o => w1 v G' H' r (st.trans ⟨s.1, fun _ => s.2 rfl⟩ fun _ => (rfl : true = true)) o) fun c fs ρ' w1 cls dO G' H' l => w1 cls dO G' H' (st.1.trans l)⟩
theorem Fin.tail {α β : Type} {k : Kd α β} {Q : β → Hp → Prop} {q q' : Bool} {G0 H0 : Hp} {ρ0 : Env} {σ : L2.St} {P : Hp → Hp → Prop} {tmp : List Rs} {g : Env → R α}
    (h : Fin k X C q G0 H0 ρ0 σ H Q P tmp g) (hq : q = true → q' = true) : RT k X C q' g σ H Q := by
  obtain ⟨G, ρ, κ, W, pv, st, p, ok, tk, w⟩ := h
  refine ⟨G, H, ρ, G, ρ, κ, W, pv, .refl, trivial, ok.drop, tk, R.wp_mono w (fun a ρ1 w1 b G' H' r st' ok' => w1 b G' H' r (st.trans st' hq) ok') fun c fs ρ1 w1 cls dO G' H' l x ok' => w1 cls dO G' H' (st.1.trans l) x ok'⟩
theorem Fin.end_ {α β : Type} {k : Kd α β} {Q : β → Hp → Prop} {q : Bool} {G0 H0 : Hp} {ρ0 : Env} {σ : L2.St} {P : Hp → Hp → Prop} {tmp : List Rs} {a : α} {b : β}
    (h : Fin k X C q G0 H0 ρ0 σ H Q P tmp fun ρ => .ok a ρ) (r : ∀ G ρ κ pv, StOk X.K C.B G H σ ρ (tmp ++ κ) pv → P G H → k.rel X.K C.B σ a b G H ∧ StOk X.K C.B G H σ ρ (k.rs a b ++ κ) pv) : Q b H := by
  obtain ⟨G, ρ, κ, W, pv, st, p, ok, tk, w⟩ := h
  obtain ⟨r1, r2⟩ := r G ρ κ pv ok p
  exact w b G H r1 st r2
theorem dt_not {f : Env → R Bool} (h : DT X C q a f) : DT X C q (.UnaryOp .Not a pos) (tNotF f) := by
  refine (pt_not h).weak fun σ H Q z => ?_
  refine RT.bind (ka := kT) z (fun h => h) fun x k H1 G0 H0 ρ0 z1 => ?_
  refine Fin.end_ (b := !k) z1 fun G ρ κ pv ok p => ⟨?_, ok.drop⟩
  exact congrArg not p
theorem dw_and1 {f : Env → R Bool} (h : DT X C q a f) : DW X C q (.BoolOp .And [a] pos) f := pw_and1 h
theorem dw_or1 {f : Env → R Bool} (h : DT X C q a f) : DW X C q (.BoolOp .Or [a] pos) f := pw_or1 h
theorem dw_and {rest : List Expr} {f g : Env → R Bool} (ha : DT X C qa a f) (hb : DW X C qb (.BoolOp .And (b :: rest) pos) g) : DW X C (qa && qb) (.BoolOp .And (a :: b :: rest) pos) (tAndF f g) := by
  refine (pw_and ha hb).weak fun σ H Q z => ?_
  refine RT.bind (ka := kT) z (fun h => (Bool.and_eq_true_iff.mp h).1) fun x k H1 G0 H0 ρ0 z1 => ?_
  have hk : x = k := by obtain ⟨G, ρ, κ, W, pv, st, p, _⟩ := id z1; exact p
  subst hk
  cases x with
  | true => exact z1.tail fun h => (Bool.and_eq_true_iff.mp h).2
  | false => exact Fin.end_ (b := false) z1 fun G ρ κ pv ok p => ⟨rfl, ok.drop⟩
theorem dw_or {rest : List Expr} {f g : Env → R Bool} (ha : DT X C qa a f) (hb : DW X C qb (.BoolOp .Or (b :: rest) pos) g) : DW X C (qa && qb) (.BoolOp .Or (a :: b :: rest) pos) (tOrF f g) := by
  refine (pw_or ha hb).weak fun σ H Q z => ?_
  refine RT.bind (ka := kT) z (fun h => (Bool.and_eq_true_iff.mp h).1) fun x k H1 G0 H0 ρ0 z1 => ?_
  have hk : x = k := by obtain ⟨G, ρ, κ, W, pv, st, p, _⟩ := id z1; exact p
  subst hk
  cases x with
  | false => exact z1.tail fun h => (Bool.and_eq_true_iff.mp h).2
  | true => exact Fin.end_ (b := true) z1 fun G ρ κ pv ok p => ⟨rfl, ok.drop⟩
theorem DW.dt {f : Env → R Bool} (h : DW X C q a f) : DT X C q a f := h.pt
/-! .. as values (bools) -/
def fAndV (f g : Env → R TD) : Env → R TD := fun ρ => (f ρ).bind fun x ρ1 => match x.2 with | .bl true => g ρ1 | .bl false => .ok (.F, .bl false) ρ1 | _ => .stuck
def fOrV (f g : Env → R TD) : Env → R TD := fun ρ => (f ρ).bind fun x ρ1 => match x.2 with | .bl false => g ρ1 | .bl true => .ok (.F, .bl true) ρ1 | _ => .stuck
def fNotV (f : Env → R TD) : Env → R TD := fun ρ => (f ρ).bind fun x ρ1 => match x.2 with | .bl k => .ok (.F, .bl (!k)) ρ1 | _ => .stuck
theorem Fin.bl {Q : VK} {q : Bool} {G0 H0 : Hp} {ρ0 : Env} {σ : L2.St} {P : Hp → Hp → Prop} {tmp : List Rs} {g : Env → R TD} {x : TD} {v : V} {k : Bool}
    (h : Fin kE X C q G0 H0 ρ0 σ H Q P ((x.1, x.2, v) :: tmp) g) (e : x.2 = .bl k) : v = .bl k := by
  obtain ⟨G, ρ, κ, W, pv, st, p, ok, tk, w⟩ := h
  obtain ⟨l, o⟩ := ok.mem (r := (x.1, x.2, v)) (by simp)
  exact Own.prim (x := V.bl k) o (by show primV x.2 = _; rw [e]; rfl)
theorem Fin.no {α β : Type} {k : Kd α β} {Q : β → Hp → Prop} {q : Bool} {G0 H0 : Hp} {ρ0 : Env} {σ : L2.St} {P : Hp → Hp → Prop} {tmp : List Rs} {S : Prop}
    (h : Fin k X C q G0 H0 ρ0 σ H Q P tmp fun _ => .stuck) : S := by
  obtain ⟨G, ρ, κ, W, pv, st, p, ok, tk, w⟩ := h
  exact w.elim
theorem de_one {op : BoolOp} (h : DE X C q a f) : DE X C q (.BoolOp op [a] pos) f := pe_one h
theorem de_and {rest : List Expr} (ha : DE X C qa a fa) (hb : DE X C qb (.BoolOp .And (b :: rest) pos) fb) : DE X C (qa && qb) (.BoolOp .And (a :: b :: rest) pos) (fAndV fa fb) := by
  refine (pe_and ha hb).weak fun σ H Q z => ?_
  refine RT.bind (ka := kE) z (fun h => (Bool.and_eq_true_iff.mp h).1) fun x v H1 G0 H0 ρ0 z1 => ?_
  cases e : x.2 with
  | bl k =>
    refine ⟨k, z1.bl e, ?_⟩
    cases k with
    | true =>
      simp only [e] at z1
      exact z1.tail fun h => (Bool.and_eq_true_iff.mp h).2
    | false =>
      simp only [e] at z1
      exact z1.ret (d := .bl false) rfl rfl
  | _ => simp only [e] at z1; exact z1.no
theorem de_or {rest : List Expr} (ha : DE X C qa a fa) (hb : DE X C qb (.BoolOp .Or (b :: rest) pos) fb) : DE X C (qa && qb) (.BoolOp .Or (a :: b :: rest) pos) (fOrV fa fb) := by
  refine (pe_or ha hb).weak fun σ H Q z => ?_
  refine RT.bind (ka := kE) z (fun h => (Bool.and_eq_true_iff.mp h).1) fun x v H1 G0 H0 ρ0 z1 => ?_
  cases e : x.2 with
  | bl k =>
    refine ⟨k, z1.bl e, ?_⟩
    cases k with
    | false =>
      simp only [e] at z1
      exact z1.tail fun h => (Bool.and_eq_true_iff.mp h).2
    | true =>
      simp only [e] at z1
      exact z1.ret (d := .bl true) rfl rfl
  | _ => simp only [e] at z1; exact z1.no
theorem de_not (ha : DE X C q a fa) : DE X C q (.UnaryOp .Not a pos) (fNotV fa) := by
  refine (pe_not ha).weak fun σ H Q z => ?_
  refine RT.bind (ka := kE) z (fun h => h) fun x v H1 G0 H0 ρ0 z1 => ?_
  cases e : x.2 with
  | bl k =>
    refine ⟨k, z1.bl e, ?_⟩
    simp only [e] at z1
    exact z1.ret (d := .bl (!k)) rfl rfl
  | _ => simp only [e] at z1; exact z1.no
/-- a if t else b -/
def fIf (t : Env → R Bool) (f g : Env → R TD) : Env → R TD := fun ρ => (t ρ).bind fun k ρ1 => if k then f ρ1 else g ρ1
theorem de_if {t : Env → R Bool} {qt : Bool} (ht : DT X C qt c t) (ha : DE X C qa a fa) (hb : DE X C qb b fb) : DE X C (qt && (qa && qb)) (.IfExp c a b pos) (fIf t fa fb) := by
  refine (pe_ifExp ht ha hb).weak fun σ H Q z => ?_
  refine RT.bind (ka := kT) z (fun h => (Bool.and_eq_true_iff.mp h).1) fun x k H1 G0 H0 ρ0 z1 => ?_
  have hk : x = k := by obtain ⟨G, ρ, κ, W, pv, st, p, _⟩ := id z1; exact p
  subst hk
  cases x with
  | true => exact z1.tail fun h => (Bool.and_eq_true_iff.mp (Bool.and_eq_true_iff.mp h).2).1
  | false => exact z1.tail fun h => (Bool.and_eq_true_iff.mp (Bool.and_eq_true_iff.mp h).2).2

/-! ### unary minus -/
def fNeg (f : Env → R TD) : Env → R TD := fun ρ => (f ρ).bind fun x ρ1 => match x.2 with | .int i => .ok (.F, .int (-i)) ρ1 | _ => .stuck
theorem Fin.int {Q : VK} {q : Bool} {G0 H0 : Hp} {ρ0 : Env} {σ : L2.St} {P : Hp → Hp → Prop} {tmp : List Rs} {g : Env → R TD} {x : TD} {v : V} {k : Int}
    (h : Fin kE X C q G0 H0 ρ0 σ H Q P ((x.1, x.2, v) :: tmp) g) (e : x.2 = .int k) : v = .int k := by
  obtain ⟨G, ρ, κ, W, pv, st, p, ok, tk, w⟩ := h
  obtain ⟨l, o⟩ := ok.mem (r := (x.1, x.2, v)) (by simp)
  exact Own.prim (x := V.int k) o (by show primV x.2 = _; rw [e]; rfl)
theorem de_neg (ha : DE X C q a fa) : DE X C q (.UnaryOp .USub a pos) (fNeg fa) := by
  refine (pe_un un_neg ha).weak fun σ H Q z => ?_
  refine RT.bind (ka := kE) z (fun h => h) fun x v H1 G0 H0 ρ0 z1 => ?_
  cases e : x.2 with
  | int k =>
    refine ⟨k, z1.int e, ?_⟩
    simp only [e] at z1
    exact z1.ret (d := .int (-k)) rfl rfl
  | _ => simp only [e] at z1; exact z1.no

/-! ### arguments -/
def fNil : Env → R (List TD) := fun ρ => .ok [] ρ
def fCons (f : Env → R TD) (g : Env → R (List TD)) : Env → R (List TD) := fun ρ => (f ρ).bind fun x ρ1 => (g ρ1).bind fun xs ρ2 => .ok (x :: xs) ρ2
theorem da_nil : DA X C true [] fNil := PA.weak pa_nil fun σ H Q z => by
  obtain ⟨G0, H0, ρ0, z⟩ := z
  exact Fin.end_ (b := []) z fun G ρ κ pv ok p => ⟨rfl, ok⟩
theorem da_cons {es : List Expr} {g : Env → R (List TD)} (ha : DE X C qa a fa) (hr : DA X C qb es g) (hs : starEach (a :: es) X.env = (false, eval a X.env) :: starEach es X.env := by rfl) : DA X C (qa && qb) (a :: es) (fCons fa g) := by
  refine (pa_cons ha hr hs).weak fun σ H Q z => ?_
  refine RT.bind (ka := kE) z (fun h => (Bool.and_eq_true_iff.mp h).1) fun x v H1 G0 H0 ρ0 z1 => ?_
  refine z1.next (ka := kA) (fun h => (Bool.and_eq_true_iff.mp h).2) fun xs vs H2 z2 => ?_
  refine Fin.end_ (b := v :: vs) z2 fun G ρ κ pv ok p => ⟨?_, ok.permK ?_⟩
  · exact congrArg (· + 1) p
  · show (rsL xs vs ++ [(x.1, x.2, v)] ++ κ).Perm ((x.1, x.2, v) :: rsL xs vs ++ κ)
    rw [List.append_assoc]
    exact List.perm_middle

/-! ### new tuples and lists -/
theorem Reps.length {ds : List D} : ∀ {vs : List V}, Reps K B G ds vs → ds.length = vs.length := by
  induction ds with
  | nil => intro vs h; simp only [Reps] at h; subst h; rfl
  | cons d r ih =>
    intro vs h
    simp only [Reps] at h
    obtain ⟨v, r', e, h1, h2⟩ := h
    subst e
    simp [ih h2]
theorem Reps.owns : ∀ {ds : List D} {vs : List V}, Reps K B G ds vs → Owns K B G H ds .F vs []
  | [], vs, h => by simp only [Reps] at h; simp only [Owns]; exact ⟨h, trivial⟩
  | d :: r, vs, h => by
    simp only [Reps] at h
    obtain ⟨v, r', e, h1, h2⟩ := h
    simp only [Owns]
    exact ⟨v, r', [], [], e, rfl, h1.own, h2.owns⟩
theorem rsL_freeze : ∀ {tds : List TD} {vs : List V}, tds.length = vs.length → (rsL tds vs).map (fun y => (T.F, y.2)) = rsL (tds.map fun x => (T.F, x.2)) vs
  | [], vs, _ => by cases vs <;> rfl
  | x :: r, [], h => by cases h
  | x :: r, v :: vs, h => by
    show (T.F, x.2, v) :: List.map _ (rsL r vs) = (T.F, x.2, v) :: rsL _ vs
    rw [rsL_freeze (by simpa using h)]
theorem Okx.reps : ∀ {tds : List TD} {vs : List V} {xs : List Rs}, tds.length = vs.length → Okx K B G H (rsL (tds.map fun x => (T.F, x.2)) vs ++ xs) → Reps K B G (tds.map (·.2)) vs
  | [], [], _, _, _ => by simp only [List.map_nil, Reps]
  | [], _ :: _, _, h, _ => by cases h
  | _ :: _, [], _, h, _ => by cases h
  | x :: r, v :: vs, xs, h, o => by
    simp only [List.map_cons, Reps]
    have o2 : Okx K B G H ((T.F, x.2, v) :: (rsL (r.map fun x => (T.F, x.2)) vs ++ xs)) := o
    exact ⟨v, vs, rfl, o2.headF, Okx.reps (by simpa using h) o2.tail⟩
/-- the arguments are shared -/
theorem StOk.reps {σ : L2.St} {ρ : Env} {κ : List Rs} {pv : List (Nat × V)} {tds : List TD} {vs : List V} (hl : tds.length = vs.length) (h : StOk K B G H σ ρ (rsL tds vs ++ κ) pv) :
    ∃ G', Le G G' ∧ StOk K B G' H σ ρ κ pv ∧ Reps K B G' (tds.map (·.2)) vs := by
  obtain ⟨G', le, h2⟩ := h.freezes
  rw [rsL_freeze hl] at h2
  exact ⟨G', le, h2.drop, Okx.reps hl h2.rot⟩
theorem StOk.newF {σ : L2.St} {ρ : Env} {κ : List Rs} {pv : List (Nat × V)} {p : Addr} {o : HO} (h : StOk K B G H σ ρ κ pv) (hp : H p = none) : Le G (upd G p o) ∧ StOk K B (upd G p o) (upd H p o) σ ρ κ pv := by
  obtain ⟨le, o⟩ := h.ok.layF (o := o) hp
  exact ⟨le, h.with o⟩
theorem StOk.newTup {σ : L2.St} {ρ : Env} {κ : List Rs} {pv : List (Nat × V)} {p : Addr} {ds : List D} {vs : List V} (h : StOk K B G H σ ρ κ pv) (hp : H p = none) (r : Reps K B G ds vs) :
    ∃ G', Le G G' ∧ StOk K B G' (upd H p (.tup vs)) σ ρ ((.F, .tup ds, .ref p) :: κ) pv := by
  obtain ⟨le, h2⟩ := h.newF (o := .tup vs) hp
  refine ⟨_, le, h2.addF ?_⟩
  simp only [Rep]
  exact ⟨p, vs, rfl, SqT.of upd_same, r.mono le⟩
theorem StOk.newLst {σ : L2.St} {ρ : Env} {κ : List Rs} {pv : List (Nat × V)} {p : Addr} {ds : List D} {vs : List V} (h : StOk K B G H σ ρ κ pv) (hp : H p = none) (r : Reps K B G ds vs) :
    StOk K B G (upd H p (.lst vs)) σ ρ ((.L .F, .lst ds, .ref p) :: κ) pv := by
  refine h.with (Okx.unrot (ys := [(T.L .F, D.lst ds, V.ref p)]) ?_)
  refine Okx.layO (ys := []) h.ok hp fun G' H' l le hH z => ⟨[p], ?_, ?_⟩
  · simp only [Own]
    exact ⟨p, vs, [], rfl, hH, rfl, (r.mono le).owns⟩
  · rw [show l = [] from z]
theorem Step.grow {q : Bool} {G H G' H' : Hp} {ρ ρ' : Env} {p : Addr} {o : HO} {G2 : Hp} (s : Step q G H ρ G' H' ρ') (le : Le G' G2) (hp : H' p = none) : Step q G H ρ G2 (upd H' p o) ρ' :=
  ⟨s.1.trans le, fun z => ⟨(s.2 z).1.trans (.upd hp), (s.2 z).2⟩⟩
def fTup (f : Env → R (List TD)) : Env → R TD := fun ρ => (f ρ).bind fun xs ρ1 => if xs.length ≤ SZ then .ok (.F, .tup (xs.map (·.2))) ρ1 else .stuck
def fLst (f : Env → R (List TD)) : Env → R TD := fun ρ => (f ρ).bind fun xs ρ1 => if xs.length ≤ SZ then .ok (.L .F, .lst (xs.map (·.2))) ρ1 else .stuck
theorem de_tup {es : List Expr} {k : Nat} {g : Env → R (List TD)} (h : DA X C q es g) : DE X C q (.Tuple es k pos) (fTup g) := by
  refine (pe_tup h).weak fun σ H Q z => ?_
  refine RT.bind (ka := kA) z (fun h => h) fun xs vs H1 G0 H0 ρ0 z1 => ?_
  obtain ⟨G, ρ, κ, W, pv, st, p, ok, tk, w⟩ := z1
  split at w
  · rename_i hz
    refine ⟨by rw [← (show xs.length = vs.length from p)]; exact hz, fun a ha => ?_⟩
    obtain ⟨G1, le1, ok1, r⟩ := ok.reps p
    obtain ⟨G2, le2, ok2⟩ := ok1.newTup ha r
    exact w (.ref a) G2 _ trivial (st.grow (le1.trans le2) ha) ok2
  · exact w.elim
theorem de_lst {es : List Expr} {g : Env → R (List TD)} (h : DA X C q es g) : DE X C q (.List es pos) (fLst g) := by
  refine (pe_lst h).weak fun σ H Q z => ?_
  refine RT.bind (ka := kA) z (fun h => h) fun xs vs H1 G0 H0 ρ0 z1 => ?_
  obtain ⟨G, ρ, κ, W, pv, st, p, ok, tk, w⟩ := z1
  split at w
  · rename_i hz
    refine ⟨by rw [← (show xs.length = vs.length from p)]; exact hz, fun a ha => ?_⟩
    obtain ⟨G1, le1, ok1, r⟩ := ok.reps p
    exact w (.ref a) G1 _ trivial (st.grow le1 ha) (ok1.newLst ha r)
  · exact w.elim

/-! ### what a box holds -/
/-- the items of a list or a tuple, if they own nothing -/
def elems (x : TD) : Option (List D) := match x.2 with
  | .tup ds => some ds
  | .scr is => some (is.map D.int)
  | .lst ds => match x.1 with
    | .F => some ds
    | .L .F => some ds
    | .L _ => if ds.all (fun d => !isBox d) then some ds else none
    | _ => none
  | _ => none
theorem Owns.plain : ∀ {ds : List D} {t : T} {vs : List V} {l : List Addr}, Owns K B G H ds t vs l → ds.all (fun d => !isBox d) = true → Reps K B G ds vs
  | [], t, vs, l, h, _ => by simp only [Owns] at h; simp only [Reps]; exact h.1
  | d :: r, t, vs, l, h, p => by
    simp only [Owns] at h
    obtain ⟨v, r', l1, l2, e, el, h1, h2⟩ := h
    rw [List.all_cons, Bool.and_eq_true] at p
    simp only [Reps]
    exact ⟨v, r', e, h1.plain (by simpa using p.1), h2.plain p.2⟩
theorem Owns.repsF : ∀ {ds : List D} {vs : List V} {l : List Addr}, Owns K B G H ds .F vs l → Reps K B G ds vs ∧ l = []
  | [], vs, l, h => by simp only [Owns] at h; simp only [Reps]; exact h
  | d :: r, vs, l, h => by
    simp only [Owns] at h
    obtain ⟨v, r', l1, l2, e, el, h1, h2⟩ := h
    obtain ⟨h3, e1⟩ := h1.repF
    obtain ⟨h4, e2⟩ := h2.repsF
    simp only [Reps]
    subst e1 e2
    exact ⟨⟨v, r', e, h3, h4⟩, el⟩
/-- 0: a list, 1: a tuple, 2: the script -/
def boxK : D → Nat
  | .lst _ => 0
  | .tup _ => 1
  | _ => 2
theorem reps_ints : ∀ (is : List Int), Reps K B G (is.map D.int) (is.map V.int)
  | [] => by simp only [List.map_nil, Reps]
  | i :: r => by
    simp only [List.map_cons, Reps]
    exact ⟨_, _, rfl, by simp only [Rep], reps_ints r⟩
theorem Own.elems {td : TD} {ds : List D} {v : V} {l : List Addr} (h : Own K B G H td.2 td.1 v l) (le : Le G H) (e : elems td = some ds) :
    ∃ a vs, v = .ref a ∧ Reps K B G ds vs ∧ ((boxK td.2 = 0 ∧ H a = some (.lst vs)) ∨ (boxK td.2 = 1 ∧ SqT K H a vs) ∨ (boxK td.2 = 2 ∧ SqL K H a vs)) := by
  obtain ⟨t, d⟩ := td
  cases d with
  | lst ds' =>
    cases t with
    | F =>
      have e : some ds' = some ds := e
      cases e
      obtain ⟨r, _⟩ := h.repF
      simp only [Rep] at r
      obtain ⟨a, vs, e1, s, r⟩ := r
      exact ⟨a, vs, e1, r, .inl ⟨rfl, le _ _ s⟩⟩
    | L t' =>
      have h' := h
      simp only [Own] at h'
      obtain ⟨a, vs, l', e1, ha, el, r⟩ := h'
      refine ⟨a, vs, e1, ?_, .inl ⟨rfl, ha⟩⟩
      cases t' with
      | F =>
        have e : some ds' = some ds := e
        cases e
        exact r.repsF.1
      | _ =>
        simp only [PF.elems] at e
        split at e
        · rename_i hp
          cases e
          exact r.plain hp
        · cases e
    | _ => cases e
  | tup ds' =>
    have e : some ds' = some ds := e
    cases e
    simp only [Own, Rep] at h
    obtain ⟨⟨a, vs, e1, s, r⟩, _⟩ := h
    exact ⟨a, vs, e1, r, .inr (.inl ⟨rfl, le.sqT s⟩)⟩
  | scr is =>
    have e : some (is.map D.int) = some ds := e
    cases e
    simp only [Own, Rep] at h
    obtain ⟨⟨a, e1, s⟩, _⟩ := h
    exact ⟨a, _, e1, reps_ints is, .inr (.inr ⟨rfl, le.sqL s⟩)⟩
  | _ => cases e
/-- .. looked at: any list, any tuple -/
def items : D → Option (List D)
  | .lst ds => some ds
  | .tup ds => some ds
  | .scr is => some (is.map D.int)
  | _ => none
theorem Rep.items {d : D} {ds : List D} {v : V} (h : Rep K B G d v) (e : items d = some ds) : ∃ a vs, v = .ref a ∧ Reps K B G ds vs ∧ ((boxK d ≠ 1 ∧ SqL K G a vs) ∨ (boxK d = 1 ∧ SqT K G a vs)) := by
  cases d <;> first | cases e | skip
  · simp only [Rep] at h
    obtain ⟨a, vs, e1, s, r⟩ := h
    exact ⟨a, vs, e1, r, .inr ⟨rfl, s⟩⟩
  · simp only [Rep] at h
    obtain ⟨a, vs, e1, s, r⟩ := h
    exact ⟨a, vs, e1, r, .inl ⟨by simp [boxK], SqL.of s⟩⟩
  · simp only [Rep] at h
    obtain ⟨a, e1, s⟩ := h
    exact ⟨a, _, e1, reps_ints _, .inl ⟨by simp [boxK], s⟩⟩
theorem Reps.at {ds : List D} : ∀ {vs : List V} {i : Nat} {d : D}, Reps K B G ds vs → ds[i]? = some d → ∃ v, vs[i]? = some v ∧ Rep K B G d v := by
  induction ds with
  | nil => intro vs i d h e; simp at e
  | cons x r ih =>
    intro vs i d h e
    simp only [Reps] at h
    obtain ⟨v, r', e1, h1, h2⟩ := h
    subst e1
    cases i with
    | zero => simp at e; subst e; exact ⟨v, rfl, h1⟩
    | succ i => simpa using ih h2 (by simpa using e)
theorem Reps.atI {ds : List D} {vs : List V} {i : Int} {d : D} (h : Reps K B G ds vs) (e : atI ds i = some d) : ∃ v, atI vs i = some v ∧ Rep K B G d v := by
  unfold L2.atI at e ⊢
  rw [← h.length]
  cases q : ixN ds.length i with
  | none => rw [q] at e; cases e
  | some j =>
    rw [q] at e
    exact h.at (i := j) e

/-! ### a quiet part between -/
theorem Fin.quiet {α β γ δ : Type} {k : Kd α β} {ka : Kd γ δ} {q : Bool} {G0 H0 : Hp} {ρ0 : Env} {σ : L2.St} {H : Hp} {Q : β → Hp → Prop} {P : Hp → Hp → Prop} {tmp : List Rs} {fa : Env → R γ} {g : γ → Env → R α}
    (h : Fin k X C q G0 H0 ρ0 σ H Q P tmp fun ρ => (fa ρ).bind g) (hP : ∀ G H G' H', Le G G' → Le H H' → P G H → P G' H') {Q' : δ → Hp → Prop}
    (m : ∀ a b H1, Fin k X C q G0 H0 ρ0 σ H1 Q (fun G H => P G H ∧ ka.rel X.K C.B σ a b G H) (ka.rs a b ++ tmp) (g a) → Q' b H1) : RT ka X C true fa σ H Q' := by
  obtain ⟨G, ρ, κ, W, pv, st, p, ok, tk, w⟩ := h
  rw [R.wp_bind] at w
  refine ⟨G, H, ρ, G, ρ, tmp ++ κ, W, pv, .refl, trivial, ok, tk, R.wp_mono w (fun a ρ1 w1 => ?_) fun c fs ρ1 w1 => ?_⟩
  · intro b G' H' r st' ok'
    obtain ⟨lH, eρ⟩ := st'.2 rfl
    subst eρ
    exact m a b H' ⟨G', ρ1, κ, W, pv, st.trans st' (fun _ => rfl), ⟨hP _ _ _ _ st'.1 lH p, r⟩, by rw [List.append_assoc]; exact ok', tk, w1⟩
  · intro cls dO G' H' l x ok'
    exact w1 cls dO G' H' (st.1.trans l) x ok'.drop
theorem Own.up {d : D} {t : T} {v : V} {l : List Addr} (h : Own K B G H d t v l) (lg : Le G G') (lh : Le H H') : Own K B G' H' d t v l := h.mono lg fun a ha => by
  obtain ⟨o, ho⟩ := h.there a ha
  rw [ho]; exact lh _ _ ho
theorem kB_up {σ : L2.St} {td : TD} {v : V} : ∀ G H G' H', Le G G' → Le H H' → kB.rel K B σ td v G H → kB.rel K B σ td v G' H' := fun G H G' H' lg lh ⟨l, o⟩ => ⟨l, o.up lg lh⟩

/-! ### x[i] -/
def ixR (x : TD) (y : D) : Option D := match y with
  | .int i => match x.2 with
    | .str z => if z.length ≤ SZ then (atI z.cps.toList i).map fun c => .str ⟨#[c]⟩ else none
    | _ => (elems x).bind fun ds => atI ds i
  | _ => none
def fIx (fa fi : Env → R TD) : Env → R TD := fun ρ => (fa ρ).bind fun x ρ1 => (fi ρ1).bind fun y ρ2 => match ixR x y.2 with | some d => .ok (.F, d) ρ2 | none => .stuck
theorem de_ix {i : Expr} {fi : Env → R TD} (ha : DB X C qa a fa) (hi : DE X C true i fi) (hs : PlainIx i := by exact fun _ _ => rfl) : DE X C qa (.Subscript a i pos) (fIx fa fi) := by
  refine (pe_ix ix_seq ha hi hs).weak fun σ H Q z => ?_
  refine RT.bind (ka := kB) z (fun h => h) fun x v1 H1 G0 H0 ρ0 z1 => ?_
  refine z1.quiet (ka := kE) kB_up fun y v2 H2 z2 => ?_
  cases e : ixR x y.2 with
  | none => simp only [e] at z2; exact z2.no
  | some d =>
    simp only [e] at z2
    obtain ⟨G, ρ, κ, W, pv, st, ⟨⟨l, o⟩, _⟩, ok, tk, w⟩ := z2
    obtain ⟨l2, o2⟩ := ok.mem (r := (y.1, y.2, v2)) (by simp [kE])
    have fin : ∀ v, Rep X.K C.B G d v → Q v H2 := fun v r => w v G H2 trivial st (ok.drop.addF r)
    cases ey : y.2 with
    | int i =>
      have hv2 : v2 = .int i := o2.prim (x := .int i) (by show primV y.2 = _; rw [ey]; rfl)
      have box : ∀ ds, elems x = some ds → atI ds i = some d → rIx X.K v1 v2 H2 Q := fun ds e1 e2 => by
        obtain ⟨a, vs, e3, r, s⟩ := o.elems ok.le e1
        obtain ⟨v, e4, r4⟩ := r.atI e2
        rcases s with ⟨_, s⟩ | ⟨_, s⟩ | ⟨_, s⟩
        · exact .inl ⟨a, vs, i, v, e3, hv2, SqL.of s, e4, fin v r4⟩
        rotate_left
        · exact .inl ⟨a, vs, i, v, e3, hv2, s, e4, fin v r4⟩
        · exact .inr (.inl ⟨a, vs, i, v, e3, hv2, s, e4, fin v r4⟩)
      rw [ey] at e
      obtain ⟨t, dx⟩ := x
      cases dx with
      | str z =>
        simp only [ixR] at e
        split at e
        · rename_i hz
          obtain ⟨c, e1, e2⟩ := Option.map_eq_some_iff.mp e
          subst e2
          have hv1 : v1 = .str z := o.prim (x := .str z) rfl
          exact .inr (.inr ⟨z, i, c, hv1, hv2, hz, e1, fin _ (by simp only [Rep])⟩)
        · cases e
      | _ =>
        simp only [ixR] at e
        obtain ⟨ds, e1, e2⟩ := Option.bind_eq_some_iff.mp e
        exact box ds e1 e2
    | _ => rw [ey] at e; cases e
end
end PF
namespace PF
open PySem L2
section
variable {X : Cx} {C : Ct} {q qa qb : Bool} {e a b c : Expr} {f fa fb fc : Env → R TD} {pos : Pos}
variable {K : PySem.W.Frag} {B : Tb} {G G' H H' : Hp} {σ : L2.St} {ρ : Env} {κ κ' : List Rs} {pv : List (Nat × V)}

/-! ### arguments that may be lent -/
inductive Ag where
  | v (td : TD)
  | n (i : Nat)
def rsG : List Ag → List V → List Rs
  | .v td :: r, x :: vs => (td.1, td.2, x) :: rsG r vs
  | .n _ :: r, _ :: vs => rsG r vs
  | _, _ => []
def relG (σ : L2.St) : List Ag → List V → Prop
  | [], [] => True
  | .v _ :: r, _ :: vs => relG σ r vs
  | .n i :: r, x :: vs => σ[i]? = some (some x) ∧ relG σ r vs
  | _, _ => False
def kG : Kd (List Ag) (List V) := ⟨rsG, fun _ _ σ ags vs _ _ => relG σ ags vs⟩
def own1 (x : TD) : Bool := !(isF x.1 || !isBox x.2)
/-- the arguments; what is lent is taken out of its name -/
def lend : Env → List Ag → Option (List TD × Env)
  | ρ, [] => some ([], ρ)
  | ρ, .v td :: r => (lend ρ r).map fun p => (td :: p.1, p.2)
  | ρ, .n i :: r => match ρ[i]? with
    | some (some (t, d)) => if isF t || !isBox d then (lend ρ r).map fun p => ((T.F, d) :: p.1, p.2) else (lend (ρ.set i none) r).map fun p => ((t, d) :: p.1, p.2)
    | _ => none
/-- what was lent comes back (xs: as it was handed over; ys: as it came back) -/
def back : Env → List Ag → List TD → List TD → Env
  | ρ, .v _ :: r, _ :: xs, _ :: ys => back ρ r xs ys
  | ρ, .n i :: r, x :: xs, y :: ys => if own1 x then back (ρ.set i (some y)) r xs ys else back ρ r xs ys
  | ρ, _, _, _ => ρ
theorem StOk.takeOut {i : Nat} {t : T} {d : D} {v : V} (h : StOk K B G H σ ρ κ pv) (e : ρ[i]? = some (some (t, d))) (hv : σ[i]? = some (some v)) : StOk K B G H σ (ρ.set i none) ((t, d, v) :: κ) pv := by
  have hi : i < ρ.length := (List.getElem?_eq_some_iff.mp e).1
  have hs : i < σ.length := by rw [h.len]; exact hi
  refine ⟨by simpa using h.len, fun j t1 d1 e1 => ?_, ?_, h.pvs⟩
  · by_cases q : j = i
    · subst q
      rw [List.getElem?_set_self hi] at e1
      cases e1
    · rw [List.getElem?_set_ne (Ne.symm q)] at e1
      exact h.val _ _ _ e1
  · have ee : ents σ (ρ.set i none) = (ents σ ρ).set i (.F, .non, .non) := by
      rw [ents_setR none hv]
      rfl
    rw [ee]
    have hl : i < (ents σ ρ).length := by rw [h.lenE]; exact hi
    have p1 := perm_front (ents_at e hv)
    have o := h.ok.perm (p1.append_right κ)
    have o2 := o.addF (d := .non) (v := .non) (by simp only [Rep])
    refine o2.perm ?_
    refine List.Perm.symm (((set_perm (T.F, D.non, V.non) hl).append_right _).trans ?_)
    rw [List.cons_append, List.cons_append]
    exact List.perm_middle.cons _
theorem StOk.fill {i : Nat} {t : T} {d : D} {v : V} (h : StOk K B G H σ ρ ((t, d, v) :: κ) pv) (hv : σ[i]? = some (some v)) : StOk K B G H σ (ρ.set i (some (t, d))) κ pv := by
  have hs := (List.getElem?_eq_some_iff.mp hv).1
  have hi : i < ρ.length := by rw [← h.len]; exact hs
  refine ⟨by simpa using h.len, fun j t1 d1 e1 => ?_, ?_, h.pvs⟩
  · by_cases q : j = i
    · subst q
      exact ⟨v, hv⟩
    · rw [List.getElem?_set_ne (Ne.symm q)] at e1
      exact h.val _ _ _ e1
  · rw [ents_setR _ hv]
    have hl : i < (ents σ ρ).length := by rw [h.lenE]; exact hi
    have p1 : (ents σ ρ).Perm ((ents σ ρ)[i] :: (ents σ ρ).eraseIdx i) := perm_front (List.getElem?_eq_getElem hl)
    have o := h.ok.perm (ys := (ents σ ρ)[i] :: ((t, d, v) :: ((ents σ ρ).eraseIdx i ++ κ))) (by
      refine (p1.append_right _).trans ?_
      rw [List.cons_append]
      exact List.perm_middle.cons _)
    refine o.tail.perm (List.Perm.symm ?_)
    exact (set_perm (ent (some v) (some (t, d))) hl).append_right κ
theorem lend_ok : ∀ {ags : List Ag} {vs : List V} {ρ ρh : Env} {tds : List TD} {κ : List Rs}, StOk K B G H σ ρ (rsG ags vs ++ κ) pv → relG σ ags vs → lend ρ ags = some (tds, ρh) →
    StOk K B G H σ ρh (rsL tds vs ++ κ) pv ∧ tds.length = vs.length
  | [], [], ρ, ρh, tds, κ, h, _, e => by cases e; exact ⟨h, rfl⟩
  | [], _ :: _, _, _, _, _, _, r, _ => r.elim
  | .v td :: ags, [], _, _, _, _, _, r, _ => r.elim
  | .n i :: ags, [], _, _, _, _, _, r, _ => r.elim
  | .v td :: ags, x :: vs, ρ, ρh, tds, κ, h, r, e => by
    obtain ⟨p, e1, e2⟩ := Option.map_eq_some_iff.mp (show (lend ρ ags).map (fun p => (td :: p.1, p.2)) = some (tds, ρh) from e)
    obtain ⟨tds', ρ'⟩ := p
    cases e2
    have h1 : StOk K B G H σ ρ (rsG ags vs ++ ((td.1, td.2, x) :: κ)) pv := h.permK List.perm_middle.symm
    obtain ⟨h2, hl⟩ := lend_ok h1 r e1
    exact ⟨h2.permK List.perm_middle, congrArg (· + 1) hl⟩
  | .n i :: ags, x :: vs, ρ, ρh, tds, κ, h, r, e => by
    obtain ⟨hv, r⟩ := (show σ[i]? = some (some x) ∧ relG σ ags vs from r)
    unfold lend at e
    cases q : ρ[i]? with
    | none => rw [q] at e; cases e
    | some o => cases o with
      | none => rw [q] at e; cases e
      | some td =>
        obtain ⟨t, d⟩ := td
        rw [q] at e
        dsimp only at e
        have h0 : StOk K B G H σ ρ (rsG ags vs ++ κ) pv := h
        cases hb : (isF t || !isBox d) with
        | true =>
          rw [hb, if_pos rfl] at e
          obtain ⟨p, e1, e2⟩ := Option.map_eq_some_iff.mp e
          obtain ⟨tds', ρ'⟩ := p
          cases e2
          obtain ⟨v, l, hv', o⟩ := h0.at q
          rw [hv] at hv'
          cases hv'
          have h1 : StOk K B G H σ ρ (rsG ags vs ++ ((.F, d, x) :: κ)) pv := (h0.addF (o.shared hb)).permK List.perm_middle.symm
          obtain ⟨h2, hl⟩ := lend_ok h1 r e1
          exact ⟨h2.permK List.perm_middle, congrArg (· + 1) hl⟩
        | false =>
          rw [hb, if_neg (by decide)] at e
          obtain ⟨p, e1, e2⟩ := Option.map_eq_some_iff.mp e
          obtain ⟨tds', ρ'⟩ := p
          cases e2
          have h1 : StOk K B G H σ (ρ.set i none) (rsG ags vs ++ ((t, d, x) :: κ)) pv := (h0.takeOut q hv).permK List.perm_middle.symm
          obtain ⟨h2, hl⟩ := lend_ok h1 r e1
          exact ⟨h2.permK List.perm_middle, congrArg (· + 1) hl⟩
theorem back_ok : ∀ {ags : List Ag} {vs : List V} {ρ : Env} {xs ys : List TD} {κ : List Rs}, relG σ ags vs → xs.length = vs.length → ys.length = vs.length → StOk K B G H σ ρ (rsL ys vs ++ κ) pv → StOk K B G H σ (back ρ ags xs ys) κ pv
  | [], vs, ρ, xs, ys, κ, r, _, _, h => h.drop
  | .v td :: ags, [], _, _, _, _, r, _, _, _ => r.elim
  | .n i :: ags, [], _, _, _, _, r, _, _, _ => r.elim
  | .v td :: ags, v :: vs, ρ, x :: xs, y :: ys, κ, r, h1, h2, h => by
    have h3 : StOk K B G H σ ρ (rsL ys vs ++ κ) pv := h.tail
    exact back_ok (ags := ags) r (by simpa using h1) (by simpa using h2) h3
  | .n i :: ags, v :: vs, ρ, x :: xs, y :: ys, κ, r, h1, h2, h => by
    obtain ⟨hv, r⟩ := (show σ[i]? = some (some v) ∧ relG σ ags vs from r)
    unfold back
    split
    · have h3 : StOk K B G H σ (ρ.set i (some y)) (rsL ys vs ++ κ) pv := StOk.fill (t := y.1) (d := y.2) h hv
      exact back_ok (ags := ags) r (by simpa using h1) (by simpa using h2) h3
    · exact back_ok (ags := ags) r (by simpa using h1) (by simpa using h2) h.tail
  | _ :: _, _ :: _, _, [], _, _, _, h1, _, _ => by cases h1
  | _ :: _, _ :: _, _, _ :: _, [], _, _, _, h2, _ => by cases h2

def gNil : Env → R (List Ag) := fun ρ => .ok [] ρ
def gVal (f : Env → R TD) (g : Env → R (List Ag)) : Env → R (List Ag) := fun ρ => (f ρ).bind fun x ρ1 => (g ρ1).bind fun xs ρ2 => .ok (.v x :: xs) ρ2
def gNam (i : Nat) (g : Env → R (List Ag)) : Env → R (List Ag) := fun ρ => (g ρ).bind fun xs ρ2 => .ok (.n i :: xs) ρ2
abbrev DG (X : Cx) (C : Ct) (q : Bool) (es : List Expr) (f : Env → R (List Ag)) : Prop := PA X es (RT kG X C q f)
theorem dg_nil : DG X C true [] gNil := PA.weak pa_nil fun σ H Q z => by
  obtain ⟨G0, H0, ρ0, z⟩ := z
  exact Fin.end_ (b := []) z fun G ρ κ pv ok p => ⟨trivial, ok⟩
theorem dg_val {es : List Expr} {g : Env → R (List Ag)} (ha : DE X C qa a fa) (hr : DG X C qb es g) (hs : starEach (a :: es) X.env = (false, eval a X.env) :: starEach es X.env := by rfl) : DG X C (qa && qb) (a :: es) (gVal fa g) := by
  refine (pa_cons ha hr hs).weak fun σ H Q z => ?_
  refine RT.bind (ka := kE) z (fun h => (Bool.and_eq_true_iff.mp h).1) fun x v H1 G0 H0 ρ0 z1 => ?_
  refine z1.next (ka := kG) (fun h => (Bool.and_eq_true_iff.mp h).2) fun xs vs H2 z2 => ?_
  refine Fin.end_ (b := v :: vs) z2 fun G ρ κ pv ok p => ⟨p, ok.permK ?_⟩
  show (rsG xs vs ++ [(x.1, x.2, v)] ++ κ).Perm ((x.1, x.2, v) :: rsG xs vs ++ κ)
  rw [List.append_assoc]
  exact List.perm_middle
theorem dg_nam {es : List Expr} {g : Env → R (List Ag)} {i : Nat} {x : PySem.Str} (h : PE X (.Name x pos) (tVar i)) (hr : DG X C qb es g)
    (hd : ∀ {σ ρ a ρ'}, g ρ = .ok a ρ' → (∀ (G H : Hp) (κ : List Rs) (pv : List (Nat × V)), StOk X.K C.B G H σ ρ κ pv → ∃ v, σ[i]? = some (some v)) → True := by intros; trivial)
    (hs : starEach (.Name x pos :: es) X.env = (false, eval (.Name x pos) X.env) :: starEach es X.env := by rfl) : DG X C qb (.Name x pos :: es) (fun ρ => match ρ[i]? with | some (some _) => gNam i g ρ | _ => .stuck) := by
  refine (pa_cons h hr hs).weak fun σ H Q z => ?_
  obtain ⟨G0, H0, ρ0, G, ρ, κ, W, pv, st, p, ok, tk, w⟩ := z
  cases e : ρ[i]? with
  | none => simp only [e] at w; exact w.elim
  | some o => cases o with
    | none => simp only [e] at w; exact w.elim
    | some td =>
      simp only [e] at w
      obtain ⟨v, hv⟩ := ok.val i td.1 td.2 e
      refine ⟨v, hv, ?_⟩
      have z1 : Fin kG X C qb G0 H0 ρ0 σ H (fun vs H2 => Q (v :: vs) H2) (fun _ _ => True) [] g := by
        refine ⟨G, ρ, κ, W, pv, st, trivial, ok, tk, ?_⟩
        unfold gNam at w
        rw [R.wp_bind] at w
        exact R.wp_mono w (fun xs ρ2 w2 vs G' H' r st' ok' => w2 (v :: vs) G' H' ⟨hv, r⟩ st' ok') fun _ _ _ z => z
      exact ⟨G0, H0, ρ0, z1⟩

/-! ### a def's promise -/
inductive RF where
  | ok (td : TD) (args : List TD)
  | exc (c : Nat) (fs : List (Nat × D)) (args : List TD)
  | stuck
def spF (K : PySem.W.Frag) (C : Ct) (n : Nat) (cf : List TD → RF) : Sp := fun vs H Q E => ∃ (G : Hp) (tds : List TD) (xs : List Rs), tds.length = vs.length ∧ vs.length = n ∧ Okx K C.B G H (rsL tds vs ++ xs) ∧ match cf tds with
  | .ok td tds' => tds'.length = tds.length ∧ ∀ v G' H', Le G G' → Okx K C.B G' H' ((td.1, td.2, v) :: (rsL tds' vs ++ xs)) → Q v H'
  | .exc c fs tds' => tds'.length = tds.length ∧ ∀ cls dO G' H', Le G G' → ExcIs K C.B C.xc G' c fs cls dO → Okx K C.B G' H' (rsL tds' vs ++ xs) → E cls dO H'
  | .stuck => False
/-- a call's answer -/
def doCall (cf : List TD → RF) (ags : List Ag) : Env → R TD := fun ρ => match lend ρ ags with
  | none => .stuck
  | some (tds, ρh) => match cf tds with
    | .ok td ys => if ys.length = tds.length then .ok td (back ρh ags tds ys) else .stuck
    | .exc c fs ys => if ys.length = tds.length then .exc c fs (back ρh ags tds ys) else .stuck
    | .stuck => .stuck
def fCall (n : Nat) (cf : List TD → RF) (g : Env → R (List Ag)) : Env → R TD := fun ρ => (g ρ).bind fun ags ρ1 => if ags.length = n then doCall cf ags ρ1 else .stuck
/-- what the context takes of exceptions passes on what the callee may raise -/
theorem Fin.call {Q : VK} {G0 H0 : Hp} {ρ0 : Env} {P : Hp → Hp → Prop} {tmp : List Rs} {cf : List TD → RF} {ags : List Ag} {vs : List V}
    (h : Fin kE X C false G0 H0 ρ0 σ H Q P (rsG ags vs ++ tmp) (doCall cf ags)) (r : relG σ ags vs) : ∃ W, Takes X W ∧ spF X.K C vs.length cf vs H Q (fun cls d H' => W cls d σ H') := by
  obtain ⟨G, ρ, κ, W, pv, st, p, ok, tk, w⟩ := h
  refine ⟨W, tk, ?_⟩
  unfold doCall at w
  cases e : lend ρ ags with
  | none => rw [e] at w; exact w.elim
  | some pr =>
    obtain ⟨tds, ρh⟩ := pr
    rw [e] at w
    dsimp only at w
    have ok0 : StOk X.K C.B G H σ ρ (rsG ags vs ++ κ) pv := by
      have h1 := ok.permK (κ' := tmp ++ (rsG ags vs ++ κ)) (by rw [List.append_assoc]; exact List.perm_append_comm_assoc ..)
      exact h1.drop
    obtain ⟨ok1, hl⟩ := lend_ok ok0 r e
    have con : ∀ {G' H' : Hp} {ys : List TD} {zs : List Rs}, ys.length = tds.length → Okx X.K C.B G' H' (zs ++ (rsL ys vs ++ (ents σ ρh ++ κ))) → StOk X.K C.B G' H' σ (back ρh ags tds ys) (zs ++ κ) pv := fun {G' H' ys zs} hy o => by
      refine back_ok r hl (hy.trans hl) (ok1.with (o.perm ?_))
      have p1 : (rsL ys vs ++ (ents σ ρh ++ κ)).Perm (ents σ ρh ++ (rsL ys vs ++ κ)) := List.perm_append_comm_assoc ..
      have p2 : (zs ++ (ents σ ρh ++ (rsL ys vs ++ κ))).Perm (ents σ ρh ++ (zs ++ (rsL ys vs ++ κ))) := List.perm_append_comm_assoc ..
      have p3 : (zs ++ (rsL ys vs ++ κ)).Perm (rsL ys vs ++ (zs ++ κ)) := List.perm_append_comm_assoc ..
      exact (p1.append_left zs).trans (p2.trans (p3.append_left _))
    refine ⟨G, tds, ents σ ρh ++ κ, hl, rfl, ok1.rot, ?_⟩
    cases ec : cf tds with
    | stuck => rw [ec] at w; exact w
    | ok td ys =>
      rw [ec] at w
      dsimp only at w
      split at w
      · rename_i hy
        refine ⟨hy, fun v G' H' le o => w v G' H' trivial ⟨st.1.trans le, fun z => nomatch z⟩ (con (zs := [(td.1, td.2, v)]) hy o)⟩
      · exact w.elim
    | exc c fs ys =>
      rw [ec] at w
      dsimp only at w
      split at w
      · rename_i hy
        refine ⟨hy, fun cls dO G' H' le x o => w cls dO G' H' (st.1.trans le) x (con (zs := []) hy o)⟩
      · exact w.elim

/-! ### calls -/
abbrev FnP (X : Cx) (C : Ct) (k : Nat) (f : Addr) (fd : FuncData) (ps : List PySem.Str) (cf : List TD → RF) : Prop := FnOk X.prog X.w X.K X.mg X.base (L2.CX X.prog X.w) k f fd ps (spF X.K C ps.length cf)
/-- the exceptions that this context takes, whatever they are -/
theorem passesW {W : WX} (tk : Takes X W) (pins : List (Addr × Obj)) (σ : L2.St) (H : Hp) (s : Shared) (e : Value) (s' : Shared) (I : Inv X pins σ H s) (x : L2.CX X.prog X.w X.stack H s (fun cls d H' => W cls d σ H') e s') : X.xe e s' :=
  tk e s' (XE.of_call I (fun cls d H' h => h) x)
/-- the callee runs, as run_fn; the wish comes with the promise -/
theorem run_fnW {k : Nat} {fd : FuncData} {f : Addr} {ps : List PySem.Str} {cf : List TD → RF} {pins : List (Addr × Obj)} {σ : L2.St} {H : Hp} {s : Shared} {Q : VK} {us : List Value} {vs : List V} (F : FnP X C k f fd ps cf) (hr : Room k X.A) (hb : Binds X.K fd ps [])
    (I : Inv X pins σ H s) (r : Vals vs us) (h : ∃ W, Takes X W ∧ spF X.K C vs.length cf vs H Q (fun cls d H' => W cls d σ H')) (hn : vs.length = ps.length) : wpAny (model X.prog X.w) X.A (call (.ref f) us) (EP X pins σ Q) X.xe s := by
  obtain ⟨W, tk, h⟩ := h
  rw [hn] at h
  have hl : us.length = ps.length := by rw [← r.length, hn]
  have hb' := hb s us I.kIn (by simpa using hl)
  rw [List.append_nil] at hb'
  refine wpAny_call (codeAny_mono (F.run X.A X.stack s H ⟨us, []⟩ us vs Q _ hr I.env0 hb' r h) fun r s' hq => ?_)
  cases r with
  | error e => exact passesW tk pins σ H s e s' I hq
  | ok fl =>
    cases fl with
    | ret u => exact I.after hq
    | next => exact False.elim hq
    | brk => exact False.elim hq
    | cont => exact False.elim hq
theorem relG_len : ∀ {ags : List Ag} {vs : List V}, relG σ ags vs → ags.length = vs.length
  | [], [], _ => rfl
  | [], _ :: _, r => r.elim
  | .v _ :: _, [], r => r.elim
  | .n _ :: _, [], r => r.elim
  | .v _ :: r, _ :: vs, h => congrArg (· + 1) (relG_len (show relG σ r vs from h))
  | .n _ :: r, _ :: vs, h => congrArg (· + 1) (relG_len h.2)
def tCallW (X : Cx) (C : Ct) (n : Nat) (cf : List TD → RF) (t : TA) : TE := fun σ H Q => t σ H fun vs H1 => vs.length = n ∧ ∃ W, Takes X W ∧ spF X.K C vs.length cf vs H1 Q (fun cls d H' => W cls d σ H')
theorem pe_callW {k : Nat} {fd : FuncData} {f : Addr} {ps : List PySem.Str} {cf : List TD → RF} {x : PySem.Str} {p : Pos} {es : List Expr} {t : TA} (F : FnP X C k f fd ps cf) (hr : Room k X.A) (hg : Gl X x) (hm : X.mg x = some (.ref f)) (hk : PySem.W.keepIn X.K (.ref f) = true) (hb : Binds X.K fd ps [])
    (ha : PA X (e :: es) t) (hdb : (x == ("__debug__" : PySem.Str)) = false := by decide) (he : starEach (e :: es) X.env = (false, eval e X.env) :: starEach es X.env := by rfl) (hpl : (backTo pos (starEach es X.env)).any (·.1) = false := by rfl) :
    PE X (.Call (.Name x p) (e :: es) [] pos) (tCallW X C ps.length cf t) := by
  refine ⟨fun pins s σ H Q I h => ?_⟩
  refine wpAny_Call_Name_kw (ld_glob I hg hm ?_ hdb)
  refine PySem.W.callWith_K (h₀ := X.base) I.ok.mod.kin hk (thn (ha.run pos pins s σ H _ I h) fun us s1 ⟨vs, H1, I1, r, hn, q⟩ => ⟨I1.kIn, ?_⟩) he hpl
  exact run_fnW F hr hb I1 r q hn
theorem de_call {k : Nat} {fd : FuncData} {f : Addr} {ps : List PySem.Str} {cf : List TD → RF} {x : PySem.Str} {p : Pos} {es : List Expr} {g : Env → R (List Ag)} (F : FnP X C k f fd ps cf) (hr : Room k X.A) (hg : Gl X x) (hm : X.mg x = some (.ref f)) (hk : PySem.W.keepIn X.K (.ref f) = true) (hb : Binds X.K fd ps [])
    (ha : DG X C q (e :: es) g) (hdb : (x == ("__debug__" : PySem.Str)) = false := by decide) (he : starEach (e :: es) X.env = (false, eval e X.env) :: starEach es X.env := by rfl) (hpl : (backTo pos (starEach es X.env)).any (·.1) = false := by rfl) :
    DE X C false (.Call (.Name x p) (e :: es) [] pos) (fCall ps.length cf g) := by
  refine (pe_callW F hr hg hm hk hb ha hdb he hpl).weak fun σ H Q z => ?_
  refine RT.bind (ka := kG) z (fun h => nomatch h) fun ags vs H1 G0 H0 ρ0 z1 => ?_
  have r : relG σ ags vs := by obtain ⟨G, ρ, κ, W, pv, st, p, _⟩ := id z1; exact p
  by_cases hn : ags.length = ps.length
  · simp only [if_pos hn] at z1
    exact ⟨(relG_len r).symm.trans hn, Fin.call (tmp := []) (by rw [List.append_nil]; exact z1) r⟩
  · simp only [if_neg hn] at z1
    exact z1.no
theorem pe_callW0 {k : Nat} {fd : FuncData} {f : Addr} {cf : List TD → RF} {x : PySem.Str} {p : Pos} (F : FnP X C k f fd [] cf) (hr : Room k X.A) (hg : Gl X x) (hm : X.mg x = some (.ref f)) (hk : PySem.W.keepIn X.K (.ref f) = true) (hb : Binds X.K fd [] [])
    (hdb : (x == ("__debug__" : PySem.Str)) = false := by decide) : PE X (.Call (.Name x p) [] [] pos) (tCallW X C 0 cf tNil) := by
  refine ⟨fun pins s σ H Q I h => ?_⟩
  refine wpAny_Call_Name_kw (ld_glob I hg hm ?_ hdb)
  exact PySem.W.callWith_K0 I.kIn hk (run_fnW (us := []) (vs := []) F hr hb I .nil h.2 rfl)
theorem de_call0 {k : Nat} {fd : FuncData} {f : Addr} {cf : List TD → RF} {x : PySem.Str} {p : Pos} (F : FnP X C k f fd [] cf) (hr : Room k X.A) (hg : Gl X x) (hm : X.mg x = some (.ref f)) (hk : PySem.W.keepIn X.K (.ref f) = true) (hb : Binds X.K fd [] [])
    (hdb : (x == ("__debug__" : PySem.Str)) = false := by decide) : DE X C false (.Call (.Name x p) [] [] pos) (fCall 0 cf gNil) := by
  refine (pe_callW0 F hr hg hm hk hb hdb).weak fun σ H Q z => ?_
  obtain ⟨G0, H0, ρ0, z⟩ := z
  have z1 : Fin kE X C false G0 H0 ρ0 σ H Q (fun _ _ => True) (rsG [] [] ++ []) (doCall cf []) := z
  exact ⟨rfl, Fin.call z1 (show relG σ [] [] from trivial)⟩

/-! ### methods and makers -/
structure CtOk (X : Cx) (C : Ct) : Prop where
  inj : ∀ n m, C.B.nm n = C.B.nm m → n = m
  cls : 0 < C.nn → ∀ c, Cls X.K (C.B.cls c)
  noat : ∀ c n, n < C.nn → NoAttr X.K (C.B.cls c) (C.B.nm n)
/-- o.m(..): the first argument is the receiver; an object of the class c -/
def isObjOf (c : Nat) (ρ : Env) : Ag → Bool
  | .v (_, .obj c' _) => c' == c
  | .n i => match ρ[i]? with
    | some (some (_, .obj c' _)) => c' == c
    | _ => false
  | _ => false
def tMethW (X : Cx) (C : Ct) (cl : Addr) (m : PySem.Str) (n : Nat) (cf : List TD → RF) (ta : TE) (t : TA) : TE := fun σ H Q => ta σ H fun x H1 => ∃ a dx fs, x = .ref a ∧ H1 a = some (.ins cl dx fs) ∧ fs.lookup m = none ∧
  t σ H1 fun vs H2 => (x :: vs).length = n ∧ ∃ W, Takes X W ∧ spF X.K C (x :: vs).length cf (x :: vs) H2 Q (fun cls d H' => W cls d σ H')
theorem pe_methW {k : Nat} {fd : FuncData} {f cl : Addr} {ps : List PySem.Str} {cf : List TD → RF} {m : PySem.Str} {apos : Pos} {o : Expr} {es : List Expr} {ta : TE} {t : TA} {pl : Sem Bool} (he : PE X o ta) (c : Cls X.K cl) (hm : Meth X.K cl m f) (F : FnP X C k f fd ps cf) (hr : Room k X.A) (hb : Binds X.K fd ps [])
    (ha : PA X (e :: es) t) (hst : starEach (e :: es) X.env = (false, eval e X.env) :: starEach es X.env := by rfl) (hpl : (backTo pos (starEach es X.env)).any (·.1) = false := by rfl)
    (ht : eval (.Call (.Attribute o m apos) (e :: es) [] pos) X.env = (do
      let ov ← eval o X.env
      standAt apos.atName
      let (f, first) ← holding [ov] (getMethod ov m pl)
      callWith pos f first (backTo pos (starEach (e :: es) X.env)) (backToKw pos (keywordEach [] X.env))) := by rfl) :
    PE X (.Call (.Attribute o m apos) (e :: es) [] pos) (tMethW X C cl m ps.length cf ta t) := by
  refine ⟨fun pins s σ H Q I h => ?_⟩
  refine PySem.W.methodCall_KW (pl := pl) (thn (he.run pins s σ H _ I h) fun u s1 ⟨x, H1, I1, rx, a, dx, fs, ex, ea, l, q⟩ => ?_) ht
  subst ex
  obtain rfl : u = Value.ref a := rx
  refine getmeth_ok I1 ea c hm l ?_
  refine PySem.W.callWith_K (first := [.ref a]) (h₀ := X.base) I.ok.mod.kin hm.kp (thn (ha.run pos pins s1 σ H1 _ I1 q) fun us s2 ⟨vs, H2, I2, r, hn, q2⟩ => ⟨I2.kIn, ?_⟩) hst hpl
  exact run_fnW (us := .ref a :: us) (vs := .ref a :: vs) F hr hb I2 (.cons rfl r) q2 hn
theorem pe_methW0 {k : Nat} {fd : FuncData} {f cl : Addr} {ps : List PySem.Str} {cf : List TD → RF} {m : PySem.Str} {apos : Pos} {o : Expr} {ta : TE} {pl : Sem Bool} (he : PE X o ta) (c : Cls X.K cl) (hm : Meth X.K cl m f) (F : FnP X C k f fd ps cf) (hr : Room k X.A) (hb : Binds X.K fd ps [])
    (ht : eval (.Call (.Attribute o m apos) [] [] pos) X.env = (do
      let ov ← eval o X.env
      standAt apos.atName
      let (f, first) ← holding [ov] (getMethod ov m pl)
      callWith pos f first (backTo pos (starEach [] X.env)) (backToKw pos (keywordEach [] X.env))) := by rfl) :
    PE X (.Call (.Attribute o m apos) [] [] pos) (tMethW X C cl m ps.length cf ta tNil) := by
  refine ⟨fun pins s σ H Q I h => ?_⟩
  refine PySem.W.methodCall_KW (pl := pl) (thn (he.run pins s σ H _ I h) fun u s1 ⟨x, H1, I1, rx, a, dx, fs, ex, ea, l, hn, q⟩ => ?_) ht
  subst ex
  obtain rfl : u = Value.ref a := rx
  refine getmeth_ok I1 ea c hm l ?_
  exact PySem.W.callWith_K0 (first := [.ref a]) I1.kIn hm.kp (run_fnW (us := [.ref a]) (vs := [.ref a]) F hr hb I1 (.cons rfl .nil) q hn)

theorem RepF.look {m : PySem.Str} (hm : ∀ n, B.nm n ≠ m) : ∀ {fs : List (Nat × D)} {vs : List (PySem.Str × V)}, RepF K B G fs vs → vs.lookup m = none
  | [], vs, h => by simp only [RepF] at h; subst h; rfl
  | (n, d) :: r, vs, h => by
    simp only [RepF] at h
    obtain ⟨v, vs', e, h1, h2⟩ := h
    subst e
    rw [List.lookup_cons, beq_eq_false_iff_ne.mpr (Ne.symm (hm n))]
    exact RepF.look hm h2
theorem Rep.obj {c : Nat} {fs : List (Nat × D)} {v : V} (h : Rep K B G (.obj c fs) v) : ∃ a dx vs, v = .ref a ∧ G a = some (.ins (B.cls c) dx vs) ∧ RepF K B G fs vs := by
  simp only [Rep] at h; exact h
/-- the method of the class c upon a name's object -/
def fMethN (c i n : Nat) (cf : List TD → RF) (g : Env → R (List Ag)) : Env → R TD := fun ρ => match ρ[i]? with
  | some (some (_, .obj c' _)) => if c' = c then (g ρ).bind fun ags ρ1 => if ags.length + 1 = n then doCall cf (.n i :: ags) ρ1 else .stuck else .stuck
  | _ => .stuck
/-- .. upon a value -/
def fMethV (c n : Nat) (cf : List TD → RF) (f : Env → R TD) (g : Env → R (List Ag)) : Env → R TD := fun ρ => (f ρ).bind fun x ρ0 => match x.2 with
  | .obj c' _ => if c' = c then (g ρ0).bind fun ags ρ1 => if ags.length + 1 = n then doCall cf (.v x :: ags) ρ1 else .stuck else .stuck
  | _ => .stuck
theorem meth_name {cl : Addr} {m : PySem.Str} {n c i : Nat} {cf : List TD → RF} {g : Env → R (List Ag)} {t : TA} (ecl : cl = C.B.cls c) (hnm : ∀ n, C.B.nm n ≠ m)
    (ht : ∀ σ H Q, RT kG X C false g σ H Q → t σ H Q) : ∀ σ H Q, RT kE X C false (fMethN c i n cf g) σ H Q → tMethW X C cl m n cf (tVar i) t σ H Q := by
  intro σ H Q z
  obtain ⟨G0, H0, ρ0, G, ρ, κ, W, pv, st, p, ok, tk, w⟩ := z
  unfold fMethN at w
  cases e : ρ[i]? with
  | none => rw [e] at w; exact w.elim
  | some o => cases o with
    | none => rw [e] at w; exact w.elim
    | some td =>
      obtain ⟨tt, d⟩ := td
      rw [e] at w
      obtain ⟨v, l, hv, o⟩ := ok.at e
      refine ⟨v, hv, ?_⟩
      cases d with
      | obj c' fs =>
        dsimp only at w
        by_cases hc : c' = c
        · rw [if_pos hc] at w
          subst hc
          obtain ⟨a, dx, vs, e1, ha, hf⟩ := (o.see ok.le).obj
          refine ⟨a, dx, vs, e1, by rw [ecl]; exact ha, hf.look hnm, ht _ _ _ ?_⟩
          rw [R.wp_bind] at w
          refine ⟨G, H, ρ, G, ρ, κ, W, pv, .refl, trivial, ok, tk, R.wp_mono w (fun ags ρ1 w1 us G' H' r st' ok' => ?_) fun c fs ρ1 w1 cls dO G' H' l => w1 cls dO G' H' (st.1.trans l)⟩
          by_cases hn : ags.length + 1 = n
          · rw [if_pos hn] at w1
            have r' : relG σ (.n i :: ags) (v :: us) := ⟨hv, r⟩
            have z2 : Fin kE X C false G0 H0 ρ0 σ H' Q (fun _ _ => True) (rsG (.n i :: ags) (v :: us) ++ []) (doCall cf (.n i :: ags)) :=
              ⟨G', ρ1, κ, W, pv, st.trans st' (fun h => nomatch h), trivial, by rw [List.append_nil]; exact ok', tk, w1⟩
            exact ⟨(relG_len r').symm.trans hn, Fin.call z2 r'⟩
          · rw [if_neg hn] at w1; exact w1.elim
        · rw [if_neg hc] at w; exact w.elim
      | _ => exact w.elim
theorem meth_val {cl : Addr} {m : PySem.Str} {n c : Nat} {cf : List TD → RF} {g : Env → R (List Ag)} {t : TA} {q' : Bool} (ecl : cl = C.B.cls c) (hnm : ∀ n, C.B.nm n ≠ m)
    (ht : ∀ σ H Q, RT kG X C false g σ H Q → t σ H Q) : ∀ σ H Q, RT kE X C false (fMethV c n cf f g) σ H Q → tMethW X C cl m n cf (RT kE X C q' f) t σ H Q := by
  intro σ H Q z
  refine RT.bind (ka := kE) z (fun h => nomatch h) fun x v H1 G0 H0 ρ0 z1 => ?_
  obtain ⟨G, ρ, κ, W, pv, st, p, ok, tk, w⟩ := z1
  obtain ⟨tt, d⟩ := x
  cases d with
  | obj c' fs =>
    dsimp only at w
    by_cases hc : c' = c
    · rw [if_pos hc] at w
      subst hc
      have hr := ok.seeK (r := (tt, D.obj c' fs, v)) (by simp [kE])
      obtain ⟨a, dx, vs, e1, ha, hf⟩ := hr.obj
      refine ⟨a, dx, vs, e1, by rw [ecl]; exact ha, hf.look hnm, ht _ _ _ ?_⟩
      rw [R.wp_bind] at w
      refine ⟨G, H1, ρ, G, ρ, (tt, D.obj c' fs, v) :: κ, W, pv, .refl, trivial, ok, tk, R.wp_mono w (fun ags ρ1 w1 us G' H' r st' ok' => ?_) fun c fs ρ1 w1 cls dO G' H' l x ok' => w1 cls dO G' H' (st.1.trans l) x ok'.tail⟩
      by_cases hn : ags.length + 1 = n
      · rw [if_pos hn] at w1
        have r' : relG σ (.v (tt, D.obj c' fs) :: ags) (v :: us) := r
        have z2 : Fin kE X C false G0 H0 ρ0 σ H' Q (fun _ _ => True) (rsG (.v (tt, D.obj c' fs) :: ags) (v :: us) ++ []) (doCall cf (.v (tt, D.obj c' fs) :: ags)) :=
          ⟨G', ρ1, κ, W, pv, st.trans st' (fun h => nomatch h), trivial, by rw [List.append_nil]; exact ok'.permK List.perm_middle, tk, w1⟩
        exact ⟨(relG_len r').symm.trans hn, Fin.call z2 r'⟩
      · rw [if_neg hn] at w1; exact w1.elim
    · rw [if_neg hc] at w; exact w.elim
  | _ => exact w.elim
theorem rt_any {α β : Type} {k : Kd α β} {f : Env → R α} {Q : β → Hp → Prop} (h : RT k X C false f σ H Q) : RT k X C false f σ H Q := h
/-- a reading that is not asked to be quiet -/
theorem RT.loud {α β : Type} {k : Kd α β} {f : Env → R α} {Q : β → Hp → Prop} (h : RT k X C false f σ H Q) : RT k X C q f σ H Q := by
  obtain ⟨G0, H0, ρ0, G, ρ, κ, W, pv, st, p, ok, tk, w⟩ := h
  exact ⟨G, H, ρ, G, ρ, κ, W, pv, .refl, p, ok, tk, R.wp_mono w (fun a ρ1 w1 b G' H' r st' ok' => w1 b G' H' r (st.trans st' fun h => nomatch h) ok') fun c fs ρ1 w1 cls dO G' H' l x ok' => w1 cls dO G' H' (st.1.trans l) x ok'⟩
theorem de_methN {k c i : Nat} {fd : FuncData} {f cl : Addr} {ps : List PySem.Str} {cf : List TD → RF} {m x : PySem.Str} {apos p : Pos} {es : List Expr} {g : Env → R (List Ag)} {pl : Sem Bool} (CO : CtOk X C) (h0 : 0 < C.nn) (hx : PE X (.Name x p) (tVar i)) (hm : Meth X.K (C.B.cls c) m f) (F : FnP X C k f fd ps cf) (hr : Room k X.A) (hb : Binds X.K fd ps [])
    (hnm : ∀ n, C.B.nm n ≠ m) (ha : DG X C q (e :: es) g) (hst : starEach (e :: es) X.env = (false, eval e X.env) :: starEach es X.env := by rfl) (hpl : (backTo pos (starEach es X.env)).any (·.1) = false := by rfl)
    (ht : eval (.Call (.Attribute (.Name x p) m apos) (e :: es) [] pos) X.env = (do
      let ov ← eval (.Name x p) X.env
      standAt apos.atName
      let (f, first) ← holding [ov] (getMethod ov m pl)
      callWith pos f first (backTo pos (starEach (e :: es) X.env)) (backToKw pos (keywordEach [] X.env))) := by rfl) :
    DE X C false (.Call (.Attribute (.Name x p) m apos) (e :: es) [] pos) (fMethN c i ps.length cf g) :=
  (pe_methW (pl := pl) hx (CO.cls h0 c) hm F hr hb ha hst hpl ht).weak (meth_name rfl hnm fun σ H Q h => h.loud)
theorem de_methN0 {k c i : Nat} {fd : FuncData} {f cl : Addr} {ps : List PySem.Str} {cf : List TD → RF} {m x : PySem.Str} {apos p : Pos} {pl : Sem Bool} (CO : CtOk X C) (h0 : 0 < C.nn) (hx : PE X (.Name x p) (tVar i)) (hm : Meth X.K (C.B.cls c) m f) (F : FnP X C k f fd ps cf) (hr : Room k X.A) (hb : Binds X.K fd ps [])
    (hnm : ∀ n, C.B.nm n ≠ m)
    (ht : eval (.Call (.Attribute (.Name x p) m apos) [] [] pos) X.env = (do
      let ov ← eval (.Name x p) X.env
      standAt apos.atName
      let (f, first) ← holding [ov] (getMethod ov m pl)
      callWith pos f first (backTo pos (starEach [] X.env)) (backToKw pos (keywordEach [] X.env))) := by rfl) :
    DE X C false (.Call (.Attribute (.Name x p) m apos) [] [] pos) (fMethN c i ps.length cf gNil) :=
  (pe_methW0 (pl := pl) hx (CO.cls h0 c) hm F hr hb ht).weak (meth_name rfl hnm fun σ H Q z => by
    obtain ⟨G0, H0, ρ0, z⟩ := z
    exact Fin.end_ (k := kG) (b := []) z fun G ρ κ pv ok p => ⟨trivial, ok⟩)
theorem de_methV {k c : Nat} {fd : FuncData} {fA cl : Addr} {ps : List PySem.Str} {cf : List TD → RF} {m : PySem.Str} {apos : Pos} {o : Expr} {es : List Expr} {g : Env → R (List Ag)} {pl : Sem Bool} (CO : CtOk X C) (h0 : 0 < C.nn) (ho : DE X C qa o f) (hm : Meth X.K (C.B.cls c) m fA) (F : FnP X C k fA fd ps cf) (hr : Room k X.A) (hb : Binds X.K fd ps [])
    (hnm : ∀ n, C.B.nm n ≠ m) (ha : DG X C q (e :: es) g) (hst : starEach (e :: es) X.env = (false, eval e X.env) :: starEach es X.env := by rfl) (hpl : (backTo pos (starEach es X.env)).any (·.1) = false := by rfl)
    (ht : eval (.Call (.Attribute o m apos) (e :: es) [] pos) X.env = (do
      let ov ← eval o X.env
      standAt apos.atName
      let (f, first) ← holding [ov] (getMethod ov m pl)
      callWith pos f first (backTo pos (starEach (e :: es) X.env)) (backToKw pos (keywordEach [] X.env))) := by rfl) :
    DE X C false (.Call (.Attribute o m apos) (e :: es) [] pos) (fMethV c ps.length cf f g) :=
  (pe_methW (pl := pl) ho (CO.cls h0 c) hm F hr hb ha hst hpl ht).weak (meth_val rfl hnm fun σ H Q h => h.loud)
theorem de_methV0 {k c : Nat} {fd : FuncData} {fA cl : Addr} {ps : List PySem.Str} {cf : List TD → RF} {m : PySem.Str} {apos : Pos} {o : Expr} {pl : Sem Bool} (CO : CtOk X C) (h0 : 0 < C.nn) (ho : DE X C qa o f) (hm : Meth X.K (C.B.cls c) m fA) (F : FnP X C k fA fd ps cf) (hr : Room k X.A) (hb : Binds X.K fd ps [])
    (hnm : ∀ n, C.B.nm n ≠ m)
    (ht : eval (.Call (.Attribute o m apos) [] [] pos) X.env = (do
      let ov ← eval o X.env
      standAt apos.atName
      let (f, first) ← holding [ov] (getMethod ov m pl)
      callWith pos f first (backTo pos (starEach [] X.env)) (backToKw pos (keywordEach [] X.env))) := by rfl) :
    DE X C false (.Call (.Attribute o m apos) [] [] pos) (fMethV c ps.length cf f gNil) :=
  (pe_methW0 (pl := pl) ho (CO.cls h0 c) hm F hr hb ht).weak (meth_val rfl hnm fun σ H Q z => by
    obtain ⟨G0, H0, ρ0, z⟩ := z
    exact Fin.end_ (k := kG) (b := []) z fun G ρ κ pv ok p => ⟨trivial, ok⟩)

/-! ### C(..) -/
def tMakeW (X : Cx) (C : Ct) (cl : Addr) (n : Nat) (cf : List TD → RF) (t : TA) : TE := fun σ H Q => t σ H fun vs H1 => vs.length + 1 = n ∧ ∃ W, Takes X W ∧ ∀ x dx, H1 x = none → H1 dx = none → dx ≠ x →
  spF X.K C n cf (.ref x :: vs) (upd (upd H1 dx (.own x)) x (.ins cl dx [])) (fun v H2 => v = .non ∧ Q (.ref x) H2) (fun cls d H' => W cls d σ H')
theorem run_makeW {k : Nat} {cl f : Addr} {fd : FuncData} {ps : List PySem.Str} {cf : List TD → RF} {pins : List (Addr × Obj)} {σ : L2.St} {H : Hp} {s : Shared} {Q : VK} {us : List Value} {vs : List V} (M : Mk X.K cl f) (F : FnP X C k f fd ps cf) (hr : Room (k + 1) X.A) (hb : Binds X.K fd ps [])
    (I : Inv X pins σ H s) (r : Vals vs us) (hn : vs.length + 1 = ps.length)
    (h : ∃ W, Takes X W ∧ ∀ x dx, H x = none → H dx = none → dx ≠ x → spF X.K C ps.length cf (.ref x :: vs) (upd (upd H dx (.own x)) x (.ins cl dx [])) (fun v H2 => v = .non ∧ Q (.ref x) H2) (fun cls d H' => W cls d σ H')) :
    wpAny (model X.prog X.w) X.A (call (.ref cl) us) (EP X pins σ Q) X.xe s := by
  obtain ⟨W, tk, h⟩ := h
  have hq := h (s.heap.objs.size + 1) s.heap.objs.size (I.hok.fresh (Nat.le_succ _)) (I.hok.fresh (Nat.le_refl _)) (Nat.ne_of_lt (Nat.lt_succ_self _))
  have I2 := Inv.made (C := cl) I
  have r2 : Vals (V.ref (s.heap.objs.size + 1) :: vs) (Value.ref (s.heap.objs.size + 1) :: us) := .cons rfl r
  have hl : (Value.ref (s.heap.objs.size + 1) :: us).length = ps.length := by
    have e := r2.length
    rw [← e]; exact hn
  have hb' := hb _ (Value.ref (s.heap.objs.size + 1) :: us) I2.kIn (by simpa using hl)
  rw [List.append_nil] at hb'
  refine wpAny_call (make_map (f := f) I.kIn M.makes M.init (beq_iff_eq.mp M.fn) (codeAny_mono (F.run _ X.stack _ _ ⟨Value.ref (s.heap.objs.size + 1) :: us, []⟩ (Value.ref (s.heap.objs.size + 1) :: us) _ _ _ (hr.make cl us [])
    (I2.env0.make cl us []) hb' r2 hq) fun r s' hq' => ?_))
  cases r with
  | error e => exact passesW tk pins σ _ _ e s' I2 hq'
  | ok fl =>
    cases fl with
    | ret u =>
      obtain ⟨v, H', I3, rv, ev, q3⟩ := I2.after hq'
      subst ev
      exact ⟨rv, ⟨V.ref (s.heap.objs.size + 1), H', I3, rfl, q3⟩⟩
    | next => exact False.elim hq'
    | brk => exact False.elim hq'
    | cont => exact False.elim hq'
theorem pe_makeW {k : Nat} {cl f : Addr} {fd : FuncData} {ps : List PySem.Str} {cf : List TD → RF} {x : PySem.Str} {p : Pos} {es : List Expr} {t : TA} (M : Mk X.K cl f) (F : FnP X C k f fd ps cf) (hr : Room (k + 1) X.A) (hg : Gl X x) (hm : X.mg x = some (.ref cl)) (hb : Binds X.K fd ps [])
    (ha : PA X (e :: es) t) (hdb : (x == ("__debug__" : PySem.Str)) = false := by decide) (he : starEach (e :: es) X.env = (false, eval e X.env) :: starEach es X.env := by rfl) (hpl : (backTo pos (starEach es X.env)).any (·.1) = false := by rfl) :
    PE X (.Call (.Name x p) (e :: es) [] pos) (tMakeW X C cl ps.length cf t) := by
  refine ⟨fun pins s σ H Q I h => ?_⟩
  refine wpAny_Call_Name_kw (ld_glob I hg hm ?_ hdb)
  refine PySem.W.callWith_K (h₀ := X.base) I.ok.mod.kin M.kp (thn (ha.run pos pins s σ H _ I h) fun us s1 ⟨vs, H1, I1, r, hn, q⟩ => ⟨I1.kIn, ?_⟩) he hpl
  exact run_makeW M F hr hb I1 r hn q
theorem pe_makeW0 {k : Nat} {cl f : Addr} {fd : FuncData} {ps : List PySem.Str} {cf : List TD → RF} {x : PySem.Str} {p : Pos} (M : Mk X.K cl f) (F : FnP X C k f fd ps cf) (hr : Room (k + 1) X.A) (hg : Gl X x) (hm : X.mg x = some (.ref cl)) (hb : Binds X.K fd ps [])
    (hdb : (x == ("__debug__" : PySem.Str)) = false := by decide) : PE X (.Call (.Name x p) [] [] pos) (tMakeW X C cl ps.length cf tNil) := by
  refine ⟨fun pins s σ H Q I h => ?_⟩
  refine wpAny_Call_Name_kw (ld_glob I hg hm ?_ hdb)
  exact PySem.W.callWith_K0 I.kIn M.kp (run_makeW (us := []) M F hr hb I .nil h.1 h.2)
/-- __init__'s answer: the object as it was left -/
def mkR : RF → RF
  | .ok (_, .non) (self :: ys) => .ok self ys
  | .ok _ _ => .stuck
  | .exc c fs (_ :: ys) => .exc c fs ys
  | .exc _ _ [] => .stuck
  | .stuck => .stuck
def doMake (c : Nat) (cf : List TD → RF) (ags : List Ag) : Env → R TD := doCall (fun tds => mkR (cf ((.R [], .obj c []) :: tds))) ags
def fMake (c n : Nat) (cf : List TD → RF) (g : Env → R (List Ag)) : Env → R TD := fun ρ => (g ρ).bind fun ags ρ1 => if ags.length + 1 = n then doMake c cf ags ρ1 else .stuck
theorem spF_make {vs : List V} {cf : List TD → RF} {c : Nat} {Q : VK} {E : XK} {n : Nat} (hn : vs.length + 1 = n) (h : spF K C vs.length (fun tds => mkR (cf ((.R [], .obj c []) :: tds))) vs H Q E) :
    ∀ x dx, H x = none → H dx = none → dx ≠ x → spF K C n cf (.ref x :: vs) (upd (upd H dx (.own x)) x (.ins (C.B.cls c) dx [])) (fun v H2 => v = .non ∧ Q (.ref x) H2) E := by
  intro x dx hx hdx hne
  obtain ⟨G, tds, xs, hl, _, ok, w⟩ := h
  have hx2 : (upd H dx (.own x)) x = none := by rw [upd_ne (Ne.symm hne)]; exact hx
  have ok1 : Okx K C.B G (upd H dx (.own x)) (rsL tds vs ++ xs) := ok.grow (.upd hdx)
  have ok2 : Okx K C.B G (upd (upd H dx (.own x)) x (.ins (C.B.cls c) dx [])) ((T.R [], D.obj c [], V.ref x) :: (rsL tds vs ++ xs)) :=
    Okx.layO (ys := []) ok1 hx2 fun G' H' l le hH z => ⟨[x], by
      simp only [Own]
      exact ⟨x, dx, [], [], rfl, hH, rfl, by simp only [OwnF]; exact ⟨trivial, trivial⟩⟩, by rw [show l = [] from z]⟩
  refine ⟨G, (.R [], .obj c []) :: tds, xs, by simp [hl], by simpa using hn, ok2, ?_⟩
  dsimp only at w
  cases e : cf ((.R [], .obj c []) :: tds) with
  | stuck => rw [e] at w; exact w
  | ok td ys =>
    rw [e] at w
    obtain ⟨t, d⟩ := td
    cases d <;> first
      | (cases ys with
         | nil => exact w.elim
         | cons self ys =>
           obtain ⟨hy, w⟩ := w
           refine ⟨by simpa using hy, fun v G' H' le o => ?_⟩
           have hv : v = .non := by obtain ⟨l, q⟩ := o.head; exact q.prim (x := .non) rfl
           exact ⟨hv, w (.ref x) G' H' le o.tail⟩)
      | exact w.elim
  | exc c' fs ys =>
    rw [e] at w
    cases ys with
    | nil => exact w.elim
    | cons self ys =>
      obtain ⟨hy, w⟩ := w
      exact ⟨by simpa using hy, fun cls dO G' H' le x o => w cls dO G' H' le x o.tail⟩
theorem make_tail {n c : Nat} {cf : List TD → RF} {g : Env → R (List Ag)} {t : TA} (ht : ∀ σ H Q, RT kG X C false g σ H Q → t σ H Q) : ∀ σ H Q, RT kE X C false (fMake c n cf g) σ H Q → tMakeW X C (C.B.cls c) n cf t σ H Q := by
  intro σ H Q z
  refine ht _ _ _ (RT.bind (ka := kG) z (fun h => nomatch h) fun ags vs H1 G0 H0 ρ0 z1 => ?_)
  have r : relG σ ags vs := by obtain ⟨G, ρ, κ, W, pv, st, p, _⟩ := id z1; exact p
  by_cases hn : ags.length + 1 = n
  · simp only [if_pos hn] at z1
    obtain ⟨W, tk, h⟩ := Fin.call (tmp := []) (by rw [List.append_nil]; exact z1) r
    have hn' : vs.length + 1 = n := by rw [← relG_len r]; exact hn
    exact ⟨hn', W, tk, spF_make hn' h⟩
  · simp only [if_neg hn] at z1
    exact z1.no
theorem de_make {k c : Nat} {f : Addr} {fd : FuncData} {ps : List PySem.Str} {cf : List TD → RF} {x : PySem.Str} {p : Pos} {es : List Expr} {g : Env → R (List Ag)} (M : Mk X.K (C.B.cls c) f) (F : FnP X C k f fd ps cf) (hr : Room (k + 1) X.A) (hg : Gl X x) (hm : X.mg x = some (.ref (C.B.cls c))) (hb : Binds X.K fd ps [])
    (ha : DG X C q (e :: es) g) (hdb : (x == ("__debug__" : PySem.Str)) = false := by decide) (he : starEach (e :: es) X.env = (false, eval e X.env) :: starEach es X.env := by rfl) (hpl : (backTo pos (starEach es X.env)).any (·.1) = false := by rfl) :
    DE X C false (.Call (.Name x p) (e :: es) [] pos) (fMake c ps.length cf g) := (pe_makeW M F hr hg hm hb ha hdb he hpl).weak (make_tail fun σ H Q h => h.loud)
theorem de_make0 {k c : Nat} {f : Addr} {fd : FuncData} {ps : List PySem.Str} {cf : List TD → RF} {x : PySem.Str} {p : Pos} (M : Mk X.K (C.B.cls c) f) (F : FnP X C k f fd ps cf) (hr : Room (k + 1) X.A) (hg : Gl X x) (hm : X.mg x = some (.ref (C.B.cls c))) (hb : Binds X.K fd ps [])
    (hdb : (x == ("__debug__" : PySem.Str)) = false := by decide) : DE X C false (.Call (.Name x p) [] [] pos) (fMake c ps.length cf gNil) := (pe_makeW0 M F hr hg hm hb hdb).weak (make_tail fun σ H Q z => by
    obtain ⟨G0, H0, ρ0, z⟩ := z
    exact Fin.end_ (k := kG) (b := []) z fun G ρ κ pv ok p => ⟨trivial, ok⟩)
end
end PF
namespace PF
open PySem L2
section
variable {X : Cx} {C : Ct} {q qa qb : Bool} {e a b c : Expr} {f fa fb fc : Env → R TD} {pos pos' : Pos}
variable {K : PySem.W.Frag} {B : Tb} {G G' H H' : Hp} {σ : L2.St} {ρ : Env} {κ κ' : List Rs} {pv : List (Nat × V)}

/-! ### o.f, looked at -/
def fldTs (n : Nat) : List (Nat × D) → List T → T
  | [], _ => .F
  | (m, _) :: r, ts => if m = n then ts.headD .F else fldTs n r ts.tail
def fldT (t : T) (fs : List (Nat × D)) (n : Nat) : T := match t with
  | .R ts => fldTs n fs ts
  | _ => .F
/-- o.f, looked at -/
def bFld (n : Nat) (fa : Env → R TD) : Env → R TD := fun ρ => (fa ρ).bind fun x ρ1 => match x.2 with
  | .obj _ fs => match fs.lookup n with
    | some d => .ok (fldT x.1 fs n, d) ρ1
    | none => .stuck
  | _ => .stuck
theorem RepF.at (inj : ∀ n m, B.nm n = B.nm m → n = m) {n : Nat} {d : D} : ∀ {fs : List (Nat × D)} {vs : List (PySem.Str × V)}, RepF K B G fs vs → fs.lookup n = some d → ∃ v, vs.lookup (B.nm n) = some v ∧ Rep K B G d v
  | [], vs, h, e => by cases e
  | (m, d') :: r, vs, h, e => by
    simp only [RepF] at h
    obtain ⟨v, vs', e1, h1, h2⟩ := h
    subst e1
    rw [List.lookup_cons] at e ⊢
    cases hb : n == m with
    | true =>
      rw [hb] at e
      cases e
      rw [beq_iff_eq.mp hb, beq_self_eq_true]
      exact ⟨v, rfl, h1⟩
    | false =>
      rw [hb] at e
      have : (B.nm n == B.nm m) = false := beq_eq_false_iff_ne.mpr fun z => (beq_eq_false_iff_ne.mp hb) (inj _ _ z)
      rw [this]
      exact RepF.at inj h2 e
theorem OwnF.at (inj : ∀ n m, B.nm n = B.nm m → n = m) {n : Nat} {d : D} : ∀ {fs : List (Nat × D)} {ts : List T} {vs : List (PySem.Str × V)} {l : List Addr}, OwnF K B G H fs ts vs l → fs.lookup n = some d →
    ∃ v l', vs.lookup (B.nm n) = some v ∧ Own K B G H d (fldTs n fs ts) v l'
  | [], ts, vs, l, h, e => by cases e
  | (m, d') :: r, ts, vs, l, h, e => by
    simp only [OwnF] at h
    obtain ⟨v, vs', l1, l2, e1, el, h1, h2⟩ := h
    subst e1
    rw [List.lookup_cons] at e ⊢
    unfold fldTs
    by_cases hb : n = m
    · subst hb
      rw [beq_self_eq_true] at e ⊢
      cases e
      rw [if_pos rfl]
      exact ⟨v, l1, rfl, h1⟩
    · rw [beq_eq_false_iff_ne.mpr hb] at e
      rw [beq_eq_false_iff_ne.mpr fun z => hb (inj _ _ z), if_neg (Ne.symm hb)]
      exact OwnF.at inj h2 e
theorem Own.fld (inj : ∀ n m, B.nm n = B.nm m → n = m) {n c : Nat} {fs : List (Nat × D)} {d : D} {t : T} {v : V} {l : List Addr} (le : Le G H) (h : Own K B G H (.obj c fs) t v l) (e : fs.lookup n = some d) :
    ∃ a dx vs w l', v = .ref a ∧ H a = some (.ins (B.cls c) dx vs) ∧ vs.lookup (B.nm n) = some w ∧ Own K B G H d (fldT t fs n) w l' := by
  cases t with
  | R ts =>
    simp only [Own] at h
    obtain ⟨a, dx, vs, l', e1, ha, el, r⟩ := h
    obtain ⟨w, l2, h1, h2⟩ := r.at inj e
    exact ⟨a, dx, vs, w, l2, e1, ha, h1, h2⟩
  | _ =>
    simp only [Own] at h
    obtain ⟨a, dx, vs, e1, ha, r⟩ := h.1.obj
    obtain ⟨w, h1, h2⟩ := r.at inj e
    exact ⟨a, dx, vs, w, [], e1, le _ _ ha, h1, h2.own⟩
theorem db_fld {n : Nat} {x : PySem.Str} (CO : CtOk X C) (hx : C.B.nm n = x) (hn : n < C.nn) (ha : DB X C q a fa) (hb : attributeBase a x X.env (eval a X.env) = eval a X.env := by rfl) : DB X C q (.Attribute a x pos) (bFld n fa) := by
  subst hx
  refine (pe_fld ha hb).weak fun σ H Q z => ?_
  refine RT.bind (ka := kB) z (fun h => h) fun y v1 H1 G0 H0 ρ0 z1 => ?_
  obtain ⟨G, ρ, κ, W, pv, st, ⟨l, o⟩, ok, tk, w⟩ := z1
  obtain ⟨t, d⟩ := y
  cases d with
  | obj c fs =>
    dsimp only at w
    cases el : fs.lookup n with
    | none => rw [el] at w; exact w.elim
    | some d =>
      rw [el] at w
      obtain ⟨a, dx, vs, u, l', e1, ha, hu, ow⟩ := Own.fld CO.inj ok.le o el
      exact ⟨a, _, dx, vs, u, e1, ha, CO.cls (Nat.lt_of_le_of_lt (Nat.zero_le _) hn) c, CO.noat c n hn, hu, w u G H1 ⟨l', ow⟩ st ok⟩
  | _ => exact w.elim
/-- what is looked at and owns nothing goes on -/
def share (f : Env → R TD) : Env → R TD := fun ρ => (f ρ).bind fun x ρ1 => if isF x.1 || !isBox x.2 then .ok (.F, x.2) ρ1 else .stuck
theorem DB.de (h : DB X C q e f) : DE X C q e (share f) := h.weak fun σ H Q z => by
  obtain ⟨G0, H0, ρ0, G, ρ, κ, W, pv, st, p, ok, tk, w⟩ := z
  unfold share at w
  rw [R.wp_bind] at w
  refine ⟨G0, H0, ρ0, G, ρ, κ, W, pv, st, p, ok, tk, R.wp_mono w (fun td ρ' w1 v G' H' r s o => ?_) fun _ _ _ z => z⟩
  cases hb : (isF td.1 || !isBox td.2) with
  | true =>
    rw [hb, if_pos rfl] at w1
    obtain ⟨l, ow⟩ := r
    exact w1 v G' H' trivial s (o.addF (ow.shared hb))
  | false =>
    rw [hb, if_neg (by decide)] at w1
    exact w1.elim

/-! ### statements -/
inductive Fl where
  | nx | bk | ct
  | rt (td : TD)
/-- what is wanted behind a statement -/
def QF (X : Cx) (C : Ct) (D : Ends) (G : Hp) (κ : List Rs) (pv : List (Nat × V)) (fl : Fl) (ρ' : Env) : Prop := match fl with
  | .nx => ∀ σ' G' H', Le G G' → StOk X.K C.B G' H' σ' ρ' κ pv → D.nx σ' H'
  | .bk => ∀ σ' G' H', Le G G' → StOk X.K C.B G' H' σ' ρ' κ pv → D.bk σ' H'
  | .ct => ∀ σ' G' H', Le G G' → StOk X.K C.B G' H' σ' ρ' κ pv → D.ct σ' H'
  | .rt td => ∀ v σ' G' H', Le G G' → StOk X.K C.B G' H' σ' ρ' ((td.1, td.2, v) :: κ) pv → D.rt v H'
def EF (X : Cx) (C : Ct) (W : WX) (G : Hp) (κ : List Rs) (pv : List (Nat × V)) (c : Nat) (fs : List (Nat × D)) (ρ' : Env) : Prop :=
  ∀ cls dO σ' G' H', Le G G' → ExcIs X.K C.B C.xc G' c fs cls dO → StOk X.K C.B G' H' σ' ρ' κ pv → W cls dO σ' H'
theorem QF.le {D : Ends} {fl : Fl} {ρ' : Env} (h : QF X C D G κ pv fl ρ') (l : Le G G') : QF X C D G' κ pv fl ρ' := by
  cases fl with
  | nx => exact fun σ2 G2 H2 l2 o2 => h σ2 G2 H2 (l.trans l2) o2
  | bk => exact fun σ2 G2 H2 l2 o2 => h σ2 G2 H2 (l.trans l2) o2
  | ct => exact fun σ2 G2 H2 l2 o2 => h σ2 G2 H2 (l.trans l2) o2
  | rt td => exact fun v σ2 G2 H2 l2 o2 => h v σ2 G2 H2 (l.trans l2) o2
theorem EF.le {W : WX} {c : Nat} {fs : List (Nat × D)} {ρ' : Env} (h : EF X C W G κ pv c fs ρ') (l : Le G G') : EF X C W G' κ pv c fs ρ' := fun cls dO σ2 G2 H2 l2 => h cls dO σ2 G2 H2 (l.trans l2)
/-- pr: the names that must keep their value -/
def TSd (X : Cx) (C : Ct) (pr : Nat → Bool) (f : Env → R Fl) : TS := fun D σ H => ∃ (G : Hp) (ρ : Env) (κ : List Rs) (W : WX) (pv : List (Nat × V)), StOk X.K C.B G H σ ρ κ pv ∧ (∀ p ∈ pv, pr p.1 = true) ∧ Takes X W ∧
  (f ρ).wp (QF X C D G κ pv) (EF X C W G κ pv)
abbrev DS (X : Cx) (C : Ct) (pr : Nat → Bool) (st : Stmt) (f : Env → R Fl) : Prop := PS X st (TSd X C pr f)
abbrev DSs (X : Cx) (C : Ct) (pr : Nat → Bool) (st : List Stmt) (f : Env → R Fl) : Prop := PSs X st (TSd X C pr f)
variable {pr : Nat → Bool}
/-- an expression, then the rest of the statement -/
theorem TSd.bind {α β : Type} {ka : Kd α β} {fa : Env → R α} {g : α → Env → R Fl} {D : Ends} {σ : L2.St} {H : Hp} (h : TSd X C pr (fun ρ => (fa ρ).bind g) D σ H) {Q : β → Hp → Prop}
    (m : ∀ a b H1 G1 ρ κ W pv, ka.rel X.K C.B σ a b G1 H1 → StOk X.K C.B G1 H1 σ ρ (ka.rs a b ++ κ) pv → (∀ p ∈ pv, pr p.1 = true) → Takes X W →
      (g a ρ).wp (QF X C D G1 κ pv) (EF X C W G1 κ pv) → Q b H1) : RT ka X C q fa σ H Q := by
  obtain ⟨G, ρ, κ, W, pv, ok, hp, tk, w⟩ := h
  rw [R.wp_bind] at w
  refine ⟨G, H, ρ, G, ρ, κ, W, pv, .refl, trivial, ok, tk, R.wp_mono w (fun a ρ1 w1 b G' H' r st ok' => ?_) fun c fs ρ1 w1 cls dO G' H' l x ok' => w1 cls dO σ G' H' l x ok'⟩
  exact m a b H' G' ρ1 κ W pv r ok' hp tk (R.wp_mono w1 (fun _ _ z => z.le st.1) fun _ _ _ z => z.le st.1)
theorem TSd.mono {f : Env → R Fl} {D D' : Ends} (h : TSd X C pr f D σ H) (h1 : ∀ σ H, D.nx σ H → D'.nx σ H) (h2 : ∀ v H, D.rt v H → D'.rt v H) (h3 : ∀ σ H, D.bk σ H → D'.bk σ H) (h4 : ∀ σ H, D.ct σ H → D'.ct σ H) : TSd X C pr f D' σ H := by
  obtain ⟨G, ρ, κ, W, pv, ok, hp, tk, w⟩ := h
  refine ⟨G, ρ, κ, W, pv, ok, hp, tk, R.wp_mono w (fun fl ρ' w1 => ?_) fun _ _ _ z => z⟩
  cases fl with
  | nx => exact fun σ' G' H' l o => h1 _ _ (w1 σ' G' H' l o)
  | bk => exact fun σ' G' H' l o => h3 _ _ (w1 σ' G' H' l o)
  | ct => exact fun σ' G' H' l o => h4 _ _ (w1 σ' G' H' l o)
  | rt td => exact fun v σ' G' H' l o => h2 _ _ (w1 v σ' G' H' l o)

def sNil : Env → R Fl := fun ρ => .ok .nx ρ
def sSeq (f g : Env → R Fl) : Env → R Fl := fun ρ => (f ρ).bind fun fl ρ1 => match fl with | .nx => g ρ1 | fl => .ok fl ρ1
theorem ds_nil : DSs X C pr [] sNil := PSs.weak pss_nil fun D σ H z => by
  obtain ⟨G, ρ, κ, W, pv, ok, hp, tk, w⟩ := z
  exact w σ G H .refl ok
theorem ds_seq {st : Stmt} {rest : List Stmt} {f g : Env → R Fl} (h1 : DS X C pr st f) (h2 : DSs X C pr rest g) : DSs X C pr (st :: rest) (sSeq f g) := by
  refine (pss_cons h1 h2).weak fun D σ H z => ?_
  obtain ⟨G, ρ, κ, W, pv, ok, hp, tk, w⟩ := z
  unfold sSeq at w
  rw [R.wp_bind] at w
  refine ⟨G, ρ, κ, W, pv, ok, hp, tk, R.wp_mono w (fun fl ρ1 w1 => ?_) fun c fs ρ1 w1 => w1⟩
  cases fl with
  | nx =>
    intro σ' G' H' l ok'
    exact ⟨G', ρ1, κ, W, pv, ok', hp, tk, R.wp_mono w1 (fun _ _ z => z.le l) fun _ _ _ z => z.le l⟩
  | bk => exact w1
  | ct => exact w1
  | rt td => exact w1
theorem ds_one {st : Stmt} {f : Env → R Fl} (h1 : DS X C pr st f) : DSs X C pr [st] f := pss_one h1
def sPass : Env → R Fl := fun ρ => .ok .nx ρ
def sBreak : Env → R Fl := fun ρ => .ok .bk ρ
def sCont : Env → R Fl := fun ρ => .ok .ct ρ
theorem ds_pass : DS X C pr (.Pass pos) sPass := PS.weak ps_pass fun D σ H z => by
  obtain ⟨G, ρ, κ, W, pv, ok, hp, tk, w⟩ := z
  exact w σ G H .refl ok
theorem ds_break : DS X C pr (.Break pos) sBreak := PS.weak ps_break fun D σ H z => by
  obtain ⟨G, ρ, κ, W, pv, ok, hp, tk, w⟩ := z
  exact w σ G H .refl ok
theorem ds_cont : DS X C pr (.Continue pos) sCont := PS.weak ps_continue fun D σ H z => by
  obtain ⟨G, ρ, κ, W, pv, ok, hp, tk, w⟩ := z
  exact w σ G H .refl ok
def sNever : Env → R Fl := fun _ => .stuck
theorem ds_never {st : Stmt} : DS X C pr st sNever := PS.weak ps_never fun D σ H z => by
  obtain ⟨G, ρ, κ, W, pv, ok, hp, tk, w⟩ := z
  exact w.elim
/-- an expression, its value dropped -/
def sExpr (f : Env → R TD) : Env → R Fl := fun ρ => (f ρ).bind fun _ ρ1 => .ok .nx ρ1
theorem ds_expr (h : DE X C q e f) (hs : swapsWith e none pos.line X.env = pure false := by rfl) : DS X C pr (.Expr e pos) (sExpr f) := PS.weak (ps_expr h hs) fun D σ H z => by
  refine TSd.bind (ka := kE) z fun a b H1 G1 ρ κ W pv r ok hp tk w => ?_
  exact w σ G1 H1 .refl ok.tail
/-- return -/
def sRet (f : Env → R TD) : Env → R Fl := fun ρ => (f ρ).bind fun x ρ1 => .ok (.rt x) ρ1
theorem ds_ret (h : DE X C q e f) : DS X C pr (.Return (some e) pos) (sRet f) := PS.weak (ps_ret h) fun D σ H z => by
  refine TSd.bind (ka := kE) z fun a b H1 G1 ρ κ W pv r ok hp tk w => ?_
  exact w b σ G1 H1 .refl ok
def sRetN : Env → R Fl := fun ρ => .ok (.rt (.F, .non)) ρ
theorem ds_retN : DS X C pr (.Return none pos) sRetN := PS.weak ps_retN fun D σ H z => by
  obtain ⟨G, ρ, κ, W, pv, ok, hp, tk, w⟩ := z
  exact w .non σ G H .refl (ok.addF (by simp only [Rep]))
/-- return x: a name of the def's own goes out as it is -/
def sRetV (pr : Nat → Bool) (i : Nat) : Env → R Fl := fun ρ => match ρ[i]? with
  | some (some (t, d)) => if isF t || !isBox d then .ok (.rt (.F, d)) ρ else if pr i then .ok (.rt (.F, d)) (ρ.set i (some (.F, d))) else .ok (.rt (t, d)) (ρ.set i none)
  | _ => .stuck
theorem StOk.share {i : Nat} {t : T} {d : D} {v : V} (ok : StOk K B G H σ ρ κ pv) (e : ρ[i]? = some (some (t, d))) (hv : σ[i]? = some (some v)) :
    ∃ G', Le G G' ∧ StOk K B G' H σ (ρ.set i (some (.F, d))) ((.F, d, v) :: κ) pv := by
  have hi : i < ρ.length := (List.getElem?_eq_some_iff.mp e).1
  have pm := (perm_front (ents_at e hv)).append_right κ
  obtain ⟨G', le, o⟩ := (ok.ok.perm pm).freeze
  have hr := o.headF
  have ok2 : StOk K B G' H σ (ρ.set i (some (.F, d))) κ pv := by
    refine ⟨by simpa using ok.len, fun j t1 d1 e1 => ?_, o.perm ?_, ok.pvs⟩
    · by_cases qq : j = i
      · subst qq; exact ⟨v, hv⟩
      · rw [List.getElem?_set_ne (Ne.symm qq)] at e1
        exact ok.val _ _ _ e1
    · rw [ents_setR _ hv]
      exact (List.Perm.append_right κ (set_perm (T.F, d, v) (by rw [ok.lenE]; exact hi))).symm
  exact ⟨G', le, ok2.addF hr⟩
theorem ds_retV {i : Nat} {x : PySem.Str} {p : Pos} (h : PE X (.Name x p) (tVar i)) : DS X C pr (.Return (some (.Name x p)) pos) (sRetV pr i) := PS.weak (ps_ret h) fun D σ H z => by
  obtain ⟨G, ρ, κ, W, pv, ok, hp, tk, w⟩ := z
  unfold sRetV at w
  cases e : ρ[i]? with
  | none => rw [e] at w; exact w.elim
  | some o => cases o with
    | none => rw [e] at w; exact w.elim
    | some td =>
      obtain ⟨t, d⟩ := td
      rw [e] at w
      obtain ⟨v, l, hv, ow⟩ := ok.at e
      refine ⟨v, hv, ?_⟩
      dsimp only at w
      cases hb : (isF t || !isBox d) with
      | true =>
        rw [hb, if_pos rfl] at w
        exact w v σ G H .refl (ok.addF (ow.shared hb))
      | false =>
        rw [hb, if_neg (by decide)] at w
        cases hpr : pr i with
        | true =>
          rw [hpr, if_pos rfl] at w
          obtain ⟨G', le, ok'⟩ := ok.share e hv
          exact w v σ G' H le ok'
        | false =>
          rw [hpr, if_neg (by decide)] at w
          exact w v σ G H .refl (ok.takeOut e hv)
/-- if -/
def sIf (t : Env → R Bool) (f g : Env → R Fl) : Env → R Fl := fun ρ => (t ρ).bind fun k ρ1 => if k then f ρ1 else g ρ1
theorem ds_if {c : Expr} {x y : List Stmt} {t : Env → R Bool} {f g : Env → R Fl} (ht : DT X C q c t) (h1 : DSs X C pr x f) (h2 : DSs X C pr y g) : DS X C pr (.If c x y pos) (sIf t f g) := PS.weak (ps_if ht h1 h2) fun D σ H z => by
  refine TSd.bind (ka := kT) z fun a k H1 G1 ρ κ W pv r ok hp tk w => ?_
  have hk : a = k := r
  subst hk
  cases a with
  | true => exact ⟨G1, ρ, κ, W, pv, ok, hp, tk, w⟩
  | false => exact ⟨G1, ρ, κ, W, pv, ok, hp, tk, w⟩
/-- x = e -/
def sAsg (pr : Nat → Bool) (i : Nat) (f : Env → R TD) : Env → R Fl := fun ρ => (f ρ).bind fun x ρ1 => if pr i then .stuck else .ok .nx (ρ1.set i (some x))
theorem StOk.store' {i : Nat} {t : T} {d : D} {v : V} (h : StOk K B G H σ ρ ((t, d, v) :: κ) pv) (hp : ∀ p ∈ pv, p.1 ≠ i) : StOk K B G H (σ.set i (some v)) (ρ.set i (some (t, d))) κ pv := by
  by_cases hi : i < ρ.length
  · exact h.store hi hp
  · have hl := h.len
    rw [List.set_eq_of_length_le (by omega), List.set_eq_of_length_le (by omega)]
    exact h.tail
theorem ne_of_pr {i : Nat} (hp : ∀ p ∈ pv, pr p.1 = true) (h : pr i = false) : ∀ p ∈ pv, p.1 ≠ i := fun p m z => by
  have := hp p m
  rw [z, h] at this; cases this
theorem ds_asg {i : Nat} {x : PySem.Str} (hN : X.N.Nodup) (hi : X.N[i]? = some x) (hx : Loc X.env.scope x) (he : DE X C q e f) (hs : swapsWith e (some (.Name x pos')) pos.line X.env = pure false := by rfl)
    (hf : X.fn x = true ∨ X.env.scope.names.lookup x = some .local := by first | exact .inl rfl | exact .inr rfl | assumption) : DS X C pr (.Assign [.Name x pos'] e pos) (sAsg pr i f) := PS.weak (ps_set hN hi hx he hs hf) fun D σ H z => by
  refine TSd.bind (ka := kE) z fun a v H1 G1 ρ κ W pv r ok hp tk w => ?_
  cases hpr : pr i with
  | true => rw [hpr, if_pos rfl] at w; exact w.elim
  | false =>
    rw [hpr, if_neg (by decide)] at w
    exact w _ G1 H1 .refl (StOk.store' ok (ne_of_pr hp hpr))
/-- x op= e (ints and texts) -/
def sAug (pr : Nat → Bool) (i : Nat) (g : D → D → Option D) (f : Env → R TD) : Env → R Fl := fun ρ => match ρ[i]? with
  | some (some x) => (f ρ).bind fun y ρ1 => match g x.2 y.2 with
    | some d => if pr i then .stuck else .ok .nx (ρ1.set i (some (.F, d)))
    | none => .stuck
  | _ => .stuck
theorem ip_of {op : Operator} {r : R2} (h : OpR X (inplaceOp op) r) : PIp X op r := fun pins s σ H x y v u Q I r1 r2 q => h pins s σ H x y v u Q I r1 r2 q
theorem ds_aug {op : Operator} {g : D → D → Option D} {i : Nat} {x : PySem.Str} (ho : OpR X (inplaceOp op) (rPrim g)) (hg : PrimOp g) (hN : X.N.Nodup) (hi : X.N[i]? = some x) (hx : Loc X.env.scope x) (he : DE X C q e f)
    (hf : X.fn x = true ∨ X.env.scope.names.lookup x = some .local := by first | exact .inl rfl | exact .inr rfl | assumption) : DS X C pr (.AugAssign (.Name x pos') op e pos) (sAug pr i g f) := PS.weak (ps_aug hN hi hx he (ip_of ho) hf) fun D σ H z => by
  obtain ⟨G, ρ, κ, W, pv, ok, hp, tk, w⟩ := z
  unfold sAug at w
  cases e : ρ[i]? with
  | none => rw [e] at w; exact w.elim
  | some o => cases o with
    | none => rw [e] at w; exact w.elim
    | some td =>
      rw [e] at w
      obtain ⟨v, l, hv, ow⟩ := ok.at (t := td.1) (d := td.2) e
      refine ⟨v, hv, ?_⟩
      dsimp only at w
      rw [R.wp_bind] at w
      refine ⟨G, H, ρ, G, ρ, κ, W, pv, .refl, trivial, ok, tk, R.wp_mono w (fun y ρ1 w1 u G' H' r st ok' => ?_) fun c fs ρ1 w1 cls dO G' H' l x ok' => w1 cls dO σ G' H' l x ok'⟩
      cases eg : g td.2 y.2 with
      | none => simp only [eg] at w1; exact w1.elim
      | some d2 =>
        simp only [eg] at w1
        obtain ⟨⟨x1, e1⟩, ⟨y1, e2⟩, ⟨z, e3⟩⟩ := hg _ _ _ eg
        have hx1 := ow.prim e1
        obtain ⟨l2, o2⟩ := ok'.mem (r := (y.1, y.2, u)) (by simp [kE])
        have hy1 := o2.prim e2
        subst hx1 hy1
        refine ⟨_, _, d2, z, e1, e2, eg, e3, ?_⟩
        cases hpr : pr i with
        | true => rw [hpr, if_pos rfl] at w1; exact w1.elim
        | false =>
          rw [hpr, if_neg (by decide)] at w1
          exact w1 _ G' H' st.1 (StOk.store' (ok'.tail.addF (primV_rep e3)) (ne_of_pr hp hpr))
theorem io_add : OpR X (inplaceOp .Add) (rPrim gAdd) := (iop_add.or iop_add_str).weak fun x y H Q ⟨d, d', d2, v, e1, e2, e3, e4, q⟩ => by
  cases d <;> cases d' <;> simp only [gAdd] at e3 <;> first
    | (cases e3; cases e1; cases e2; cases e4; exact .inl ⟨_, _, rfl, rfl, q⟩)
    | (split at e3
       · cases e3; cases e1; cases e2; cases e4; exact .inr ⟨_, _, rfl, rfl, by assumption, q⟩
       · cases e3)
    | cases e3
theorem iop_int0 {op : Operator} {F : Int → Int → V} {f : Int → Int → Option D} (h : OpR X (inplaceOp op) (rI0 F)) (k : ∀ i j d, f i j = some d → primV d = some (F i j)) : OpR X (inplaceOp op) (rPrim (gI f)) :=
  h.weak fun x y H Q ⟨d, d', d2, v, e1, e2, e3, e4, q⟩ => by
    cases d with
    | int i => cases d' with
      | int j =>
        have e6 := (k i j d2 e3).symm.trans e4
        cases e1; cases e2; cases e6
        exact ⟨i, j, rfl, rfl, q⟩
      | _ => cases e3
    | _ => cases e3
theorem io_sub : OpR X (inplaceOp .Sub) (rPrim gSub) := iop_int0 iop_sub fun i j d e => by cases e; rfl
theorem io_or : OpR X (inplaceOp .BitOr) (rPrim gOr) := iop_int0 iop_or fun i j d e => by cases e; rfl
end
end PF
namespace PF
open PySem L2
section
variable {X : Cx} {C : Ct} {q qa qb : Bool} {e a b c : Expr} {f fa fb fc : Env → R TD} {pos pos' : Pos}
variable {K : PySem.W.Frag} {B : Tb} {G G' H H' : Hp} {σ : L2.St} {ρ : Env} {κ κ' : List Rs} {pv : List (Nat × V)} {pr : Nat → Bool}

/-! ### an attribute of an owned object -/
def putD (n : Nat) (d : D) : List (Nat × D) → List (Nat × D)
  | [] => [(n, d)]
  | (m, x) :: r => if m = n then (n, d) :: r else (m, x) :: putD n d r
def putTs (n : Nat) (t : T) : List (Nat × D) → List T → List T
  | [], _ => [t]
  | (m, _) :: r, ts => if m = n then t :: ts.tail else ts.headD .F :: putTs n t r ts.tail
theorem putF_cons (f g : PySem.Str) (v w : V) (r : List (PySem.Str × V)) : putF f v ((g, w) :: r) = if g = f then (g, v) :: r else (g, w) :: putF f v r := rfl
/-- a further value at an attribute: what was there is let go -/
theorem OwnF.put (inj : ∀ n m, B.nm n = B.nm m → n = m) {n : Nat} {t : T} {d : D} {v : V} {l2 : List Addr} (hd : Own K B G H d t v l2) : ∀ {fs : List (Nat × D)} {ts : List T} {vs : List (PySem.Str × V)} {l : List Addr}, OwnF K B G H fs ts vs l →
    ∃ m l3, OwnF K B G H (putD n d fs) (putTs n t fs ts) (putF (B.nm n) v vs) m ∧ (l ++ l2).Perm (m ++ l3)
  | [], ts, vs, l, h => by
    simp only [OwnF] at h
    obtain ⟨rfl, rfl⟩ := h
    refine ⟨l2, [], ?_, by simp⟩
    simp only [putD, putTs, OwnF]
    exact ⟨v, [], l2, [], rfl, by simp, hd, rfl, rfl⟩
  | (m, x) :: r, ts, vs, l, h => by
    simp only [OwnF] at h
    obtain ⟨w, vs', l1, lr, e1, el, h1, h2⟩ := h
    subst e1 el
    rw [putF_cons]
    unfold putD putTs
    by_cases hb : m = n
    · subst hb
      rw [if_pos rfl, if_pos rfl, if_pos rfl]
      refine ⟨l2 ++ lr, l1, ?_, ?_⟩
      · simp only [OwnF]
        exact ⟨v, vs', l2, lr, rfl, rfl, hd, h2⟩
      · rw [List.append_assoc]
        refine List.perm_append_comm.trans ?_
        exact List.Perm.append_right l1 List.perm_append_comm
    · rw [if_neg hb, if_neg (fun z => hb (inj _ _ z)), if_neg hb]
      obtain ⟨m', l3, h3, p⟩ := OwnF.put inj hd h2
      refine ⟨l1 ++ m', l3, ?_, ?_⟩
      · simp only [OwnF]
        exact ⟨w, _, l1, m', rfl, rfl, h1, h3⟩
      · rw [List.append_assoc, List.append_assoc]
        exact p.append_left l1
theorem putF_len (f : PySem.Str) (v : V) : ∀ vs : List (PySem.Str × V), (putF f v vs).length ≤ vs.length + 1 := length_putF f v
theorem OwnF.len : ∀ {fs : List (Nat × D)} {ts : List T} {vs : List (PySem.Str × V)} {l : List Addr}, OwnF K B G H fs ts vs l → fs.length = vs.length
  | [], _, _, _, h => by simp only [OwnF] at h; rw [h.1]; rfl
  | (m, x) :: r, ts, vs, l, h => by
    simp only [OwnF] at h
    obtain ⟨w, vs', l1, lr, e1, el, h1, h2⟩ := h
    subst e1
    simp [OwnF.len h2]
/-- o.f = e, o a name -/
def sFld (i n : Nat) (f : Env → R TD) : Env → R Fl := fun ρ => (f ρ).bind fun x ρ1 => match ρ1[i]? with
  | some (some (.R ts, .obj c fs)) => if fs.length < 1000 then .ok .nx (ρ1.set i (some (.R (putTs n x.1 fs ts), .obj c (putD n x.2 fs)))) else .stuck
  | _ => .stuck
theorem ds_fld {i n : Nat} {x y : PySem.Str} {p : Pos} (CO : CtOk X C) (hx : PE X (.Name x p) (tVar i)) (hy : C.B.nm n = y) (hn : n < C.nn) (he : DE X C q e f) (hs : swapsWith e (some (.Attribute (.Name x p) y pos')) pos.line X.env = pure false := by rfl) :
    DS X C pr (.Assign [.Attribute (.Name x p) y pos'] e pos) (sFld i n f) := PS.weak (ps_fld hx he hs) fun D σ H z => by
  subst hy
  refine TSd.bind (ka := kE) z fun a v H1 G1 ρ κ W pv r ok hp tk w => ?_
  cases e : ρ[i]? with
  | none => rw [e] at w; exact w.elim
  | some o => cases o with
    | none => rw [e] at w; exact w.elim
    | some td =>
      obtain ⟨t, d⟩ := td
      obtain ⟨u, l, hu, ow⟩ := StOk.at (ok.tail) e
      refine ⟨u, hu, ?_⟩
      rw [e] at w
      cases t with
      | R ts => cases d with
        | obj c fs =>
          dsimp only at w
          split at w
          · rename_i hl
            have ow' := ow
            simp only [Own] at ow'
            obtain ⟨aa, dx, vs, l', e1, ha, el, hf⟩ := ow'
            subst e1
            refine ⟨aa, _, dx, vs, rfl, ha, CO.cls (Nat.lt_of_le_of_lt (Nat.zero_le _) hn) c, CO.noat c n hn, by rw [← hf.len]; exact hl, ?_⟩
            refine w σ G1 _ .refl ?_
            refine StOk.turn (ys := [(a.1, a.2, v)]) (zs := []) ok e hu fun xs o => ?_
            refine Okx.write (ys := [(T.R ts, PF.D.obj c fs, V.ref aa), (a.1, a.2, v)]) (zs := [(_, _, V.ref aa)]) o fun ll ho nd => ?_
            obtain ⟨l1, l2, e2, h1, l3, l4, e3, h2, h3⟩ := ho
            have h3 : l4 = [] := h3
            subst e2 e3 h3
            simp only [Own] at h1
            obtain ⟨a2, dx2, vs2, l5, e4, ha2, e5, hf2⟩ := h1
            cases e4
            rw [ha] at ha2
            cases ha2
            subst e5
            refine ⟨by simp, ?_⟩
            rw [List.append_nil] at nd ⊢
            have nd' := List.nodup_append.mp nd
            have na : aa ∉ l5 := (List.nodup_cons.mp nd'.1).1
            have nb : aa ∉ l3 := fun z => nd'.2.2 aa List.mem_cons_self aa z rfl
            have hf3 := OwnF.mono (H' := upd H1 aa (.ins (C.B.cls c) dx (putF (C.B.nm n) v vs))) .refl hf2 fun b hb => upd_ne fun z => na (z ▸ hb)
            have h4 := Own.mono (H' := upd H1 aa (.ins (C.B.cls c) dx (putF (C.B.nm n) v vs))) .refl h2 fun b hb => upd_ne fun z => nb (z ▸ hb)
            obtain ⟨m, l6, h5, pm⟩ := hf3.put CO.inj h4
            refine ⟨aa :: m, l6, ⟨aa :: m, [], (List.append_nil _).symm, ?_, rfl⟩, ?_⟩
            · simp only [Own]
              exact ⟨aa, dx, _, m, rfl, upd_same, rfl, h5⟩
            · exact pm.cons aa
          · exact w.elim
        | _ => exact w.elim
      | _ => first | exact w.elim | (cases d <;> exact w.elim)
end
end PF
namespace L2
open PySem
theorem PG.weak {X : Cx} {e : Expr} {t t' : TG} (h : PG X e t) (k : ∀ v σ H Q, t' v σ H Q → t v σ H Q) : PG X e t' := ⟨fun pins s σ H v u Q I r q => h.run pins s σ H v u Q I r (k _ _ _ _ q)⟩
theorem PI.weak {X : Cx} {tg e : Expr} {t t' : TI} (h : PI X tg e t) (k : ∀ σ H R, t' σ H R → t σ H R) : PI X tg e t' := ⟨fun pins s σ H R I q => h.run pins s σ H R I (k _ _ _ q)⟩
end L2
namespace PF
open PySem PySem.Spec L2
open PyProof.Rows hiding St
section
variable {X : Cx} {C : Ct} {q qa qb : Bool} {e a b c : Expr} {f fa fb fc : Env → R TD} {pos pos' : Pos}
variable {K : PySem.W.Frag} {B : Tb} {G G' H H' : Hp} {σ : L2.St} {ρ : Env} {κ κ' : List Rs} {pv : List (Nat × V)} {pr : Nat → Bool}

/-! ### targets -/
def TgD (X : Cx) (C : Ct) (pr : Nat → Bool) (f : D → Env → Option Env) : TG := fun v σ H Q => ∃ (G : Hp) (ρ ρ' : Env) (κ : List Rs) (pv : List (Nat × V)) (d : D), StOk X.K C.B G H σ ρ κ pv ∧ Rep X.K C.B G d v ∧ (∀ p ∈ pv, pr p.1 = true) ∧
  f d ρ = some ρ' ∧ ∀ σ' G' H', Le G G' → StOk X.K C.B G' H' σ' ρ' κ pv → Q σ' H'
abbrev DTg (X : Cx) (C : Ct) (pr : Nat → Bool) (e : Expr) (f : D → Env → Option Env) : Prop := PG X e (TgD X C pr f)
def gN (pr : Nat → Bool) (i : Nat) : D → Env → Option Env := fun d ρ => if pr i then none else some (ρ.set i (some (.F, d)))
theorem dg_name {i : Nat} {x : PySem.Str} (hN : X.N.Nodup) (hi : X.N[i]? = some x) (hx : Loc X.env.scope x) (hf : X.fn x = true ∨ X.env.scope.names.lookup x = some .local := by first | exact .inl rfl | exact .inr rfl | assumption) : DTg X C pr (.Name x pos) (gN pr i) := PG.weak (pg_name hN hi hx hf) fun v σ H Q z => by
  obtain ⟨G, ρ, ρ', κ, pv, d, ok, r, hp, e, w⟩ := z
  unfold gN at e
  cases hpr : pr i with
  | true => rw [hpr, if_pos rfl] at e; cases e
  | false =>
    rw [hpr, if_neg (by decide)] at e
    cases e
    exact w _ G H .refl (StOk.store' (ok.addF r) (ne_of_pr hp hpr))
/-- several targets -/
def TgsD (X : Cx) (C : Ct) (pr : Nat → Bool) (f : List D → Env → Option Env) : TGs := fun vs σ H Q => ∃ (G : Hp) (ρ ρ' : Env) (κ : List Rs) (pv : List (Nat × V)) (ds : List D), StOk X.K C.B G H σ ρ κ pv ∧ Reps X.K C.B G ds vs ∧ (∀ p ∈ pv, pr p.1 = true) ∧
  f ds ρ = some ρ' ∧ ∀ σ' G' H', Le G G' → StOk X.K C.B G' H' σ' ρ' κ pv → Q σ' H'
abbrev DTgs (X : Cx) (C : Ct) (pr : Nat → Bool) (es : List Expr) (f : List D → Env → Option Env) : Prop := PGs X es (TgsD X C pr f)
def gsNil : List D → Env → Option Env := fun ds ρ => match ds with | [] => some ρ | _ => none
def gsCons (f : D → Env → Option Env) (g : List D → Env → Option Env) : List D → Env → Option Env := fun ds ρ => match ds with | d :: r => (f d ρ).bind fun ρ1 => g r ρ1 | [] => none
theorem dgs_nil : DTgs X C pr [] gsNil := ⟨fun pins s σ H vs us Q I r z => by
  obtain ⟨G, ρ, ρ', κ, pv, ds, ok, rr, hp, e, w⟩ := z
  cases ds with
  | nil =>
    simp only [Reps] at rr
    subst rr
    cases r
    cases e
    exact assignInOrder_nil ⟨σ, H, I, w σ G H .refl ok⟩
  | cons _ _ => cases e⟩
theorem dgs_cons {es : List Expr} {f : D → Env → Option Env} {g : List D → Env → Option Env} (h1 : DTg X C pr e f) (h2 : DTgs X C pr es g)
    (hs : (assignEach (e :: es) X.env).map (·.2) = assign e X.env :: (assignEach es X.env).map (·.2) := by rfl) : DTgs X C pr (e :: es) (gsCons f g) := by
  refine ⟨fun pins s σ H vs us Q I r z => (pgs_cons h1 h2 hs).run pins s σ H vs us Q I r ?_⟩
  obtain ⟨G, ρ, ρ', κ, pv, ds, ok, rr, hp, ee, w⟩ := z
  cases ds with
  | nil => cases ee
  | cons d ds =>
    simp only [Reps] at rr
    obtain ⟨v, vs', e1, r1, r2⟩ := rr
    subst e1
    obtain ⟨ρ1, e2, e3⟩ := Option.bind_eq_some_iff.mp (show (f d ρ).bind (fun ρ1 => g ds ρ1) = some ρ' from ee)
    refine ⟨v, vs', rfl, G, ρ, ρ1, κ, pv, d, ok, r1, hp, e2, fun σ' G' H' le ok' => ?_⟩
    exact ⟨G', ρ1, ρ', κ, pv, ds, ok', r2.mono le, hp, e3, fun σ2 G2 H2 l2 o2 => w σ2 G2 H2 (le.trans l2) o2⟩
/-- (a, b, ..) = a tuple or a list -/
def gT (n : Nat) (g : List D → Env → Option Env) : D → Env → Option Env := fun d ρ => match items d with | some ds => if ds.length = n then g ds ρ else none | none => none
theorem dg_tup {es : List Expr} {k n : Nat} {g : List D → Env → Option Env} (hc : X.calm = true) (h : DTgs X C pr es g)
    (hn : (assignEach es X.env).length = n := by rfl) (hst : (assignEach es X.env).findIdx? (·.1) = none := by rfl) : DTg X C pr (.Tuple es k pos) (gT n g) := by
  refine ⟨fun pins s σ H v u Q I r z => ?_⟩
  obtain ⟨G, ρ, ρ', κ, pv, d, ok, rr, hp, ee, w⟩ := z
  unfold gT at ee
  cases e : items d with
  | none => rw [e] at ee; cases ee
  | some ds =>
    rw [e] at ee
    dsimp only at ee
    split at ee
    · rename_i hl
      obtain ⟨a, vs, e1, r1, s1⟩ := rr.items e
      subst e1
      have hv : vs.length = n := by rw [← r1.length]; exact hl
      have z2 : TgsD X C pr g vs σ H Q := ⟨G, ρ, ρ', κ, pv, ds, ok, r1, hp, ee, w⟩
      rcases s1 with ⟨_, s1⟩ | ⟨_, s1⟩
      · exact (pg_lst hc h hn hst).run pins s σ H _ u Q I r ⟨a, vs, rfl, ok.le.sqL s1, hv, z2⟩
      · exact (pg_tup hc h hn hst).run pins s σ H _ u Q I r ⟨a, vs, rfl, ok.le.sqT s1, hv, z2⟩
    · cases ee

/-! ### what is walked -/
/-- J walks ds while κw is held -/
def Walk (X : Cx) (C : Ct) (J : It) (κw : List Rs) (ds : List D) : Prop := ∀ (σ : L2.St) (ρ : Env) (κ : List Rs) (pv : List (Nat × V)) (G H : Hp) (i : Nat), StOk X.K C.B G H σ ρ (κw ++ κ) pv →
  (∀ d, ds[i]? = some d → J.go i H ∧ ∀ x H', J.yld i H x H' → ∃ G', Le G G' ∧ StOk X.K C.B G' H' σ ρ (κw ++ κ) pv ∧ Rep X.K C.B G' d x) ∧ (ds.length ≤ i → J.stop i H)
def ITd (X : Cx) (C : Ct) (f : Env → R (List D)) : TI := fun σ H R => ∃ (G : Hp) (ρ : Env) (κ : List Rs) (W : WX) (pv : List (Nat × V)), StOk X.K C.B G H σ ρ κ pv ∧ Takes X W ∧
  (f ρ).wp (fun ds ρ' => ∀ J κw G' H', Walk X C J κw ds → Le G G' → StOk X.K C.B G' H' σ ρ' (κw ++ κ) pv → R J H') (fun c fs ρ' => ∀ cls dO G' H', Le G G' → ExcIs X.K C.B C.xc G' c fs cls dO → StOk X.K C.B G' H' σ ρ' κ pv → W cls dO σ H')
abbrev DI (X : Cx) (C : Ct) (tg e : Expr) (f : Env → R (List D)) : Prop := PI X tg e (ITd X C f)
/-- a list or a tuple; it is shared from now on -/
def iSeq (f : Env → R TD) : Env → R (List D) := fun ρ => (f ρ).bind fun x ρ1 => match items x.2 with | some ds => .ok ds ρ1 | none => .stuck
theorem pi_seq {tg l : Expr} {tl : TE} (hl : PE X l tl) : PI X tg l (fun σ H R => tl σ H fun x H1 => ∃ a, x = .ref a ∧ (((∃ xs, SqL X.K H1 a xs) ∧ R (Itl X.K a) H1) ∨ ((∃ xs, SqT X.K H1 a xs) ∧ R (Itt X.K a) H1))) := by
  refine ⟨fun pins s σ H R I h => ?_⟩
  refine thn (hl.run pins s σ H _ I h) fun v s1 ⟨x, H1, I1, r1, q1⟩ => ?_
  obtain ⟨a, e, q1⟩ := q1
  subst e
  cases r1
  rcases q1 with ⟨⟨xs, hq⟩, q⟩ | ⟨⟨xs, hq⟩, q⟩
  · obtain ⟨its, rv, p, hz⟩ := I1.list hq
    refine wpAny_pyIter_list p.isList ?_
    refine ⟨s1.heap.objs.size, [s1.heap.objs.size], _, _, H1, rfl, I1.kept (t' := s1.toks) fun b o e => Heap.get?_push_of_some _ e, turn_list a _, ⟨_, Heap.get?_push_size _ rfl, rfl, rfl⟩, fun b hb => ?_, q⟩
    have e : b = s1.heap.objs.size := by simpa using hb
    subst e
    exact I1.fpOk (Nat.le_refl _) (I1.hok.fresh (Nat.le_refl _))
  · obtain ⟨its, rv, p, hz⟩ := I1.tuple hq
    refine wpAny_pyIter_tuple (show s1.heap.IsTuple a its.toArray from p) ?_
    refine ⟨s1.heap.objs.size, [s1.heap.objs.size], _, _, H1, rfl, I1.kept (t' := s1.toks) fun b o e => Heap.get?_push_of_some _ e, turn_tuple a _, ⟨_, Heap.get?_push_size _ rfl, rfl, rfl⟩, fun b hb => ?_, q⟩
    have e : b = s1.heap.objs.size := by simpa using hb
    subst e
    exact I1.fpOk (Nat.le_refl _) (I1.hok.fresh (Nat.le_refl _))
theorem walk_list {a : Addr} {d : D} {ds : List D} (e : items d = some ds) (hl : boxK d ≠ 1) : Walk X C (Itl X.K a) [(.F, d, .ref a)] ds := by
  intro σ ρ κ pv G H i ok
  obtain ⟨a', vs, e1, r, s⟩ := ok.headF.items e
  cases e1
  rcases s with ⟨_, s⟩ | ⟨h, s⟩
  · have s' := ok.le.sqL s
    refine ⟨fun d hd => ?_, fun hi => ⟨vs, s', by rw [← r.length]; exact hi⟩⟩
    obtain ⟨v, hv, rv⟩ := r.at hd
    refine ⟨⟨vs, v, s', hv⟩, fun x H' y => ?_⟩
    obtain ⟨e2, y⟩ := y
    subst e2
    have := y vs s'
    rw [hv] at this
    cases this
    exact ⟨G, .refl, ok, rv⟩
  · exact absurd h hl
theorem walk_tup {a : Addr} {d : D} {ds : List D} (e : items d = some ds) (hl : boxK d = 1) : Walk X C (Itt X.K a) [(.F, d, .ref a)] ds := by
  intro σ ρ κ pv G H i ok
  obtain ⟨a', vs, e1, r, s⟩ := ok.headF.items e
  cases e1
  rcases s with ⟨h, s⟩ | ⟨_, s⟩
  · exact absurd hl h
  · have s' := ok.le.sqT s
    refine ⟨fun d hd => ?_, fun hi => ⟨vs, s', by rw [← r.length]; exact hi⟩⟩
    obtain ⟨v, hv, rv⟩ := r.at hd
    refine ⟨⟨vs, v, s', hv⟩, fun x H' y => ?_⟩
    obtain ⟨e2, y⟩ := y
    subst e2
    have := y vs s'
    rw [hv] at this
    cases this
    exact ⟨G, .refl, ok, rv⟩
theorem ITd.bind {α β : Type} {ka : Kd α β} {fa : Env → R α} {g : α → Env → R (List D)} {R : It → Hp → Prop} (h : ITd X C (fun ρ => (fa ρ).bind g) σ H R) {Q : β → Hp → Prop}
    (m : ∀ a b H1 G1 ρ κ W pv, ka.rel X.K C.B σ a b G1 H1 → StOk X.K C.B G1 H1 σ ρ (ka.rs a b ++ κ) pv → Takes X W →
      (g a ρ).wp (fun ds ρ' => ∀ J κw G' H', Walk X C J κw ds → Le G1 G' → StOk X.K C.B G' H' σ ρ' (κw ++ κ) pv → R J H') (fun c fs ρ' => ∀ cls dO G' H', Le G1 G' → ExcIs X.K C.B C.xc G' c fs cls dO → StOk X.K C.B G' H' σ ρ' κ pv → W cls dO σ H') → Q b H1) : RT ka X C q fa σ H Q := by
  obtain ⟨G, ρ, κ, W, pv, ok, tk, w⟩ := h
  rw [PF.R.wp_bind] at w
  refine ⟨G, H, ρ, G, ρ, κ, W, pv, .refl, trivial, ok, tk, PF.R.wp_mono w (fun a ρ1 w1 b G' H' r st ok' => ?_) fun c fs ρ1 w1 cls dO G' H' l x ok' => w1 cls dO G' H' l x ok'⟩
  exact m a b H' G' ρ1 κ W pv r ok' tk (PF.R.wp_mono w1 (fun _ _ z J κw G2 H2 wk le o => z J κw G2 H2 wk (st.1.trans le) o) fun _ _ _ z cls dO G2 H2 le => z cls dO G2 H2 (st.1.trans le))
theorem di_seq {tg : Expr} (h : DE X C q e f) : DI X C tg e (iSeq f) := PI.weak (pi_seq h) fun σ H R z => by
  refine ITd.bind (ka := kE) z fun x v H1 G1 ρ κ W pv r ok tk w => ?_
  cases e : items x.2 with
  | none => rw [e] at w; exact w.elim
  | some ds =>
    rw [e] at w
    obtain ⟨G2, le, ok2⟩ := StOk.freeze (t := x.1) (d := x.2) ok
    obtain ⟨a, vs, e1, r1, s1⟩ := ok2.headF.items e
    subst e1
    rcases s1 with ⟨h, s1⟩ | ⟨h, s1⟩
    · exact ⟨a, rfl, .inl ⟨⟨vs, ok2.le.sqL s1⟩, w _ [(.F, x.2, .ref a)] G2 H1 (walk_list e h) le ok2⟩⟩
    · exact ⟨a, rfl, .inr ⟨⟨vs, ok2.le.sqT s1⟩, w _ [(.F, x.2, .ref a)] G2 H1 (walk_tup e h) le ok2⟩⟩
/-! #### range -/
def rngD (lo : Int) (n : Nat) : List D := (List.range n).map fun i : Nat => .int (lo + (i : Int))
theorem walk_rng {lo : Int} {n : Nat} : Walk X C (Itr lo n) [] (rngD lo n) := by
  intro σ ρ κ pv G H i ok
  refine ⟨fun d hd => ?_, fun hi => by
    have : n ≤ i := by simpa [rngD] using hi
    exact this⟩
  unfold rngD at hd
  rw [List.getElem?_map] at hd
  obtain ⟨j, hj, e⟩ := Option.map_eq_some_iff.mp hd
  obtain ⟨hj1, hj2⟩ := List.getElem?_eq_some_iff.mp hj
  rw [List.length_range] at hj1
  rw [List.getElem_range] at hj2
  subst hj2
  refine ⟨hj1, fun x H' y => ?_⟩
  obtain ⟨e1, e2⟩ := y
  subst e1 e2 e
  exact ⟨G, .refl, ok, by simp only [Rep]⟩
def small62 (i : Int) : Bool := decide (-(2 ^ 62) ≤ i ∧ i < 2 ^ 62)
def intD (d : D) : Option Int := match d with
  | .int i => some i
  | _ => none
def int1 (xs : List TD) : Option Int := match xs with
  | [x] => intD x.2
  | _ => none
def int2 (xs : List TD) : Option (Int × Int) := match xs with
  | [x, y] => (intD x.2).bind fun i => (intD y.2).map fun j => (i, j)
  | _ => none
theorem intD_prim {d : D} {i : Int} (h : intD d = some i) : primV d = some (.int i) := by
  cases d <;> first | (cases h; rfl) | cases h
theorem int1_ok {xs : List TD} {vs : List V} {j : Int} (h : int1 xs = some j) (hl : xs.length = vs.length) (ok : StOk K B G H σ ρ (rsL xs vs ++ κ) pv) : vs = [.int j] := by
  match xs, h with
  | [x], h =>
    match vs, hl with
    | [v], _ =>
      obtain ⟨l, o⟩ := ok.mem (r := (x.1, x.2, v)) (by simp [rsL])
      have hv : v = V.int j := o.prim (intD_prim h)
      rw [hv]
theorem int2_ok {xs : List TD} {vs : List V} {i j : Int} (h : int2 xs = some (i, j)) (hl : xs.length = vs.length) (ok : StOk K B G H σ ρ (rsL xs vs ++ κ) pv) : vs = [.int i, .int j] := by
  match xs, h with
  | [x, y], h =>
    match vs, hl with
    | [v, w], _ =>
      obtain ⟨i', h1, h2⟩ := Option.bind_eq_some_iff.mp (show (intD x.2).bind (fun i => (intD y.2).map fun j => (i, j)) = some (i, j) from h)
      obtain ⟨j', h3, h4⟩ := Option.map_eq_some_iff.mp h2
      cases h4
      obtain ⟨l, o⟩ := ok.mem (r := (x.1, x.2, v)) (by simp [rsL])
      obtain ⟨l2, o2⟩ := ok.mem (r := (y.1, y.2, w)) (by simp [rsL])
      have hv : v = V.int i := o.prim (intD_prim h1)
      have hw : w = V.int j := o2.prim (intD_prim h3)
      rw [hv, hw]
def iRng1' (f : Env → R (List TD)) : Env → R (List D) := fun ρ => (f ρ).bind fun xs ρ1 => match int1 xs with
  | some j => if small62 j then .ok (rngD 0 j.toNat) ρ1 else .stuck
  | none => .stuck
def iRng2' (f : Env → R (List TD)) : Env → R (List D) := fun ρ => (f ρ).bind fun xs ρ1 => match int2 xs with
  | some ij => if small62 ij.1 && small62 ij.2 then .ok (rngD ij.1 (ij.2 - ij.1).toNat) ρ1 else .stuck
  | none => .stuck
theorem di_rng1 {tg a : Expr} {fa : Env → R (List TD)} {p : Pos} (hg : Gl X "range") (hm : X.mg "range" = none) (ha : DA X C q [a] fa) (hs : starEach [a] X.env = [(false, eval a X.env)] := by rfl) : DI X C tg (.Call (.Name "range" p) [a] [] pos) (iRng1' fa) := PI.weak (pi_range1 hg hm ha hs) fun σ H R z => by
  refine ITd.bind (ka := kA) z fun xs vs H1 G1 ρ κ W pv r ok tk w => ?_
  cases e : int1 xs with
  | none => rw [e] at w; exact w.elim
  | some j =>
    rw [e] at w
    have hv := int1_ok e r ok
    dsimp only at w
    split at w
    · rename_i hj
      obtain ⟨h1, h2⟩ := of_decide_eq_true hj
      exact ⟨j, hv, h1, h2, w _ [] G1 H1 walk_rng .refl ok.drop⟩
    · exact w.elim
theorem di_rng2 {tg a b : Expr} {fa : Env → R (List TD)} {p : Pos} (hg : Gl X "range") (hm : X.mg "range" = none) (ha : DA X C q [a, b] fa) (hs : starEach [a, b] X.env = [(false, eval a X.env), (false, eval b X.env)] := by rfl) (hs2 : starEach [b] X.env = [(false, eval b X.env)] := by rfl) : DI X C tg (.Call (.Name "range" p) [a, b] [] pos) (iRng2' fa) := PI.weak (pi_range2 hg hm ha hs hs2) fun σ H R z => by
  refine ITd.bind (ka := kA) z fun xs vs H1 G1 ρ κ W pv r ok tk w => ?_
  cases e : int2 xs with
  | none => rw [e] at w; exact w.elim
  | some ij =>
    obtain ⟨i, j⟩ := ij
    rw [e] at w
    have hv := int2_ok e r ok
    dsimp only at w
    split at w
    · rename_i hj
      obtain ⟨h1, h2⟩ := Bool.and_eq_true_iff.mp hj
      obtain ⟨a1, a2⟩ := of_decide_eq_true h1
      obtain ⟨a3, a4⟩ := of_decide_eq_true h2
      exact ⟨i, j, hv, ⟨a1, a2, a3, a4⟩, w _ [] G1 H1 walk_rng .refl ok.drop⟩
    · exact w.elim

/-! ### for -/
def forD (step : D → Env → R Fl) : List D → Env → R Fl
  | [], ρ => .ok .nx ρ
  | d :: r, ρ => (step d ρ).bind fun fl ρ1 => match fl with
    | .nx => forD step r ρ1
    | .ct => forD step r ρ1
    | .bk => .ok .nx ρ1
    | .rt td => .ok (.rt td) ρ1
def stepD (g : D → Env → Option Env) (body : Env → R Fl) (d : D) : Env → R Fl := fun ρ => match g d ρ with
  | some ρ1 => body ρ1
  | none => .stuck
def sFor (fi : Env → R (List D)) (g : D → Env → Option Env) (body : Env → R Fl) : Env → R Fl := fun ρ => (fi ρ).bind fun ds ρ1 => forD (stepD g body) ds ρ1
theorem ds_for {tg iter : Expr} {body : List Stmt} {fi : Env → R (List D)} {g : D → Env → Option Env} {fb : Env → R Fl} (hp : PassesOwn (model X.prog X.w) X.A X.env X.xe) (hc : X.calm = true) (hi : DI X C tg iter fi) (hg : DTg X C pr tg g) (hb : DSs X C pr body fb)
    (hs : ∀ x, foldedSetIterable iter X.env x = pure x := by intro _; rfl) : DS X C pr (.For tg iter body [] pos) (sFor fi g fb) := PS.weak (ps_for hp hc hi hg hb hs) fun D σ H z => by
  obtain ⟨G, ρ, κ, W, pv, ok, hpv, tk, w⟩ := z
  unfold sFor at w
  rw [R.wp_bind] at w
  refine ⟨G, ρ, κ, W, pv, ok, tk, R.wp_mono w (fun ds ρ1 w1 J κw G1 H1 wk le1 ok1 => ?_) fun c fs ρ1 w1 cls dO G' H' l x ok' => w1 cls dO σ G' H' l x ok'⟩
  refine ⟨fun i m σ' H' => m = ds.length - i ∧ i ≤ ds.length ∧ ∃ G' ρ', Le G G' ∧ StOk X.K C.B G' H' σ' ρ' (κw ++ κ) pv ∧ (forD (stepD g fb) (ds.drop i) ρ').wp (QF X C D G κ pv) (EF X C W G κ pv),
    ⟨_, rfl, Nat.zero_le _, G1, ρ1, le1, ok1, by rw [List.drop_zero]; exact w1⟩, ?_⟩
  rintro i m σ' H' ⟨rfl, hi, G', ρ', le', ok', w'⟩
  obtain ⟨wk1, wk2⟩ := wk σ' ρ' κ pv G' H' i ok'
  by_cases hlt : i < ds.length
  · have hd : ds[i]? = some ds[i] := List.getElem?_eq_getElem hlt
    obtain ⟨go, yld⟩ := wk1 _ hd
    refine .inr ⟨go, fun σ2 H2 => ∃ G2 ρ2, Le G G2 ∧ StOk X.K C.B G2 H2 σ2 ρ2 (κw ++ κ) pv ∧ (forD (stepD g fb) (ds.drop (i + 1)) ρ2).wp (QF X C D G κ pv) (EF X C W G κ pv),
      fun σ2 H2 ⟨G2, ρ2, z1, z2, z3⟩ => ⟨_, by omega, rfl, hlt, G2, ρ2, z1, z2, z3⟩, fun x H2 y => ?_⟩
    obtain ⟨G2, le2, ok2, rx⟩ := yld x H2 y
    rw [List.drop_eq_getElem_cons hlt] at w'
    unfold forD at w'
    rw [R.wp_bind] at w'
    unfold stepD at w'
    cases eg : g ds[i] ρ' with
    | none => rw [eg] at w'; exact w'.elim
    | some ρ3 =>
      rw [eg] at w'
      refine ⟨G2, ρ', ρ3, κw ++ κ, pv, ds[i], ok2, rx, hpv, eg, fun σ3 G3 H3 le3 ok3 => ?_⟩
      have leA := (le'.trans le2).trans le3
      refine ⟨G3, ρ3, κw ++ κ, W, pv, ok3, hpv, tk, R.wp_mono w' (fun fl ρ4 w4 => ?_) fun c fs ρ4 w4 cls dO σ4 G4 H4 le4 x ok4 => w4 cls dO σ4 G4 H4 (leA.trans le4) x ok4.drop⟩
      cases fl with
      | nx => exact fun σ4 G4 H4 le4 ok4 => ⟨G4, ρ4, leA.trans le4, ok4, w4⟩
      | ct => exact fun σ4 G4 H4 le4 ok4 => ⟨G4, ρ4, leA.trans le4, ok4, w4⟩
      | bk => exact fun σ4 G4 H4 le4 ok4 => w4 σ4 G4 H4 (leA.trans le4) ok4.drop
      | rt td => exact fun v σ4 G4 H4 le4 ok4 => w4 v σ4 G4 H4 (leA.trans le4) ((ok4.permK (List.perm_append_comm_assoc [(td.1, td.2, v)] κw κ)).drop)
  · have e : i = ds.length := by omega
    subst e
    rw [List.drop_length] at w'
    exact .inl ⟨wk2 (Nat.le_refl _), w' σ' G' H' le' ok'.drop⟩
end
end PF
namespace PF
open PySem PySem.Spec L2
open PyProof.Rows hiding St
section
variable {X : Cx} {C : Ct} {q qa qb : Bool} {e a b c : Expr} {f fa fb fc : Env → R TD} {pos pos' p : Pos}
variable {K : PySem.W.Frag} {B : Tb} {G G' H H' : Hp} {σ : L2.St} {ρ : Env} {κ κ' : List Rs} {pv : List (Nat × V)} {pr : Nat → Bool}

/-! ### answers: a shared value, a new list, a new tuple -/
inductive Ans where
  | p (d : D) | l (ds : List D) | t (ds : List D)
def Ans.go : Ans → Env → R TD
  | .p d, ρ => .ok (.F, d) ρ
  | .l ds, ρ => .ok (.L .F, .lst ds) ρ
  | .t ds, ρ => .ok (.F, .tup ds) ρ
def AnsPost (K : PySem.W.Frag) (B : Tb) (G H : Hp) (a : Ans) (Q : VK) : Prop := match a with
  | .p d => ∀ v, Rep K B G d v → Q v H
  | .l ds => ∀ p vs, Reps K B G ds vs → H p = none → Q (.ref p) (upd H p (.lst vs))
  | .t ds => ∀ p vs, Reps K B G ds vs → H p = none → Q (.ref p) (upd H p (.tup vs))
theorem Fin.ans {Q : VK} {G0 H0 : Hp} {ρ0 : Env} {P : Hp → Hp → Prop} {tmp : List Rs} {a : Ans} (h : Fin kE X C q G0 H0 ρ0 σ H Q P tmp a.go) :
    ∃ G ρ κ pv, P G H ∧ StOk X.K C.B G H σ ρ (tmp ++ κ) pv ∧ AnsPost X.K C.B G H a Q := by
  obtain ⟨G, ρ, κ, W, pv, st, p, ok, tk, w⟩ := h
  refine ⟨G, ρ, κ, pv, p, ok, ?_⟩
  cases a with
  | p d => exact fun v r => w v G H trivial st (ok.drop.addF r)
  | l ds => exact fun p vs r hp => w (.ref p) G _ trivial (st.grow .refl hp) (ok.drop.newLst hp r)
  | t ds =>
    intro p vs r hp
    obtain ⟨G2, le, ok2⟩ := ok.drop.newTup hp r
    exact w (.ref p) G2 _ trivial (st.grow le hp) ok2
def goO : Option Ans → Env → R TD
  | some a => a.go
  | none => fun _ => .stuck

/-! ### f(x), f a built-in; x is looked at -/
def fB1 (g : TD → Option Ans) (f : Env → R TD) : Env → R TD := fun ρ => (f ρ).bind fun x => goO (g x)
def B1Ok (X : Cx) (C : Ct) (r : List V → Hp → VK → Prop) (g : TD → Option Ans) : Prop :=
  ∀ (G H : Hp) (x : TD) (v : V) (l : List Addr) (a : Ans) (Q : VK), Le G H → Own X.K C.B G H x.2 x.1 v l → g x = some a → AnsPost X.K C.B G H a Q → r [v] H Q
theorem B1Ok.or {r r' : List V → Hp → VK → Prop} {g g' : TD → Option Ans} (h : B1Ok X C r g) (h' : B1Ok X C r' g') : B1Ok X C (fun xs H Q => r xs H Q ∨ r' xs H Q) (fun x => (g x).orElse fun _ => g' x) := by
  intro G H x v l a Q le o e post
  cases q : g x with
  | some a' =>
    simp only [q] at e
    cases e
    exact .inl (h G H x v l _ Q le o q post)
  | none =>
    simp only [q] at e
    exact .inr (h' G H x v l _ Q le o e post)
theorem b1_tail {r : List V → Hp → VK → Prop} {g : TD → Option Ans} (hb : B1Ok X C r g) {Q : VK} (z : RT kE X C q (fB1 g fa) σ H Q) : RT kB X C q fa σ H fun v H1 => r [v] H1 Q := by
  refine RT.bind (ka := kB) z (fun h => h) fun x v H1 G0 H0 ρ0 z1 => ?_
  cases e : g x with
  | none => rw [e] at z1; exact z1.no
  | some a =>
    rw [e] at z1
    obtain ⟨G, ρ, κ, pv, ⟨l, o⟩, ok, post⟩ := z1.ans
    exact hb G H1 x v l a Q ok.le o e post
theorem de_b1 {x : PySem.Str} {id : String} {r : List V → Hp → VK → Prop} {g : TD → Option Ans} (hc : CallR X (.builtin id) r) (hb : B1Ok X C r g) (hg : Gl X x) (hm : X.mg x = none) (hv : bootBuiltins x = some (.builtin id)) (ha : DB X C q a fa)
    (hn : x ≠ "__name__" := by decide) (hdb : (x == ("__debug__" : PySem.Str)) = false := by decide) (he : starEach [a] X.env = [(false, eval a X.env)] := by rfl) (hpl : (backTo pos (starEach [] X.env)).any (·.1) = false := by rfl) : DE X C q (.Call (.Name x p) [a] [] pos) (fB1 g fa) :=
  (pe_callB hc hg hm hv (pa_cons ha pa_nil he) hn hdb he hpl).weak fun σ H Q z => b1_tail hb z
theorem de_b1T {x : PySem.Str} {T : String} {r : List V → Hp → VK → Prop} {g : TD → Option Ans} (hc : CallR X (.type T) r) (hb : B1Ok X C r g) (hg : Gl X x) (hm : X.mg x = none) (hv : bootBuiltins x = some (.type T)) (ha : DB X C q a fa)
    (hn : x ≠ "__name__" := by decide) (hdb : (x == ("__debug__" : PySem.Str)) = false := by decide) (he : starEach [a] X.env = [(false, eval a X.env)] := by rfl) (hpl : (backTo pos (starEach [] X.env)).any (·.1) = false := by rfl) : DE X C q (.Call (.Name x p) [a] [] pos) (fB1 g fa) :=
  (pe_callTy hc hg hm hv (pa_cons ha pa_nil he) hn hdb he hpl).weak fun σ H Q z => b1_tail hb z

/-! #### len -/
def gLen (x : TD) : Option Ans := match x.2 with
  | .str z => if z.length ≤ SZ then some (.p (.int z.length)) else none
  | .lst ds => some (.p (.int ds.length))
  | .tup ds => some (.p (.int ds.length))
  | .scr is => some (.p (.int is.length))
  | _ => none
theorem b1_len : B1Ok X C (fun xs H Q => ∃ x n, xs = [x] ∧ LenV X.K x H n ∧ Q (.int n) H) gLen := by
  intro G H x v l a Q le o e post
  obtain ⟨t, d⟩ := x
  have r := o.see le
  cases d with
  | str z =>
    simp only [gLen] at e
    split at e
    · cases e
      simp only [Rep] at r
      subst r
      exact ⟨_, z.length, rfl, ⟨by assumption, rfl⟩, post _ (by simp only [Rep])⟩
    · cases e
  | lst ds =>
    cases e
    obtain ⟨a, vs, e1, r1, s⟩ := r.items rfl
    subst e1
    rcases s with ⟨_, s⟩ | ⟨h, s⟩
    · exact ⟨_, ds.length, rfl, .inl ⟨vs, s, r1.length⟩, post _ (by simp only [Rep])⟩
    · cases h
  | tup ds =>
    cases e
    obtain ⟨a, vs, e1, r1, s⟩ := r.items rfl
    subst e1
    rcases s with ⟨h, s⟩ | ⟨_, s⟩
    · exact absurd rfl h
    · exact ⟨_, ds.length, rfl, .inr ⟨vs, s, r1.length⟩, post _ (by simp only [Rep])⟩
  | scr is =>
    cases e
    obtain ⟨a, vs, e1, r1, s⟩ := r.items rfl
    subst e1
    rcases s with ⟨_, s⟩ | ⟨h, s⟩
    · exact ⟨_, is.length, rfl, .inl ⟨vs, s, by rw [← r1.length, List.length_map]⟩, post _ (by simp only [Rep])⟩
    · cases h
  | _ => cases e
theorem de_len (hg : Gl X "len") (hm : X.mg "len" = none) (ha : DB X C q a fa) (he : starEach [a] X.env = [(false, eval a X.env)] := by rfl) : DE X C q (.Call (.Name "len" p) [a] [] pos) (fB1 gLen fa) := de_b1 call_len b1_len hg hm boot_len ha (by decide) (by decide) he

/-! #### abs, int, bool, str -/
def gAbs (x : TD) : Option Ans := match x.2 with
  | .int i => some (.p (.int (if i < 0 then -i else i)))
  | _ => none
theorem b1_abs : B1Ok X C (fun xs H Q => ∃ i, xs = [.int i] ∧ Q (.int (if i < 0 then -i else i)) H) gAbs := by
  intro G H x v l a Q le o e post
  obtain ⟨t, d⟩ := x
  cases d with
  | int i =>
    cases e
    have hv : v = V.int i := o.prim rfl
    subst hv
    exact ⟨i, rfl, post _ (by simp only [Rep])⟩
  | _ => cases e
theorem de_abs (hg : Gl X "abs") (hm : X.mg "abs" = none) (ha : DB X C q a fa) (he : starEach [a] X.env = [(false, eval a X.env)] := by rfl) : DE X C q (.Call (.Name "abs" p) [a] [] pos) (fB1 gAbs fa) := de_b1 call_abs b1_abs hg hm (by decide +kernel) ha (by decide) (by decide) he
def gInt (x : TD) : Option Ans := match x.2 with
  | .int i => some (.p (.int i))
  | .bl k => some (.p (.int (if k then 1 else 0)))
  | _ => none
theorem b1_int : B1Ok X C (fun xs H Q => (∃ i, xs = [.int i] ∧ Q (.int i) H) ∨ ∃ k, xs = [.bl k] ∧ Q (.int (if k then 1 else 0)) H) gInt := by
  intro G H x v l a Q le o e post
  obtain ⟨t, d⟩ := x
  cases d with
  | int i =>
    cases e
    have hv : v = V.int i := o.prim rfl
    subst hv
    exact .inl ⟨i, rfl, post _ (by simp only [Rep])⟩
  | bl k =>
    cases e
    have hv : v = V.bl k := o.prim rfl
    subst hv
    exact .inr ⟨k, rfl, post _ (by simp only [Rep])⟩
  | _ => cases e
theorem de_intF (hg : Gl X "int") (hm : X.mg "int" = none) (ha : DB X C q a fa) (he : starEach [a] X.env = [(false, eval a X.env)] := by rfl) : DE X C q (.Call (.Name "int" p) [a] [] pos) (fB1 gInt fa) := de_b1T call_int1 b1_int hg hm (by decide +kernel) ha (by decide) (by decide) he
def gBool (x : TD) : Option Ans := match x.2 with
  | .int i => some (.p (.bl (i != 0)))
  | .bl k => some (.p (.bl k))
  | _ => none
theorem b1_bool : B1Ok X C (fun xs H Q => (∃ i, xs = [.int i] ∧ Q (.bl (i != 0)) H) ∨ ∃ k, xs = [.bl k] ∧ Q (.bl k) H) gBool := by
  intro G H x v l a Q le o e post
  obtain ⟨t, d⟩ := x
  cases d with
  | int i =>
    cases e
    have hv : v = V.int i := o.prim rfl
    subst hv
    exact .inl ⟨i, rfl, post _ (by simp only [Rep])⟩
  | bl k =>
    cases e
    have hv : v = V.bl k := o.prim rfl
    subst hv
    exact .inr ⟨k, rfl, post _ (by simp only [Rep])⟩
  | _ => cases e
theorem de_boolF (hg : Gl X "bool") (hm : X.mg "bool" = none) (ha : DB X C q a fa) (he : starEach [a] X.env = [(false, eval a X.env)] := by rfl) : DE X C q (.Call (.Name "bool" p) [a] [] pos) (fB1 gBool fa) := de_b1T call_bool1 b1_bool hg hm (by decide +kernel) ha (by decide) (by decide) he
/-- str of an int -/
def strI (i : Int) : PySem.Str := toString i
def gStr (x : TD) : Option Ans := match x.2 with
  | .int i => if i.natAbs.log2 < 1920 then some (.p (.str (strI i))) else none
  | .str z => some (.p (.str z))
  | _ => none
theorem b1_str : B1Ok X C (fun xs H Q => (∃ i : Int, xs = [.int i] ∧ i.natAbs.log2 < 1920 ∧ Q (.str (toString i)) H) ∨ ∃ a, xs = [.str a] ∧ Q (.str a) H) gStr := by
  intro G H x v l a Q le o e post
  obtain ⟨t, d⟩ := x
  cases d with
  | int i =>
    simp only [gStr] at e
    split at e
    · cases e
      have hv : v = V.int i := o.prim rfl
      subst hv
      exact .inl ⟨i, rfl, by assumption, post _ (by simp only [Rep]; rfl)⟩
    · cases e
  | str k =>
    cases e
    have hv : v = V.str k := o.prim rfl
    subst hv
    exact .inr ⟨k, rfl, post _ (by simp only [Rep])⟩
  | _ => cases e
theorem de_strF (hg : Gl X "str") (hm : X.mg "str" = none) (ha : DB X C q a fa) (he : starEach [a] X.env = [(false, eval a X.env)] := by rfl) : DE X C q (.Call (.Name "str" p) [a] [] pos) (fB1 gStr fa) := de_b1T (call_str_int.or SkE.call_str_str) b1_str hg hm (by decide +kernel) ha (by decide) (by decide) he

/-! #### list, tuple -/
def gList (x : TD) : Option Ans := (elems x).map .l
theorem b1_list : B1Ok X C (fun xs H Q => ∃ p ys, xs = [V.ref p] ∧ (SqL X.K H p ys ∨ SqT X.K H p ys) ∧ ∀ l, H l = none → Q (.ref l) (upd H l (.lst ys))) gList := by
  intro G H x v l a Q le o e post
  obtain ⟨ds, e1, e2⟩ := Option.map_eq_some_iff.mp e
  subst e2
  obtain ⟨a, vs, e3, r, s⟩ := o.elems le e1
  refine ⟨a, vs, by rw [e3], ?_, fun l hl => post l vs r hl⟩
  rcases s with ⟨_, s⟩ | ⟨_, s⟩ | ⟨_, s⟩
  · exact .inl (SqL.of s)
  · exact .inr s
  · exact .inl s
theorem de_listF (hg : Gl X "list") (hm : X.mg "list" = none) (ha : DB X C q a fa) (he : starEach [a] X.env = [(false, eval a X.env)] := by rfl) : DE X C q (.Call (.Name "list" p) [a] [] pos) (fB1 gList fa) := de_b1T call_list_of b1_list hg hm (by decide +kernel) ha (by decide) (by decide) he
def gTuple (x : TD) : Option Ans := match x.2 with
  | .tup ds => some (.p (.tup ds))
  | _ => (elems x).map .t
theorem b1_tuple : B1Ok X C (fun xs H Q => ∃ p ys, xs = [V.ref p] ∧ ((SqL X.K H p ys ∧ ∀ l, H l = none → Q (.ref l) (upd H l (.tup ys))) ∨ (SqT X.K H p ys ∧ Q (.ref p) H))) gTuple := by
  intro G H x v l a Q le o e post
  have gen : ∀ ds, elems x = some ds → boxK x.2 ≠ 1 → a = .t ds → ∃ p ys, [v] = [V.ref p] ∧ ((SqL X.K H p ys ∧ ∀ l, H l = none → Q (.ref l) (upd H l (.tup ys))) ∨ (SqT X.K H p ys ∧ Q (.ref p) H)) := by
    intro ds e1 hk e2
    subst e2
    obtain ⟨a, vs, e3, r, s⟩ := o.elems le e1
    subst e3
    rcases s with ⟨_, s⟩ | ⟨h, s⟩ | ⟨_, s⟩
    · exact ⟨a, vs, rfl, .inl ⟨SqL.of s, fun l hl => post l vs r hl⟩⟩
    · exact absurd h hk
    · exact ⟨a, vs, rfl, .inl ⟨s, fun l hl => post l vs r hl⟩⟩
  obtain ⟨t, d⟩ := x
  cases d with
  | tup ds =>
    cases e
    have hr := o.plain (by rfl)
    obtain ⟨a, vs, e3, r, s⟩ := (o.see le).items rfl
    subst e3
    rcases s with ⟨h, s⟩ | ⟨_, s⟩
    · exact absurd rfl h
    · exact ⟨a, vs, rfl, .inr ⟨s, post _ hr⟩⟩
  | lst ds =>
    obtain ⟨ds', e1, e2⟩ := Option.map_eq_some_iff.mp (show (elems (t, D.lst ds)).map Ans.t = some a from e)
    exact gen ds' e1 (by simp [boxK]) e2.symm
  | scr is =>
    obtain ⟨ds', e1, e2⟩ := Option.map_eq_some_iff.mp (show (elems (t, D.scr is)).map Ans.t = some a from e)
    exact gen ds' e1 (by simp [boxK]) e2.symm
  | _ => cases e
theorem de_tupleF (hg : Gl X "tuple") (hm : X.mg "tuple" = none) (ha : DB X C q a fa) (he : starEach [a] X.env = [(false, eval a X.env)] := by rfl) : DE X C q (.Call (.Name "tuple" p) [a] [] pos) (fB1 gTuple fa) := de_b1T call_tuple_of b1_tuple hg hm (by decide +kernel) ha (by decide) (by decide) he

/-! #### sum, max, min of a list of ints -/
def intsD : List D → Option (List Int)
  | [] => some []
  | .int i :: r => (intsD r).map (i :: ·)
  | _ :: _ => none
theorem intsD_reps : ∀ {ds : List D} {is : List Int} {vs : List V}, intsD ds = some is → Reps K B G ds vs → vs = is.map V.int
  | [], _, _, e, h => by cases e; simp only [Reps] at h; exact h
  | d :: r, is, vs, e, h => by
    simp only [Reps] at h
    obtain ⟨v, r', e1, h1, h2⟩ := h
    subst e1
    cases d <;> first | cases e | skip
    rename_i i
    obtain ⟨is', e2, e3⟩ := Option.map_eq_some_iff.mp (show (intsD r).map (i :: ·) = some is from e)
    subst e3
    rw [List.map_cons, h1.prim (x := .int i) rfl, intsD_reps e2 h2]
def gInts (g : List Int → Option Ans) (x : TD) : Option Ans := match x.2 with
  | .tup _ => none
  | d => (items d).bind fun ds => (intsD ds).bind g
theorem gInts_ok {g : List Int → Option Ans} {x : TD} {v : V} {l : List Addr} {a : Ans} (le : Le G H) (o : Own K B G H x.2 x.1 v l) (e : gInts g x = some a) : ∃ p is, v = .ref p ∧ SqL K H p (is.map V.int) ∧ g is = some a := by
  have gen : ∀ d, x.2 = d → boxK d ≠ 1 → ((items d).bind fun ds => (intsD ds).bind g) = some a → ∃ p is, v = .ref p ∧ SqL K H p (is.map V.int) ∧ g is = some a := by
    intro d ed hk e
    obtain ⟨ds, e1, e2⟩ := Option.bind_eq_some_iff.mp e
    obtain ⟨is, e3, e4⟩ := Option.bind_eq_some_iff.mp e2
    have r := o.see le
    rw [ed] at r
    obtain ⟨p, vs, e5, r1, s⟩ := r.items e1
    rcases s with ⟨_, s⟩ | ⟨h, s⟩
    · rw [intsD_reps e3 r1] at s
      exact ⟨p, is, e5, s, e4⟩
    · exact absurd h hk
  obtain ⟨t, d⟩ := x
  cases d with
  | tup ds => cases e
  | lst ds => exact gen _ rfl (by simp [boxK]) e
  | scr ds => exact gen _ rfl (by simp [boxK]) e
  | _ => cases e
def gSum : TD → Option Ans := gInts fun is => some (.p (.int is.sum))
theorem b1_sum : B1Ok X C (rSum X.K) gSum := by
  intro G H x v l a Q le o e post
  obtain ⟨p, is, e1, s, e2⟩ := gInts_ok le o e
  cases e2
  exact ⟨p, is, by rw [e1], s, post _ (by simp only [Rep])⟩
theorem de_sum (hc : X.calm = true) (hg : Gl X "sum") (hm : X.mg "sum" = none) (ha : DB X C q a fa) (he : starEach [a] X.env = [(false, eval a X.env)] := by rfl) : DE X C q (.Call (.Name "sum" p) [a] [] pos) (fB1 gSum fa) := de_b1 (cr_sum hc) b1_sum hg hm (by decide +kernel) ha (by decide) (by decide) he
def maxI : List Int → Option Int
  | [] => none
  | i :: r => some (r.foldl max i)
def minI : List Int → Option Int
  | [] => none
  | i :: r => some (r.foldl min i)
theorem foldl_max_le : ∀ (r : List Int) (i : Int), i ≤ r.foldl max i ∧ (∀ y ∈ r, y ≤ r.foldl max i) ∧ (r.foldl max i = i ∨ r.foldl max i ∈ r)
  | [], i => ⟨Int.le_refl _, (fun y hy => by cases hy), Or.inl rfl⟩
  | j :: r, i => by
    obtain ⟨h1, h2, h3⟩ := foldl_max_le r (max i j)
    simp only [List.foldl_cons]
    refine ⟨by omega, fun y hy => ?_, ?_⟩
    · rcases List.mem_cons.mp hy with rfl | hy
      · omega
      · exact h2 y hy
    · rcases h3 with h3 | h3
      · by_cases q : i ≤ j
        · right; rw [h3, Int.max_eq_right q]; exact List.mem_cons_self
        · left; rw [h3, Int.max_eq_left (by omega)]
      · exact .inr (List.mem_cons_of_mem _ h3)
theorem foldl_min_le : ∀ (r : List Int) (i : Int), r.foldl min i ≤ i ∧ (∀ y ∈ r, r.foldl min i ≤ y) ∧ (r.foldl min i = i ∨ r.foldl min i ∈ r)
  | [], i => ⟨Int.le_refl _, (fun y hy => by cases hy), Or.inl rfl⟩
  | j :: r, i => by
    obtain ⟨h1, h2, h3⟩ := foldl_min_le r (min i j)
    simp only [List.foldl_cons]
    refine ⟨by omega, fun y hy => ?_, ?_⟩
    · rcases List.mem_cons.mp hy with rfl | hy
      · omega
      · exact h2 y hy
    · rcases h3 with h3 | h3
      · by_cases q : j ≤ i
        · right; rw [h3, Int.min_eq_right q]; exact List.mem_cons_self
        · left; rw [h3, Int.min_eq_left (by omega)]
      · exact .inr (List.mem_cons_of_mem _ h3)
def gMax : TD → Option Ans := gInts fun is => (maxI is).map fun m => .p (.int m)
def gMin : TD → Option Ans := gInts fun is => (minI is).map fun m => .p (.int m)
theorem b1_max : B1Ok X C (rMax X.K) gMax := by
  intro G H x v l a Q le o e post
  obtain ⟨p, is, e1, s, e2⟩ := gInts_ok le o e
  cases is with
  | nil => cases e2
  | cons i r =>
    cases e2
    refine ⟨p, _, by rw [e1], s, by simp, fun m h1 h2 => ?_⟩
    obtain ⟨f1, f2, f3⟩ := foldl_max_le r i
    have a1 : r.foldl max i ≤ m := by
      rcases f3 with f3 | f3
      · rw [f3]; exact h2 i List.mem_cons_self
      · exact h2 _ (List.mem_cons_of_mem _ f3)
    have a2 : m ≤ r.foldl max i := by
      rcases List.mem_cons.mp h1 with h | h
      · rw [h]; exact f1
      · exact f2 m h
    have e3 : m = r.foldl max i := Int.le_antisymm a2 a1
    rw [e3]
    exact post _ (by simp only [Rep])
theorem b1_min : B1Ok X C (rMin X.K) gMin := by
  intro G H x v l a Q le o e post
  obtain ⟨p, is, e1, s, e2⟩ := gInts_ok le o e
  cases is with
  | nil => cases e2
  | cons i r =>
    cases e2
    refine ⟨p, _, by rw [e1], s, by simp, fun m h1 h2 => ?_⟩
    obtain ⟨f1, f2, f3⟩ := foldl_min_le r i
    have a1 : m ≤ r.foldl min i := by
      rcases f3 with f3 | f3
      · rw [f3]; exact h2 i List.mem_cons_self
      · exact h2 _ (List.mem_cons_of_mem _ f3)
    have a2 : r.foldl min i ≤ m := by
      rcases List.mem_cons.mp h1 with h | h
      · rw [h]; exact f1
      · exact f2 m h
    have e3 : m = r.foldl min i := Int.le_antisymm a1 a2
    rw [e3]
    exact post _ (by simp only [Rep])
theorem de_max1 (hc : X.calm = true) (hg : Gl X "max") (hm : X.mg "max" = none) (ha : DB X C q a fa) (he : starEach [a] X.env = [(false, eval a X.env)] := by rfl) : DE X C q (.Call (.Name "max" p) [a] [] pos) (fB1 gMax fa) := de_b1 (cr_max hc) b1_max hg hm (by decide +kernel) ha (by decide) (by decide) he
theorem de_min1 (hc : X.calm = true) (hg : Gl X "min") (hm : X.mg "min" = none) (ha : DB X C q a fa) (he : starEach [a] X.env = [(false, eval a X.env)] := by rfl) : DE X C q (.Call (.Name "min" p) [a] [] pos) (fB1 gMin fa) := de_b1 (cr_min hc) b1_min hg hm (by decide +kernel) ha (by decide) (by decide) he

/-! #### max, min of two -/
def fI2 (g : Int → Int → Int) (f : Env → R (List TD)) : Env → R TD := fun ρ => (f ρ).bind fun xs ρ1 => match int2 xs with
  | some ij => .ok (.F, .int (g ij.1 ij.2)) ρ1
  | none => .stuck
theorem i2_tail {g : Int → Int → Int} {r : List V → Hp → VK → Prop} {fl : Env → R (List TD)} (hr : ∀ i j H (Q : VK), Q (.int (g i j)) H → r [.int i, .int j] H Q) {Q : VK} (z : RT kE X C q (fI2 g fl) σ H Q) : RT kA X C q fl σ H fun vs H1 => r vs H1 Q := by
  refine RT.bind (ka := kA) z (fun h => h) fun xs vs H1 G0 H0 ρ0 z1 => ?_
  cases e : int2 xs with
  | none => simp only [e] at z1; exact z1.no
  | some ij =>
    obtain ⟨i, j⟩ := ij
    simp only [e] at z1
    obtain ⟨G, ρ, κ, W, pv, st, p, ok, tk, w⟩ := z1
    rw [int2_ok e p ok]
    exact hr _ _ _ _ (w (.int (g i j)) G H1 trivial st (ok.drop.addF (by simp only [Rep])))
theorem de_max2 {fl : Env → R (List TD)} (hc : X.calm = true) (hg : Gl X "max") (hm : X.mg "max" = none) (ha : DA X C q [a, b] fl) (he : starEach [a, b] X.env = (false, eval a X.env) :: starEach [b] X.env := by rfl) (hpl : (backTo pos (starEach [b] X.env)).any (·.1) = false := by rfl) :
    DE X C q (.Call (.Name "max" p) [a, b] [] pos) (fI2 (fun i j => if j > i then j else i) fl) :=
  (pe_callB (call_max2 hc) hg hm (by decide +kernel) ha (by decide) (by decide) he hpl).weak fun σ H Q z => i2_tail (r := fun xs H Q => ∃ i j : Int, xs = [V.int i, V.int j] ∧ Q (.int (if j > i then j else i)) H) (fun i j H Q q => ⟨i, j, rfl, q⟩) z
theorem de_min2 {fl : Env → R (List TD)} (hc : X.calm = true) (hg : Gl X "min") (hm : X.mg "min" = none) (ha : DA X C q [a, b] fl) (he : starEach [a, b] X.env = (false, eval a X.env) :: starEach [b] X.env := by rfl) (hpl : (backTo pos (starEach [b] X.env)).any (·.1) = false := by rfl) :
    DE X C q (.Call (.Name "min" p) [a, b] [] pos) (fI2 (fun i j => if j < i then j else i) fl) :=
  (pe_callB (call_min2 hc) hg hm (by decide +kernel) ha (by decide) (by decide) he hpl).weak fun σ H Q z => i2_tail (r := fun xs H Q => ∃ i j : Int, xs = [V.int i, V.int j] ∧ Q (.int (if j < i then j else i)) H) (fun i j H Q q => ⟨i, j, rfl, q⟩) z

/-! #### isinstance(x, T), T a built-in type -/
def isTys : List String := ["int", "bool", "str", "list", "tuple", "dict"]
def isI (T : String) (d : D) : Option Bool := match d with
  | .non => some false
  | .bl _ => some (T == "bool" || T == "int")
  | .int _ => some (T == "int")
  | .str _ => some (T == "str")
  | .lst _ => some (T == "list")
  | .tup _ => some (T == "tuple")
  | _ => none
theorem kit_table : ∀ T ∈ isTys, kitB "NoneType" T = some false ∧ kitB "bool" T = some (T == "bool" || T == "int") ∧ kitB "int" T = some (T == "int") ∧ kitB "str" T = some (T == "str") ∧ kitB "list" T = some (T == "list") ∧ kitB "tuple" T = some (T == "tuple") := by decide +kernel
theorem tyX_tup {a : Addr} {vs : List V} (h : SqT K H a vs) : TyX K H (.ref a) (.type "tuple") := by
  rcases h with (h | ⟨o, h⟩) | ⟨o, its, n, h, c, _⟩
  · exact .base (.tup h)
  · exact .fTuple h
  · exact .kTuple h c
def gIsI (T : String) (x : TD) : Option Ans := (isI T x.2).map fun k => .p (.bl k)
theorem isI_ok {T : String} (hT : T ∈ isTys) {d : D} {v : V} {k : Bool} (r : Rep K B H d v) (e : isI T d = some k) : ∃ t, TyX K H v t ∧ PySem.W.kitOne K t (.type T) = some k := by
  obtain ⟨k1, k2, k3, k4, k5, k6⟩ := kit_table T hT
  cases d with
  | non => cases e; simp only [Rep] at r; subst r; exact ⟨_, .base .non, kit_ty k1⟩
  | bl b => cases e; simp only [Rep] at r; subst r; exact ⟨_, .base (.bl _), kit_ty k2⟩
  | int b => cases e; simp only [Rep] at r; subst r; exact ⟨_, .base (.int _), kit_ty k3⟩
  | str b => cases e; simp only [Rep] at r; subst r; exact ⟨_, .base (.str _), kit_ty k4⟩
  | lst ds => cases e; simp only [Rep] at r; obtain ⟨a, vs, e1, ha, _⟩ := r; subst e1; exact ⟨_, .base (.lst ha), kit_ty k5⟩
  | tup ds => cases e; simp only [Rep] at r; obtain ⟨a, vs, e1, ha, _⟩ := r; subst e1; exact ⟨_, tyX_tup ha, kit_ty k6⟩
  | _ => cases e
theorem de_ty {x : PySem.Str} {T : String} (hg : Gl X x) (hm : X.mg x = none) (hv : bootBuiltins x = some (.type T)) (hn : x ≠ "__name__" := by decide) (hd : (x == ("__debug__" : PySem.Str)) = false := by decide) : PE X (.Name x pos) (tC (.ty T)) := pe_bltn hg hm hv (show RelV (.ty T) (.type T) from rfl) hn hd
theorem de_isI {x : PySem.Str} {T : String} {p2 : Pos} (hT : T ∈ isTys) (hg0 : Gl X "isinstance") (hm0 : X.mg "isinstance" = none) (hg : Gl X x) (hm : X.mg x = none) (hv : bootBuiltins x = some (.type T)) (ha : DB X C q a fa) (hn : x ≠ "__name__" := by decide) (hd : (x == ("__debug__" : PySem.Str)) = false := by decide)
    (he : starEach [a, .Name x p2] X.env = (false, eval a X.env) :: starEach [.Name x p2] X.env := by rfl) (he2 : starEach [.Name x p2] X.env = [(false, eval (.Name x p2) X.env)] := by rfl) (hpl : (backTo pos (starEach [.Name x p2] X.env)).any (·.1) = false := by rfl) :
    DE X C q (.Call (.Name "isinstance" p) [a, .Name x p2] [] pos) (fB1 (gIsI T) fa) :=
  (pe_callB call_isi hg0 hm0 (by decide +kernel) (pa_cons ha (pa_cons (de_ty hg hm hv hn hd) pa_nil he2) he) (by decide) (by decide) he hpl).weak fun σ H Q z => by
    refine RT.bind (ka := kB) z (fun h => h) fun x v H1 G0 H0 ρ0 z1 => ?_
    cases e : gIsI T x with
    | none => simp only [e] at z1; exact z1.no
    | some a =>
      simp only [e] at z1
      obtain ⟨G, ρ, κ, pv, ⟨l, o⟩, ok, post⟩ := Fin.ans (a := a) z1
      obtain ⟨k, e1, e2⟩ := Option.map_eq_some_iff.mp e
      subst e2
      obtain ⟨t, h1, h2⟩ := isI_ok hT (o.see ok.le) e1
      exact ⟨v, .ty T, t, .type T, k, rfl, .ty T, h1, h2, post _ (by simp only [Rep])⟩
end
end PF
namespace L2
open PySem
theorem PO.weak {X : Cx} {e : Option Expr} {t t' : TO} (h : PO X e t) (k : ∀ σ H Q, t' σ H Q → t σ H Q) : PO X e t' := ⟨fun pins s σ H Q I q => h.run pins s σ H Q I (k _ _ _ q)⟩
end L2
namespace PF
open PySem PySem.Spec L2
open PyProof.Rows hiding St
section
variable {X : Cx} {C : Ct} {q qa qb qc : Bool} {e a b c : Expr} {f fa fb fc : Env → R TD} {pos pos' p : Pos}
variable {K : PySem.W.Frag} {B : Tb} {G G' H H' : Hp} {σ : L2.St} {ρ : Env} {κ κ' : List Rs} {pv : List (Nat × V)} {pr : Nat → Bool}

/-! ### operators upon boxes -/
def fOp2 (g : TD → TD → Option Ans) (fa fb : Env → R TD) : Env → R TD := fun ρ => (fa ρ).bind fun x ρ1 => (fb ρ1).bind fun y => goO (g x y)
def Op2Ok (X : Cx) (C : Ct) (r : R2) (g : TD → TD → Option Ans) : Prop :=
  ∀ (G H : Hp) (x y : TD) (v u : V) (l l' : List Addr) (a : Ans) (Q : VK), Le G H → Own X.K C.B G H x.2 x.1 v l → Own X.K C.B G H y.2 y.1 u l' → g x y = some a → AnsPost X.K C.B G H a Q → r v u H Q
theorem de_op2 {op : Operator} {r : R2} {g : TD → TD → Option Ans} (ho : OpR X (binaryOp op) r) (hk : Op2Ok X C r g) (ha : DE X C qa a fa) (hb : DB X C qb b fb) : DE X C (qa && qb) (.BinOp a op b pos) (fOp2 g fa fb) := by
  refine (pe_op ho ha hb).weak fun σ H Q z => ?_
  refine RT.bind (ka := kE) z (fun h => (Bool.and_eq_true_iff.mp h).1) fun x v1 H1 G0 H0 ρ0 z1 => ?_
  refine z1.next (ka := kB) (fun h => (Bool.and_eq_true_iff.mp h).2) fun y v2 H2 z2 => ?_
  cases e : g x y with
  | none => rw [e] at z2; exact z2.no
  | some an =>
    rw [e] at z2
    obtain ⟨G, ρ, κ, pv, ⟨l2, o2⟩, ok, post⟩ := Fin.ans (a := an) z2
    obtain ⟨l1, o1⟩ := ok.mem (r := (x.1, x.2, v1)) (by simp [kE, kB])
    exact hk G H2 x y v1 v2 l1 l2 an Q ok.le o1 o2 e post
/-- both looked at, the right one quiet -/
theorem de_op2B {op : Operator} {r : R2} {g : TD → TD → Option Ans} (ho : OpR X (binaryOp op) r) (hk : Op2Ok X C r g) (ha : DB X C qa a fa) (hb : DB X C true b fb) : DE X C qa (.BinOp a op b pos) (fOp2 g fa fb) := by
  refine (pe_op ho ha hb).weak fun σ H Q z => ?_
  refine RT.bind (ka := kB) z (fun h => h) fun x v1 H1 G0 H0 ρ0 z1 => ?_
  refine z1.quiet (ka := kB) kB_up fun y v2 H2 z2 => ?_
  cases e : g x y with
  | none => rw [e] at z2; exact z2.no
  | some an =>
    rw [e] at z2
    obtain ⟨G, ρ, κ, pv, ⟨⟨l1, o1⟩, ⟨l2, o2⟩⟩, ok, post⟩ := Fin.ans (a := an) z2
    exact hk G H2 x y v1 v2 l1 l2 an Q ok.le o1 o2 e post
def catE (x y : TD) : Option Ans := (elems x).bind fun ds => (elems y).bind fun es => if ds.length + es.length ≤ SZ then some (.l (ds ++ es)) else none
def gPlus (x y : TD) : Option Ans := match x.2, y.2 with
  | .int i, .int j => some (.p (.int (i + j)))
  | .str s, .str t => if s.length + t.length ≤ SZ then some (.p (.str (s ++ t))) else none
  | .lst _, .lst _ => catE x y
  | .tup ds, .tup es => if ds.length + es.length ≤ SZ then (match ds, es with | [], es => some (.p (.tup es)) | ds, [] => some (.p (.tup ds)) | ds, es => some (.t (ds ++ es))) else none
  | _, _ => none
theorem Reps.append : ∀ {ds es : List D} {vs us : List V}, Reps K B G ds vs → Reps K B G es us → Reps K B G (ds ++ es) (vs ++ us)
  | [], _, vs, us, h, h2 => by simp only [Reps] at h; subst h; exact h2
  | d :: r, es, vs, us, h, h2 => by
    simp only [Reps] at h
    obtain ⟨v, r', e1, h1, h3⟩ := h
    subst e1
    simp only [List.cons_append, Reps]
    exact ⟨v, r' ++ us, rfl, h1, Reps.append h3 h2⟩
theorem Reps.nil {vs : List V} (h : Reps K B G [] vs) : vs = [] := by simp only [Reps] at h; exact h
theorem Reps.ne {ds : List D} {vs : List V} (h : Reps K B G ds vs) (hn : ds ≠ []) : vs ≠ [] := fun z => hn (by
  have := h.length
  rw [z] at this
  exact List.eq_nil_of_length_eq_zero this)
def rPlus (X : Cx) : R2 := fun x y H Q => (((∃ i j, x = .int i ∧ y = .int j ∧ Q (.int (i + j)) H) ∨ (∃ i j, x = .str i ∧ y = .str j ∧ i.length + j.length ≤ sizeLine ∧ Q (.str (i ++ j)) H)) ∨ rCat x y H Q) ∨ rCatA X.K x y H Q
theorem o_plus : OpR X (binaryOp .Add) (rPlus X) := ((op_add.or op_add_str).or op_cat).or op_catA
theorem op2_plus : Op2Ok X C (rPlus X) gPlus := by
  intro G H x y v u l l' an Q le o1 o2 e post
  obtain ⟨t1, d1⟩ := x
  obtain ⟨t2, d2⟩ := y
  cases d1 with
  | int i => cases d2 with
    | int j =>
      cases e
      have hv : v = V.int i := o1.prim rfl
      have hu : u = V.int j := o2.prim rfl
      subst hv hu
      exact .inl (.inl (.inl ⟨i, j, rfl, rfl, post _ (by simp only [Rep])⟩))
    | _ => cases e
  | str i => cases d2 with
    | str j =>
      simp only [gPlus] at e
      split at e
      · cases e
        have hv : v = V.str i := o1.prim rfl
        have hu : u = V.str j := o2.prim rfl
        subst hv hu
        exact .inl (.inl (.inr ⟨i, j, rfl, rfl, by assumption, post _ (by simp only [Rep])⟩))
      · cases e
    | _ => cases e
  | lst ds => cases d2 with
    | lst es =>
      obtain ⟨ds', e1, e2⟩ := Option.bind_eq_some_iff.mp (show (elems (t1, D.lst ds)).bind _ = some an from e)
      obtain ⟨es', e3, e4⟩ := Option.bind_eq_some_iff.mp e2
      split at e4
      · cases e4
        obtain ⟨a1, vs, h1, r1, s1⟩ := o1.elems le e1
        obtain ⟨a2, us, h2, r2, s2⟩ := o2.elems le e3
        subst h1 h2
        have f1 : H a1 = some (.lst vs) := by
          rcases s1 with ⟨_, s⟩ | ⟨h, _⟩ | ⟨h, _⟩
          · exact s
          · cases h
          · cases h
        have f2 : H a2 = some (.lst us) := by
          rcases s2 with ⟨_, s⟩ | ⟨h, _⟩ | ⟨h, _⟩
          · exact s
          · cases h
          · cases h
        exact .inl (.inr ⟨a1, a2, vs, us, rfl, rfl, f1, f2, by rw [← r1.length, ← r2.length]; assumption, fun p hp => post p _ (r1.append r2) hp⟩)
      · cases e4
    | _ => cases e
  | tup ds => cases d2 with
    | tup es =>
      simp only [gPlus] at e
      split at e
      · rename_i hz
        have p1 := o1.plain (by rfl)
        have p2 := o2.plain (by rfl)
        have q1 := p1
        have q2 := p2
        simp only [Rep] at q1 q2
        obtain ⟨a1, vs, h1, s1, r1⟩ := q1
        obtain ⟨a2, us, h2, s2, r2⟩ := q2
        subst h1 h2
        refine .inr ⟨a1, a2, vs, us, rfl, rfl, le.sqT s1, le.sqT s2, by rw [← r1.length, ← r2.length]; exact hz, fun z => ?_, fun z z2 => ?_, fun z z2 p hp => ?_⟩
        · cases ds with
          | nil => cases e; exact post _ p2
          | cons _ _ => exact absurd z (r1.ne (by simp))
        · cases es with
          | nil =>
            cases ds with
            | nil => exact absurd r1.nil z
            | cons _ _ => cases e; exact post _ p1
          | cons _ _ => exact absurd z2 (r2.ne (by simp))
        · cases ds with
          | nil => exact absurd r1.nil z
          | cons d ds => cases es with
            | nil => exact absurd r2.nil z2
            | cons d2 es => cases e; exact post p _ (r1.append r2) hp
      · cases e
    | _ => cases e
  | _ => cases e
abbrev fPlus := fOp2 gPlus
theorem de_plus (ha : DE X C qa a fa) (hb : DB X C qb b fb) : DE X C (qa && qb) (.BinOp a .Add b pos) (fPlus fa fb) := de_op2 o_plus op2_plus ha hb
theorem de_plusB (ha : DB X C qa a fa) (hb : DB X C true b fb) : DE X C qa (.BinOp a .Add b pos) (fPlus fa fb) := de_op2B o_plus op2_plus ha hb
/-- * : ints, a list times an int -/
def gTimes (x y : TD) : Option Ans := match x.2, y.2 with
  | .int i, .int j => if mulOk i j then some (.p (.int (i * j))) else none
  | .lst _, .int k => (elems x).bind fun ds => if decide (-(2 ^ 63) ≤ k ∧ k < 2 ^ 63) && decide (ds.length * k.toNat ≤ SZ) then some (.l (List.replicate k.toNat ds).flatten) else none
  | _, _ => none
theorem Reps.rep {ds : List D} {vs : List V} (h : Reps K B G ds vs) : ∀ n : Nat, Reps K B G (List.replicate n ds).flatten (List.replicate n vs).flatten
  | 0 => by simp only [List.replicate_zero, List.flatten_nil, Reps]
  | n + 1 => by
    rw [List.replicate_succ, List.replicate_succ, List.flatten_cons, List.flatten_cons]
    exact h.append (Reps.rep h n)
def rTimes : R2 := fun x y H Q => rI CMul (fun i j => .int (i * j)) x y H Q ∨ rRep x y H Q
theorem o_times : OpR X (binaryOp .Mult) rTimes := op_mul.or op_rep
theorem op2_times : Op2Ok X C rTimes gTimes := by
  intro G H x y v u l l' an Q le o1 o2 e post
  obtain ⟨t1, d1⟩ := x
  obtain ⟨t2, d2⟩ := y
  cases d1 with
  | int i => cases d2 with
    | int j =>
      simp only [gTimes] at e
      split at e
      · cases e
        have hv : v = V.int i := o1.prim rfl
        have hu : u = V.int j := o2.prim rfl
        subst hv hu
        exact .inl ⟨i, j, rfl, rfl, mulOk_c (by assumption), post _ (by simp only [Rep])⟩
      · cases e
    | _ => cases e
  | lst ds => cases d2 with
    | int k =>
      obtain ⟨ds', e1, e2⟩ := Option.bind_eq_some_iff.mp (show (elems (t1, D.lst ds)).bind _ = some an from e)
      split at e2
      · rename_i hz
        obtain ⟨h1, h2⟩ := Bool.and_eq_true_iff.mp hz
        obtain ⟨h3, h4⟩ := of_decide_eq_true h1
        cases e2
        obtain ⟨a1, vs, h5, r1, s1⟩ := o1.elems le e1
        have hu : u = V.int k := o2.prim rfl
        subst h5 hu
        have f1 : H a1 = some (.lst vs) := by
          rcases s1 with ⟨_, s⟩ | ⟨h, _⟩ | ⟨h, _⟩
          · exact s
          · cases h
          · cases h
        exact .inr ⟨a1, k, vs, rfl, rfl, f1, h3, h4, by rw [← r1.length]; exact of_decide_eq_true h2, fun p hp => post p _ (r1.rep _) hp⟩
      · cases e2
    | _ => cases e
  | _ => cases e
abbrev fTimes := fOp2 gTimes
theorem de_times (ha : DE X C qa a fa) (hb : DB X C qb b fb) : DE X C (qa && qb) (.BinOp a .Mult b pos) (fTimes fa fb) := de_op2 o_times op2_times ha hb
theorem de_timesB (ha : DB X C qa a fa) (hb : DB X C true b fb) : DE X C qa (.BinOp a .Mult b pos) (fTimes fa fb) := de_op2B o_times op2_times ha hb

/-! ### slices -/
def kO : Kd (Option Int) (Option Int) := ⟨fun _ _ => [], fun _ _ _ a b _ _ => a = b⟩
abbrev DO (X : Cx) (C : Ct) (e : Option Expr) (f : Env → R (Option Int)) : Prop := PO X e (RT kO X C true f)
def oNone : Env → R (Option Int) := fun ρ => .ok none ρ
def oSome (f : Env → R TD) : Env → R (Option Int) := fun ρ => (f ρ).bind fun x ρ1 => match x.2 with | .int i => .ok (some i) ρ1 | _ => .stuck
theorem do_none : DO X C none oNone := PO.weak po_none fun σ H Q z => by
  obtain ⟨G0, H0, ρ0, z⟩ := z
  exact Fin.end_ (b := none) z fun G ρ κ pv ok p => ⟨rfl, ok⟩
theorem do_some (ha : DE X C true a fa) : DO X C (some a) (oSome fa) := PO.weak (po_some ha) fun σ H Q z => by
  refine RT.bind (ka := kE) z (fun h => h) fun x v H1 G0 H0 ρ0 z1 => ?_
  cases e : x.2 with
  | int k =>
    have hv : v = .int k := by
      obtain ⟨G, ρ, κ, W, pv, st, p, ok, tk, w⟩ := id z1
      obtain ⟨l, o⟩ := ok.mem (r := (x.1, x.2, v)) (by simp [kE])
      exact Own.prim (x := V.int k) o (by show primV x.2 = _; rw [e]; rfl)
    refine ⟨k, hv, ?_⟩
    simp only [e] at z1
    exact Fin.end_ (b := some k) z1 fun G ρ κ pv ok p => ⟨rfl, ok.drop⟩
  | _ => simp only [e] at z1; exact z1.no
def cutD (ds : List D) (lo hi : Option Int) : List D := (ds.drop (HT.sIx ds.length 0 lo)).take (HT.sIx ds.length ds.length hi - HT.sIx ds.length 0 lo)
theorem Reps.drop : ∀ {ds : List D} {vs : List V} (n : Nat), Reps K B G ds vs → Reps K B G (ds.drop n) (vs.drop n)
  | ds, vs, 0, h => by simpa using h
  | [], vs, n + 1, h => by simp only [Reps] at h; subst h; simp only [List.drop_nil, Reps]
  | d :: r, vs, n + 1, h => by
    simp only [Reps] at h
    obtain ⟨v, r', e1, h1, h3⟩ := h
    subst e1
    simpa using Reps.drop n h3
theorem Reps.take : ∀ {ds : List D} {vs : List V} (n : Nat), Reps K B G ds vs → Reps K B G (ds.take n) (vs.take n)
  | ds, vs, 0, h => by simp only [List.take_zero, Reps]
  | [], vs, n + 1, h => by simp only [Reps] at h; subst h; simp only [List.take_nil, Reps]
  | d :: r, vs, n + 1, h => by
    simp only [Reps] at h
    obtain ⟨v, r', e1, h1, h3⟩ := h
    subst e1
    simp only [List.take_succ_cons, Reps]
    exact ⟨v, _, rfl, h1, Reps.take n h3⟩
theorem Reps.cut {ds : List D} {vs : List V} (h : Reps K B G ds vs) (lo hi : Option Int) : Reps K B G (cutD ds lo hi) (cutV vs lo hi) := by
  unfold cutD cutV
  rw [← h.length]
  exact (h.drop _).take _
def gSl (x : TD) (lo hi : Option Int) : Option Ans := match x.2 with
  | .str z => if z.length ≤ SZ then some (.p (.str (cutS z lo hi))) else none
  | .tup ds => if HT.sIx ds.length 0 lo = 0 ∧ HT.sIx ds.length ds.length hi = ds.length then some (.p (.tup ds)) else some (.t (cutD ds lo hi))
  | _ => (elems x).map fun ds => .l (cutD ds lo hi)
def fSl (fa : Env → R TD) (flo fhi : Env → R (Option Int)) : Env → R TD := fun ρ => (fa ρ).bind fun x ρ1 => (flo ρ1).bind fun lo ρ2 => (fhi ρ2).bind fun hi => goO (gSl x lo hi)
def rSlX (X : Cx) : V → Option Int → Option Int → Hp → VK → Prop := fun x lo hi H Q => (rSlL X.K x lo hi H Q ∨ rSlA X.K x lo hi H Q) ∨ rSlS x lo hi H Q
theorem gSl_ok {x : TD} {v : V} {l : List Addr} {lo hi : Option Int} {an : Ans} {Q : VK} (le : Le G H) (o : Own X.K C.B G H x.2 x.1 v l) (e : gSl x lo hi = some an) (post : AnsPost X.K C.B G H an Q) : rSlX X v lo hi H Q := by
  have gen : ∀ ds, elems x = some ds → boxK x.2 ≠ 1 → an = .l (cutD ds lo hi) → rSlX X v lo hi H Q := by
    intro ds e1 hk e2
    subst e2
    obtain ⟨a, vs, e3, r, s⟩ := o.elems le e1
    subst e3
    rcases s with ⟨_, s⟩ | ⟨h, s⟩ | ⟨_, s⟩
    · exact .inl (.inl ⟨a, vs, rfl, SqL.of s, fun p hp => post p _ (r.cut lo hi) hp⟩)
    · exact absurd h hk
    · exact .inl (.inl ⟨a, vs, rfl, s, fun p hp => post p _ (r.cut lo hi) hp⟩)
  obtain ⟨t, d⟩ := x
  cases d with
  | str z =>
    simp only [gSl] at e
    split at e
    · cases e
      have hv : v = V.str z := o.prim rfl
      subst hv
      exact .inr ⟨z, rfl, by assumption, post _ (by simp only [Rep])⟩
    · cases e
  | tup ds =>
    simp only [gSl] at e
    have hr := o.plain (by rfl)
    have hr2 := hr
    simp only [Rep] at hr2
    obtain ⟨a, vs, e3, s, r⟩ := hr2
    subst e3
    refine .inl (.inr ⟨a, vs, rfl, le.sqT s, fun z => ?_, fun z p hp => ?_⟩)
    · rw [← r.length] at z
      rw [if_pos z] at e
      cases e
      exact post _ hr
    · rw [← r.length] at z
      rw [if_neg z] at e
      cases e
      exact post p _ (r.cut lo hi) hp
  | lst ds =>
    obtain ⟨ds', e1, e2⟩ := Option.map_eq_some_iff.mp (show (elems (t, D.lst ds)).map _ = some an from e)
    exact gen ds' e1 (by simp [boxK]) e2.symm
  | scr is =>
    obtain ⟨ds', e1, e2⟩ := Option.map_eq_some_iff.mp (show (elems (t, D.scr is)).map (fun ds => Ans.l (cutD ds lo hi)) = some an from e)
    exact gen ds' e1 (by simp [boxK]) e2.symm
  | _ => cases e
theorem de_sl {lo hi : Option Expr} {flo fhi : Env → R (Option Int)} {p2 : Pos} (ha : DB X C q a fa) (hl : DO X C lo flo) (hh : DO X C hi fhi) : DE X C q (.Subscript a (.Slice lo hi none p2) pos) (fSl fa flo fhi) := by
  refine (pe_slice ((sl_list.or sl_tupA).or sl_str) ha hl hh).weak fun σ H Q z => ?_
  refine RT.bind (ka := kB) z (fun h => h) fun x v1 H1 G0 H0 ρ0 z1 => ?_
  refine z1.quiet (ka := kO) kB_up fun lo' lo2 H2 z2 => ?_
  have e1 : lo' = lo2 := by obtain ⟨G, ρ, κ, W, pv, st, ⟨_, p⟩, _⟩ := id z2; exact p
  subst e1
  refine z2.quiet (ka := kO) (fun G H G' H' lg lh ⟨p1, p2⟩ => ⟨kB_up (σ := σ) _ _ _ _ lg lh p1, p2⟩) fun hi' hi2 H3 z3 => ?_
  have e1 : hi' = hi2 := by obtain ⟨G, ρ, κ, W, pv, st, ⟨_, p⟩, _⟩ := id z3; exact p
  subst e1
  cases e : gSl x lo' hi' with
  | none => rw [e] at z3; exact z3.no
  | some an =>
    rw [e] at z3
    obtain ⟨G, ρ, κ, pv, ⟨⟨⟨l, o⟩, _⟩, _⟩, ok, post⟩ := Fin.ans (a := an) z3
    exact gSl_ok ok.le o e post

/-! ### in, not in -/
def cIn (d e : D) : Option Bool := match e with
  | .str z => match d with
    | .str y => some (!(Builtin.Str.occurrences z y 0 z.length 1).isEmpty)
    | _ => none
  | .lst ds => if dsh d && dsh (.lst ds) then some (ds.any fun z => deq z d) else none
  | .tup ds => if dsh d && dsh (.tup ds) then some (ds.any fun z => deq z d) else none
  | _ => none
def cNotIn (d e : D) : Option Bool := (cIn d e).map (!·)
def rInT (X : Cx) (neg : Bool) : R2 := fun x y H Q => ∃ d ds, Dp X.K H x d ∧ Dp X.K H y (.tuple ds) ∧ SeqAt.shaped d = true ∧ SeqAt.shaped (.tuple ds) = true ∧ Q (.bl (if neg then !ds.any fun z => PyData.eqv z d else ds.any fun z => PyData.eqv z d)) H
theorem room_in {d : PyData} {ds : List PyData} {A : Around} (sd : SeqAt.shaped d = true) (hu : A.units + 65 < cLine) : A.units + 1 + min (PyData.depthAll ds) d.depth < cLine := room_in_shaped sd hu
theorem o_inT (hu : X.A.units + 65 < cLine) : OpR X (compareOp .In) (rInT X false) := by
  intro pins s σ H x y v u Q I rx ry h
  obtain ⟨d, ds, hd, he, sd, se, q⟩ := h
  obtain ⟨as, r1⟩ := Dp.reads I d x v hd rx
  obtain ⟨bs, r2⟩ := Dp.reads I (.tuple ds) y u he ry
  exact SeqAt.in_tuple_reads r2 r1 (SeqAt.canLay_of_shaped se) (SeqAt.canLay_of_shaped sd) (room_in sd hu) ⟨.bl _, H, I, rfl, q⟩
theorem o_notInT (hu : X.A.units + 65 < cLine) : OpR X (compareOp .NotIn) (rInT X true) := by
  intro pins s σ H x y v u Q I rx ry h
  obtain ⟨d, ds, hd, he, sd, se, q⟩ := h
  obtain ⟨as, r1⟩ := Dp.reads I d x v hd rx
  obtain ⟨bs, r2⟩ := Dp.reads I (.tuple ds) y u he ry
  exact SeqAt.notIn_tuple_reads r2 r1 (SeqAt.canLay_of_shaped se) (SeqAt.canLay_of_shaped sd) (room_in sd hu) ⟨.bl _, H, I, rfl, q⟩
theorem any_py (d : D) : ∀ ds : List D, ((D.pys ds).any fun z => PyData.eqv z d.py) = ds.any fun z => deq z d
  | [] => by simp [D.pys]
  | x :: r => by
    simp only [D.pys, List.any_cons, any_py d r]
    rfl
theorem o_in (hu : X.A.units + 65 < cLine) : OpR X (compareOp .In) (rCmp X C cIn) := ((op_inD hu).or ((o_inT hu).or op_in_str)).weak fun x y H Q ⟨d, d', k, r1, r2, e, q⟩ => by
  cases d' with
  | str z => cases d with
    | str y =>
      cases e
      exact .inr (.inr ⟨y, z, r1.prim (x := .str y) rfl, r2.prim (x := .str z) rfl, q⟩)
    | _ => cases e
  | lst ds =>
    simp only [cIn] at e
    split at e
    · rename_i h
      obtain ⟨h1, h2⟩ := Bool.and_eq_true_iff.mp h
      cases e
      refine .inl ⟨_, D.pys ds, r1.dpS h1, r2.dpS h2, h1, h2, ?_⟩
      rw [any_py]; exact q
    · cases e
  | tup ds =>
    simp only [cIn] at e
    split at e
    · rename_i h
      obtain ⟨h1, h2⟩ := Bool.and_eq_true_iff.mp h
      cases e
      refine .inr (.inl ⟨_, D.pys ds, r1.dpS h1, r2.dpS h2, h1, h2, ?_⟩)
      rw [any_py]; exact q
    · cases e
  | _ => cases e
theorem o_notIn (hu : X.A.units + 65 < cLine) : OpR X (compareOp .NotIn) (rCmp X C cNotIn) := ((op_notInD hu).or ((o_notInT hu).or op_notin_str)).weak fun x y H Q ⟨d, d', k, r1, r2, e0, q⟩ => by
  obtain ⟨k', e, ek⟩ := Option.map_eq_some_iff.mp e0
  clear e0
  subst ek
  cases d' with
  | str z => cases d with
    | str y =>
      have e := Option.some.inj e
      subst e
      exact .inr (.inr ⟨y, z, r1.prim (x := .str y) rfl, r2.prim (x := .str z) rfl, q⟩)
    | _ => cases e
  | lst ds =>
    simp only [cIn] at e
    split at e
    · rename_i h
      obtain ⟨h1, h2⟩ := Bool.and_eq_true_iff.mp h
      cases e
      refine .inl ⟨_, D.pys ds, r1.dpS h1, r2.dpS h2, h1, h2, ?_⟩
      rw [any_py]; exact q
    · cases e
  | tup ds =>
    simp only [cIn] at e
    split at e
    · rename_i h
      obtain ⟨h1, h2⟩ := Bool.and_eq_true_iff.mp h
      cases e
      refine .inr (.inl ⟨_, D.pys ds, r1.dpS h1, r2.dpS h2, h1, h2, ?_⟩)
      show Q (.bl (!(D.pys ds).any fun z => PyData.eqv z d.py)) H
      rw [any_py]; exact q
    · cases e
  | _ => cases e
abbrev fIn := fCmp cIn
abbrev fNotIn := fCmp cNotIn

/-! ### both sides looked at -/
theorem de_cmpB {op : CmpOp} {g : D → D → Option Bool} (ho : OpR X (compareOp op) (rCmp X C g)) (ha : DB X C qa a fa) (hb : DB X C true b fb) (hm : behindInMarks op b = false) : DE X C qa (.Compare a [op] [b] pos) (fCmp g fa fb) := by
  refine (pe_cmpR ho ha hb hm).weak fun σ H Q z => ?_
  refine RT.bind (ka := kB) z (fun h => h) fun x v1 H1 G0 H0 ρ0 z1 => ?_
  refine z1.quiet (ka := kB) kB_up fun y v2 H2 z2 => ?_
  cases e : g x.2 y.2 with
  | none => simp only [e] at z2; exact z2.no
  | some k =>
    simp only [e] at z2
    obtain ⟨G, ρ, κ, W, pv, st, ⟨⟨l1, o1⟩, ⟨l2, o2⟩⟩, ok, tk, w⟩ := z2
    exact ⟨_, _, k, o1.see ok.le, o2.see ok.le, e, w (.bl k) G H2 trivial st (ok.drop.addF (by simp only [Rep]))⟩
/-- a test's reading from the value's -/
theorem test_tail {Q : Bool → Hp → Prop} (z : RT kT X C q (asT fa) σ H Q) : RT kE X C q fa σ H fun x H1 => ∃ k, x = .bl k ∧ Q k H1 := by
  refine RT.bind (ka := kE) z (fun h => h) fun x v1 H1 G0 H0 ρ0 z1 => ?_
  obtain ⟨G, ρ, κ, W, pv, st, p, ok, tk, w⟩ := z1
  cases e : x.2 with
  | bl k =>
    rw [e] at w
    obtain ⟨l, o⟩ := ok.mem (r := (x.1, x.2, v1)) (by simp [kE])
    have h1 : v1 = V.bl k := Own.prim (x := V.bl k) o (by show primV x.2 = _; rw [e]; rfl)
    exact ⟨k, h1, w k G H1 rfl st ok.drop⟩
  | _ => rw [e] at w; exact w.elim
theorem cmpB_tail {g : D → D → Option Bool} {Q : VK} (z : RT kE X C qa (fCmp g fa fb) σ H Q) : RT kB X C qa fa σ H fun x H1 => RT kB X C true fb σ H1 fun y H2 => rCmp X C g x y H2 Q := by
  refine RT.bind (ka := kB) z (fun h => h) fun x v1 H1 G0 H0 ρ0 z1 => ?_
  refine z1.quiet (ka := kB) kB_up fun y v2 H2 z2 => ?_
  cases e : g x.2 y.2 with
  | none => simp only [e] at z2; exact z2.no
  | some k =>
    simp only [e] at z2
    obtain ⟨G, ρ, κ, W, pv, st, ⟨⟨l1, o1⟩, ⟨l2, o2⟩⟩, ok, tk, w⟩ := z2
    exact ⟨_, _, k, o1.see ok.le, o2.see ok.le, e, w (.bl k) G H2 trivial st (ok.drop.addF (by simp only [Rep]))⟩
theorem dt_cmpB {op : CmpOp} {g : D → D → Option Bool} (ho : OpR X (compareOp op) (rCmp X C g)) (ha : DB X C qa a fa) (hb : DB X C true b fb) (hm : behindInMarks op b = false) : DT X C qa (.Compare a [op] [b] pos) (asT (fCmp g fa fb)) :=
  (pt_cmpR ho ha hb hm).weak fun σ H Q z => cmpB_tail (test_tail z)

/-! ### a op b op c -/
def fChain (g g' : D → D → Option Bool) (fa fb fc : Env → R TD) : Env → R TD := fun ρ => (fa ρ).bind fun x ρ1 => (fb ρ1).bind fun y ρ2 => match g x.2 y.2 with
  | some true => (fc ρ2).bind fun z ρ3 => match g' y.2 z.2 with | some k => .ok (.F, .bl k) ρ3 | none => .stuck
  | some false => .ok (.F, .bl false) ρ2
  | none => .stuck
theorem chain_tail {g g' : D → D → Option Bool} {Q : VK} (z : RT kE X C q (fChain g g' fa fb fc) σ H Q) (h1 : q = true → qa = true) (h2 : q = true → qb = true) (h3 : q = true → qc = true) : tChain (rCmp X C g) (rCmp X C g') (RT kE X C qa fa) (RT kE X C qb fb) (RT kB X C qc fc) σ H Q := by
  refine RT.bind (ka := kE) z h1 fun x v1 H1 G0 H0 ρ0 z1 => ?_
  refine z1.next (ka := kE) h2 fun y v2 H2 z2 => ?_
  cases e : g x.2 y.2 with
  | none => simp only [e] at z2; exact z2.no
  | some k =>
    obtain ⟨G, ρ, κ, W, pv, st, p, ok, tk, w⟩ := id z2
    have s1 := ok.seeK (r := (x.1, x.2, v1)) (by simp [kE])
    have s2 := ok.seeK (r := (y.1, y.2, v2)) (by simp [kE])
    refine ⟨_, _, k, s1, s2, e, k, rfl, ?_⟩
    cases k with
    | false =>
      simp only [e] at z2
      rw [if_neg (by decide)]
      exact z2.ret (d := .bl false) rfl rfl
    | true =>
      simp only [e] at z2
      rw [if_pos rfl]
      refine z2.next (ka := kB) h3 fun y3 v3 H3 z3 => ?_
      cases e3 : g' y.2 y3.2 with
      | none => simp only [e3] at z3; exact z3.no
      | some k =>
        simp only [e3] at z3
        obtain ⟨G, ρ, κ, W, pv, st, ⟨l3, o3⟩, ok, tk, w⟩ := z3
        have s2 := ok.seeK (r := (y.1, y.2, v2)) (by simp [kE, kB])
        exact ⟨_, _, k, s2, o3.see ok.le, e3, w (.bl k) G H3 trivial st (ok.drop.addF (by simp only [Rep]))⟩
theorem de_chain {op op' : CmpOp} {g g' : D → D → Option Bool} (ho : OpR X (compareOp op) (rCmp X C g)) (ho' : OpR X (compareOp op') (rCmp X C g')) (ha : DE X C qa a fa) (hb : DE X C qb b fb) (hc : DB X C qc c fc)
    (hm : lastMarks [op, op'] [b, c] = false := by with_unfolding_all rfl) : DE X C (qa && (qb && qc)) (.Compare a [op, op'] [b, c] pos) (fChain g g' fa fb fc) :=
  (pe_chain ho ho' ha hb hc hm).weak fun σ H Q z => chain_tail z (fun h => (Bool.and_eq_true_iff.mp h).1) (fun h => (Bool.and_eq_true_iff.mp (Bool.and_eq_true_iff.mp h).2).1) (fun h => (Bool.and_eq_true_iff.mp (Bool.and_eq_true_iff.mp h).2).2)
theorem dt_chain {op op' : CmpOp} {g g' : D → D → Option Bool} (ho : OpR X (compareOp op) (rCmp X C g)) (ho' : OpR X (compareOp op') (rCmp X C g')) (ha : DE X C qa a fa) (hb : DE X C qb b fb) (hc : DB X C qc c fc)
    (hm : lastMarks [op, op'] [b, c] = false := by with_unfolding_all rfl) : DT X C (qa && (qb && qc)) (.Compare a [op, op'] [b, c] pos) (asT (fChain g g' fa fb fc)) :=
  (pt_chain ho ho' ha hb hc hm).weak fun σ H Q z => chain_tail (test_tail z) (fun h => (Bool.and_eq_true_iff.mp h).1) (fun h => (Bool.and_eq_true_iff.mp (Bool.and_eq_true_iff.mp h).2).1) (fun h => (Bool.and_eq_true_iff.mp (Bool.and_eq_true_iff.mp h).2).2)
end
end PF
namespace PF
open PySem PySem.Spec L2
open PyProof.Rows hiding St
mutual
def T.eqb : T → T → Bool
  | .F, .F => true
  | .L a, .L b => T.eqb a b
  | .M a, .M b => T.eqb a b
  | .R xs, .R ys => T.eqbs xs ys
  | _, _ => false
def T.eqbs : List T → List T → Bool
  | [], [] => true
  | x :: xs, y :: ys => T.eqb x y && T.eqbs xs ys
  | _, _ => false
end
mutual
theorem T.eqb_eq : ∀ {a b : T}, T.eqb a b = true → a = b
  | .F, .F, _ => rfl
  | .L a, .L b, h => by simp only [T.eqb] at h; rw [T.eqb_eq h]
  | .M a, .M b, h => by simp only [T.eqb] at h; rw [T.eqb_eq h]
  | .R xs, .R ys, h => by simp only [T.eqb] at h; rw [T.eqbs_eq h]
  | .F, .L _, h => by simp [T.eqb] at h
  | .F, .M _, h => by simp [T.eqb] at h
  | .F, .R _, h => by simp [T.eqb] at h
  | .L _, .F, h => by simp [T.eqb] at h
  | .L _, .M _, h => by simp [T.eqb] at h
  | .L _, .R _, h => by simp [T.eqb] at h
  | .M _, .F, h => by simp [T.eqb] at h
  | .M _, .L _, h => by simp [T.eqb] at h
  | .M _, .R _, h => by simp [T.eqb] at h
  | .R _, .F, h => by simp [T.eqb] at h
  | .R _, .L _, h => by simp [T.eqb] at h
  | .R _, .M _, h => by simp [T.eqb] at h
theorem T.eqbs_eq : ∀ {a b : List T}, T.eqbs a b = true → a = b
  | [], [], _ => rfl
  | x :: xs, y :: ys, h => by
    simp only [T.eqbs, Bool.and_eq_true] at h
    rw [T.eqb_eq h.1, T.eqbs_eq h.2]
  | [], _ :: _, h => by simp [T.eqbs] at h
  | _ :: _, [], h => by simp [T.eqbs] at h
end

section
variable {X : Cx} {C : Ct} {q qa qb qc : Bool} {e a b c : Expr} {f fa fb fc : Env → R TD} {pos pos' p : Pos}
variable {K : PySem.W.Frag} {B : Tb} {G G' H H' : Hp} {σ : L2.St} {ρ : Env} {κ κ' : List Rs} {pv : List (Nat × V)} {pr : Nat → Bool}

/-! ### steps into what is owned -/
inductive Stp where
  | f (n : Nat) | ix (j : Nat)
def fitT (t : T) (y : TD) : Bool := !isBox y.2 || T.eqb y.1 t
def get1 : Stp → TD → Option TD
  | .f n, (.R ts, .obj _ fs) => (fs.lookup n).map fun d => (fldTs n fs ts, d)
  | .ix j, (.L t, .lst ds) => ds[j]?.map fun d => (t, d)
  | _, _ => none
def put1 : Stp → TD → TD → Option TD
  | .f n, y, (.R ts, .obj c fs) => some (.R (putTs n y.1 fs ts), .obj c (putD n y.2 fs))
  | .ix j, y, (.L t, .lst ds) => if fitT t y then some (.L t, .lst (ds.set j y.2)) else none
  | _, _, _ => none
def reach1 (B : Tb) (H : Hp) (v : V) : Stp → Option V
  | .f n => match v with
    | .ref a => match H a with
      | some (.ins _ _ vs) => vs.lookup (B.nm n)
      | _ => none
    | _ => none
  | .ix j => match v with
    | .ref a => match H a with
      | some (.lst vs) => vs[j]?
      | _ => none
    | _ => none
theorem reach1_up {v w : V} {s : Stp} (le : Le H H') (h : reach1 B H v s = some w) : reach1 B H' v s = some w := by
  cases s with
  | f n =>
    cases v <;> simp only [reach1] at h ⊢ <;> first | cases h | skip
    rename_i a
    cases e : H a with
    | none => rw [e] at h; cases h
    | some o => rw [e] at h; rw [le _ _ e]; exact h
  | ix n =>
    cases v <;> simp only [reach1] at h ⊢ <;> first | cases h | skip
    rename_i a
    cases e : H a with
    | none => rw [e] at h; cases h
    | some o => rw [e] at h; rw [le _ _ e]; exact h
theorem Own.re {d : D} {t t' : T} {v : V} {l : List Addr} (p : isBox d = false) (h : Own K B G H d t v l) : Own K B G H d t' v l := by
  cases d <;> simp only [Own, isBox] at h p ⊢ <;> first | exact h | exact absurd p (by decide)
theorem Own.fit {t : T} {y : TD} {v : V} {l : List Addr} (p : fitT t y = true) (h : Own K B G H y.2 y.1 v l) : Own K B G H y.2 t v l := by
  rcases Bool.or_eq_true_iff.mp p with z | z
  · exact h.re (by simpa using z)
  · rw [← T.eqb_eq z]; exact h

theorem OwnF.split (inj : ∀ n m, B.nm n = B.nm m → n = m) {n : Nat} {d : D} : ∀ {fs : List (Nat × D)} {ts : List T} {vs : List (PySem.Str × V)} {l : List Addr}, OwnF K B G H fs ts vs l → fs.lookup n = some d →
    ∃ w l1 l2, vs.lookup (B.nm n) = some w ∧ l.Perm (l1 ++ l2) ∧ Own K B G H d (fldTs n fs ts) w l1 ∧ OwnF K B G H (putD n (.raw w) fs) (putTs n .F fs ts) vs l2
  | [], ts, vs, l, h, e => by cases e
  | (m, d') :: r, ts, vs, l, h, e => by
    simp only [OwnF] at h
    obtain ⟨v, vs', l1, l2, e1, el, h1, h2⟩ := h
    subst e1 el
    rw [List.lookup_cons] at e ⊢
    unfold fldTs putD putTs
    by_cases hb : n = m
    · subst hb
      rw [beq_self_eq_true] at e ⊢
      cases e
      simp only [eq_self, if_true]
      refine ⟨v, l1, l2, rfl, .refl _, h1, ?_⟩
      simp only [OwnF]
      exact ⟨v, vs', [], l2, rfl, rfl, by simp only [Own, List.headD_cons]; exact ⟨trivial, trivial⟩, h2⟩
    · rw [beq_eq_false_iff_ne.mpr hb] at e
      simp only [beq_eq_false_iff_ne.mpr fun z => hb (inj _ _ z), if_neg (Ne.symm hb)]
      obtain ⟨w, m1, m2, h3, pm, h4, h5⟩ := OwnF.split inj h2 e
      refine ⟨w, m1, l1 ++ m2, h3, ?_, h4, ?_⟩
      · refine (pm.append_left l1).trans ?_
        exact List.perm_append_comm_assoc ..
      · simp only [OwnF]
        exact ⟨v, vs', l1, m2, rfl, rfl, h1, h5⟩
theorem OwnF.join (inj : ∀ n m, B.nm n = B.nm m → n = m) {n : Nat} {d : D} {w : V} {y : TD} {l1 : List Addr} (hy : Own K B G H y.2 y.1 w l1) : ∀ {fs : List (Nat × D)} {ts : List T} {vs : List (PySem.Str × V)} {l2 : List Addr}, fs.lookup n = some d →
    OwnF K B G H (putD n (.raw w) fs) (putTs n .F fs ts) vs l2 → ∃ l, l.Perm (l1 ++ l2) ∧ OwnF K B G H (putD n y.2 fs) (putTs n y.1 fs ts) vs l
  | [], ts, vs, l2, e, h => by cases e
  | (m, d') :: r, ts, vs, l2, e, h => by
    rw [List.lookup_cons] at e
    unfold putD putTs at h ⊢
    by_cases hb : n = m
    · subst hb
      simp only [eq_self, if_true] at h ⊢
      simp only [OwnF] at h ⊢
      obtain ⟨v, vs', m1, m2, e1, el, h1, h2⟩ := h
      simp only [List.headD_cons, Own] at h1
      obtain ⟨e3, e4⟩ := h1
      subst e1 el e3 e4
      exact ⟨l1 ++ m2, .refl _, _, vs', l1, m2, rfl, rfl, hy, h2⟩
    · rw [beq_eq_false_iff_ne.mpr hb] at e
      simp only [if_neg (Ne.symm hb)] at h ⊢
      simp only [OwnF] at h ⊢
      obtain ⟨v, vs', m1, m2, e1, el, h1, h2⟩ := h
      subst e1 el
      obtain ⟨l, pm, h3⟩ := OwnF.join inj hy e h2
      refine ⟨m1 ++ l, ?_, v, vs', m1, l, rfl, rfl, h1, h3⟩
      refine (pm.append_left m1).trans ?_
      exact List.perm_append_comm_assoc ..
theorem Owns.split : ∀ {ds : List D} {t : T} {vs : List V} {l : List Addr} {j : Nat} {d : D}, Owns K B G H ds t vs l → ds[j]? = some d →
    ∃ w l1 l2, vs[j]? = some w ∧ l.Perm (l1 ++ l2) ∧ Own K B G H d t w l1 ∧ Owns K B G H (ds.set j (.raw w)) t vs l2
  | [], t, vs, l, j, d, h, e => by simp at e
  | x :: r, t, vs, l, 0, d, h, e => by
    simp only [List.getElem?_cons_zero, Option.some.injEq] at e
    subst e
    simp only [Owns] at h
    obtain ⟨v, r', l1, l2, e1, el, h1, h2⟩ := h
    subst e1 el
    refine ⟨v, l1, l2, rfl, .refl _, h1, ?_⟩
    simp only [List.set_cons_zero, Owns]
    exact ⟨v, r', [], l2, rfl, rfl, by simp only [Own]; exact ⟨trivial, trivial⟩, h2⟩
  | x :: r, t, vs, l, j + 1, d, h, e => by
    simp only [List.getElem?_cons_succ] at e
    simp only [Owns] at h
    obtain ⟨v, r', l1, l2, e1, el, h1, h2⟩ := h
    subst e1 el
    obtain ⟨w, m1, m2, h3, pm, h4, h5⟩ := Owns.split h2 e
    refine ⟨w, m1, l1 ++ m2, by simpa using h3, ?_, h4, ?_⟩
    · exact (pm.append_left l1).trans (List.perm_append_comm_assoc ..)
    · simp only [List.set_cons_succ, Owns]
      exact ⟨v, r', l1, m2, rfl, rfl, h1, h5⟩
theorem Owns.join {w : V} {d' : D} {t : T} {l1 : List Addr} (hy : Own K B G H d' t w l1) : ∀ {ds : List D} {vs : List V} {l2 : List Addr} {j : Nat} {d : D}, ds[j]? = some d → Owns K B G H (ds.set j (.raw w)) t vs l2 →
    ∃ l, l.Perm (l1 ++ l2) ∧ Owns K B G H (ds.set j d') t vs l
  | [], vs, l2, j, d, e, h => by simp at e
  | x :: r, vs, l2, 0, d, e, h => by
    simp only [List.set_cons_zero, Owns] at h ⊢
    obtain ⟨v, r', m1, m2, e1, el, h1, h2⟩ := h
    simp only [Own] at h1
    obtain ⟨e3, e4⟩ := h1
    subst e1 el e3 e4
    exact ⟨l1 ++ m2, .refl _, _, r', l1, m2, rfl, rfl, hy, h2⟩
  | x :: r, vs, l2, j + 1, d, e, h => by
    simp only [List.getElem?_cons_succ] at e
    simp only [List.set_cons_succ, Owns] at h ⊢
    obtain ⟨v, r', m1, m2, e1, el, h1, h2⟩ := h
    subst e1 el
    obtain ⟨l, pm, h3⟩ := Owns.join hy e h2
    exact ⟨m1 ++ l, (pm.append_left m1).trans (List.perm_append_comm_assoc ..), v, r', m1, l, rfl, rfl, h1, h3⟩
theorem fit_raw {t : T} {w : V} : fitT t (.F, .raw w) = true := rfl
theorem Own.split1 (inj : ∀ n m, B.nm n = B.nm m → n = m) {x x1 : TD} {s : Stp} {v : V} {l : List Addr} (h : Own K B G H x.2 x.1 v l) (e : get1 s x = some x1) :
    ∃ w l1 l2 hole, reach1 B H v s = some w ∧ put1 s (.F, .raw w) x = some hole ∧ l.Perm (l1 ++ l2) ∧ Own K B G H x1.2 x1.1 w l1 ∧ Own K B G H hole.2 hole.1 v l2 := by
  obtain ⟨t, d⟩ := x
  cases s with
  | f n =>
    cases t <;> cases d <;> first | cases e | skip
    rename_i ts c fs
    obtain ⟨d1, e1, e2⟩ := Option.map_eq_some_iff.mp (show (fs.lookup n).map (fun d => (fldTs n fs ts, d)) = some x1 from e)
    subst e2
    simp only [Own] at h
    obtain ⟨a, dx, vs, l', ev, ha, el, hf⟩ := h
    subst ev el
    obtain ⟨w, l1, l2, h1, pm, h2, h3⟩ := hf.split inj e1
    refine ⟨w, l1, a :: l2, _, by simp only [reach1, ha]; exact h1, rfl, ?_, h2, ?_⟩
    · exact (pm.cons a).trans List.perm_middle.symm
    · simp only [Own]
      exact ⟨a, dx, vs, l2, rfl, ha, rfl, h3⟩
  | ix j =>
    cases t <;> cases d <;> first | cases e | skip
    rename_i t ds
    obtain ⟨d1, e1, e2⟩ := Option.map_eq_some_iff.mp (show ds[j]?.map (fun d => (t, d)) = some x1 from e)
    subst e2
    simp only [Own] at h
    obtain ⟨a, vs, l', ev, ha, el, hf⟩ := h
    subst ev el
    obtain ⟨w, l1, l2, h1, pm, h2, h3⟩ := hf.split e1
    refine ⟨w, l1, a :: l2, _, by simp only [reach1, ha]; exact h1, rfl, ?_, h2, ?_⟩
    · exact (pm.cons a).trans List.perm_middle.symm
    · simp only [Own]
      exact ⟨a, vs, l2, rfl, ha, rfl, h3⟩
theorem Own.join1 (inj : ∀ n m, B.nm n = B.nm m → n = m) {x x1 y hole z : TD} {s : Stp} {v w : V} {l1 l2 : List Addr} (e : get1 s x = some x1) (eh : put1 s (.F, .raw w) x = some hole) (ez : put1 s y x = some z)
    (hy : Own K B G H y.2 y.1 w l1) (h : Own K B G H hole.2 hole.1 v l2) : ∃ l, l.Perm (l1 ++ l2) ∧ Own K B G H z.2 z.1 v l := by
  obtain ⟨t, d⟩ := x
  cases s with
  | f n =>
    cases t <;> cases d <;> first | cases e | skip
    rename_i ts c fs
    obtain ⟨d1, e1, e2⟩ := Option.map_eq_some_iff.mp (show (fs.lookup n).map (fun d => (fldTs n fs ts, d)) = some x1 from e)
    cases eh
    cases ez
    simp only [Own] at h
    obtain ⟨a, dx, vs, l', ev, ha, el, hf⟩ := h
    subst ev el
    obtain ⟨l, pm, h3⟩ := OwnF.join inj hy e1 hf
    refine ⟨a :: l, (pm.cons a).trans List.perm_middle.symm, ?_⟩
    simp only [Own]
    exact ⟨a, dx, vs, l, rfl, ha, rfl, h3⟩
  | ix j =>
    cases t <;> cases d <;> first | cases e | skip
    rename_i t ds
    obtain ⟨d1, e1, e2⟩ := Option.map_eq_some_iff.mp (show ds[j]?.map (fun d => (t, d)) = some x1 from e)
    have eh : (if fitT t (.F, .raw w) then some (T.L t, D.lst (ds.set j (.raw w))) else none) = some hole := eh
    rw [fit_raw, if_pos rfl] at eh
    cases eh
    have ez : (if fitT t y then some (T.L t, D.lst (ds.set j y.2)) else none) = some z := ez
    split at ez
    · rename_i hf'
      cases ez
      simp only [Own] at h
      obtain ⟨a, vs, l', ev, ha, el, hf⟩ := h
      subst ev el
      obtain ⟨l, pm, h3⟩ := Owns.join (hy.fit hf') e1 hf
      refine ⟨a :: l, (pm.cons a).trans List.perm_middle.symm, ?_⟩
      simp only [Own]
      exact ⟨a, vs, l, rfl, ha, rfl, h3⟩
    · cases ez

/-! ### paths -/
def getP : List Stp → TD → Option TD
  | [], x => some x
  | s :: r, x => (get1 s x).bind (getP r)
def putP : List Stp → TD → TD → Option TD
  | [], y, _ => some y
  | s :: r, y, x => (get1 s x).bind fun x1 => (putP r y x1).bind fun y1 => put1 s y1 x
def reach (B : Tb) (H : Hp) : List Stp → V → Option V
  | [], v => some v
  | s :: r, v => (reach1 B H v s).bind (reach B H r)
theorem reach_up (le : Le H H') : ∀ {r : List Stp} {v w : V}, reach B H r v = some w → reach B H' r v = some w
  | [], _, _, h => h
  | s :: r, v, w, h => by
    obtain ⟨u, h1, h2⟩ := Option.bind_eq_some_iff.mp (show (reach1 B H v s).bind (reach B H r) = some w from h)
    show (reach1 B H' v s).bind (reach B H' r) = some w
    rw [reach1_up le h1]
    exact reach_up le h2
theorem reach_snoc : ∀ {r : List Stp} {v w u : V} {s : Stp}, reach B H r v = some w → reach1 B H w s = some u → reach B H (r ++ [s]) v = some u
  | [], v, w, u, s, h, h2 => by
    cases h
    show (reach1 B H _ s).bind (reach B H []) = some u
    rw [h2]
    rfl
  | s' :: r, v, w, u, s, h, h2 => by
    obtain ⟨u', h3, h4⟩ := Option.bind_eq_some_iff.mp (show (reach1 B H v s').bind (reach B H r) = some w from h)
    show (reach1 B H v s').bind (reach B H (r ++ [s])) = some u
    rw [h3]
    exact reach_snoc h4 h2
theorem getP_snoc : ∀ {r : List Stp} {x y : TD} {s : Stp}, getP r x = some y → getP (r ++ [s]) x = get1 s y
  | [], x, y, s, h => by
    cases h
    show (get1 s x).bind (getP []) = _
    generalize get1 s x = o
    cases o <;> rfl
  | s' :: r, x, y, s, h => by
    obtain ⟨u', h3, h4⟩ := Option.bind_eq_some_iff.mp (show (get1 s' x).bind (getP r) = some y from h)
    show (get1 s' x).bind (getP (r ++ [s])) = _
    rw [h3]
    exact getP_snoc h4
theorem Own.walk (inj : ∀ n m, B.nm n = B.nm m → n = m) : ∀ {r : List Stp} {x x1 : TD} {v : V} {l : List Addr}, Own K B G H x.2 x.1 v l → getP r x = some x1 → ∃ w l', reach B H r v = some w ∧ Own K B G H x1.2 x1.1 w l'
  | [], x, x1, v, l, h, e => by cases e; exact ⟨v, l, rfl, h⟩
  | s :: r, x, x1, v, l, h, e => by
    obtain ⟨x2, e1, e2⟩ := Option.bind_eq_some_iff.mp (show (get1 s x).bind (getP r) = some x1 from e)
    obtain ⟨w, l1, l2, hole, h1, _, _, h2, _⟩ := h.split1 inj e1
    obtain ⟨w', l', h3, h4⟩ := Own.walk inj h2 e2
    exact ⟨w', l', by show (reach1 B H v s).bind (reach B H r) = some w'; rw [h1]; exact h3, h4⟩
/-- a part is changed in its whole -/
theorem Okx.focus (inj : ∀ n m, B.nm n = B.nm m → n = m) {ys zs : List Rs} {y x1 : TD} {w : V} : ∀ {r : List Stp} {x z : TD} {v : V} {xs : List Rs}, getP r x = some x1 → putP r y x = some z → reach B H r v = some w → Okx K B G H ((x.1, x.2, v) :: (ys ++ xs)) →
    (∀ xs, Okx K B G H ((x1.1, x1.2, w) :: (ys ++ xs)) → ∃ G', Le G G' ∧ Okx K B G' H' ((y.1, y.2, w) :: (zs ++ xs))) → ∃ G', Le G G' ∧ Okx K B G' H' ((z.1, z.2, v) :: (zs ++ xs))
  | [], x, z, v, xs, e1, e2, e3, h, k => by
    cases e1
    cases e2
    cases e3
    exact k _ h
  | s :: r, x, z, v, xs, e1, e2, e3, h, k => by
    obtain ⟨x2, e4, e5⟩ := Option.bind_eq_some_iff.mp (show (get1 s x).bind (getP r) = some x1 from e1)
    obtain ⟨x2', e6, e7⟩ := Option.bind_eq_some_iff.mp (show (get1 s x).bind (fun x1 => (putP r y x1).bind fun y1 => put1 s y1 x) = some z from e2)
    rw [e4] at e6
    cases e6
    obtain ⟨y1, e8, e9⟩ := Option.bind_eq_some_iff.mp e7
    obtain ⟨w2, e10, e11⟩ := Option.bind_eq_some_iff.mp (show (reach1 B H v s).bind (reach B H r) = some w from e3)
    obtain ⟨le, l, ⟨l1, l2, el, h1, h2⟩, nd, dj⟩ := h
    obtain ⟨w3, m1, m2, hole, r1, eh, pm, h3, h4⟩ := h1.split1 inj e4
    rw [e10] at r1
    cases r1
    subst el
    have o1 : Okx K B G H ((x2.1, x2.2, w2) :: (ys ++ ((hole.1, hole.2, v) :: xs))) := by
      have o2 : Okx K B G H ((x2.1, x2.2, w2) :: ((hole.1, hole.2, v) :: (ys ++ xs))) :=
        ⟨le, m1 ++ (m2 ++ l2), ⟨m1, _, rfl, h3, m2, l2, rfl, h4, h2⟩, by rw [← List.append_assoc]; exact (pm.append_right l2).nodup nd, fun a ha => dj a ((pm.append_right l2).mem_iff.mpr (by rw [List.append_assoc]; exact ha))⟩
      exact o2.perm (List.Perm.cons _ List.perm_middle.symm)
    obtain ⟨G', le', o3⟩ := Okx.focus inj e5 e8 e11 o1 k
    refine ⟨G', le', ?_⟩
    have o4 : Okx K B G' H' ((y1.1, y1.2, w2) :: ((hole.1, hole.2, v) :: (zs ++ xs))) := o3.perm (List.Perm.cons _ List.perm_middle)
    obtain ⟨le2, l', ⟨n1, n2, el, g1, n3, n4, el2, g2, g3⟩, nd2, dj2⟩ := o4
    subst el el2
    obtain ⟨l3, pm2, g4⟩ := Own.join1 inj e4 eh e9 g1 g2
    have pm3 : (n1 ++ (n3 ++ n4)).Perm (l3 ++ n4) := by rw [← List.append_assoc]; exact (pm2.append_right n4).symm
    exact ⟨le2, l3 ++ n4, ⟨l3, n4, rfl, g4, g3⟩, pm3.nodup nd2, fun a ha => dj2 a (pm3.mem_iff.mpr ha)⟩
/-- .. of a name -/
theorem StOk.focus (inj : ∀ n m, B.nm n = B.nm m → n = m) {i : Nat} {r : List Stp} {x x1 y z : TD} {v w : V} {ys zs : List Rs} (h : StOk K B G H σ ρ (ys ++ κ) pv) (e : ρ[i]? = some (some x)) (hv : σ[i]? = some (some v))
    (e1 : getP r x = some x1) (e2 : putP r y x = some z) (e3 : reach B H r v = some w)
    (k : ∀ xs, Okx K B G H ((x1.1, x1.2, w) :: (ys ++ xs)) → ∃ G', Le G G' ∧ Okx K B G' H' ((y.1, y.2, w) :: (zs ++ xs))) : ∃ G', Le G G' ∧ StOk K B G' H' σ (ρ.set i (some z)) (zs ++ κ) pv := by
  have hi : i < ρ.length := (List.getElem?_eq_some_iff.mp e).1
  have p := perm_front (ents_at (t := x.1) (d := x.2) e hv)
  have o : Okx K B G H ((x.1, x.2, v) :: (ys ++ ((ents σ ρ).eraseIdx i ++ κ))) := h.ok.perm (by
    refine (p.append_right _).trans ?_
    rw [List.cons_append, ← List.append_assoc, ← List.append_assoc]
    exact (List.perm_append_comm.append_right κ).cons _)
  obtain ⟨G', le, o2⟩ := Okx.focus inj e1 e2 e3 o k
  refine ⟨G', le, by simpa using h.len, fun j t1 d1 e1 => ?_, o2.perm ?_, h.pvs⟩
  · by_cases q : j = i
    · subst q; exact ⟨v, hv⟩
    · rw [List.getElem?_set_ne (Ne.symm q)] at e1
      exact h.val _ _ _ e1
  · rw [ents_setR _ hv]
    have p2 : ((ents σ ρ).set i (ent (some v) (some z))).Perm ((z.1, z.2, v) :: (ents σ ρ).eraseIdx i) := set_perm _ (by rw [h.lenE]; exact hi)
    refine List.Perm.symm ((p2.append_right (zs ++ κ)).trans ?_)
    rw [List.cons_append, ← List.append_assoc, ← List.append_assoc]
    exact (List.perm_append_comm.append_right κ).cons _
/-- a part of what is owned is shared -/
theorem Okx.freezeBy {t t' : T} {d d' : D} {v : V} {xs : List Rs} (h : Okx K B G H ((t, d, v) :: xs)) (k : ∀ l, Own K B G H d t v l → ∃ lF l', l.Perm (lF ++ l') ∧ ∀ G', Le G G' → At lF H G' → Own K B G' H d' t' v l') :
    ∃ G', Le G G' ∧ Okx K B G' H ((t', d', v) :: xs) := by
  obtain ⟨le, l, ⟨l1, l2, e, h1, h2⟩, nd, dj⟩ := h
  subst e
  obtain ⟨lF, l', pm, k2⟩ := k l1 h1
  have pm2 : (l1 ++ l2).Perm (lF ++ (l' ++ l2)) := by rw [← List.append_assoc]; exact pm.append_right l2
  have nd1 := List.nodup_append.mp (pm2.nodup nd)
  have lg : Le G (fun a => if a ∈ lF then H a else G a) := by
    intro a o ha
    show (if a ∈ lF then H a else G a) = some o
    split
    · exact le _ _ ha
    · exact ha
  refine ⟨fun a => if a ∈ lF then H a else G a, lg, ?_, l' ++ l2, ⟨l', l2, rfl, k2 _ lg ?_, h2.mono lg fun _ _ => rfl⟩, nd1.2.1, fun a ha => ?_⟩
  · intro a o ha
    have ha : (if a ∈ lF then H a else G a) = some o := ha
    split at ha
    · exact ha
    · exact le _ _ ha
  · intro a ha
    show (if a ∈ lF then H a else G a) = H a
    rw [if_pos ha]
  · show (if a ∈ lF then H a else G a) = none
    rw [if_neg (fun q => nd1.2.2 a q a ha rfl)]
    exact dj a (pm2.mem_iff.mpr (List.mem_append_right _ ha))
theorem Okx.freezeL {t : T} {ds : List D} {v : V} {xs : List Rs} (h : Okx K B G H ((.L t, .lst ds, v) :: xs)) : ∃ G', Le G G' ∧ Okx K B G' H ((.L .F, .lst ds, v) :: xs) := h.freezeBy fun l o => by
  simp only [Own] at o
  obtain ⟨a, vs, l', ev, ha, el, hf⟩ := o
  subst ev el
  refine ⟨l', [a], List.perm_append_comm (l₁ := [a]), fun G' le k => ?_⟩
  simp only [Own]
  exact ⟨a, vs, [], rfl, ha, rfl, (Owns.rep le hf k).owns⟩

/-! ### places -/
abbrev Plc := Nat × List Stp
def kP : Kd Plc V := ⟨fun _ _ => [], fun _ B σ ip w _ H => ∃ v, σ[ip.1]? = some (some v) ∧ reach B H ip.2 v = some w⟩
abbrev DP (X : Cx) (C : Ct) (q : Bool) (e : Expr) (f : Env → R Plc) : Prop := PE X e (RT kP X C q f)
def atP (ρ : Env) (ip : Plc) : Option TD := match ρ[ip.1]? with
  | some (some x) => getP ip.2 x
  | _ => none
def setP (ρ : Env) (ip : Plc) (y : TD) : Option Env := match ρ[ip.1]? with
  | some (some x) => (putP ip.2 y x).map fun z => ρ.set ip.1 (some z)
  | _ => none
theorem StOk.atP (inj : ∀ n m, B.nm n = B.nm m → n = m) {ip : Plc} {x : TD} {v w : V} (h : StOk K B G H σ ρ κ pv) (e : atP ρ ip = some x) (hv : σ[ip.1]? = some (some v)) (hr : reach B H ip.2 v = some w) : ∃ l, Own K B G H x.2 x.1 w l := by
  unfold PF.atP at e
  cases q : ρ[ip.1]? with
  | none => rw [q] at e; cases e
  | some o => cases o with
    | none => rw [q] at e; cases e
    | some y =>
      rw [q] at e
      obtain ⟨v', l, hv', o⟩ := h.at (t := y.1) (d := y.2) q
      rw [hv] at hv'
      cases hv'
      obtain ⟨w', l', h1, h2⟩ := Own.walk inj o e
      rw [hr] at h1
      cases h1
      exact ⟨l', h2⟩
theorem StOk.setP (inj : ∀ n m, B.nm n = B.nm m → n = m) {ip : Plc} {x y : TD} {v w : V} {ρ' : Env} {ys zs : List Rs} (h : StOk K B G H σ ρ (ys ++ κ) pv) (e : PF.atP ρ ip = some x) (e2 : PF.setP ρ ip y = some ρ') (hv : σ[ip.1]? = some (some v)) (hr : reach B H ip.2 v = some w)
    (k : ∀ xs, Okx K B G H ((x.1, x.2, w) :: (ys ++ xs)) → ∃ G', Le G G' ∧ Okx K B G' H' ((y.1, y.2, w) :: (zs ++ xs))) : ∃ G', Le G G' ∧ StOk K B G' H' σ ρ' (zs ++ κ) pv := by
  unfold PF.atP at e
  unfold PF.setP at e2
  cases q : ρ[ip.1]? with
  | none => rw [q] at e; cases e
  | some o => cases o with
    | none => rw [q] at e; cases e
    | some u =>
      rw [q] at e e2
      obtain ⟨z, e3, e4⟩ := Option.map_eq_some_iff.mp e2
      subst e4
      exact h.focus inj q hv e e3 hr k
def pN (i : Nat) : Env → R Plc := fun ρ => match ρ[i]? with
  | some (some _) => .ok (i, []) ρ
  | _ => .stuck
theorem dp_name {i : Nat} {x : PySem.Str} (h : PE X (.Name x pos) (tVar i)) : DP X C true (.Name x pos) (pN i) := h.weak fun σ H Q z => by
  obtain ⟨G0, H0, ρ0, G, ρ, κ, W, pv, st, p, ok, tk, w⟩ := z
  unfold pN at w
  cases e : ρ[i]? with
  | none => rw [e] at w; exact w.elim
  | some o => cases o with
    | none => rw [e] at w; exact w.elim
    | some td =>
      rw [e] at w
      obtain ⟨v, l, hv, q⟩ := ok.at (i := i) (t := td.1) (d := td.2) e
      exact ⟨v, hv, w v G H ⟨v, hv, rfl⟩ st ok⟩
def pF (n : Nat) (p : Env → R Plc) : Env → R Plc := fun ρ => (p ρ).bind fun ip ρ1 => match atP ρ1 ip with
  | some (.R _, .obj _ fs) => match fs.lookup n with
    | some _ => .ok (ip.1, ip.2 ++ [.f n]) ρ1
    | none => .stuck
  | _ => .stuck
theorem dp_fld {n : Nat} {x : PySem.Str} {fp : Env → R Plc} (CO : CtOk X C) (hx : C.B.nm n = x) (hn : n < C.nn) (ha : DP X C q a fp) (hb : attributeBase a x X.env (eval a X.env) = eval a X.env := by rfl) : DP X C q (.Attribute a x pos) (pF n fp) := by
  subst hx
  refine (pe_fld ha hb).weak fun σ H Q z => ?_
  refine RT.bind (ka := kP) z (fun h => h) fun ip w1 H1 G0 H0 ρ0 z1 => ?_
  obtain ⟨G, ρ, κ, W, pv, st, ⟨v, hv, hr⟩, ok, tk, w⟩ := z1
  cases e : atP ρ ip with
  | none => simp only [e] at w; exact w.elim
  | some x =>
    obtain ⟨t, d⟩ := x
    obtain ⟨l, o⟩ := StOk.atP CO.inj ok e hv hr
    simp only [e] at w
    cases t <;> cases d <;> first | exact w.elim | skip
    rename_i ts c fs
    dsimp only at w
    cases el : fs.lookup n with
    | none => rw [el] at w; exact w.elim
    | some d =>
      rw [el] at w
      obtain ⟨a, dx, vs, u, l', e1, ha, hu, ow⟩ := Own.fld CO.inj ok.le o el
      subst e1
      refine ⟨a, _, dx, vs, u, rfl, ha, CO.cls (Nat.lt_of_le_of_lt (Nat.zero_le _) hn) c, CO.noat c n hn, hu, w u G H1 ⟨v, hv, ?_⟩ st ok⟩
      exact reach_snoc hr (by simp only [reach1, ha]; exact hu)
def pI (p : Env → R Plc) (fi : Env → R TD) : Env → R Plc := fun ρ => (p ρ).bind fun ip ρ1 => (fi ρ1).bind fun y ρ2 => match atP ρ2 ip, y.2 with
  | some (.L _, .lst ds), .int k => match ixN ds.length k with
    | some j => .ok (ip.1, ip.2 ++ [.ix j]) ρ2
    | none => .stuck
  | _, _ => .stuck
theorem kP_up {ip : Plc} {w : V} : ∀ G H G' H', Le G G' → Le H H' → kP.rel K B σ ip w G H → kP.rel K B σ ip w G' H' := fun G H G' H' lg lh ⟨v, hv, hr⟩ => ⟨v, hv, reach_up lh hr⟩
theorem dp_ix {i : Expr} {fi : Env → R TD} {fp : Env → R Plc} (CO : CtOk X C) (ha : DP X C q a fp) (hi : DE X C true i fi) (hs : PlainIx i := by exact fun _ _ => rfl) : DP X C q (.Subscript a i pos) (pI fp fi) := by
  refine (pe_ix ix_seq ha hi hs).weak fun σ H Q z => ?_
  refine RT.bind (ka := kP) z (fun h => h) fun ip w1 H1 G0 H0 ρ0 z1 => ?_
  refine z1.quiet (ka := kE) kP_up fun y v2 H2 z2 => ?_
  obtain ⟨G, ρ, κ, W, pv, st, ⟨⟨v, hv, hr⟩, _⟩, ok, tk, w⟩ := z2
  cases e : atP ρ ip with
  | none => simp only [e] at w; exact w.elim
  | some x =>
    obtain ⟨t, d⟩ := x
    obtain ⟨l, o⟩ := StOk.atP CO.inj ok e hv hr
    obtain ⟨l2, o2⟩ := ok.mem (r := (y.1, y.2, v2)) (by simp [kE])
    simp only [e] at w
    cases t <;> cases d <;> first | exact w.elim | skip
    rename_i t ds
    cases ey : y.2 with
    | int k =>
      have hv2 : v2 = .int k := o2.prim (x := .int k) (by show primV y.2 = _; rw [ey]; rfl)
      subst hv2
      rw [ey] at w
      dsimp only at w
      cases ej : ixN ds.length k with
      | none => rw [ej] at w; exact w.elim
      | some j =>
        rw [ej] at w
        simp only [Own] at o
        obtain ⟨aa, vs, l', e1, ha, el, hf⟩ := o
        subst e1
        have hl : ds.length = vs.length := by
          have := (Owns.rep (G' := H2) ok.le hf fun _ _ => rfl).length
          exact this
        obtain ⟨_, hj, _⟩ := ixN_seq ej
        obtain ⟨vj, hvj⟩ : ∃ vj, vs[j]? = some vj := ⟨_, List.getElem?_eq_getElem (by rw [← hl]; exact hj)⟩
        refine .inl ⟨aa, vs, k, vj, rfl, rfl, SqL.of ha, ?_, w vj G H2 ⟨v, hv, reach_snoc hr (by simp only [reach1, ha]; exact hvj)⟩ st ok.drop⟩
        unfold L2.atI
        rw [← hl, ej]
        exact hvj
    | _ => rw [ey] at w; exact w.elim
/-- a place, looked at -/
def bP (p : Env → R Plc) : Env → R TD := fun ρ => (p ρ).bind fun ip ρ1 => match atP ρ1 ip with | some x => .ok x ρ1 | none => .stuck
theorem DP.db {fp : Env → R Plc} (CO : CtOk X C) (h : DP X C q e fp) : DB X C q e (bP fp) := h.weak fun σ H Q z => by
  refine RT.bind (ka := kP) z (fun h => h) fun ip w1 H1 G0 H0 ρ0 z1 => ?_
  obtain ⟨G, ρ, κ, W, pv, st, ⟨v, hv, hr⟩, ok, tk, w⟩ := z1
  cases e : atP ρ ip with
  | none => simp only [e] at w; exact w.elim
  | some x =>
    simp only [e] at w
    exact w w1 G H1 (StOk.atP CO.inj ok e hv hr) st ok
end
end PF
namespace PF
open PySem PySem.Spec L2
open PyProof.Rows hiding St
section
variable {X : Cx} {C : Ct} {q qa qb qc : Bool} {e a b c : Expr} {f fa fb fc : Env → R TD} {pos pos' p : Pos}
variable {K : PySem.W.Frag} {B : Tb} {G G' H H' : Hp} {σ : L2.St} {ρ : Env} {κ κ' : List Rs} {pv : List (Nat × V)} {pr : Nat → Bool}

/-! ### a place's value is changed -/
def MuOk (X : Cx) (C : Ct) (r : V → List V → Hp → VK → Prop) (m : TD → List TD → Option (TD × TD)) : Prop :=
  ∀ (G H : Hp) (x : TD) (w : V) (xs : List TD) (vs : List V) (y an : TD) (rest : List Rs) (Q : VK), xs.length = vs.length → m x xs = some (y, an) → Okx X.K C.B G H ((x.1, x.2, w) :: (rsL xs vs ++ rest)) →
    (∀ v H', (∀ rest, Okx X.K C.B G H ((x.1, x.2, w) :: (rsL xs vs ++ rest)) → ∃ G', Le G G' ∧ Okx X.K C.B G' H' ((y.1, y.2, w) :: ((an.1, an.2, v) :: rest))) → Q v H') → r w vs H Q
def muD (m : TD → List TD → Option (TD × TD)) (ip : Plc) (xs : List TD) : Env → R TD := fun ρ => match atP ρ ip with
  | some x => match m x xs with
    | some ya => match setP ρ ip ya.1 with
      | some ρ' => .ok ya.2 ρ'
      | none => .stuck
    | none => .stuck
  | none => .stuck
theorem StOk.atPlace {ip : Plc} {x : TD} {v w : V} {ys : List Rs} (inj : ∀ n m, B.nm n = B.nm m → n = m) (h : StOk K B G H σ ρ (ys ++ κ) pv) (e : PF.atP ρ ip = some x) (hv : σ[ip.1]? = some (some v)) (hr : reach B H ip.2 v = some w) :
    ∃ rest, Okx K B G H ((x.1, x.2, w) :: (ys ++ rest)) := by
  -- the whole is split at the path
  unfold PF.atP at e
  cases q : ρ[ip.1]? with
  | none => rw [q] at e; cases e
  | some o => cases o with
    | none => rw [q] at e; cases e
    | some y =>
      rw [q] at e
      have p := perm_front (ents_at (t := y.1) (d := y.2) q hv)
      have o : Okx K B G H ((y.1, y.2, v) :: (ys ++ ((ents σ ρ).eraseIdx ip.1 ++ κ))) := h.ok.perm (by
        refine (p.append_right _).trans ?_
        rw [List.cons_append, ← List.append_assoc, ← List.append_assoc]
        exact (List.perm_append_comm.append_right κ).cons _)
      clear p q
      revert hr e o
      generalize ip.2 = r
      generalize (ents σ ρ).eraseIdx ip.1 ++ κ = R
      intro hr
      clear hv h
      induction r generalizing y v R with
      | nil =>
        intro e o
        cases e
        cases hr
        exact ⟨R, o⟩
      | cons s r ih =>
        intro e o
        obtain ⟨x2, e4, e5⟩ := Option.bind_eq_some_iff.mp (show (get1 s y).bind (getP r) = some x from e)
        obtain ⟨w2, e10, e11⟩ := Option.bind_eq_some_iff.mp (show (reach1 B H v s).bind (reach B H r) = some w from hr)
        obtain ⟨le, l, ⟨l1, l2, el, h1, h2⟩, nd, dj⟩ := o
        obtain ⟨w3, m1, m2, hole, r1, eh, pm, h3, h4⟩ := h1.split1 inj e4
        rw [e10] at r1
        cases r1
        subst el
        have o2 : Okx K B G H ((x2.1, x2.2, w2) :: ((hole.1, hole.2, v) :: (ys ++ R))) :=
          ⟨le, m1 ++ (m2 ++ l2), ⟨m1, _, rfl, h3, m2, l2, rfl, h4, h2⟩, by rw [← List.append_assoc]; exact (pm.append_right l2).nodup nd, fun a ha => dj a ((pm.append_right l2).mem_iff.mpr (by rw [List.append_assoc]; exact ha))⟩
        exact ih (y := x2) (v := w2) (R := (hole.1, hole.2, v) :: R) e11 e5 (o2.perm (List.Perm.cons _ List.perm_middle.symm))
theorem mu_fin {r : V → List V → Hp → VK → Prop} {m : TD → List TD → Option (TD × TD)} {ip : Plc} {xs : List TD} {vs : List V} {w : V} {Q : VK} {G0 H0 : Hp} {ρ0 : Env} {P : Hp → Hp → Prop} (CO : CtOk X C) (hm : MuOk X C r m)
    (z : Fin kE X C false G0 H0 ρ0 σ H Q P (rsL xs vs ++ []) (muD m ip xs)) (hl : xs.length = vs.length) (hP : ∀ G, P G H → ∃ v, σ[ip.1]? = some (some v) ∧ reach C.B H ip.2 v = some w) : r w vs H Q := by
  obtain ⟨G, ρ, κ, W, pv, st, p, ok, tk, ww⟩ := z
  obtain ⟨v, hv, hr⟩ := hP G p
  rw [List.append_nil] at ok
  unfold muD at ww
  cases e : atP ρ ip with
  | none => simp only [e] at ww; exact ww.elim
  | some x =>
    simp only [e] at ww
    cases e2 : m x xs with
    | none => simp only [e2] at ww; exact ww.elim
    | some ya =>
      obtain ⟨y, an⟩ := ya
      simp only [e2] at ww
      cases e3 : setP ρ ip y with
      | none => simp only [e3] at ww; exact ww.elim
      | some ρ' =>
        simp only [e3] at ww
        obtain ⟨rest, o⟩ := StOk.atPlace CO.inj ok e hv hr
        refine hm G H x w xs vs y an rest Q hl e2 o fun v' H' k => ?_
        obtain ⟨G', le, ok'⟩ := StOk.setP (zs := [(an.1, an.2, v')]) CO.inj ok e e3 hv hr k
        exact ww v' G' H' trivial ⟨st.1.trans le, fun h => nomatch h⟩ ok'
def isBoxT (k : Nat) (x : TD) : Bool := match k, x with
  | 0, (.L _, .lst _) => true
  | 1, (.M _, .dct _) => true
  | _, _ => false
def tyS : Nat → String
  | 0 => "list"
  | _ => "dict"
theorem tyV_of {k : Nat} {x : TD} {w : V} {l : List Addr} (h : Own K B G H x.2 x.1 w l) (e : isBoxT k x = true) : tyV K (tyS k) w H := by
  obtain ⟨t, d⟩ := x
  match k, t, d, e with
  | 0, .L t, .lst ds, _ =>
    simp only [Own] at h
    obtain ⟨a, vs, l', ev, ha, _⟩ := h
    subst ev
    exact .inl ⟨rfl, vs, SqL.of ha⟩
  | 1, .M t, .dct ds, _ =>
    simp only [Own] at h
    obtain ⟨a, ks, l', ev, ⟨kv, ha, _⟩, _⟩ := h
    subst ev
    exact .inr (.inr (.inl ⟨rfl, .inl ⟨kv, ha⟩⟩))
/-- place.m(args) -/
def fMu (k : Nat) (fp : Env → R Plc) (m : TD → List TD → Option (TD × TD)) (fl : Env → R (List TD)) : Env → R TD := fun ρ => (fp ρ).bind fun ip ρ1 => match atP ρ1 ip with
  | some x => if isBoxT k x then (fl ρ1).bind fun xs => muD m ip xs else .stuck
  | none => .stuck
theorem mu_tail {k : Nat} {fp : Env → R Plc} {m : TD → List TD → Option (TD × TD)} {fl : Env → R (List TD)} {r : V → List V → Hp → VK → Prop} {Q : VK} (CO : CtOk X C) (hm : MuOk X C r m) (z : RT kE X C false (fMu k fp m fl) σ H Q) :
    RT kP X C q fp σ H fun w H1 => tyV X.K (tyS k) w H1 ∧ RT kA X C true fl σ H1 fun vs H2 => r w vs H2 Q := by
  refine RT.bind (ka := kP) z (fun h => nomatch h) fun ip w H1 G0 H0 ρ0 z1 => ?_
  obtain ⟨G, ρ, κ, W, pv, st, ⟨v, hv, hr⟩, ok, tk, ww⟩ := z1
  cases e : atP ρ ip with
  | none => simp only [e] at ww; exact ww.elim
  | some x =>
    simp only [e] at ww
    obtain ⟨l, o⟩ := StOk.atP CO.inj ok e hv hr
    cases eb : isBoxT k x with
    | false => simp only [eb] at ww; exact ww.elim
    | true =>
      simp only [eb, if_true] at ww
      refine ⟨tyV_of o eb, ?_⟩
      have z2 : Fin kE X C false G0 H0 ρ0 σ H1 Q (fun G H => kP.rel X.K C.B σ ip w G H) [] (fun ρ => (fl ρ).bind fun xs => muD m ip xs) := ⟨G, ρ, κ, W, pv, st, ⟨v, hv, hr⟩, ok, tk, ww⟩
      exact z2.quiet (ka := kA) kP_up fun xs vs H2 z3 => mu_fin CO hm z3 (by obtain ⟨_, _, _, _, _, _, ⟨_, p⟩, _⟩ := id z3; exact p) fun G p => p.1
/-- the name's value is its own place: the arguments may do anything -/
theorem mu_tailN {k i : Nat} {m : TD → List TD → Option (TD × TD)} {fl : Env → R (List TD)} {r : V → List V → Hp → VK → Prop} {Q : VK} {qq : Bool} (CO : CtOk X C) (hm : MuOk X C r m) (z : RT kE X C false (fMu k (pN i) m fl) σ H Q) :
    tVar i σ H fun w H1 => tyV X.K (tyS k) w H1 ∧ RT kA X C qq fl σ H1 fun vs H2 => r w vs H2 Q := by
  obtain ⟨G0, H0, ρ0, G, ρ, κ, W, pv, st, p, ok, tk, ww⟩ := z
  unfold fMu at ww
  rw [R.wp_bind] at ww
  unfold pN at ww
  cases e : ρ[i]? with
  | none => simp only [e] at ww; exact ww.elim
  | some o => cases o with
    | none => simp only [e] at ww; exact ww.elim
    | some x =>
      obtain ⟨v, l, hv, o⟩ := ok.at (i := i) (t := x.1) (d := x.2) e
      have e2 : atP ρ (i, []) = some x := by unfold atP; simp only [e]; rfl
      simp only [e, PF.R.wp, e2] at ww
      cases eb : isBoxT k x with
      | false => simp only [eb] at ww; exact ww.elim
      | true =>
        simp only [eb, if_true] at ww
        refine ⟨v, hv, tyV_of o eb, ?_⟩
        have z2 : Fin kE X C false G0 H0 ρ0 σ H Q (fun G H => True) [] (fun ρ => (fl ρ).bind fun xs => muD m (i, []) xs) := ⟨G, ρ, κ, W, pv, st, trivial, ok, tk, ww⟩
        exact z2.next (ka := kA) (fun h => nomatch h) fun xs vs H2 z3 => mu_fin CO hm z3 (by obtain ⟨_, _, _, _, _, _, p, _⟩ := id z3; exact p) fun G p => ⟨v, hv, rfl⟩
theorem de_mu {k : Nat} {o : Expr} {es : List Expr} {fp : Env → R Plc} {m : TD → List TD → Option (TD × TD)} {fl : Env → R (List TD)} {r : V → List V → Hp → VK → Prop} {name : PySem.Str} {id : String} {apos cpos : Pos} (CO : CtOk X C) (hm : MuOk X C r m) (hr : MtR X id r) (pa : PlainAttrs (tyS k)) (slot : Slot (tyS k) name id) (hty : typeOf (.builtin id) = pure (.type "method_descriptor"))
    (ho : DP X C q o fp) (ha : DA X C true (e :: es) fl)
    (hbase : attributeBase o name X.env (eval o X.env) = eval o X.env := by rfl)
    (hfew : ((backTo cpos (starEach (e :: es) X.env)).all (fun x => !x.1) && (backToKw cpos (keywordEach [] X.env)).all (fun x => x.1.isSome)
      && decide ((e :: es).length + ([] : List Keyword).length + (if ([] : List Keyword).isEmpty then 0 else 1) < 30)) = true := by rfl)
    (hline : (apos.endLine == cpos.line) = true := by rfl) (hs : starEach (e :: es) X.env = (false, eval e X.env) :: starEach es X.env := by rfl) (hplain : (backTo cpos (starEach es X.env)).any (·.1) = false := by rfl) :
    DE X C false (.Call (.Attribute o name apos) (e :: es) [] cpos) (fMu k fp m fl) :=
  (pe_bm pa slot hty hr ho ha hbase hfew hline hs hplain).weak fun σ H Q z => mu_tail CO hm z
theorem de_muN {k i : Nat} {x : PySem.Str} {p : Pos} {es : List Expr} {m : TD → List TD → Option (TD × TD)} {fl : Env → R (List TD)} {r : V → List V → Hp → VK → Prop} {name : PySem.Str} {id : String} {apos cpos : Pos} (CO : CtOk X C) (hm : MuOk X C r m) (hr : MtR X id r) (pa : PlainAttrs (tyS k)) (slot : Slot (tyS k) name id) (hty : typeOf (.builtin id) = pure (.type "method_descriptor"))
    (ho : PE X (.Name x p) (tVar i)) (ha : DA X C q (e :: es) fl)
    (hbase : attributeBase (.Name x p) name X.env (eval (.Name x p) X.env) = eval (.Name x p) X.env := by rfl)
    (hfew : ((backTo cpos (starEach (e :: es) X.env)).all (fun x => !x.1) && (backToKw cpos (keywordEach [] X.env)).all (fun x => x.1.isSome)
      && decide ((e :: es).length + ([] : List Keyword).length + (if ([] : List Keyword).isEmpty then 0 else 1) < 30)) = true := by rfl)
    (hline : (apos.endLine == cpos.line) = true := by rfl) (hs : starEach (e :: es) X.env = (false, eval e X.env) :: starEach es X.env := by rfl) (hplain : (backTo cpos (starEach es X.env)).any (·.1) = false := by rfl) :
    DE X C false (.Call (.Attribute (.Name x p) name apos) (e :: es) [] cpos) (fMu k (pN i) m fl) :=
  (pe_bm pa slot hty hr ho ha hbase hfew hline hs hplain).weak fun σ H Q z => mu_tailN CO hm z
theorem de_mu0 {k : Nat} {o : Expr} {fp : Env → R Plc} {m : TD → List TD → Option (TD × TD)} {r : V → List V → Hp → VK → Prop} {name : PySem.Str} {id : String} {apos cpos : Pos} (CO : CtOk X C) (hm : MuOk X C r m) (hr : MtR X id r) (pa : PlainAttrs (tyS k)) (slot : Slot (tyS k) name id) (hty : typeOf (.builtin id) = pure (.type "method_descriptor"))
    (ho : DP X C q o fp) (hbase : attributeBase o name X.env (eval o X.env) = eval o X.env := by rfl) (hline : (apos.endLine == cpos.line) = true := by rfl) :
    DE X C false (.Call (.Attribute o name apos) [] [] cpos) (fMu k fp m fNil) :=
  (pe_bm0 pa slot hty hr ho hbase hline).weak fun σ H Q z => (mu_tail CO hm z).mono fun w H1 ⟨h1, h2⟩ => ⟨h1, by
    obtain ⟨G0, H0, ρ0, z⟩ := h2
    exact Fin.end_ (k := kA) (b := []) z fun G ρ κ pv ok p => ⟨rfl, ok⟩⟩

/-! ### lists: what the methods do -/
theorem Owns.append : ∀ {ds es : List D} {t : T} {vs us : List V} {l l' : List Addr}, Owns K B G H ds t vs l → Owns K B G H es t us l' → Owns K B G H (ds ++ es) t (vs ++ us) (l ++ l')
  | [], es, t, vs, us, l, l', h, h2 => by
    simp only [Owns] at h
    obtain ⟨rfl, rfl⟩ := h
    exact h2
  | d :: r, es, t, vs, us, l, l', h, h2 => by
    simp only [Owns] at h
    obtain ⟨v, r', l1, l2, e1, el, h1, h3⟩ := h
    subst e1 el
    simp only [List.cons_append, Owns]
    exact ⟨v, r' ++ us, l1, l2 ++ l', rfl, by rw [List.append_assoc], h1, Owns.append h3 h2⟩
theorem Owns.one {d : D} {t : T} {v : V} {l : List Addr} (h : Own K B G H d t v l) : Owns K B G H [d] t [v] l := by
  simp only [Owns]
  exact ⟨v, [], l, [], rfl, by simp, h, rfl, rfl⟩
theorem Owns.len : ∀ {ds : List D} {t : T} {vs : List V} {l : List Addr}, Owns K B G H ds t vs l → ds.length = vs.length
  | [], t, vs, l, h => by simp only [Owns] at h; rw [h.1]; rfl
  | d :: r, t, vs, l, h => by
    simp only [Owns] at h
    obtain ⟨v, r', l1, l2, e1, el, h1, h3⟩ := h
    subst e1
    simp [Owns.len h3]
theorem Owns.rePlain : ∀ {ds : List D} {t t' : T} {vs : List V} {l : List Addr}, ds.all (fun d => !isBox d) = true → Owns K B G H ds t vs l → Owns K B G H ds t' vs l
  | [], t, t', vs, l, p, h => by simp only [Owns] at h ⊢; exact h
  | d :: r, t, t', vs, l, p, h => by
    rw [List.all_cons, Bool.and_eq_true] at p
    simp only [Owns] at h ⊢
    obtain ⟨v, r', l1, l2, e1, el, h1, h3⟩ := h
    exact ⟨v, r', l1, l2, e1, el, h1.re (by simpa using p.1), Owns.rePlain p.2 h3⟩
theorem Owns.erase : ∀ {ds : List D} {t : T} {vs : List V} {l : List Addr} {k : Nat} {d : D}, Owns K B G H ds t vs l → ds[k]? = some d →
    ∃ w l1 l2, vs[k]? = some w ∧ l.Perm (l1 ++ l2) ∧ Own K B G H d t w l1 ∧ Owns K B G H (ds.eraseIdx k) t (vs.eraseIdx k) l2
  | [], t, vs, l, k, d, h, e => by simp at e
  | x :: r, t, vs, l, 0, d, h, e => by
    simp only [List.getElem?_cons_zero, Option.some.injEq] at e
    subst e
    simp only [Owns] at h
    obtain ⟨v, r', l1, l2, e1, el, h1, h2⟩ := h
    subst e1 el
    exact ⟨v, l1, l2, rfl, .refl _, h1, h2⟩
  | x :: r, t, vs, l, k + 1, d, h, e => by
    simp only [List.getElem?_cons_succ] at e
    simp only [Owns] at h
    obtain ⟨v, r', l1, l2, e1, el, h1, h2⟩ := h
    subst e1 el
    obtain ⟨w, m1, m2, h3, pm, h4, h5⟩ := Owns.erase h2 e
    refine ⟨w, m1, l1 ++ m2, by simpa using h3, (pm.append_left l1).trans (List.perm_append_comm_assoc ..), h4, ?_⟩
    simp only [List.eraseIdx_cons_succ, Owns]
    exact ⟨v, _, l1, m2, rfl, rfl, h1, h5⟩
theorem Owns.set : ∀ {ds : List D} {t : T} {vs : List V} {l : List Addr} {k : Nat} {d' : D} {u : V} {l1 : List Addr}, Owns K B G H ds t vs l → k < ds.length → Own K B G H d' t u l1 →
    ∃ m lx, Owns K B G H (ds.set k d') t (vs.set k u) m ∧ (l ++ l1).Perm (m ++ lx)
  | [], t, vs, l, k, d', u, l1, h, hk, ho => by cases hk
  | x :: r, t, vs, l, 0, d', u, l1, h, hk, ho => by
    simp only [Owns] at h
    obtain ⟨v, r', m1, m2, e1, el, h1, h2⟩ := h
    subst e1 el
    refine ⟨l1 ++ m2, m1, ?_, ?_⟩
    · simp only [List.set_cons_zero, Owns]
      exact ⟨u, r', l1, m2, rfl, rfl, ho, h2⟩
    · rw [List.append_assoc]
      refine List.perm_append_comm.trans ?_
      exact List.Perm.append_right m1 List.perm_append_comm
  | x :: r, t, vs, l, k + 1, d', u, l1, h, hk, ho => by
    simp only [Owns] at h
    obtain ⟨v, r', m1, m2, e1, el, h1, h2⟩ := h
    subst e1 el
    obtain ⟨m, lx, h3, pm⟩ := Owns.set h2 (Nat.lt_of_succ_lt_succ hk) ho
    refine ⟨m1 ++ m, lx, ?_, ?_⟩
    · simp only [List.set_cons_succ, Owns]
      exact ⟨v, _, m1, m, rfl, rfl, h1, h3⟩
    · rw [List.append_assoc, List.append_assoc]
      exact pm.append_left m1
theorem Owns.rev : ∀ {ds : List D} {t : T} {vs : List V} {l : List Addr}, Owns K B G H ds t vs l → ∃ m, Owns K B G H ds.reverse t vs.reverse m ∧ l.Perm m
  | [], t, vs, l, h => by
    simp only [Owns] at h
    obtain ⟨rfl, rfl⟩ := h
    exact ⟨[], by simp only [List.reverse_nil, Owns]; exact ⟨trivial, trivial⟩, .refl _⟩
  | d :: r, t, vs, l, h => by
    simp only [Owns] at h
    obtain ⟨v, r', l1, l2, e1, el, h1, h2⟩ := h
    subst e1 el
    obtain ⟨m, h3, pm⟩ := Owns.rev h2
    refine ⟨m ++ l1, ?_, List.perm_append_comm.trans (pm.append_right l1)⟩
    rw [List.reverse_cons, List.reverse_cons]
    exact h3.append (.one h1)
theorem Own.lst' {t : T} {ds : List D} {w : V} {l : List Addr} (h : Own K B G H (.lst ds) (.L t) w l) : ∃ a vs l', w = .ref a ∧ H a = some (.lst vs) ∧ l = a :: l' ∧ Owns K B G H ds t vs l' := by
  simp only [Own] at h; exact h
theorem Okx.lstW {t t2 : T} {ds ds2 : List D} {a : Addr} {vs vs2 : List V} {ys zs xs : List Rs} (h : Okx K B G H ((.L t, .lst ds, .ref a) :: (ys ++ xs))) (ha : H a = some (.lst vs))
    (k : ∀ l l', Owns K B G H ds t vs l → OwnAll K B G H ys l' → ∃ m lz lx, Owns K B G H ds2 t2 vs2 m ∧ OwnAll K B G H zs lz ∧ (l ++ l').Perm (m ++ lz ++ lx)) :
    Okx K B G (upd H a (.lst vs2)) ((.L t2, .lst ds2, .ref a) :: (zs ++ xs)) := by
  refine Okx.write (ys := (T.L t, D.lst ds, V.ref a) :: ys) (zs := (T.L t2, D.lst ds2, V.ref a) :: zs) h fun ll ho nd => ?_
  obtain ⟨l1, l2, e, h1, h2⟩ := ho
  subst e
  obtain ⟨a', vs', l', e1, ha', el, h3⟩ := h1.lst'
  cases e1
  rw [ha] at ha'
  cases ha'
  subst el
  obtain ⟨m, lz, lx, k1, k2, pm⟩ := k l' l2 h3 h2
  have nd2 : (a :: (l' ++ l2)).Nodup := nd
  have na := (List.nodup_cons.mp nd2).1
  have pm2 : ∀ b ∈ m ++ lz, b ≠ a := fun b hb z => na (pm.mem_iff.mpr (List.mem_append_left _ (z ▸ hb)))
  refine ⟨List.mem_append_left _ List.mem_cons_self, a :: (m ++ lz), lx, ⟨a :: m, lz, rfl, ?_, ?_⟩, ?_⟩
  · simp only [Own]
    exact ⟨a, vs2, m, rfl, upd_same, rfl, k1.mono .refl fun b hb => upd_ne (pm2 b (List.mem_append_left _ hb))⟩
  · exact k2.mono .refl fun b hb => upd_ne (pm2 b (List.mem_append_right _ hb))
  · exact pm.cons a

/-! #### the mode of a list that gets an item -/
def pushT (t : T) (ds : List D) (y : TD) : T := if fitT t y then t else if ds.all (fun d => !isBox d) then y.1 else .F
/-- the list and the item are made fit for one another -/
theorem Okx.fitP {t : T} {ds : List D} {y : TD} {a : Addr} {u : V} {xs : List Rs} (h : Okx K B G H ((.L t, .lst ds, .ref a) :: ((y.1, y.2, u) :: xs))) :
    ∃ G', Le G G' ∧ Okx K B G' H ((.L (pushT t ds y), .lst ds, .ref a) :: ((pushT t ds y, y.2, u) :: xs)) := by
  unfold pushT
  split
  · rename_i hf
    refine ⟨G, .refl, ?_⟩
    obtain ⟨le, l, ⟨l1, l2, e, h1, ⟨l3, l4, e2, h2, h3⟩⟩, nd, dj⟩ := h
    exact ⟨le, l, ⟨l1, l2, e, h1, l3, l4, e2, h2.fit hf, h3⟩, nd, dj⟩
  · split
    · rename_i hp
      refine ⟨G, .refl, ?_⟩
      obtain ⟨le, l, ⟨l1, l2, e, h1, h23⟩, nd, dj⟩ := h
      obtain ⟨a', vs, l', e1, ha, el, h4⟩ := h1.lst'
      refine ⟨le, l, ⟨l1, l2, e, ?_, h23⟩, nd, dj⟩
      simp only [Own]
      exact ⟨a', vs, l', e1, ha, el, h4.rePlain hp⟩
    · obtain ⟨G1, le1, h1⟩ := Okx.freezeL h
      obtain ⟨G2, le2, h2⟩ := Okx.freeze (h1.perm (List.Perm.swap _ _ _))
      exact ⟨G2, le1.trans le2, h2.perm (List.Perm.swap _ _ _)⟩
def mAppend (x : TD) (xs : List TD) : Option (TD × TD) := match x, xs with
  | (.L t, .lst ds), [y] => if ds.length < SZ then some ((.L (pushT t ds y), .lst (ds ++ [y.2])), (.F, .non)) else none
  | _, _ => none
theorem mu_append : MuOk X C rAppend mAppend := by
  intro G H x w xs vs y an rest Q hl e o post
  obtain ⟨t, d⟩ := x
  match t, d, xs, vs, hl, e with
  | .L t, .lst ds, [x1], [u], _, e =>
    have e : (if ds.length < SZ then some (((.L (pushT t ds x1) : T), (.lst (ds ++ [x1.2]) : D)), ((.F : T), (.non : D))) else none) = some (y, an) := e
    split at e
    · rename_i hz
      cases e
      obtain ⟨l, ow⟩ := o.head
      obtain ⟨a, us, l', e1, ha, el, h3⟩ := ow.lst'
      subst e1
      refine ⟨a, us, u, rfl, rfl, ha, by rw [← h3.len]; exact hz, post .non _ fun rest o => ?_⟩
      obtain ⟨G', le, o2⟩ := Okx.fitP o
      refine ⟨G', le, ?_⟩
      have o3 := Okx.lstW (ys := [(pushT t ds x1, x1.2, u)]) (zs := []) (ds2 := ds ++ [x1.2]) (t2 := pushT t ds x1) (vs2 := us ++ [u]) o2 ha fun l l' h1 h2 => by
        obtain ⟨m1, m2, e, h4, h5⟩ := h2
        rw [show m2 = [] from h5, List.append_nil] at e
        subst e
        exact ⟨l ++ l', [], [], h1.append (.one h4), rfl, by simp⟩
      exact (o3.addF (d := .non) (v := .non) (by simp only [Rep])).perm (List.Perm.swap _ _ _)
    · cases e
def mPop (x : TD) (xs : List TD) : Option (TD × TD) := match x, xs with
  | (.L t, .lst ds), [] => ds[ds.length - 1]?.map fun d => ((.L t, .lst ds.dropLast), (t, d))
  | _, _ => none
theorem dropLast_eq {α : Type} (l : List α) : l.dropLast = l.eraseIdx (l.length - 1) := by
  rw [List.dropLast_eq_take, List.eraseIdx_eq_take_drop_succ]
  cases l with
  | nil => rfl
  | cons a r => simp
theorem mu_pop : MuOk X C rPop mPop := by
  intro G H x w xs vs y an rest Q hl e o post
  obtain ⟨t, d⟩ := x
  match t, d, xs, vs, hl, e with
  | .L t, .lst ds, [], [], _, e =>
    obtain ⟨d, e1, e2⟩ := Option.map_eq_some_iff.mp (show ds[ds.length - 1]?.map (fun d => ((T.L t, D.lst ds.dropLast), (t, d))) = some (y, an) from e)
    cases e2
    obtain ⟨l, ow⟩ := o.head
    obtain ⟨a, us, l', e3, ha, el, h3⟩ := ow.lst'
    subst e3
    obtain ⟨u, l1, l2, hu, pm, h4, h5⟩ := h3.erase e1
    refine ⟨a, us, u, rfl, rfl, ha, by rw [← h3.len]; exact hu, post u _ fun rest o => ⟨G, .refl, ?_⟩⟩
    exact Okx.lstW (ys := []) (zs := [(t, d, u)]) o ha fun l l' h1 h2 => by
      obtain ⟨u', l1, l2, hu', pm, h4, h5⟩ := h1.erase e1
      rw [hu] at hu'
      cases hu'
      rw [show l' = [] from h2, List.append_nil]
      refine ⟨l2, l1, [], ?_, ⟨l1, [], by simp, h4, rfl⟩, ?_⟩
      · rw [dropLast_eq ds, dropLast_eq us, ← h1.len]
        exact h5
      · rw [List.append_nil]
        exact pm.trans List.perm_append_comm
def mPopAt (x : TD) (xs : List TD) : Option (TD × TD) := match x, xs with
  | (.L t, .lst ds), [(_, .int i)] => if ds.length ≤ SZ then (ixN ds.length i).bind fun k => ds[k]?.map fun d => ((.L t, .lst (ds.eraseIdx k)), (t, d)) else none
  | _, _ => none
theorem mu_popAt : MuOk X C rPopAt mPopAt := by
  intro G H x w xs vs y an rest Q hl e o post
  obtain ⟨t, d⟩ := x
  match t, d, xs, vs, hl, e with
  | .L t, .lst ds, [(t', .int i)], [vi], _, e =>
    have e : (if ds.length ≤ SZ then (ixN ds.length i).bind (fun k => ds[k]?.map fun d => ((T.L t, D.lst (ds.eraseIdx k)), (t, d))) else none) = some (y, an) := e
    have hz : ds.length ≤ SZ := by
      by_cases hz : ds.length ≤ SZ
      · exact hz
      · rw [if_neg hz] at e; cases e
    rw [if_pos hz] at e
    obtain ⟨k, e0, e⟩ := Option.bind_eq_some_iff.mp e
    obtain ⟨d, e1, e2⟩ := Option.map_eq_some_iff.mp e
    cases e2
    have hvi : vi = .int i := by
      obtain ⟨l, ow⟩ := (o.tail : Okx X.K C.B G H ((t', D.int i, vi) :: rest)).head
      exact ow.prim (x := .int i) rfl
    subst hvi
    obtain ⟨l, ow⟩ := o.head
    obtain ⟨a, us, l', e3, ha, el, h3⟩ := ow.lst'
    subst e3
    obtain ⟨u, l1, l2, hu, pm, h4, h5⟩ := h3.erase e1
    obtain ⟨g1, g2, g3, g4⟩ := ixN_seq e0
    have hb : ds.length ≤ 16777216 := by rw [← SZ_eq]; exact hz
    refine ⟨a, us, i, k, u, rfl, rfl, ha, by omega, by omega, by rw [← h3.len]; exact g1, hu, post u _ fun rest o => ⟨G, .refl, ?_⟩⟩
    refine Okx.lstW (ys := [(t', D.int i, V.int i)]) (zs := [(t, d, u)]) o ha fun l l' h1 h2 => ?_
    obtain ⟨u', l1, l2, hu', pm, h4, h5⟩ := h1.erase e1
    rw [hu] at hu'
    cases hu'
    obtain ⟨n1, n2, en, h6, h7⟩ := h2
    simp only [Own] at h6
    rw [h6.2, show n2 = [] from h7] at en
    subst en
    rw [List.append_nil]
    refine ⟨l2, l1, [], h5, ⟨l1, [], by simp, h4, rfl⟩, ?_⟩
    simpa using pm.trans (List.perm_append_comm (l₁ := l1) (l₂ := l2))
def mRev (x : TD) (xs : List TD) : Option (TD × TD) := match x, xs with
  | (.L t, .lst ds), [] => some ((.L t, .lst ds.reverse), (.F, .non))
  | _, _ => none
theorem mu_rev : MuOk X C rReverse mRev := by
  intro G H x w xs vs y an rest Q hl e o post
  obtain ⟨t, d⟩ := x
  match t, d, xs, vs, hl, e with
  | .L t, .lst ds, [], [], _, e =>
    cases e
    obtain ⟨l, ow⟩ := o.head
    obtain ⟨a, us, l', e3, ha, el, h3⟩ := ow.lst'
    subst e3
    refine ⟨a, us, rfl, rfl, ha, post .non _ fun rest o => ⟨G, .refl, ?_⟩⟩
    have o3 := Okx.lstW (ys := []) (zs := []) (t2 := t) (ds2 := ds.reverse) (vs2 := us.reverse) o ha fun l l' h1 h2 => by
      obtain ⟨m, h4, pm⟩ := h1.rev
      rw [show l' = [] from h2, List.append_nil]
      exact ⟨m, [], [], h4, rfl, by simpa using pm⟩
    exact (o3.addF (d := .non) (v := .non) (by simp only [Rep])).perm (List.Perm.swap _ _ _)
def mExt (x : TD) (xs : List TD) : Option (TD × TD) := match x, xs with
  | (.L t, .lst ds), [(ty, .lst es)] => (elems (ty, .lst es)).bind fun es => if ds.length + es.length ≤ SZ then some ((.L (if es.all (fun d => !isBox d) then t else .F), .lst (ds ++ es)), (.F, .non)) else none
  | _, _ => none
theorem mu_ext : MuOk X C rExtend mExt := by
  intro G H x w xs vs y an rest Q hl e o post
  obtain ⟨t, d⟩ := x
  match t, d, xs, vs, hl, e with
  | .L t, .lst ds, [(ty, .lst es)], [u], _, e =>
    obtain ⟨es', e0, e⟩ := Option.bind_eq_some_iff.mp (show (elems (ty, .lst es)).bind (fun es => if ds.length + es.length ≤ SZ then some ((T.L (if es.all (fun d => !isBox d) then t else .F), D.lst (ds ++ es)), (T.F, D.non)) else none) = some (y, an) from e)
    split at e
    · rename_i hz
      cases e
      obtain ⟨l, ow⟩ := o.head
      obtain ⟨a, us, l', e3, ha, el, h3⟩ := ow.lst'
      subst e3
      obtain ⟨l2, ow2⟩ := (o.tail : Okx X.K C.B G H ((ty, D.lst es, u) :: rest)).head
      obtain ⟨b, ws, e4, r4, s4⟩ := Own.elems (td := (ty, D.lst es)) ow2 o.le e0
      have hb : H b = some (.lst ws) := by
        rcases s4 with ⟨_, s⟩ | ⟨h, _⟩ | ⟨h, _⟩
        · exact s
        · cases h
        · cases h
      subst e4
      refine ⟨a, b, us, ws, rfl, rfl, ha, hb, by rw [← h3.len, ← r4.length]; exact hz, post .non _ fun rest o => ?_⟩
      have r5 : Reps X.K C.B G es' ws := r4
      by_cases hp : es'.all (fun d => !isBox d) = true
      · rw [if_pos hp]
        refine ⟨G, .refl, ?_⟩
        have o3 := Okx.lstW (ys := [(ty, D.lst es, V.ref b)]) (zs := []) (t2 := t) (ds2 := ds ++ es') (vs2 := us ++ ws) o ha fun l l' h1 h2 => by
          exact ⟨l ++ [], [], l', h1.append (r5.owns.rePlain hp), rfl, by simp⟩
        exact (o3.addF (d := .non) (v := .non) (by simp only [Rep])).perm (List.Perm.swap _ _ _)
      · rw [if_neg hp]
        obtain ⟨G1, le1, o1⟩ := Okx.freezeL o
        refine ⟨G1, le1, ?_⟩
        have o3 := Okx.lstW (ys := [(ty, D.lst es, V.ref b)]) (zs := []) (t2 := .F) (ds2 := ds ++ es') (vs2 := us ++ ws) o1 ha fun l l' h1 h2 => by
          exact ⟨l ++ [], [], l', h1.append (r5.mono le1).owns, rfl, by simp⟩
        exact (o3.addF (d := .non) (v := .non) (by simp only [Rep])).perm (List.Perm.swap _ _ _)
    · cases e
/-- x[i] = y: (x, [i, y]) -/
def mSet (x : TD) (xs : List TD) : Option (TD × TD) := match x, xs with
  | (.L t, .lst ds), [y, (_, .int i)] => (ixN ds.length i).map fun k => ((.L (pushT t ds y), .lst (ds.set k y.2)), (.F, .non))
  | _, _ => none
def rSetM : V → List V → Hp → VK → Prop := fun w vs H Q => ∃ i v, vs = [v, i] ∧ rSetL w i v H fun H' => Q .non H'
theorem mu_set : MuOk X C rSetM mSet := by
  intro G H x w xs vs y an rest Q hl e o post
  obtain ⟨t, d⟩ := x
  match t, d, xs, vs, hl, e with
  | .L t, .lst ds, [x1, (t', .int i)], [u, vi], _, e =>
    obtain ⟨k, e0, e⟩ := Option.map_eq_some_iff.mp (show (ixN ds.length i).map (fun k => ((T.L (pushT t ds x1), D.lst (ds.set k x1.2)), (T.F, D.non))) = some (y, an) from e)
    cases e
    have hvi : vi = .int i := by
      obtain ⟨l, ow⟩ := (o.tail.tail : Okx X.K C.B G H ((t', D.int i, vi) :: rest)).head
      exact ow.prim (x := .int i) rfl
    subst hvi
    obtain ⟨l, ow⟩ := o.head
    obtain ⟨a, us, l', e3, ha, el, h3⟩ := ow.lst'
    subst e3
    obtain ⟨g1, g2, g3, g4⟩ := ixN_seq e0
    refine ⟨.int i, u, rfl, a, us, i, k, rfl, rfl, ha, by rw [← h3.len]; exact e0, post .non _ fun rest o => ?_⟩
    obtain ⟨G', le, o2⟩ := Okx.fitP (xs := (t', D.int i, V.int i) :: rest) o
    refine ⟨G', le, ?_⟩
    have o3 := Okx.lstW (ys := [(pushT t ds x1, x1.2, u), (t', D.int i, V.int i)]) (zs := []) (ds2 := ds.set k x1.2) (t2 := pushT t ds x1) (vs2 := us.set k u) o2 ha fun l l' h1 h2 => by
      obtain ⟨m1, m2, e, h4, m3, m4, e2, h5, h6⟩ := h2
      simp only [Own] at h5
      rw [h5.2, show m4 = [] from h6] at e2
      subst e2
      rw [List.append_nil] at e
      subst e
      obtain ⟨m, lx, h7, pm⟩ := h1.set (k := k) (d' := x1.2) (u := u) g2 h4
      exact ⟨m, [], lx, h7, rfl, by simpa using pm⟩
    exact (o3.addF (d := .non) (v := .non) (by simp only [Rep])).perm (List.Perm.swap _ _ _)
end
end PF
namespace PF
open PySem PySem.Spec L2
open PyProof.Rows hiding St
/-! ### a def, from its body -/
def enter (n : Nat) (tds : List TD) : Env := tds.map some ++ List.replicate (n - tds.length) none
def prOf (tds : List TD) (i : Nat) : Bool := match tds[i]? with
  | some td => own1 td
  | none => false
def backs : List TD → Env → Option (List TD)
  | [], _ => some []
  | td :: r, o :: ρ => match own1 td, o with
    | true, some y => (backs r ρ).map (y :: ·)
    | true, none => none
    | false, _ => (backs r ρ).map ((.F, td.2) :: ·)
  | _ :: _, [] => none
def fin (tds : List TD) (r : R Fl) : RF := match r with
  | .ok fl ρ => match backs tds ρ with
    | some ys => match fl with
      | .nx => .ok (.F, .non) ys
      | .rt td => .ok td ys
      | _ => .stuck
    | none => .stuck
  | .exc c fs ρ => match backs tds ρ with
    | some ys => .exc c fs ys
    | none => .stuck
  | .stuck => .stuck
def runB (n : Nat) (f : (Nat → Bool) → Env → R Fl) (tds : List TD) : RF := fin tds (f (prOf tds) (enter n tds))
section
variable {C : Ct} {K : PySem.W.Frag} {B : Tb} {G G' H H' : Hp} {σ : L2.St} {ρ : Env} {κ κ' : List Rs} {pv : List (Nat × V)}
theorem backs_ok : ∀ {tds : List TD} {vs : List V} {σ : L2.St} {ρ : Env} {ys : List TD} {κ : List Rs}, tds.length = vs.length → σ.length = ρ.length → Okx K B G H (ents σ ρ ++ κ) →
    (∀ (i : Nat) (td : TD) (v : V), tds[i]? = some td → vs[i]? = some v → if own1 td = true then σ[i]? = some (some v) else Rep K B G td.2 v) → backs tds ρ = some ys → Okx K B G H (rsL ys vs ++ κ) ∧ ys.length = tds.length
  | [], [], σ, ρ, ys, κ, hl, hs, o, k, e => by
    cases e
    exact ⟨o.drop, rfl⟩
  | [], _ :: _, σ, ρ, ys, κ, hl, hs, o, k, e => by cases hl
  | td :: r, [], σ, ρ, ys, κ, hl, hs, o, k, e => by cases hl
  | td :: r, v :: vs, σ, [], ys, κ, hl, hs, o, k, e => by cases e
  | td :: r, v :: vs, [], _ :: _, ys, κ, hl, hs, o, k, e => by cases hs
  | td :: r, v :: vs, s :: σ, ro :: ρ, ys, κ, hl, hs, o, k, e => by
    have o : Okx K B G H (ent s ro :: (ents σ ρ ++ κ)) := o
    have hl' : r.length = vs.length := by simpa using hl
    have hs' : σ.length = ρ.length := by simpa using hs
    have k0 := k 0 td v rfl rfl
    have k' : ∀ (i : Nat) (td : TD) (v : V), r[i]? = some td → vs[i]? = some v → if own1 td = true then σ[i]? = some (some v) else Rep K B G td.2 v := fun i td v h1 h2 => by
      have := k (i + 1) td v (by simpa using h1) (by simpa using h2)
      simpa using this
    unfold backs at e
    cases ho : own1 td with
    | true =>
      rw [ho] at e k0
      rw [if_pos rfl] at k0
      cases ro with
      | none => cases e
      | some y =>
        obtain ⟨ys', e1, e2⟩ := Option.map_eq_some_iff.mp (show (backs r ρ).map (y :: ·) = some ys from e)
        subst e2
        have hv : s = some v := by simpa using k0
        subst hv
        have o2 : Okx K B G H (ents σ ρ ++ ((y.1, y.2, v) :: κ)) := o.perm (List.perm_middle.symm)
        obtain ⟨o3, l3⟩ := backs_ok hl' hs' o2 k' e1
        exact ⟨o3.perm List.perm_middle, congrArg (· + 1) l3⟩
    | false =>
      rw [ho] at e k0
      rw [if_neg (by decide)] at k0
      obtain ⟨ys', e1, e2⟩ := Option.map_eq_some_iff.mp (show (backs r ρ).map ((T.F, td.2) :: ·) = some ys from e)
      subst e2
      obtain ⟨o3, l3⟩ := backs_ok hl' hs' o.tail k' e1
      exact ⟨o3.addF k0, congrArg (· + 1) l3⟩
theorem ents_enter (n : Nat) : ∀ (tds : List TD) (vs : List V), tds.length = vs.length → ents (vs.map some ++ List.replicate (n - vs.length) none) (enter n tds) = rsL tds vs ++ List.replicate (n - vs.length) (.F, .non, .non) := by
  intro tds vs hl
  unfold enter
  rw [hl]
  generalize n - vs.length = k
  induction tds generalizing vs with
  | nil =>
    cases vs with
    | nil =>
      simp only [List.map_nil, List.nil_append, rsL]
      unfold ents
      induction k with
      | zero => rfl
      | succ k ih => simp only [List.replicate_succ, List.zipWith_cons_cons, ih]; rfl
    | cons _ _ => cases hl
  | cons td r ih =>
    cases vs with
    | nil => cases hl
    | cons v vs =>
      have := ih vs (by simpa using hl)
      simp only [List.map_cons, List.cons_append, rsL]
      show ent (some v) (some td) :: ents _ _ = _
      rw [this]
      rfl
theorem Okx.nones {xs : List Rs} (h : Okx K B G H xs) : ∀ k : Nat, Okx K B G H (List.replicate k (.F, .non, .non) ++ xs)
  | 0 => h
  | k + 1 => by
    rw [List.replicate_succ, List.cons_append]
    exact (Okx.nones h k).addF (by simp only [Rep])
theorem start_eq (N : List PySem.Str) (vs : List V) : start N vs = vs.map some ++ List.replicate (N.length - vs.length) none := rfl
def pvOf : List TD → List V → Nat → List (Nat × V)
  | td :: r, v :: vs, i => if own1 td then (i, v) :: pvOf r vs (i + 1) else pvOf r vs (i + 1)
  | _, _, _ => []
theorem mem_pvOf : ∀ {tds : List TD} {vs : List V} {i0 : Nat} {p : Nat × V}, p ∈ pvOf tds vs i0 → ∃ i td, p.1 = i0 + i ∧ tds[i]? = some td ∧ own1 td = true ∧ vs[i]? = some p.2
  | [], vs, i0, p, h => by cases vs <;> cases h
  | _ :: _, [], i0, p, h => by cases h
  | td :: r, v :: vs, i0, p, h => by
    unfold pvOf at h
    have rec_ : p ∈ pvOf r vs (i0 + 1) → ∃ i td', p.1 = i0 + i ∧ (td :: r)[i]? = some td' ∧ own1 td' = true ∧ (v :: vs)[i]? = some p.2 := fun h => by
      obtain ⟨i, td', h1, h2, h3, h4⟩ := mem_pvOf h
      exact ⟨i + 1, td', by omega, by simpa using h2, h3, by simpa using h4⟩
    split at h
    · rcases List.mem_cons.mp h with z | z
      · subst z
        exact ⟨0, td, rfl, rfl, by assumption, rfl⟩
      · exact rec_ z
    · exact rec_ h
theorem pvOf_mem : ∀ {tds : List TD} {vs : List V} {i0 i : Nat} {td : TD} {v : V}, tds[i]? = some td → vs[i]? = some v → own1 td = true → (i0 + i, v) ∈ pvOf tds vs i0
  | [], vs, i0, i, td, v, h, h2, h3 => by simp at h
  | _ :: _, [], i0, i, td, v, h, h2, h3 => by simp at h2
  | td' :: r, v' :: vs, i0, 0, td, v, h, h2, h3 => by
    simp only [List.getElem?_cons_zero, Option.some.injEq] at h h2
    subst h h2
    unfold pvOf
    rw [h3, if_pos rfl]
    exact List.mem_cons_self
  | td' :: r, v' :: vs, i0, i + 1, td, v, h, h2, h3 => by
    simp only [List.getElem?_cons_succ] at h h2
    have := pvOf_mem (i0 := i0 + 1) h h2 h3
    rw [show i0 + 1 + i = i0 + (i + 1) by omega] at this
    unfold pvOf
    split
    · exact List.mem_cons_of_mem _ this
    · exact this
theorem rsL_at : ∀ {tds : List TD} {vs : List V} {i : Nat} {td : TD} {v : V}, tds[i]? = some td → vs[i]? = some v → (td.1, td.2, v) ∈ rsL tds vs
  | [], vs, i, td, v, h, h2 => by simp at h
  | _ :: _, [], i, td, v, h, h2 => by simp at h2
  | td' :: r, v' :: vs, 0, td, v, h, h2 => by
    simp only [List.getElem?_cons_zero, Option.some.injEq] at h h2
    subst h h2
    exact List.mem_cons_self
  | td' :: r, v' :: vs, i + 1, td, v, h, h2 => by
    simp only [List.getElem?_cons_succ] at h h2
    exact List.mem_cons_of_mem _ (rsL_at h h2)
theorem spF_len {n : Nat} {cf : List TD → RF} (vs : List V) (H : Hp) (Q : VK) (E : XK) (h : spF K C n cf vs H Q E) : vs.length = n := by
  obtain ⟨G, tds, xs, h1, h2, _⟩ := h
  exact h2
/-- a def keeps its promise -/
theorem fn_pf {P : Program} {w : World} {mg : PySem.Str → Option Value} {base : Heap} {x qual : PySem.Str} {params : Arguments} {body : List Stmt} {scope : Scope} {dvs : List V} {kws : List (PySem.Str × V)} {f : Addr} {fd : FuncData} {N ps : List PySem.Str} {k : Nat}
    {n : Nat} {fb : (Nat → Bool) → Env → R Fl} (F : FunD K x qual params body scope dvs kws f fd) (S : FnScope N ps scope) (hN : N.length = n)
    (hbody : ∀ (cdv : Value) (A : Around) (outer : List PySem.Env) (s : Shared) (H : Hp) (E : XK) (pr : Nat → Bool), Room k (A.deeper (envOfC qual scope s.heap.objs.size f cdv)) →
      DSs (cxOf (L2.CX P w) P w K mg base N qual scope f cdv A outer s H E) C pr body (fb pr)) : FnOk P w K mg base (L2.CX P w) (k + 1) f fd ps (spF K C ps.length (runB n fb)) := by
  subst hN
  refine F.ok S (fun vs H Q E h => spF_len vs H Q E h) fun cdv A outer s H vs Q E hr h => ?_
  obtain ⟨G, tds, xs, hl, hn, ok, w⟩ := h
  refine ⟨_, hbody cdv A outer s H E (prOf tds) hr, G, enter N.length tds, xs, (fun cls d _ H' => E cls d H'), pvOf tds vs 0, ?_, ?_, L2.takes_of rfl rfl rfl rfl, ?_⟩
  · have hle : vs.length ≤ N.length := by
      have := congrArg List.length S.pre
      rw [List.length_take] at this
      omega
    refine ⟨?_, fun i t d e => ?_, ?_, fun p hp => ?_⟩
    · rw [start_eq]; unfold enter; simp [hl]
    · rw [start_eq]
      unfold enter at e
      by_cases hi : i < tds.length
      · rw [List.getElem?_append_left (by simpa using hi)] at e
        have hi2 : i < vs.length := by omega
        rw [List.getElem?_append_left (by simpa using hi2), List.getElem?_map, List.getElem?_eq_getElem hi2]
        exact ⟨_, rfl⟩
      · rw [List.getElem?_append_right (by simpa using hi), List.getElem?_replicate] at e
        split at e <;> cases e
    · rw [start_eq, ents_enter _ _ _ hl]
      rw [List.append_assoc]
      refine (Okx.nones ok (N.length - vs.length)).perm ?_
      exact List.perm_append_comm_assoc ..
    · obtain ⟨i, td, h1, h2, h3, h4⟩ := mem_pvOf hp
      rw [h1, Nat.zero_add, start_eq]
      obtain ⟨hi, _⟩ := List.getElem?_eq_some_iff.mp h4
      rw [List.getElem?_append_left (by simpa using hi), List.getElem?_map, h4]
      rfl
  · intro p hp
    obtain ⟨i, td, h1, h2, h3, h4⟩ := mem_pvOf hp
    unfold prOf
    rw [h1, Nat.zero_add, h2]
    exact h3
  · -- what stands behind the body
    have back : ∀ {σ' : L2.St} {ρ' : Env} {G' H' : Hp} {ys : List TD} {zs : List Rs}, Le G G' → StOk K C.B G' H' σ' ρ' (zs ++ xs) (pvOf tds vs 0) → backs tds ρ' = some ys → Okx K C.B G' H' (zs ++ (rsL ys vs ++ xs)) ∧ ys.length = tds.length := by
      intro σ' ρ' G' H' ys zs le o e
      obtain ⟨o2, l2⟩ := backs_ok hl o.len o.ok (fun i td v h1 h2 => by
        split
        · rename_i h3
          have := o.pvs _ (pvOf_mem (i0 := 0) h1 h2 h3)
          rwa [Nat.zero_add] at this
        · rename_i h3
          have hm : (td.1, td.2, v) ∈ rsL tds vs ++ xs := List.mem_append_left _ (rsL_at h1 h2)
          obtain ⟨l, ow⟩ := ok.own2 hm
          have h4 : (isF td.1 || !isBox td.2) = true := by
            unfold own1 at h3
            cases hq : (isF td.1 || !isBox td.2) with
            | true => rfl
            | false => rw [hq] at h3; exact absurd rfl h3
          exact (ow.shared h4).mono le) e
      exact ⟨o2.perm (List.perm_append_comm_assoc ..), l2⟩
    show ((fb (prOf tds) (enter N.length tds)).wp _ _)
    have w : (match fin tds (fb (prOf tds) (enter N.length tds)) with
      | .ok td tds' => tds'.length = tds.length ∧ ∀ v G' H', Le G G' → Okx K C.B G' H' ((td.1, td.2, v) :: (rsL tds' vs ++ xs)) → Q v H'
      | .exc c fs tds' => tds'.length = tds.length ∧ ∀ cls dO G' H', Le G G' → ExcIs K C.B C.xc G' c fs cls dO → Okx K C.B G' H' (rsL tds' vs ++ xs) → E cls dO H'
      | .stuck => False) := w
    cases er : fb (prOf tds) (enter N.length tds) with
    | stuck => rw [er] at w; exact w
    | exc c fs ρ' =>
      rw [er] at w
      unfold fin at w
      dsimp only at w
      cases eb : backs tds ρ' with
      | none => rw [eb] at w; exact w.elim
      | some ys =>
        rw [eb] at w
        intro cls dO σ' G' H' le x o
        obtain ⟨o2, l2⟩ := back (zs := []) le o eb
        exact w.2 cls dO G' H' le x o2
    | ok fl ρ' =>
      rw [er] at w
      unfold fin at w
      dsimp only at w
      cases eb : backs tds ρ' with
      | none => rw [eb] at w; exact w.elim
      | some ys =>
        rw [eb] at w
        cases fl with
        | nx =>
          intro σ' G' H' le o
          obtain ⟨o2, l2⟩ := back (zs := []) le o eb
          exact w.2 .non G' H' le (o2.addF (by simp only [Rep]))
        | rt td =>
          intro v σ' G' H' le o
          obtain ⟨o2, l2⟩ := back (zs := [(td.1, td.2, v)]) le o eb
          exact w.2 v G' H' le o2
        | bk => exact w.elim
        | ct => exact w.elim
/-- no promise at all -/
theorem fn_pf0 {P : Program} {w : World} {mg : PySem.Str → Option Value} {base : Heap} {f : Addr} {fd : FuncData} {ps : List PySem.Str} : FnOk P w K mg base (L2.CX P w) 0 f fd ps (spF K C ps.length fun _ => .stuck) :=
  ⟨fun vs H Q E h => spF_len vs H Q E h, fun A outer s H args us vs Q E _ _ _ _ h => by
    obtain ⟨G, tds, xs, h1, h2, _, z⟩ := h
    exact z.elim⟩
end
end PF
namespace PF
open PySem PySem.Spec L2
open PyProof.Rows hiding St
section
variable {X : Cx} {C : Ct} {q qa qb qc : Bool} {e a b c : Expr} {f fa fb fc : Env → R TD} {pos pos' p : Pos}
variable {K : PySem.W.Frag} {B : Tb} {G G' H H' : Hp} {σ : L2.St} {ρ : Env} {κ κ' : List Rs} {pv : List (Nat × V)} {pr : Nat → Bool}

/-! ### x[i], looked at -/
def itemB (x : TD) (y : D) : Option TD := match y with
  | .int i => match x with
    | (.L t, .lst ds) => (atI ds i).map fun d => (t, d)
    | (_, .lst ds) => (atI ds i).map fun d => (.F, d)
    | (_, .tup ds) => (atI ds i).map fun d => (.F, d)
    | (_, .scr is) => (atI is i).map fun j => (.F, .int j)
    | (_, .str z) => if z.length ≤ SZ then (atI z.cps.toList i).map fun c => (.F, .str ⟨#[c]⟩) else none
    | _ => none
  | _ => none
def bIx (fa fi : Env → R TD) : Env → R TD := fun ρ => (fa ρ).bind fun x ρ1 => (fi ρ1).bind fun y ρ2 => match itemB x y.2 with | some td => .ok td ρ2 | none => .stuck
theorem Owns.at : ∀ {ds : List D} {t : T} {vs : List V} {l : List Addr} {i : Nat} {d : D}, Owns K B G H ds t vs l → ds[i]? = some d → ∃ v l', vs[i]? = some v ∧ Own K B G H d t v l' := by
  intro ds t vs l i d h e
  obtain ⟨w, l1, l2, h1, _, h2, _⟩ := h.split e
  exact ⟨w, l1, h1, h2⟩
theorem Owns.atI {ds : List D} {t : T} {vs : List V} {l : List Addr} {i : Int} {d : D} (h : Owns K B G H ds t vs l) (e : atI ds i = some d) : ∃ v l', atI vs i = some v ∧ Own K B G H d t v l' := by
  unfold L2.atI at e ⊢
  rw [← h.len]
  cases q : ixN ds.length i with
  | none => rw [q] at e; cases e
  | some j =>
    rw [q] at e
    exact h.at (i := j) e
theorem atI_map {α β : Type} (f : α → β) {xs : List α} {i : Int} {v : α} (h : atI xs i = some v) : atI (xs.map f) i = some (f v) := by
  unfold L2.atI at h ⊢
  rw [List.length_map]
  cases q : ixN xs.length i with
  | none => rw [q] at h; cases h
  | some j =>
    rw [q] at h
    show (xs.map f)[j]? = some (f v)
    rw [List.getElem?_map, show xs[j]? = some v from h]
    rfl
theorem itemB_ok {x td : TD} {i : Int} {v : V} {l : List Addr} (le : Le G H) (o : Own K B G H x.2 x.1 v l) (e : itemB x (.int i) = some td) {Q : VK} (k : ∀ w l', Own K B G H td.2 td.1 w l' → Q w H) : rIx K v (.int i) H Q := by
  have shr : ∀ {ds : List D} {d : D}, items x.2 = some ds → atI ds i = some d → td = (.F, d) → Rep K B G x.2 v → rIx K v (.int i) H Q := fun {ds d} e1 e2 e3 r => by
    subst e3
    obtain ⟨a, vs, h1, r1, s⟩ := r.items e1
    subst h1
    obtain ⟨w, h2, r2⟩ := r1.atI e2
    rcases s with ⟨_, s⟩ | ⟨_, s⟩
    · exact .inl ⟨a, vs, i, w, rfl, rfl, le.sqL s, h2, k w [] r2.own⟩
    · exact .inr (.inl ⟨a, vs, i, w, rfl, rfl, le.sqT s, h2, k w [] r2.own⟩)
  obtain ⟨t, d⟩ := x
  cases d with
  | lst ds =>
    cases t with
    | L t =>
      obtain ⟨d, e1, e2⟩ := Option.map_eq_some_iff.mp (show (atI ds i).map (fun d => (t, d)) = some td from e)
      subst e2
      obtain ⟨a, vs, l', h1, ha, el, h3⟩ := Own.lst' o
      subst h1
      obtain ⟨w, l2, h4, h5⟩ := h3.atI e1
      exact .inl ⟨a, vs, i, w, rfl, rfl, SqL.of ha, h4, k w l2 h5⟩
    | F =>
      obtain ⟨d, e1, e2⟩ := Option.map_eq_some_iff.mp (show (atI ds i).map (fun d => (T.F, d)) = some td from e)
      exact shr rfl e1 e2.symm o.repF.1
    | M _ =>
      obtain ⟨d, e1, e2⟩ := Option.map_eq_some_iff.mp (show (atI ds i).map (fun d => (T.F, d)) = some td from e)
      exact shr rfl e1 e2.symm (by simp only [Own] at o; exact o.1)
    | R _ =>
      obtain ⟨d, e1, e2⟩ := Option.map_eq_some_iff.mp (show (atI ds i).map (fun d => (T.F, d)) = some td from e)
      exact shr rfl e1 e2.symm (by simp only [Own] at o; exact o.1)
  | tup ds =>
    have e : (atI ds i).map (fun d => (T.F, d)) = some td := by cases t <;> exact e
    obtain ⟨d, e1, e2⟩ := Option.map_eq_some_iff.mp e
    exact shr rfl e1 e2.symm (o.plain rfl)
  | scr is =>
    have e : (atI is i).map (fun j => (T.F, D.int j)) = some td := by cases t <;> exact e
    obtain ⟨j, e1, e2⟩ := Option.map_eq_some_iff.mp e
    exact shr (ds := is.map D.int) rfl (atI_map D.int e1) e2.symm (o.plain rfl)
  | str z =>
    have e : (if z.length ≤ SZ then (atI z.cps.toList i).map (fun c => (T.F, D.str ⟨#[c]⟩)) else none) = some td := by cases t <;> exact e
    split at e
    · obtain ⟨c, e1, e2⟩ := Option.map_eq_some_iff.mp e
      subst e2
      have hv : v = .str z := o.prim (x := .str z) rfl
      subst hv
      exact .inr (.inr ⟨z, i, c, rfl, rfl, by assumption, e1, k _ [] (by simp only [Own]; exact ⟨trivial, trivial⟩)⟩)
    · cases e
  | _ => cases t <;> cases e
theorem db_ix {i : Expr} {fi : Env → R TD} (ha : DB X C q a fa) (hi : DE X C true i fi) (hs : PlainIx i := by exact fun _ _ => rfl) : DB X C q (.Subscript a i pos) (bIx fa fi) := by
  refine (pe_ix ix_seq ha hi hs).weak fun σ H Q z => ?_
  refine RT.bind (ka := kB) z (fun h => h) fun x v1 H1 G0 H0 ρ0 z1 => ?_
  refine z1.quiet (ka := kE) kB_up fun y v2 H2 z2 => ?_
  cases e : itemB x y.2 with
  | none => simp only [e] at z2; exact z2.no
  | some td =>
    simp only [e] at z2
    obtain ⟨G, ρ, κ, W, pv, st, ⟨⟨l, o⟩, _⟩, ok, tk, w⟩ := z2
    obtain ⟨l2, o2⟩ := ok.mem (r := (y.1, y.2, v2)) (by simp [kE])
    cases ey : y.2 with
    | int i =>
      have hv2 : v2 = .int i := o2.prim (x := .int i) (by show primV y.2 = _; rw [ey]; rfl)
      subst hv2
      rw [ey] at e
      exact itemB_ok ok.le o e fun w' l' ow => w w' G H2 ⟨l', ow⟩ st ok.drop
    | _ => rw [ey] at e; cases e

/-! ### a test by truth -/
def truD (d : D) : Option Bool := match d with
  | .non => some false
  | .bl b => some b
  | .int i => some (i != 0)
  | .lst ds => some (!ds.isEmpty)
  | .tup ds => some (!ds.isEmpty)
  | .scr is => some (!is.isEmpty)
  | _ => none
def tTru (f : Env → R TD) : Env → R Bool := fun ρ => (f ρ).bind fun x ρ1 => match truD x.2 with | some k => .ok k ρ1 | none => .stuck
theorem Reps.isEmpty {ds : List D} {vs : List V} (h : Reps K B G ds vs) : vs.isEmpty = ds.isEmpty := by
  cases ds with
  | nil => rw [h.nil]; rfl
  | cons d r =>
    simp only [Reps] at h
    obtain ⟨v, r', e, _⟩ := h
    rw [e]; rfl
theorem truD_ok {d : D} {v : V} {k : Bool} (r : Rep K B H d v) (e : truD d = some k) : TruV K v H k := by
  have box : ∀ ds, items d = some ds → k = !ds.isEmpty → TruV K v H k := fun ds e1 e2 => by
    obtain ⟨a, vs, h1, r1, s⟩ := r.items e1
    subst h1
    rw [e2, ← r1.isEmpty]
    rcases s with ⟨_, s⟩ | ⟨_, s⟩
    · exact .inl ⟨vs, s, rfl⟩
    · exact .inr (.inl ⟨vs, s, rfl⟩)
  cases d with
  | non => cases e; simp only [Rep] at r; subst r; exact rfl
  | bl b => cases e; simp only [Rep] at r; subst r; exact rfl
  | int b => cases e; simp only [Rep] at r; subst r; exact rfl
  | lst ds => cases e; exact box _ rfl rfl
  | tup ds => cases e; exact box _ rfl rfl
  | scr is => cases e; exact box _ rfl (by cases is <;> rfl)
  | _ => cases e
theorem dt_tru (ha : DB X C q a fa) (he : ∀ whole, isTrue a X.env whole = (do let v ← whole; standAt a.pos; holding [v] (truthy v)) := by intro _; rfl) : DT X C q a (tTru fa) := by
  refine (pt_truth ha he).weak fun σ H Q z => ?_
  refine RT.bind (ka := kB) z (fun h => h) fun x v1 H1 G0 H0 ρ0 z1 => ?_
  cases e : truD x.2 with
  | none => simp only [e] at z1; exact z1.no
  | some k =>
    simp only [e] at z1
    obtain ⟨G, ρ, κ, W, pv, st, ⟨l, o⟩, ok, tk, w⟩ := z1
    exact ⟨k, truD_ok (o.see ok.le) e, w k G H1 rfl st ok⟩

/-! ### target = value, any target -/
def sTg (g : D → Env → Option Env) (f : Env → R TD) : Env → R Fl := fun ρ => (f ρ).bind fun x ρ1 => match g x.2 ρ1 with | some ρ2 => .ok .nx ρ2 | none => .stuck
theorem ds_tg {tg : Expr} {g : D → Env → Option Env} (he : DE X C q e f) (hg : DTg X C pr tg g) (hs : swapsWithSole [tg] e pos.line X.env = pure false := by rfl) (hw : swappedStores [tg] e X.env = pure none := by rfl)
    (h1 : (assignEach [tg] X.env).map (·.2) = [assign tg X.env] := by rfl) : DS X C pr (.Assign [tg] e pos) (sTg g f) := PS.weak (ps_asg he hg hs hw h1) fun D σ H z => by
  refine TSd.bind (ka := kE) z fun x v H1 G1 ρ κ W pv r ok hp tk w => ?_
  cases eg : g x.2 ρ with
  | none => rw [eg] at w; exact w.elim
  | some ρ2 =>
    rw [eg] at w
    obtain ⟨G2, le, ok2⟩ := StOk.freeze (t := x.1) (d := x.2) ok
    exact ⟨G2, ρ, ρ2, κ, pv, x.2, ok2.tail, ok2.headF, hp, eg, fun σ' G' H' le' ok' => w σ' G' H' (le.trans le') ok'⟩

/-! ### while -/
def whileD (t : Env → R Bool) (body : Env → R Fl) : Nat → Env → R Fl
  | 0, _ => .stuck
  | n + 1, ρ => (t ρ).bind fun k ρ1 => if k then (body ρ1).bind fun fl ρ2 => match fl with
    | .nx => whileD t body n ρ2
    | .ct => whileD t body n ρ2
    | .bk => .ok .nx ρ2
    | .rt td => .ok (.rt td) ρ2
    else .ok .nx ρ1
def sWhile (n : Nat) (t : Env → R Bool) (body : Env → R Fl) : Env → R Fl := whileD t body n
theorem ds_while {n : Nat} {cnd : Expr} {body : List Stmt} {t : Env → R Bool} {fb : Env → R Fl} (hp : PassesOwn (model X.prog X.w) X.A X.env X.xe) (hc : DT X C q cnd t) (hb : DSs X C pr body fb) : DS X C pr (.While cnd body [] pos) (sWhile n t fb) := PS.weak (ps_while hp hc hb) fun D σ H z => by
  obtain ⟨G, ρ, κ, W, pv, ok, hpv, tk, w⟩ := z
  refine ⟨fun m σ' H' => ∃ G' ρ', Le G G' ∧ StOk X.K C.B G' H' σ' ρ' κ pv ∧ (whileD t fb m ρ').wp (QF X C D G κ pv) (EF X C W G κ pv), ⟨n, G, ρ, .refl, ok, w⟩, ?_⟩
  rintro m σ' H' ⟨G', ρ', le', ok', w'⟩
  cases m with
  | zero => exact w'.elim
  | succ m =>
    unfold whileD at w'
    rw [R.wp_bind] at w'
    refine ⟨G', H', ρ', G', ρ', κ, W, pv, .refl, trivial, ok', tk, R.wp_mono w' (fun k ρ1 w1 b G1 H1 r st1 ok1 => ?_) fun c fs ρ1 w1 cls dO G1 H1 l x ok1 => w1 cls dO σ' G1 H1 (le'.trans l) x ok1⟩
    have hk : k = b := r
    subst hk
    have leA := le'.trans st1.1
    cases k with
    | false =>
      simp only [Bool.false_eq_true, if_false] at w1 ⊢
      exact w1 σ' G1 H1 leA ok1
    | true =>
      simp only [if_true] at w1 ⊢
      rw [R.wp_bind] at w1
      refine ⟨fun σ2 H2 => ∃ G2 ρ2, Le G G2 ∧ StOk X.K C.B G2 H2 σ2 ρ2 κ pv ∧ (whileD t fb m ρ2).wp (QF X C D G κ pv) (EF X C W G κ pv), fun σ2 H2 z => ⟨m, Nat.lt_succ_self m, z⟩, ?_⟩
      refine ⟨G1, ρ1, κ, W, pv, ok1, hpv, tk, R.wp_mono w1 (fun fl ρ2 w2 => ?_) fun c fs ρ2 w2 cls dO σ2 G2 H2 le2 x ok2 => w2 cls dO σ2 G2 H2 (leA.trans le2) x ok2⟩
      cases fl with
      | nx => exact fun σ2 G2 H2 le2 ok2 => ⟨G2, ρ2, leA.trans le2, ok2, w2⟩
      | ct => exact fun σ2 G2 H2 le2 ok2 => ⟨G2, ρ2, leA.trans le2, ok2, w2⟩
      | bk => exact fun σ2 G2 H2 le2 ok2 => w2 σ2 G2 H2 (leA.trans le2) ok2
      | rt td => exact fun v σ2 G2 H2 le2 ok2 => w2 v σ2 G2 H2 (leA.trans le2) ok2

/-! ### place[i] = value -/
def sSetI (fp : Env → R Plc) (fi f : Env → R TD) : Env → R Fl := fun ρ => (f ρ).bind fun x ρ1 => (fp ρ1).bind fun ip ρ2 => (fi ρ2).bind fun y ρ3 => match atP ρ3 ip with
  | some u => match mSet u [x, y] with
    | some ya => match setP ρ3 ip ya.1 with
      | some ρ4 => .ok .nx ρ4
      | none => .stuck
    | none => .stuck
  | none => .stuck
theorem ds_setI {o i : Expr} {fp : Env → R Plc} {fi : Env → R TD} {tpos : Pos} (CO : CtOk X C) (ho : DP X C true o fp) (hi : DE X C true i fi) (he : DE X C q e f)
    (ha : ∀ v, assign (.Subscript o i tpos) X.env v = (do
      let ov ← holding [v] (eval o X.env)
      let iv ← holding [v, ov] (eval i X.env)
      standAt tpos
      holding [v, ov, iv] (setItem ov iv v)
      release [v, ov, iv] []) := by intro _; rfl)
    (hs : swapsWithSole [.Subscript o i tpos] e pos.line X.env = pure false := by rfl) (hw : swappedStores [.Subscript o i tpos] e X.env = pure none := by rfl)
    (h1 : (assignEach [.Subscript o i tpos] X.env).map (·.2) = [assign (.Subscript o i tpos) X.env] := by rfl) : DS X C pr (.Assign [.Subscript o i tpos] e pos) (sSetI fp fi f) := PS.weak (ps_asg he (pg_sub ho hi set_list ha) hs hw h1) fun D σ H z => by
  refine TSd.bind (ka := kE) z fun x v H1 G1 ρ κ W pv r ok hp tk w => ?_
  rw [R.wp_bind] at w
  -- the place
  refine ⟨G1, H1, ρ, G1, ρ, (x.1, x.2, v) :: κ, W, pv, .refl, trivial, ok, tk, R.wp_mono w (fun ip ρ2 w2 wv G2 H2 rp st2 ok2 => ?_) fun c fs ρ2 w2 cls dO G' H' l xx ok' => w2 cls dO σ G' H' l xx ok'.tail⟩
  rw [R.wp_bind] at w2
  obtain ⟨lH, eρ⟩ := st2.2 rfl
  refine ⟨G2, H2, ρ2, G2, ρ2, (x.1, x.2, v) :: κ, W, pv, .refl, trivial, ok2, tk, R.wp_mono w2 (fun y ρ3 w3 vi G3 H3 ri st3 ok3 => ?_) fun c fs ρ2 w2 cls dO G' H' l xx ok' => w2 cls dO σ G' H' (st2.1.trans l) xx ok'.tail⟩
  obtain ⟨lH3, eρ3⟩ := st3.2 rfl
  obtain ⟨vr, hvr, hr⟩ := rp
  have hr3 := reach_up lH3 hr
  cases e1 : atP ρ3 ip with
  | none => simp only [e1] at w3; exact w3.elim
  | some u =>
    simp only [e1] at w3
    cases e2 : mSet u [x, y] with
    | none => simp only [e2] at w3; exact w3.elim
    | some ya =>
      obtain ⟨yn, an⟩ := ya
      simp only [e2] at w3
      cases e3 : setP ρ3 ip yn with
      | none => simp only [e3] at w3; exact w3.elim
      | some ρ4 =>
        simp only [e3] at w3
        have ok4 : StOk X.K C.B G3 H3 σ ρ3 (rsL [x, y] [v, vi] ++ κ) pv := ok3.permK (List.Perm.swap _ _ _)
        obtain ⟨rest, o⟩ := StOk.atPlace CO.inj ok4 e1 hvr hr3
        have hm := mu_set (X := X) (C := C) G3 H3 u wv [x, y] [v, vi] yn an rest (fun v' H' => D.nx σ H') rfl e2 o fun v' H' k => ?_
        · obtain ⟨i', v'', e4, hset⟩ := hm
          cases e4
          exact hset
        · obtain ⟨G', le, ok'⟩ := StOk.setP (zs := [(an.1, an.2, v')]) CO.inj ok4 e1 e3 hvr hr3 k
          exact w3 σ G' H' ((st2.1.trans st3.1).trans le) ok'.tail
end
end PF
namespace PF
open PySem PySem.Spec L2
open PyProof.Rows hiding St
/-! ### tables -/
def padN (n : Nat) : PySem.Str := ⟨Array.replicate (n + 1) 35⟩
def nmOf (tab : List PySem.Str) (n : Nat) : PySem.Str := tab.getD n (padN n)
def noPad (x : PySem.Str) : Bool := x.cps[0]? != some 35
theorem pad0 (n : Nat) : (padN n).cps[0]? = some 35 := by
  unfold padN
  rw [Array.getElem?_replicate]
  simp
theorem nmOf_ne {tab : List PySem.Str} {m : PySem.Str} (h : tab.contains m = false) (h2 : noPad m = true) (n : Nat) : nmOf tab n ≠ m := by
  intro e
  unfold nmOf at e
  rw [List.getD_eq_getElem?_getD] at e
  cases q : tab[n]? with
  | none =>
    rw [q] at e
    have e : padN n = m := e
    unfold noPad at h2
    rw [← e, pad0] at h2
    simp at h2
  | some x =>
    rw [q] at e
    have e : x = m := e
    have := List.mem_of_getElem? q
    rw [e] at this
    have h3 := List.contains_iff_mem.mpr this
    rw [h3] at h
    cases h
theorem nodup_inj : ∀ {tab : List PySem.Str} {i j : Nat} {x : PySem.Str}, tab.Nodup → tab[i]? = some x → tab[j]? = some x → i = j := by
  intro tab i j x nd h1 h2
  obtain ⟨hi, e1⟩ := List.getElem?_eq_some_iff.mp h1
  obtain ⟨hj, e2⟩ := List.getElem?_eq_some_iff.mp h2
  exact (List.getElem_inj nd).mp (e1.trans e2.symm)
theorem nmOf_inj {tab : List PySem.Str} (nd : tab.Nodup) (h2 : tab.all noPad = true) (n m : Nat) (e : nmOf tab n = nmOf tab m) : n = m := by
  have np : ∀ (i : Nat) (x : PySem.Str), tab[i]? = some x → x.cps[0]? ≠ some 35 := fun i x h => by
    have := List.all_eq_true.mp h2 x (List.mem_of_getElem? h)
    unfold noPad at this
    simpa using this
  unfold nmOf at e
  rw [List.getD_eq_getElem?_getD, List.getD_eq_getElem?_getD] at e
  cases q1 : tab[n]? with
  | none =>
    cases q2 : tab[m]? with
    | none =>
      rw [q1, q2] at e
      have e : padN n = padN m := e
      have := congrArg (fun x : PySem.Str => x.cps.size) e
      simpa [padN] using this
    | some y =>
      rw [q1, q2] at e
      have e : padN n = y := e
      exact absurd (e ▸ pad0 n) (np m y q2)
  | some x =>
    cases q2 : tab[m]? with
    | none =>
      rw [q1, q2] at e
      have e : x = padN m := e
      exact absurd (e ▸ pad0 m) (np n x q1)
    | some y =>
      rw [q1, q2] at e
      have e : x = y := e
      subst e
      exact nodup_inj nd q1 q2
theorem nmOf_at {tab : List PySem.Str} {n : Nat} (h : n < tab.length) : nmOf tab n ∈ tab := by
  unfold nmOf
  rw [List.getD_eq_getElem?_getD, List.getElem?_eq_getElem h]
  exact List.getElem_mem h
def clsOf (cs : List Addr) (c : Nat) : Addr := cs.getD c (cs.headD 0)
theorem clsOf_all {p : Addr → Prop} {c0 : Addr} {cs : List Addr} (h : ∀ a ∈ c0 :: cs, p a) (c : Nat) : p (clsOf (c0 :: cs) c) := by
  unfold clsOf
  rw [List.getD_eq_getElem?_getD]
  cases q : (c0 :: cs)[c]? with
  | none => exact h c0 List.mem_cons_self
  | some a => exact h a (List.mem_of_getElem? q)
def gNm (i : Nat) (g : PF.Env → R (List Ag)) : PF.Env → R (List Ag) := fun ρ => match ρ[i]? with | some (some _) => gNam i g ρ | _ => .stuck
theorem dg_nm {X : Cx} {C : Ct} {qb : Bool} {pos : Pos} {es : List Expr} {g : PF.Env → R (List Ag)} {i : Nat} {x : PySem.Str} (h : PE X (.Name x pos) (tVar i)) (hr : DG X C qb es g)
    (hs : starEach (.Name x pos :: es) X.env = (false, eval (.Name x pos) X.env) :: starEach es X.env := by rfl) : DG X C qb (.Name x pos :: es) (gNm i g) := dg_nam h hr (by intros; trivial) hs
section
variable {X : Cx} {C : Ct} {q : Bool} {e : Expr} {es : List Expr}
theorem qt {f : PF.Env → R TD} (h : DE X C q e f) (hq : q = true := by rfl) : DE X C true e f := hq ▸ h
theorem qtB {f : PF.Env → R TD} (h : DB X C q e f) (hq : q = true := by rfl) : DB X C true e f := hq ▸ h
theorem qtA {f : PF.Env → R (List TD)} (h : DA X C q es f) (hq : q = true := by rfl) : DA X C true es f := hq ▸ h
theorem qtP {f : PF.Env → R Plc} (h : DP X C q e f) (hq : q = true := by rfl) : DP X C true e f := hq ▸ h
end
theorem room64 {k : Nat} {A : Around} (hr : Room k A) : A.units + 64 < cLine := by have := hr.un; omega
theorem room65 {k : Nat} {A : Around} (hr : Room k A) : A.units + 65 < cLine := by have := hr.un; omega
section
variable {X : Cx} {C : Ct} {q qa : Bool} {e a : Expr} {fa : PF.Env → R TD} {pos p apos : Pos} {n k c i : Nat} {fd : FuncData} {f : Addr} {ps : List PySem.Str} {cf : List TD → RF} {x m : PySem.Str} {es : List Expr} {g : PF.Env → R (List Ag)} {pl : Sem Bool}
theorem de_cal (F : FnP X C k f fd ps cf) (hr : Room k X.A) (hg : Gl X x) (hm : X.mg x = some (.ref f)) (hk : PySem.W.keepIn X.K (.ref f) = true) (hb : Binds X.K fd ps [])
    (ha : DG X C q (e :: es) g) (hn : ps.length = n := by rfl) (hdb : (x == ("__debug__" : PySem.Str)) = false := by decide) (he : starEach (e :: es) X.env = (false, eval e X.env) :: starEach es X.env := by rfl) (hpl : (backTo pos (starEach es X.env)).any (·.1) = false := by rfl) :
    DE X C false (.Call (.Name x p) (e :: es) [] pos) (fCall n cf g) := hn ▸ de_call F hr hg hm hk hb ha hdb he hpl
theorem de_mkN (M : Mk X.K (C.B.cls c) f) (F : FnP X C k f fd ps cf) (hr : Room (k + 1) X.A) (hg : Gl X x) (hm : X.mg x = some (.ref (C.B.cls c))) (hb : Binds X.K fd ps [])
    (ha : DG X C q (e :: es) g) (hn : ps.length = n := by rfl) (hdb : (x == ("__debug__" : PySem.Str)) = false := by decide) (he : starEach (e :: es) X.env = (false, eval e X.env) :: starEach es X.env := by rfl) (hpl : (backTo pos (starEach es X.env)).any (·.1) = false := by rfl) :
    DE X C false (.Call (.Name x p) (e :: es) [] pos) (fMake c n cf g) := hn ▸ de_make M F hr hg hm hb ha hdb he hpl
theorem de_mk0 (M : Mk X.K (C.B.cls c) f) (F : FnP X C k f fd ps cf) (hr : Room (k + 1) X.A) (hg : Gl X x) (hm : X.mg x = some (.ref (C.B.cls c))) (hb : Binds X.K fd ps []) (hn : ps.length = n := by rfl)
    (hdb : (x == ("__debug__" : PySem.Str)) = false := by decide) : DE X C false (.Call (.Name x p) [] [] pos) (fMake c n cf gNil) := hn ▸ de_make0 M F hr hg hm hb hdb
theorem de_metN (CO : CtOk X C) (h0 : 0 < C.nn) (hx : PE X (.Name x p) (tVar i)) (hm : Meth X.K (C.B.cls c) m f) (F : FnP X C k f fd ps cf) (hr : Room k X.A) (hb : Binds X.K fd ps [])
    (hnm : ∀ n, C.B.nm n ≠ m) (ha : DG X C q (e :: es) g) (hn : ps.length = n := by rfl) (hst : starEach (e :: es) X.env = (false, eval e X.env) :: starEach es X.env := by rfl) (hpl : (backTo pos (starEach es X.env)).any (·.1) = false := by rfl)
    (ht : eval (.Call (.Attribute (.Name x p) m apos) (e :: es) [] pos) X.env = (do
      let ov ← eval (.Name x p) X.env
      standAt apos.atName
      let (f, first) ← holding [ov] (getMethod ov m pl)
      callWith pos f first (backTo pos (starEach (e :: es) X.env)) (backToKw pos (keywordEach [] X.env))) := by rfl) :
    DE X C false (.Call (.Attribute (.Name x p) m apos) (e :: es) [] pos) (fMethN c i n cf g) := hn ▸ de_methN (pl := pl) (cl := 0) CO h0 hx hm F hr hb hnm ha hst hpl ht
theorem de_metN0 (CO : CtOk X C) (h0 : 0 < C.nn) (hx : PE X (.Name x p) (tVar i)) (hm : Meth X.K (C.B.cls c) m f) (F : FnP X C k f fd ps cf) (hr : Room k X.A) (hb : Binds X.K fd ps [])
    (hnm : ∀ n, C.B.nm n ≠ m) (hn : ps.length = n := by rfl)
    (ht : eval (.Call (.Attribute (.Name x p) m apos) [] [] pos) X.env = (do
      let ov ← eval (.Name x p) X.env
      standAt apos.atName
      let (f, first) ← holding [ov] (getMethod ov m pl)
      callWith pos f first (backTo pos (starEach [] X.env)) (backToKw pos (keywordEach [] X.env))) := by rfl) :
    DE X C false (.Call (.Attribute (.Name x p) m apos) [] [] pos) (fMethN c i n cf gNil) := hn ▸ de_methN0 (pl := pl) (cl := 0) CO h0 hx hm F hr hb hnm ht
theorem de_metV (CO : CtOk X C) (h0 : 0 < C.nn) (ho : DE X C qa a fa) (hm : Meth X.K (C.B.cls c) m f) (F : FnP X C k f fd ps cf) (hr : Room k X.A) (hb : Binds X.K fd ps [])
    (hnm : ∀ n, C.B.nm n ≠ m) (ha : DG X C q (e :: es) g) (hn : ps.length = n := by rfl) (hst : starEach (e :: es) X.env = (false, eval e X.env) :: starEach es X.env := by rfl) (hpl : (backTo pos (starEach es X.env)).any (·.1) = false := by rfl)
    (ht : eval (.Call (.Attribute a m apos) (e :: es) [] pos) X.env = (do
      let ov ← eval a X.env
      standAt apos.atName
      let (f, first) ← holding [ov] (getMethod ov m pl)
      callWith pos f first (backTo pos (starEach (e :: es) X.env)) (backToKw pos (keywordEach [] X.env))) := by rfl) :
    DE X C false (.Call (.Attribute a m apos) (e :: es) [] pos) (fMethV c n cf fa g) := hn ▸ de_methV (pl := pl) (cl := 0) CO h0 ho hm F hr hb hnm ha hst hpl ht
theorem de_metV0 (CO : CtOk X C) (h0 : 0 < C.nn) (ho : DE X C qa a fa) (hm : Meth X.K (C.B.cls c) m f) (F : FnP X C k f fd ps cf) (hr : Room k X.A) (hb : Binds X.K fd ps [])
    (hnm : ∀ n, C.B.nm n ≠ m) (hn : ps.length = n := by rfl)
    (ht : eval (.Call (.Attribute a m apos) [] [] pos) X.env = (do
      let ov ← eval a X.env
      standAt apos.atName
      let (f, first) ← holding [ov] (getMethod ov m pl)
      callWith pos f first (backTo pos (starEach [] X.env)) (backToKw pos (keywordEach [] X.env))) := by rfl) :
    DE X C false (.Call (.Attribute a m apos) [] [] pos) (fMethV c n cf fa gNil) := hn ▸ de_methV0 (pl := pl) (cl := 0) CO h0 ho hm F hr hb hnm ht
end
/-! ### the end -/
/-- nothing is let out of the law -/
theorem fnOk_quiet {P : Program} {w : World} {K : PySem.W.Frag} {mg : PySem.Str → Option Value} {base : Heap} {k : Nat} {f : Addr} {fd : FuncData} {ps : List PySem.Str} {sp : Sp} (F : FnOk P w K mg base (L2.CX P w) k f fd ps sp) :
    FnOk P w K mg base CX0 k f fd ps (fun vs H Q _ => sp vs H Q fun _ _ _ => False) :=
  ⟨fun vs H Q E h => F.len vs H Q _ h, fun A outer s H args us vs Q E hr e0 hb r h => codeAny_mono (F.run A outer s H args us vs Q _ hr e0 hb r h) fun r s' q => by
    cases r with
    | ok fl => cases fl <;> exact q
    | error e =>
      obtain ⟨_, _, _, _, _, _, _, _, _, _, _, _, z⟩ := q
      exact z.elim⟩
theorem law_end {K : PySem.W.Frag} {C : Ct} {H : Hp} {a : Addr} {ns : List Int} {cf : List TD → RF} {t : T} {ys : List TD} (hS : SqL K H a (ns.map V.int)) (e : cf [(.F, .scr ns)] = .ok (t, .bl true) ys) (hy : ys.length = 1) :
    spF K C 1 cf [.ref a] H (fun v _ => v = .bl true) fun _ _ _ => False := by
  refine ⟨H, [(.F, .scr ns)], [], rfl, rfl, ?_, ?_⟩
  · refine Okx.addF (xs := []) ⟨.refl, [], rfl, List.nodup_nil, fun a ha => by cases ha⟩ ?_
    simp only [Rep]
    exact ⟨a, rfl, hS⟩
  · rw [e]
    refine ⟨hy, fun v G' H' le o => ?_⟩
    obtain ⟨l, ow⟩ := o.head
    exact ow.prim (x := .bl true) rfl
theorem roomC {k : Nat} (h : k ≤ 230) : Room k callerA := ⟨rfl, by
  have : callerA.depth + 3 * k + 5 ≤ callerA.depth + 695 := by omega
  exact Nat.lt_of_le_of_lt this (by decide), by
  have : callerA.units + 16 * k + 200 ≤ callerA.units + 5000 := by omega
  exact Nat.lt_of_le_of_lt this (by decide)⟩
end PF
namespace PF
open PySem PySem.Spec L2
open PyProof.Rows hiding St
/-! ### how the semantics is run by simp -/
@[simp] theorem bind_ok {α β : Type} (a : α) (ρ : PF.Env) (k : α → PF.Env → R β) : (R.ok a ρ).bind k = k a ρ := rfl
@[simp] theorem bind_exc {α β : Type} (c : Nat) (fs : List (Nat × D)) (ρ : PF.Env) (k : α → PF.Env → R β) : (R.exc c fs ρ : R α).bind k = .exc c fs ρ := rfl
@[simp] theorem bind_stuck {α β : Type} (k : α → PF.Env → R β) : (R.stuck : R α).bind k = .stuck := rfl
section
variable (x : Option TD) (ρ : PF.Env) (i n c : Nat) (d : D) (t : T) (fa fb fc f : PF.Env → R TD) (pr : Nat → Bool)
@[simp] theorem e_fC : fC d (x :: ρ) = .ok (.F, d) (x :: ρ) := rfl
@[simp] theorem e_bV : bV i (x :: ρ) = (match (x :: ρ)[i]? with | some (some td) => .ok td (x :: ρ) | _ => .stuck) := rfl
@[simp] theorem e_fV : fV i (x :: ρ) = (match (x :: ρ)[i]? with | some (some (t, d)) => .ok (.F, d) (if isF t || !isBox d then x :: ρ else (x :: ρ).set i (some (.F, d))) | _ => .stuck) := rfl
@[simp] theorem e_qV : qV i (x :: ρ) = (match (x :: ρ)[i]? with | some (some (t, d)) => if isF t || !isBox d then .ok (.F, d) (x :: ρ) else .stuck | _ => .stuck) := rfl
@[simp] theorem e_fBin (g : D → D → Option D) : fBin g fa fb (x :: ρ) = (fa (x :: ρ)).bind fun a ρ1 => (fb ρ1).bind fun b ρ2 => (match g a.2 b.2 with | some d => .ok (.F, d) ρ2 | none => .stuck) := rfl
@[simp] theorem e_fCmp (g : D → D → Option Bool) : fCmp g fa fb (x :: ρ) = (fa (x :: ρ)).bind fun a ρ1 => (fb ρ1).bind fun b ρ2 => (match g a.2 b.2 with | some d => .ok (.F, .bl d) ρ2 | none => .stuck) := rfl
@[simp] theorem e_fOp2 (g : TD → TD → Option Ans) : fOp2 g fa fb (x :: ρ) = (fa (x :: ρ)).bind fun a ρ1 => (fb ρ1).bind fun b => goO (g a b) := rfl
@[simp] theorem e_fB1 (g : TD → Option Ans) : fB1 g f (x :: ρ) = (f (x :: ρ)).bind fun a => goO (g a) := rfl
@[simp] theorem e_goO (a : Ans) : goO (some a) ρ = a.go ρ := rfl
@[simp] theorem e_goN : goO none ρ = .stuck := rfl
@[simp] theorem e_goP : (Ans.p d).go ρ = .ok (.F, d) ρ := rfl
@[simp] theorem e_goL (ds : List D) : (Ans.l ds).go ρ = .ok (.L .F, .lst ds) ρ := rfl
@[simp] theorem e_goT (ds : List D) : (Ans.t ds).go ρ = .ok (.F, .tup ds) ρ := rfl
@[simp] theorem e_asT : asT f (x :: ρ) = (f (x :: ρ)).bind fun a ρ1 => (match a.2 with | .bl k => .ok k ρ1 | _ => .stuck) := rfl
@[simp] theorem e_tTru : tTru f (x :: ρ) = (f (x :: ρ)).bind fun a ρ1 => (match truD a.2 with | some k => .ok k ρ1 | none => .stuck) := rfl
@[simp] theorem e_tNot (f : PF.Env → R Bool) : tNotF f (x :: ρ) = (f (x :: ρ)).bind fun k ρ1 => .ok (!k) ρ1 := rfl
@[simp] theorem e_tAnd (f g : PF.Env → R Bool) : tAndF f g (x :: ρ) = (f (x :: ρ)).bind fun k ρ1 => if k then g ρ1 else .ok false ρ1 := rfl
@[simp] theorem e_tOr (f g : PF.Env → R Bool) : tOrF f g (x :: ρ) = (f (x :: ρ)).bind fun k ρ1 => if k then .ok true ρ1 else g ρ1 := rfl
@[simp] theorem e_fAndV : fAndV fa fb (x :: ρ) = (fa (x :: ρ)).bind fun a ρ1 => (match a.2 with | .bl true => fb ρ1 | .bl false => .ok (.F, .bl false) ρ1 | _ => .stuck) := rfl
@[simp] theorem e_fOrV : fOrV fa fb (x :: ρ) = (fa (x :: ρ)).bind fun a ρ1 => (match a.2 with | .bl false => fb ρ1 | .bl true => .ok (.F, .bl true) ρ1 | _ => .stuck) := rfl
@[simp] theorem e_fNotV : fNotV f (x :: ρ) = (f (x :: ρ)).bind fun a ρ1 => (match a.2 with | .bl k => .ok (.F, .bl (!k)) ρ1 | _ => .stuck) := rfl
@[simp] theorem e_fIf (g : PF.Env → R Bool) : fIf g fa fb (x :: ρ) = (g (x :: ρ)).bind fun k ρ1 => if k then fa ρ1 else fb ρ1 := rfl
@[simp] theorem e_fNeg : fNeg f (x :: ρ) = (f (x :: ρ)).bind fun a ρ1 => (match a.2 with | .int i => .ok (.F, .int (-i)) ρ1 | _ => .stuck) := rfl
@[simp] theorem e_fNil : fNil (x :: ρ) = .ok [] (x :: ρ) := rfl
@[simp] theorem e_fCons (g : PF.Env → R (List TD)) : fCons f g (x :: ρ) = (f (x :: ρ)).bind fun a ρ1 => (g ρ1).bind fun xs ρ2 => .ok (a :: xs) ρ2 := rfl
@[simp] theorem e_fTup (g : PF.Env → R (List TD)) : fTup g (x :: ρ) = (g (x :: ρ)).bind fun xs ρ1 => if xs.length ≤ SZ then .ok (.F, .tup (xs.map (·.2))) ρ1 else .stuck := rfl
@[simp] theorem e_fLst (g : PF.Env → R (List TD)) : fLst g (x :: ρ) = (g (x :: ρ)).bind fun xs ρ1 => if xs.length ≤ SZ then .ok (.L .F, .lst (xs.map (·.2))) ρ1 else .stuck := rfl
@[simp] theorem e_gNil : PF.gNil (x :: ρ) = .ok [] (x :: ρ) := rfl
@[simp] theorem e_gVal (g : PF.Env → R (List Ag)) : gVal f g (x :: ρ) = (f (x :: ρ)).bind fun a ρ1 => (g ρ1).bind fun xs ρ2 => .ok (.v a :: xs) ρ2 := rfl
@[simp] theorem e_gNm (g : PF.Env → R (List Ag)) : gNm i g (x :: ρ) = (match (x :: ρ)[i]? with | some (some _) => (g (x :: ρ)).bind fun xs ρ2 => .ok (.n i :: xs) ρ2 | _ => .stuck) := rfl
@[simp] theorem e_lend0 : lend ρ [] = some ([], ρ) := rfl
@[simp] theorem e_lendV (td : TD) (r : List Ag) : lend ρ (.v td :: r) = (lend ρ r).map fun p => (td :: p.1, p.2) := rfl
@[simp] theorem e_lendN (r : List Ag) : lend (x :: ρ) (.n i :: r) = (match (x :: ρ)[i]? with | some (some (t, d)) => if isF t || !isBox d then (lend (x :: ρ) r).map fun p => ((T.F, d) :: p.1, p.2) else (lend ((x :: ρ).set i none) r).map fun p => ((t, d) :: p.1, p.2) | _ => none) := rfl
@[simp] theorem e_back0 (xs ys : List TD) : back ρ [] xs ys = ρ := by cases xs <;> cases ys <;> rfl
@[simp] theorem e_backV (td a b : TD) (r : List Ag) (xs ys : List TD) : back ρ (.v td :: r) (a :: xs) (b :: ys) = back ρ r xs ys := rfl
@[simp] theorem e_backN (a b : TD) (r : List Ag) (xs ys : List TD) : back (x :: ρ) (.n i :: r) (a :: xs) (b :: ys) = if own1 a then back ((x :: ρ).set i (some b)) r xs ys else back (x :: ρ) r xs ys := rfl
@[simp] theorem e_doCall (cf : List TD → RF) (ags : List Ag) : doCall cf ags (x :: ρ) = (match lend (x :: ρ) ags with | none => .stuck | some (tds, ρh) => (match cf tds with | .ok td ys => if ys.length = tds.length then .ok td (back ρh ags tds ys) else .stuck | .exc c fs ys => if ys.length = tds.length then .exc c fs (back ρh ags tds ys) else .stuck | .stuck => .stuck)) := rfl
@[simp] theorem e_fCall (cf : List TD → RF) (g : PF.Env → R (List Ag)) : fCall n cf g (x :: ρ) = (g (x :: ρ)).bind fun ags ρ1 => if ags.length = n then doCall cf ags ρ1 else .stuck := rfl
@[simp] theorem e_fMethN (cf : List TD → RF) (g : PF.Env → R (List Ag)) : fMethN c i n cf g (x :: ρ) = (match (x :: ρ)[i]? with | some (some (_, .obj c' _)) => if c' = c then (g (x :: ρ)).bind fun ags ρ1 => if ags.length + 1 = n then doCall cf (.n i :: ags) ρ1 else .stuck else .stuck | _ => .stuck) := rfl
@[simp] theorem e_fMethV (cf : List TD → RF) (g : PF.Env → R (List Ag)) : fMethV c n cf f g (x :: ρ) = (f (x :: ρ)).bind fun a ρ0 => (match a.2 with | .obj c' _ => if c' = c then (g ρ0).bind fun ags ρ1 => if ags.length + 1 = n then doCall cf (.v a :: ags) ρ1 else .stuck else .stuck | _ => .stuck) := rfl
@[simp] theorem e_doMake (cf : List TD → RF) (ags : List Ag) : doMake c cf ags = doCall (fun tds => mkR (cf ((.R [], .obj c []) :: tds))) ags := rfl
@[simp] theorem e_fMake (cf : List TD → RF) (g : PF.Env → R (List Ag)) : fMake c n cf g (x :: ρ) = (g (x :: ρ)).bind fun ags ρ1 => if ags.length + 1 = n then doMake c cf ags ρ1 else .stuck := rfl
@[simp] theorem e_mkR (s : TD) (ys : List TD) : mkR (.ok (t, .non) (s :: ys)) = .ok s ys := rfl
@[simp] theorem e_bFld : bFld n fa (x :: ρ) = (fa (x :: ρ)).bind fun a ρ1 => (match a.2 with | .obj _ fs => (match fs.lookup n with | some d => .ok (fldT a.1 fs n, d) ρ1 | none => .stuck) | _ => .stuck) := rfl
@[simp] theorem e_share : share f (x :: ρ) = (f (x :: ρ)).bind fun a ρ1 => if isF a.1 || !isBox a.2 then .ok (.F, a.2) ρ1 else .stuck := rfl
@[simp] theorem e_bIx : bIx fa f (x :: ρ) = (fa (x :: ρ)).bind fun a ρ1 => (f ρ1).bind fun y ρ2 => (match itemB a y.2 with | some td => .ok td ρ2 | none => .stuck) := rfl
@[simp] theorem e_oNone : oNone (x :: ρ) = .ok none (x :: ρ) := rfl
@[simp] theorem e_oSome : oSome f (x :: ρ) = (f (x :: ρ)).bind fun a ρ1 => (match a.2 with | .int i => .ok (some i) ρ1 | _ => .stuck) := rfl
@[simp] theorem e_fSl (l h : PF.Env → R (Option Int)) : fSl fa l h (x :: ρ) = (fa (x :: ρ)).bind fun a ρ1 => (l ρ1).bind fun lo ρ2 => (h ρ2).bind fun hi => goO (gSl a lo hi) := rfl
@[simp] theorem e_fI2 (g : Int → Int → Int) (l : PF.Env → R (List TD)) : fI2 g l (x :: ρ) = (l (x :: ρ)).bind fun xs ρ1 => (match int2 xs with | some ij => .ok (.F, .int (g ij.1 ij.2)) ρ1 | none => .stuck) := rfl
@[simp] theorem e_fChain (g g' : D → D → Option Bool) : fChain g g' fa fb fc (x :: ρ) = (fa (x :: ρ)).bind fun a ρ1 => (fb ρ1).bind fun y ρ2 => (match g a.2 y.2 with | some true => (fc ρ2).bind fun z ρ3 => (match g' y.2 z.2 with | some k => .ok (.F, .bl k) ρ3 | none => .stuck) | some false => .ok (.F, .bl false) ρ2 | none => .stuck) := rfl
@[simp] theorem e_pN : pN i (x :: ρ) = (match (x :: ρ)[i]? with | some (some _) => .ok (i, []) (x :: ρ) | _ => .stuck) := rfl
@[simp] theorem e_pF (p : PF.Env → R Plc) : pF n p (x :: ρ) = (p (x :: ρ)).bind fun ip ρ1 => (match atP ρ1 ip with | some (.R _, .obj _ fs) => (match fs.lookup n with | some _ => .ok (ip.1, ip.2 ++ [.f n]) ρ1 | none => .stuck) | _ => .stuck) := rfl
@[simp] theorem e_pI (p : PF.Env → R Plc) : pI p f (x :: ρ) = (p (x :: ρ)).bind fun ip ρ1 => (f ρ1).bind fun y ρ2 => (match atP ρ2 ip, y.2 with | some (.L _, .lst ds), .int k => (match ixN ds.length k with | some j => .ok (ip.1, ip.2 ++ [.ix j]) ρ2 | none => .stuck) | _, _ => .stuck) := rfl
@[simp] theorem e_atP (ip : Plc) : atP (x :: ρ) ip = (match (x :: ρ)[ip.1]? with | some (some y) => getP ip.2 y | _ => none) := rfl
@[simp] theorem e_setP (ip : Plc) (y : TD) : setP (x :: ρ) ip y = (match (x :: ρ)[ip.1]? with | some (some u) => (putP ip.2 y u).map fun z => (x :: ρ).set ip.1 (some z) | _ => none) := rfl
@[simp] theorem e_getP0 (y : TD) : getP [] y = some y := rfl
@[simp] theorem e_getP1 (s : Stp) (r : List Stp) (y : TD) : getP (s :: r) y = (get1 s y).bind (getP r) := rfl
@[simp] theorem e_putP0 (y u : TD) : putP [] y u = some y := rfl
@[simp] theorem e_putP1 (s : Stp) (r : List Stp) (y u : TD) : putP (s :: r) y u = (get1 s u).bind fun x1 => (putP r y x1).bind fun y1 => put1 s y1 u := rfl
@[simp] theorem e_get1f (ts : List T) (fs : List (Nat × D)) : get1 (.f n) (.R ts, .obj c fs) = (fs.lookup n).map fun d => (fldTs n fs ts, d) := rfl
@[simp] theorem e_get1i (ds : List D) : get1 (.ix n) (.L t, .lst ds) = ds[n]?.map fun d => (t, d) := rfl
@[simp] theorem e_put1f (y : TD) (ts : List T) (fs : List (Nat × D)) : put1 (.f n) y (.R ts, .obj c fs) = some (.R (putTs n y.1 fs ts), .obj c (putD n y.2 fs)) := rfl
@[simp] theorem e_put1i (y : TD) (ds : List D) : put1 (.ix n) y (.L t, .lst ds) = if fitT t y then some (.L t, .lst (ds.set n y.2)) else none := rfl
@[simp] theorem e_bP (p : PF.Env → R Plc) : bP p (x :: ρ) = (p (x :: ρ)).bind fun ip ρ1 => (match atP ρ1 ip with | some y => .ok y ρ1 | none => .stuck) := rfl
@[simp] theorem e_muD (m : TD → List TD → Option (TD × TD)) (ip : Plc) (xs : List TD) : muD m ip xs (x :: ρ) = (match atP (x :: ρ) ip with | some y => (match m y xs with | some ya => (match setP (x :: ρ) ip ya.1 with | some ρ' => .ok ya.2 ρ' | none => .stuck) | none => .stuck) | none => .stuck) := rfl
@[simp] theorem e_fMu (k : Nat) (p : PF.Env → R Plc) (m : TD → List TD → Option (TD × TD)) (l : PF.Env → R (List TD)) : fMu k p m l (x :: ρ) = (p (x :: ρ)).bind fun ip ρ1 => (match atP ρ1 ip with | some y => if isBoxT k y then (l ρ1).bind fun xs => muD m ip xs else .stuck | none => .stuck) := rfl
@[simp] theorem e_isBoxT (ds : List D) : isBoxT 0 (.L t, .lst ds) = true := rfl
@[simp] theorem e_append (ds : List D) (y : TD) : mAppend (.L t, .lst ds) [y] = if ds.length < SZ then some ((.L (pushT t ds y), .lst (ds ++ [y.2])), (.F, .non)) else none := rfl
@[simp] theorem e_pop (ds : List D) : mPop (.L t, .lst ds) [] = ds[ds.length - 1]?.map fun d => ((.L t, .lst ds.dropLast), (t, d)) := rfl
@[simp] theorem e_rev (ds : List D) : mRev (.L t, .lst ds) [] = some ((.L t, .lst ds.reverse), (.F, .non)) := rfl
@[simp] theorem e_set (ds : List D) (y : TD) (t' : T) (k : Int) : mSet (.L t, .lst ds) [y, (t', .int k)] = (ixN ds.length k).map fun j => ((.L (pushT t ds y), .lst (ds.set j y.2)), (.F, .non)) := rfl
@[simp] theorem e_pushF (ds : List D) (d : D) : pushT .F ds (.F, d) = .F := by simp [pushT, fitT, T.eqb]
@[simp] theorem e_sSeq (f g : PF.Env → R Fl) : sSeq f g (x :: ρ) = (f (x :: ρ)).bind fun fl ρ1 => (match fl with | .nx => g ρ1 | fl => .ok fl ρ1) := rfl
@[simp] theorem e_sNil : sNil (x :: ρ) = .ok .nx (x :: ρ) := rfl
@[simp] theorem e_sPass : sPass (x :: ρ) = .ok .nx (x :: ρ) := rfl
@[simp] theorem e_sBreak : sBreak (x :: ρ) = .ok .bk (x :: ρ) := rfl
@[simp] theorem e_sCont : sCont (x :: ρ) = .ok .ct (x :: ρ) := rfl
@[simp] theorem e_sExpr : sExpr f (x :: ρ) = (f (x :: ρ)).bind fun _ ρ1 => .ok .nx ρ1 := rfl
@[simp] theorem e_sRet : PF.sRet f (x :: ρ) = (f (x :: ρ)).bind fun a ρ1 => .ok (.rt a) ρ1 := rfl
@[simp] theorem e_sRetN : PF.sRetN (x :: ρ) = .ok (.rt (.F, .non)) (x :: ρ) := rfl
@[simp] theorem e_sRetV : sRetV pr i (x :: ρ) = (match (x :: ρ)[i]? with | some (some (t, d)) => if isF t || !isBox d then .ok (.rt (.F, d)) (x :: ρ) else if pr i then .ok (.rt (.F, d)) ((x :: ρ).set i (some (.F, d))) else .ok (.rt (t, d)) ((x :: ρ).set i none) | _ => .stuck) := rfl
@[simp] theorem e_sIf (t : PF.Env → R Bool) (f g : PF.Env → R Fl) : PF.sIf t f g (x :: ρ) = (t (x :: ρ)).bind fun k ρ1 => if k then f ρ1 else g ρ1 := rfl
@[simp] theorem e_sAsg : sAsg pr i f (x :: ρ) = (f (x :: ρ)).bind fun a ρ1 => if pr i then .stuck else .ok .nx (ρ1.set i (some a)) := rfl
@[simp] theorem e_sAug (g : D → D → Option D) : PF.sAug pr i g f (x :: ρ) = (match (x :: ρ)[i]? with | some (some a) => (f (x :: ρ)).bind fun y ρ1 => (match g a.2 y.2 with | some d => if pr i then .stuck else .ok .nx (ρ1.set i (some (.F, d))) | none => .stuck) | _ => .stuck) := rfl
@[simp] theorem e_sFld : PF.sFld i n f (x :: ρ) = (f (x :: ρ)).bind fun a ρ1 => (match ρ1[i]? with | some (some (.R ts, .obj c fs)) => if fs.length < 1000 then .ok .nx (ρ1.set i (some (.R (putTs n a.1 fs ts), .obj c (putD n a.2 fs)))) else .stuck | _ => .stuck) := rfl
@[simp] theorem e_sTg (g : D → PF.Env → Option PF.Env) : sTg g f (x :: ρ) = (f (x :: ρ)).bind fun a ρ1 => (match g a.2 ρ1 with | some ρ2 => .ok .nx ρ2 | none => .stuck) := rfl
@[simp] theorem e_sSetI (p : PF.Env → R Plc) : sSetI p fa f (x :: ρ) = (f (x :: ρ)).bind fun a ρ1 => (p ρ1).bind fun ip ρ2 => (fa ρ2).bind fun y ρ3 => (match atP ρ3 ip with | some u => (match mSet u [a, y] with | some ya => (match setP ρ3 ip ya.1 with | some ρ4 => .ok .nx ρ4 | none => .stuck) | none => .stuck) | none => .stuck) := rfl
@[simp] theorem e_sFor (fi : PF.Env → R (List D)) (g : D → PF.Env → Option PF.Env) (b : PF.Env → R Fl) : PF.sFor fi g b (x :: ρ) = (fi (x :: ρ)).bind fun ds ρ1 => forD (stepD g b) ds ρ1 := rfl
@[simp] theorem e_stepD (g : D → PF.Env → Option PF.Env) (b : PF.Env → R Fl) : stepD g b d (x :: ρ) = (match g d (x :: ρ) with | some ρ1 => b ρ1 | none => .stuck) := rfl
@[simp] theorem e_gN : gN pr i d (x :: ρ) = if pr i then none else some ((x :: ρ).set i (some (.F, d))) := rfl
@[simp] theorem e_gT (g : List D → PF.Env → Option PF.Env) : gT n g d (x :: ρ) = (match items d with | some ds => if ds.length = n then g ds (x :: ρ) else none | none => none) := rfl
@[simp] theorem e_gsNil : gsNil [] (x :: ρ) = some (x :: ρ) := rfl
@[simp] theorem e_gsCons (f : D → PF.Env → Option PF.Env) (g : List D → PF.Env → Option PF.Env) (r : List D) : gsCons f g (d :: r) (x :: ρ) = (f d (x :: ρ)).bind fun ρ1 => g r ρ1 := rfl
@[simp] theorem e_iSeq : iSeq f (x :: ρ) = (f (x :: ρ)).bind fun a ρ1 => (match items a.2 with | some ds => .ok ds ρ1 | none => .stuck) := rfl
@[simp] theorem e_iR1 (l : PF.Env → R (List TD)) : iRng1' l (x :: ρ) = (l (x :: ρ)).bind fun xs ρ1 => (match int1 xs with | some j => if small62 j then .ok (rngD 0 j.toNat) ρ1 else .stuck | none => .stuck) := rfl
@[simp] theorem e_iR2 (l : PF.Env → R (List TD)) : iRng2' l (x :: ρ) = (l (x :: ρ)).bind fun xs ρ1 => (match int2 xs with | some ij => if small62 ij.1 && small62 ij.2 then .ok (rngD ij.1 (ij.2 - ij.1).toNat) ρ1 else .stuck | none => .stuck) := rfl
@[simp] theorem e_isF : isF .F = true := rfl
@[simp] theorem e_isFL : isF (.L t) = false := rfl
@[simp] theorem e_isFM : isF (.M t) = false := rfl
@[simp] theorem e_isFR (ts : List T) : isF (.R ts) = false := rfl
@[simp] theorem e_bxn : isBox .non = false := rfl
@[simp] theorem e_bxb (b : Bool) : isBox (.bl b) = false := rfl
@[simp] theorem e_bxi (b : Int) : isBox (.int b) = false := rfl
@[simp] theorem e_bxs (b : PySem.Str) : isBox (.str b) = false := rfl
@[simp] theorem e_bxt (b : List D) : isBox (.tup b) = false := rfl
@[simp] theorem e_bxc (b : List Int) : isBox (.scr b) = false := rfl
@[simp] theorem e_bxl (b : List D) : isBox (.lst b) = true := rfl
@[simp] theorem e_bxd (b : List (D × D)) : isBox (.dct b) = true := rfl
@[simp] theorem e_bxo (b : List (Nat × D)) : isBox (.obj c b) = true := rfl
@[simp] theorem e_own1 : own1 (t, d) = !(isF t || !isBox d) := rfl
@[simp] theorem e_fldT (ts : List T) (fs : List (Nat × D)) : fldT (.R ts) fs n = fldTs n fs ts := rfl
@[simp] theorem e_fldF (fs : List (Nat × D)) : fldT .F fs n = .F := rfl
@[simp] theorem e_elF (ds : List D) : elems (.F, .lst ds) = some ds := rfl
@[simp] theorem e_elL (ds : List D) : elems (.L .F, .lst ds) = some ds := rfl
@[simp] theorem e_elT (ds : List D) : elems (t, .tup ds) = some ds := rfl
@[simp] theorem e_elS (ds : List Int) : elems (t, .scr ds) = some (ds.map D.int) := rfl
@[simp] theorem e_itL (ds : List D) : items (.lst ds) = some ds := rfl
@[simp] theorem e_itT (ds : List D) : items (.tup ds) = some ds := rfl
@[simp] theorem e_itS (ds : List Int) : items (.scr ds) = some (ds.map D.int) := rfl
@[simp] theorem e_ibL (ds : List D) (i : Int) : itemB (.L t, .lst ds) (.int i) = (atI ds i).map fun d => (t, d) := rfl
@[simp] theorem e_ibF (ds : List D) (i : Int) : itemB (.F, .lst ds) (.int i) = (atI ds i).map fun d => (.F, d) := rfl
@[simp] theorem e_ibT (ds : List D) (i : Int) : itemB (t, .tup ds) (.int i) = (atI ds i).map fun d => (.F, d) := by cases t <;> rfl
@[simp] theorem e_ibS (ds : List Int) (i : Int) : itemB (t, .scr ds) (.int i) = (atI ds i).map fun d => (.F, .int d) := by cases t <;> rfl
@[simp] theorem e_trn : truD .non = some false := rfl
@[simp] theorem e_trb (b : Bool) : truD (.bl b) = some b := rfl
@[simp] theorem e_tri (b : Int) : truD (.int b) = some (b != 0) := rfl
@[simp] theorem e_trl (b : List D) : truD (.lst b) = some (!b.isEmpty) := rfl
@[simp] theorem e_trt (b : List D) : truD (.tup b) = some (!b.isEmpty) := rfl
@[simp] theorem e_lnl (b : List D) : gLen (t, .lst b) = some (.p (.int b.length)) := rfl
@[simp] theorem e_lnt (b : List D) : gLen (t, .tup b) = some (.p (.int b.length)) := rfl
@[simp] theorem e_lnc (b : List Int) : gLen (t, .scr b) = some (.p (.int b.length)) := rfl
@[simp] theorem e_lns (b : PySem.Str) : gLen (t, .str b) = if b.length ≤ SZ then some (.p (.int b.length)) else none := rfl
@[simp] theorem e_abs (i : Int) : gAbs (t, .int i) = some (.p (.int (if i < 0 then -i else i))) := rfl
@[simp] theorem e_int (i : Int) : gInt (t, .int i) = some (.p (.int i)) := rfl
@[simp] theorem e_intb (b : Bool) : gInt (t, .bl b) = some (.p (.int (if b then 1 else 0))) := rfl
@[simp] theorem e_str (i : Int) : gStr (t, .int i) = if i.natAbs.log2 < 1920 then some (.p (.str (strI i))) else none := rfl
@[simp] theorem e_strs (i : PySem.Str) : gStr (t, .str i) = some (.p (.str i)) := rfl
@[simp] theorem e_lst (u : TD) : gList u = (elems u).map .l := rfl
@[simp] theorem e_tupT (ds : List D) : gTuple (t, .tup ds) = some (.p (.tup ds)) := rfl
@[simp] theorem e_tupL (ds : List D) : gTuple (t, .lst ds) = (elems (t, .lst ds)).map .t := rfl
@[simp] theorem e_slL (ds : List D) (lo hi : Option Int) : gSl (.L .F, .lst ds) lo hi = some (.l (cutD ds lo hi)) := rfl
@[simp] theorem e_slF (ds : List D) (lo hi : Option Int) : gSl (.F, .lst ds) lo hi = some (.l (cutD ds lo hi)) := rfl
@[simp] theorem e_slT (ds : List D) (lo hi : Option Int) : gSl (t, .tup ds) lo hi = if HT.sIx ds.length 0 lo = 0 ∧ HT.sIx ds.length ds.length hi = ds.length then some (.p (.tup ds)) else some (.t (cutD ds lo hi)) := rfl
@[simp] theorem e_plI (t2 : T) (i j : Int) : gPlus (t, .int i) (t2, .int j) = some (.p (.int (i + j))) := rfl
@[simp] theorem e_plS (t2 : T) (i j : PySem.Str) : gPlus (t, .str i) (t2, .str j) = if i.length + j.length ≤ SZ then some (.p (.str (i ++ j))) else none := rfl
@[simp] theorem e_plL (t2 : T) (i j : List D) : gPlus (t, .lst i) (t2, .lst j) = catE (t, .lst i) (t2, .lst j) := rfl
@[simp] theorem e_catE (a b : TD) : catE a b = (elems a).bind fun ds => (elems b).bind fun es => if ds.length + es.length ≤ SZ then some (.l (ds ++ es)) else none := rfl
@[simp] theorem e_tiI (t2 : T) (i j : Int) : gTimes (t, .int i) (t2, .int j) = if mulOk i j then some (.p (.int (i * j))) else none := rfl
@[simp] theorem e_sub (i j : Int) : gSub (.int i) (.int j) = some (.int (i - j)) := rfl
@[simp] theorem e_add (i j : Int) : gAdd (.int i) (.int j) = some (.int (i + j)) := rfl
@[simp] theorem e_div (i j : Int) : gDiv (.int i) (.int j) = if divOk j then some (.int (i.fdiv j)) else none := rfl
@[simp] theorem e_mod (i j : Int) : gMod (.int i) (.int j) = if j = 0 then none else some (.int (i.fmod j)) := rfl
@[simp] theorem e_pow (i j : Int) : gPow (.int i) (.int j) = if powOk i j then some (.int (i ^ j.toNat)) else none := rfl
@[simp] theorem e_lt (i j : Int) : cLt (.int i) (.int j) = some (decide (i < j)) := rfl
@[simp] theorem e_le (i j : Int) : cLe (.int i) (.int j) = some (decide (i ≤ j)) := rfl
@[simp] theorem e_gt (i j : Int) : cGt (.int i) (.int j) = some (decide (j < i)) := rfl
@[simp] theorem e_ge (i j : Int) : cGe (.int i) (.int j) = some (decide (j ≤ i)) := rfl
@[simp] theorem e_eq (a b : D) : cEq a b = if dsh a && dsh b then some (deq a b) else none := rfl
@[simp] theorem e_ne (a b : D) : cNe a b = if dsh a && dsh b then some (!deq a b) else none := rfl
@[simp] theorem e_isn0 : cIsN .non .non = some true := rfl
@[simp] theorem e_isni (i : Int) : cIsN (.int i) .non = some false := rfl
@[simp] theorem e_isnb (i : Bool) : cIsN (.bl i) .non = some false := rfl
@[simp] theorem e_isns (i : PySem.Str) : cIsN (.str i) .non = some false := rfl
@[simp] theorem e_isnl (i : List D) : cIsN (.lst i) .non = some false := rfl
@[simp] theorem e_isnt (i : List D) : cIsN (.tup i) .non = some false := rfl
@[simp] theorem e_isno (i : List (Nat × D)) : cIsN (.obj c i) .non = some false := rfl
@[simp] theorem e_nn0 : cNotN .non .non = some false := rfl
@[simp] theorem e_nni (i : Int) : cNotN (.int i) .non = some true := rfl
@[simp] theorem e_nnb (i : Bool) : cNotN (.bl i) .non = some true := rfl
@[simp] theorem e_nns (i : PySem.Str) : cNotN (.str i) .non = some true := rfl
@[simp] theorem e_nnl (i : List D) : cNotN (.lst i) .non = some true := rfl
@[simp] theorem e_nnt (i : List D) : cNotN (.tup i) .non = some true := rfl
@[simp] theorem e_nno (i : List (Nat × D)) : cNotN (.obj c i) .non = some true := rfl
@[simp] theorem e_int1 (i : Int) : int1 [(t, .int i)] = some i := rfl
@[simp] theorem e_int2 (t2 : T) (i j : Int) : int2 [(t, .int i), (t2, .int j)] = some (i, j) := rfl
@[simp] theorem e_isI (T : String) : gIsI T (t, d) = (isI T d).map fun k => .p (.bl k) := rfl
@[simp] theorem e_isIb (T : String) (b : Bool) : isI T (.bl b) = some (T == "bool" || T == "int") := rfl
@[simp] theorem e_isIi (T : String) (b : Int) : isI T (.int b) = some (T == "int") := rfl
@[simp] theorem e_isIs (T : String) (b : PySem.Str) : isI T (.str b) = some (T == "str") := rfl
@[simp] theorem e_isIn (T : String) : isI T .non = some false := rfl
@[simp] theorem e_isIl (T : String) (b : List D) : isI T (.lst b) = some (T == "list") := rfl
@[simp] theorem e_isIt (T : String) (b : List D) : isI T (.tup b) = some (T == "tuple") := rfl
end
@[simp] theorem dsh_int (i : Int) : dsh (.int i) = true := rfl
@[simp] theorem dsh_bl (i : Bool) : dsh (.bl i) = true := rfl
@[simp] theorem dsh_non : dsh .non = true := rfl
theorem dsh_str {i : PySem.Str} (h : (PyData.str i).canLay0 = true) : dsh (.str i) = true := by
  simp only [dsh, D.py, SeqAt.shaped, h]
  rfl
@[simp] theorem deq_int (i j : Int) : deq (.int i) (.int j) = decide (i = j) := by
  simp [deq, D.py, PyData.eqv]
  rfl
@[simp] theorem deq_bl (i j : Bool) : deq (.bl i) (.bl j) = (i == j) := by
  simp [deq, D.py, PyData.eqv]
@[simp] theorem deq_str (i j : PySem.Str) : deq (.str i) (.str j) = decide (i = j) := by
  simp [deq, D.py, PyData.eqv]
  rfl
theorem forD_inv {step : D → PF.Env → R Fl} {ds : List D} (I : Nat → PF.Env → Prop) (hs : ∀ (i : Nat) (d : D) (ρ : PF.Env), ds[i]? = some d → I i ρ → ∃ ρ', step d ρ = .ok .nx ρ' ∧ I (i + 1) ρ') :
    ∀ {ρ : PF.Env}, I 0 ρ → ∃ ρ', forD step ds ρ = .ok .nx ρ' ∧ I ds.length ρ' := by
  have gen : ∀ (l : List D) (k : Nat) (ρ : PF.Env), k ≤ ds.length → ds.drop k = l → I k ρ → ∃ ρ', forD step l ρ = .ok .nx ρ' ∧ I ds.length ρ' := by
    intro l
    induction l with
    | nil =>
      intro k ρ hle e h
      have hk : ds.length ≤ k := by
        have := congrArg List.length e
        rw [List.length_drop] at this
        simp at this
        omega
      have q : k = ds.length := by omega
      exact ⟨ρ, rfl, by rw [← q]; exact h⟩
    | cons d r ih =>
      intro k ρ hle e h
      have hd : ds[k]? = some d := by
        have := congrArg (fun l => l[0]?) e
        simpa using this
      obtain ⟨ρ', e1, h1⟩ := hs k d ρ hd h
      have e2 : ds.drop (k + 1) = r := by
        have := congrArg List.tail e
        simpa using this
      have hlt : k < ds.length := (List.getElem?_eq_some_iff.mp hd).1
      obtain ⟨ρ2, e3, h3⟩ := ih (k + 1) ρ' hlt e2 h1
      refine ⟨ρ2, ?_, h3⟩
      unfold forD
      rw [e1]
      exact e3
  intro ρ h
  exact gen ds 0 ρ (Nat.zero_le _) (by simp) h
end PF
namespace LK20
open PySem PySem.Spec L2 PF
open PyProof.Rows hiding St
/-! what the defs do -/
/-- Past.__init__(self, text, limit); names: 0 self, 1 text, 2 limit -/
def b0 (cf : Nat → List TD → RF) (pr : Nat → Bool) : PF.Env → R Fl :=
    sSeq (sFld 0 0 (fV 2))
    (sSeq (sFld 0 1 (fLst (fNil)))
    (sSeq (sFld 0 2 (fV 1))
    (sSeq (sFld 0 3 (fLst (fNil)))
    (sNil))))
/-- Past.present(self); names: 0 self -/
def b1 (cf : Nat → List TD → RF) (pr : Nat → Bool) : PF.Env → R Fl :=
    sSeq (sRet (share (bFld 2 (bV 0))))
    (sNil)
/-- Past.add(self, text); names: 0 self, 1 text -/
def b2 (cf : Nat → List TD → RF) (pr : Nat → Bool) : PF.Env → R Fl :=
    sSeq (sExpr (fMu 0 (pF 1 (pN 0)) mAppend (fCons (share (bFld 2 (bV 0))) (fNil))))
    (sSeq (sFld 0 1 (fSl (bFld 1 (bV 0)) (oSome (fNeg (share (bFld 0 (bV 0))))) (oNone)))
    (sSeq (sFld 0 2 (fV 1))
    (sSeq (sFld 0 3 (fLst (fNil)))
    (sNil))))
/-- Past.back(self); names: 0 self -/
def b3 (cf : Nat → List TD → RF) (pr : Nat → Bool) : PF.Env → R Fl :=
    sSeq (sIf (asT (fCmp cEq (fB1 gLen (bFld 1 (bV 0))) (fC (.int 0)))) (sSeq (sRet (fC (.bl false)))
    (sNil)) (sNil))
    (sSeq (sExpr (fMu 0 (pF 3 (pN 0)) mAppend (fCons (share (bFld 2 (bV 0))) (fNil))))
    (sSeq (sFld 0 2 (fMu 0 (pF 1 (pN 0)) mPop fNil))
    (sSeq (sRet (fC (.bl true)))
    (sNil))))
/-- Past.forward(self); names: 0 self -/
def b4 (cf : Nat → List TD → RF) (pr : Nat → Bool) : PF.Env → R Fl :=
    sSeq (sIf (asT (fCmp cEq (fB1 gLen (bFld 3 (bV 0))) (fC (.int 0)))) (sSeq (sRet (fC (.bl false)))
    (sNil)) (sNil))
    (sSeq (sExpr (fMu 0 (pF 1 (pN 0)) mAppend (fCons (share (bFld 2 (bV 0))) (fNil))))
    (sSeq (sFld 0 2 (fMu 0 (pF 3 (pN 0)) mPop fNil))
    (sSeq (sRet (fC (.bl true)))
    (sNil))))
/-- Past.before(self); names: 0 self -/
def b5 (cf : Nat → List TD → RF) (pr : Nat → Bool) : PF.Env → R Fl :=
    sSeq (sRet (fB1 gLen (bFld 1 (bV 0))))
    (sNil)
/-- Past.after(self); names: 0 self -/
def b6 (cf : Nat → List TD → RF) (pr : Nat → Bool) : PF.Env → R Fl :=
    sSeq (sRet (fB1 gLen (bFld 3 (bV 0))))
    (sNil)
/-- _law_cell(script, k); names: 0 script, 1 k -/
def b7 (cf : Nat → List TD → RF) (pr : Nat → Bool) : PF.Env → R Fl :=
    sSeq (sIf (asT (fCmp cLt (bV 1) (fB1 gLen (bV 0)))) (sSeq (sRet (fB1 gInt (bIx (bV 0) (qV 1))))
    (sNil)) (sNil))
    (sSeq (sRet (fC (.int 0)))
    (sNil))
/-- law(script); names: 0 script, 1 first, 2 limit, 3 past, 4 row, 5 at, 6 k, 7 cell, 8 told -/
def b8_l0 (cf : Nat → List TD → RF) (pr : Nat → Bool) : PF.Env → R Fl :=
    sSeq (sAsg pr 7 (fB1 gAbs (fCall 2 (cf 7) (gNm 0 (gVal (fPlus (fC (.int 1)) (bV 6)) (gNil))))))
    (sSeq (sIf (asT (fCmp cLt (fMod (qV 7) (fC (.int 4))) (fC (.int 2)))) (sSeq (sAsg pr 4 (fSl (fPlus (fSl (bV 4) (oNone) (oSome (fPlus (bV 5) (fC (.int 1))))) (fLst (fCons (fPlus (fC (.str (PySem.Str.ofString "t"))) (fB1 gStr (fMod (fDiv (qV 7) (fC (.int 4))) (fC (.int 9))))) (fNil)))) (oSome (fSub (fSub (fC (.int 0)) (qV 2)) (fC (.int 1)))) (oNone)))
    (sSeq (sAsg pr 5 (fSub (fB1 gLen (bV 4)) (fC (.int 1))))
    (sSeq (sIf (asT (fCmp cNotN (fMethN 0 3 2 (cf 2) (gVal (share (bIx (bV 4) (qV 5))) (gNil))) (fC .non))) (sSeq (sRet (fC (.bl false)))
    (sNil)) (sNil))
    (sNil)))) (sSeq (sIf (asT (fCmp cEq (fMod (qV 7) (fC (.int 4))) (fC (.int 2)))) (sSeq (sAsg pr 8 (fMethN 0 3 1 (cf 3) (gNil)))
    (sSeq (sIf (tOrF (tNotF (tTru (fB1 (gIsI "bool") (bV 8)))) (asT (fCmp cNe (bV 8) (fCmp cGt (bV 5) (fC (.int 0)))))) (sSeq (sRet (fC (.bl false)))
    (sNil)) (sNil))
    (sSeq (sAsg pr 5 (fI2 (fun i j => if j > i then j else i) (fCons (fC (.int 0)) (fCons (fSub (qV 5) (fC (.int 1))) (fNil)))))
    (sNil)))) (sSeq (sAsg pr 8 (fMethN 0 3 1 (cf 4) (gNil)))
    (sSeq (sIf (tOrF (tNotF (tTru (fB1 (gIsI "bool") (bV 8)))) (asT (fCmp cNe (bV 8) (fCmp cLt (fPlus (bV 5) (fC (.int 1))) (fB1 gLen (bV 4)))))) (sSeq (sRet (fC (.bl false)))
    (sNil)) (sNil))
    (sSeq (sAsg pr 5 (fI2 (fun i j => if j < i then j else i) (fCons (fSub (fB1 gLen (bV 4)) (fC (.int 1))) (fCons (fPlus (bV 5) (fC (.int 1))) (fNil)))))
    (sNil)))))
    (sNil)))
    (sSeq (sIf (tOrF (asT (fCmp cNe (fMethN 0 3 1 (cf 1) (gNil)) (bIx (bV 4) (qV 5)))) (tOrF (asT (fCmp cNe (fMethN 0 3 1 (cf 5) (gNil)) (bV 5))) (asT (fCmp cNe (fMethN 0 3 1 (cf 6) (gNil)) (fSub (fSub (fB1 gLen (bV 4)) (fC (.int 1))) (qV 5)))))) (sSeq (sRet (fC (.bl false)))
    (sNil)) (sNil))
    (sNil)))
def b8 (cf : Nat → List TD → RF) (pr : Nat → Bool) : PF.Env → R Fl :=
    sSeq (sAsg pr 1 (fB1 gAbs (fCall 2 (cf 7) (gNm 0 (gVal (fC (.int 0)) (gNil))))))
    (sSeq (sAsg pr 2 (share (bIx (fLst (fCons (fPlus (fC (.int 1)) (fMod (fDiv (qV 1) (fC (.int 3))) (fC (.int 6)))) (fCons (fPlus (fC (.int 1)) (fMod (fDiv (qV 1) (fC (.int 3))) (fC (.int 60)))) (fCons (fPlus (fC (.int 1)) (fMod (fDiv (qV 1) (fC (.int 3))) (fC (.int 1000)))) (fNil))))) (fMod (qV 1) (fC (.int 3))))))
    (sSeq (sAsg pr 3 (fMake 0 3 (cf 0) (gVal (fC (.str (PySem.Str.ofString "start"))) (gNm 2 (gNil)))))
    (sSeq (sAsg pr 4 (fLst (fCons (fC (.str (PySem.Str.ofString "start"))) (fNil))))
    (sSeq (sAsg pr 5 (fC (.int 0)))
    (sSeq (sFor (iRng1' (fCons (fI2 (fun i j => if j < i then j else i) (fCons (fC (.int 60)) (fCons (fI2 (fun i j => if j > i then j else i) (fCons (fC (.int 12)) (fCons (fSub (fB1 gLen (bV 0)) (fC (.int 1))) (fNil)))) (fNil)))) (fNil))) (gN pr 6) (b8_l0 cf pr))
    (sSeq (sRet (fC (.bl true)))
    (sNil)))))))
def runF : Nat → Nat → List TD → RF
  | 0, _ => fun _ => .stuck
  | m + 1, 0 => runB 3 (b0 (runF m))
  | m + 1, 1 => runB 1 (b1 (runF m))
  | m + 1, 2 => runB 2 (b2 (runF m))
  | m + 1, 3 => runB 1 (b3 (runF m))
  | m + 1, 4 => runB 1 (b4 (runF m))
  | m + 1, 5 => runB 1 (b5 (runF m))
  | m + 1, 6 => runB 1 (b6 (runF m))
  | m + 1, 7 => runB 2 (b7 (runF m))
  | m + 1, 8 => runB 9 (b8 (runF m))
  | _ + 1, _ => fun _ => .stuck
end LK20
--- WALK
namespace LK20
open PySem PySem.Spec L2 PF
open PyProof.Rows hiding St
abbrev noSt : Stmt := .Pass ⟨0, 0, 0, 0⟩
abbrev top (i : Nat) : Stmt := PySem.Challenge.pw_partloft_k20_pasts.main.body.getD i noSt
def cBody : Stmt → List Stmt
  | .ClassDef (body := b) .. => b
  | _ => []
abbrev s0 : Stmt := (cBody (top 1)).getD 0 noSt
abbrev s1 : Stmt := (cBody (top 1)).getD 1 noSt
abbrev s2 : Stmt := (cBody (top 1)).getD 2 noSt
abbrev s3 : Stmt := (cBody (top 1)).getD 3 noSt
abbrev s4 : Stmt := (cBody (top 1)).getD 4 noSt
abbrev s5 : Stmt := (cBody (top 1)).getD 5 noSt
abbrev s6 : Stmt := (cBody (top 1)).getD 6 noSt
abbrev s7 : Stmt := top 3
abbrev s8 : Stmt := top 4
def nmT : List PySem.Str := [(PySem.Str.ofString "_limit"), (PySem.Str.ofString "_before"), (PySem.Str.ofString "_present"), (PySem.Str.ofString "_after")]
def ct (K : PySem.W.Frag) : Ct := ⟨⟨clsOf [He.ga K "Past"], nmOf nmT⟩, fun _ => .none, 4⟩
def at0 : PySem.Str × Option PySem.Str := ("Past", some "__init__")
def at1 : PySem.Str × Option PySem.Str := ("Past", some "present")
def at2 : PySem.Str × Option PySem.Str := ("Past", some "add")
def at3 : PySem.Str × Option PySem.Str := ("Past", some "back")
def at4 : PySem.Str × Option PySem.Str := ("Past", some "forward")
def at5 : PySem.Str × Option PySem.Str := ("Past", some "before")
def at6 : PySem.Str × Option PySem.Str := ("Past", some "after")
def at7 : PySem.Str × Option PySem.Str := ("_law_cell", none)
def at8 : PySem.Str × Option PySem.Str := ("law", none)
def ad (K : PySem.W.Frag) : Nat → Addr
  | 0 => He.fAd K at0
  | 1 => He.fAd K at1
  | 2 => He.fAd K at2
  | 3 => He.fAd K at3
  | 4 => He.fAd K at4
  | 5 => He.fAd K at5
  | 6 => He.fAd K at6
  | 7 => He.fAd K at7
  | 8 => He.fAd K at8
  | _ => 0
def psT : Nat → List PySem.Str
  | 0 => ["self", "text", "limit"]
  | 1 => ["self"]
  | 2 => ["self", "text"]
  | 3 => ["self"]
  | 4 => ["self"]
  | 5 => ["self"]
  | 6 => ["self"]
  | 7 => ["script", "k"]
  | 8 => ["script"]
  | _ => []
theorem sc0 : FnScope ["self", "text", "limit"] (psT 0) (defScope s0) := ⟨rfl, rfl, rfl, by decide +kernel, rfl, by decide +kernel, by decide +kernel⟩
theorem sc1 : FnScope ["self"] (psT 1) (defScope s1) := ⟨rfl, rfl, rfl, by decide +kernel, rfl, by decide +kernel, by decide +kernel⟩
theorem sc2 : FnScope ["self", "text"] (psT 2) (defScope s2) := ⟨rfl, rfl, rfl, by decide +kernel, rfl, by decide +kernel, by decide +kernel⟩
theorem sc3 : FnScope ["self"] (psT 3) (defScope s3) := ⟨rfl, rfl, rfl, by decide +kernel, rfl, by decide +kernel, by decide +kernel⟩
theorem sc4 : FnScope ["self"] (psT 4) (defScope s4) := ⟨rfl, rfl, rfl, by decide +kernel, rfl, by decide +kernel, by decide +kernel⟩
theorem sc5 : FnScope ["self"] (psT 5) (defScope s5) := ⟨rfl, rfl, rfl, by decide +kernel, rfl, by decide +kernel, by decide +kernel⟩
theorem sc6 : FnScope ["self"] (psT 6) (defScope s6) := ⟨rfl, rfl, rfl, by decide +kernel, rfl, by decide +kernel, by decide +kernel⟩
theorem sc7 : FnScope ["script", "k"] (psT 7) (defScope s7) := ⟨rfl, rfl, rfl, by decide +kernel, rfl, by decide +kernel, by decide +kernel⟩
theorem sc8 : FnScope ["script", "first", "limit", "past", "row", "at", "k", "cell", "told"] (psT 8) (defScope s8) := ⟨rfl, rfl, rfl, by decide +kernel, rfl, by decide +kernel, by decide +kernel⟩
structure Fx (K : PySem.W.Frag) (mg : PySem.Str → Option Value) (fd : Nat → FuncData) : Prop where
  f0 : FunD K "__init__" "Past.__init__" (defArgs s0) (defBody s0) (defScope s0) [] [] (ad K 0) (fd 0)
  f1 : FunD K "present" "Past.present" (defArgs s1) (defBody s1) (defScope s1) [] [] (ad K 1) (fd 1)
  f2 : FunD K "add" "Past.add" (defArgs s2) (defBody s2) (defScope s2) [] [] (ad K 2) (fd 2)
  f3 : FunD K "back" "Past.back" (defArgs s3) (defBody s3) (defScope s3) [] [] (ad K 3) (fd 3)
  f4 : FunD K "forward" "Past.forward" (defArgs s4) (defBody s4) (defScope s4) [] [] (ad K 4) (fd 4)
  f5 : FunD K "before" "Past.before" (defArgs s5) (defBody s5) (defScope s5) [] [] (ad K 5) (fd 5)
  f6 : FunD K "after" "Past.after" (defArgs s6) (defBody s6) (defScope s6) [] [] (ad K 6) (fd 6)
  f7 : FunD K "_law_cell" "_law_cell" (defArgs s7) (defBody s7) (defScope s7) [] [] (ad K 7) (fd 7)
  f8 : FunD K "law" "law" (defArgs s8) (defBody s8) (defScope s8) [] [] (ad K 8) (fd 8)
  g__law_cell : mg "_law_cell" = some (.ref (ad K 7))
  g_law : mg "law" = some (.ref (ad K 8))
  g_Past : mg "Past" = some (.ref ((ct K).B.cls 0))
  fr_abs : mg "abs" = none
  fr_bool : mg "bool" = none
  fr_int : mg "int" = none
  fr_isinstance : mg "isinstance" = none
  fr_len : mg "len" = none
  fr_max : mg "max" = none
  fr_min : mg "min" = none
  fr_range : mg "range" = none
  fr_str : mg "str" = none
  cls : ∀ c, Cls K ((ct K).B.cls c)
  noat : ∀ c n, n < 4 → NoAttr K ((ct K).B.cls c) ((ct K).B.nm n)
  mk0 : Mk K ((ct K).B.cls 0) (ad K 0)
  me1 : Meth K ((ct K).B.cls 0) "present" (ad K 1)
  me2 : Meth K ((ct K).B.cls 0) "add" (ad K 2)
  me3 : Meth K ((ct K).B.cls 0) "back" (ad K 3)
  me4 : Meth K ((ct K).B.cls 0) "forward" (ad K 4)
  me5 : Meth K ((ct K).B.cls 0) "before" (ad K 5)
  me6 : Meth K ((ct K).B.cls 0) "after" (ad K 6)
section
variable {P : Program} {w : World} {K : PySem.W.Frag} {mg : PySem.Str → Option Value} {base : Heap} {fd : Nat → FuncData} {m : Nat}
theorem co (h : Fx K mg fd) (X : Cx) (e : X.K = K) : CtOk X (ct K) := by
  subst e
  exact ⟨nmOf_inj (by decide +kernel) (by decide +kernel), fun _ => h.cls, h.noat⟩
theorem nn_ {n : Nat} (h : n < 4) : n < (ct K).nn := h
theorem n0_ : 0 < (ct K).nn := by show 0 < 4; decide
theorem bn0 (h : Fx K mg fd) : Binds K (fd 0) (psT 0) [] := h.f0.bindsN fun _ _ _ _ _ _ us hl => match us, hl with | [_, _, _], _ => rfl
theorem bn1 (h : Fx K mg fd) : Binds K (fd 1) (psT 1) [] := h.f1.bindsN fun _ _ _ _ _ _ us hl => match us, hl with | [_], _ => rfl
theorem bn2 (h : Fx K mg fd) : Binds K (fd 2) (psT 2) [] := h.f2.bindsN fun _ _ _ _ _ _ us hl => match us, hl with | [_, _], _ => rfl
theorem bn3 (h : Fx K mg fd) : Binds K (fd 3) (psT 3) [] := h.f3.bindsN fun _ _ _ _ _ _ us hl => match us, hl with | [_], _ => rfl
theorem bn4 (h : Fx K mg fd) : Binds K (fd 4) (psT 4) [] := h.f4.bindsN fun _ _ _ _ _ _ us hl => match us, hl with | [_], _ => rfl
theorem bn5 (h : Fx K mg fd) : Binds K (fd 5) (psT 5) [] := h.f5.bindsN fun _ _ _ _ _ _ us hl => match us, hl with | [_], _ => rfl
theorem bn6 (h : Fx K mg fd) : Binds K (fd 6) (psT 6) [] := h.f6.bindsN fun _ _ _ _ _ _ us hl => match us, hl with | [_], _ => rfl
theorem bn7 (h : Fx K mg fd) : Binds K (fd 7) (psT 7) [] := h.f7.bindsN fun _ _ _ _ _ _ us hl => match us, hl with | [_, _], _ => rfl
theorem bn8 (h : Fx K mg fd) : Binds K (fd 8) (psT 8) [] := h.f8.bindsN fun _ _ _ _ _ _ us hl => match us, hl with | [_], _ => rfl
def All (P : Program) (w : World) (K : PySem.W.Frag) (mg : PySem.Str → Option Value) (base : Heap) (fd : Nat → FuncData) (m : Nat) : Prop := ∀ i, FnOk P w K mg base (L2.CX P w) (2 * m) (ad K i) (fd i) (psT i) (spF K (ct K) (psT i).length (runF m i))
theorem d0 (h : Fx K mg fd) (A : All P w K mg base fd m) {cdv : Value} {A0 : Around} {outer : List PySem.Env} {s : Shared} {H : Hp} {E : XK} {pr : Nat → Bool} (hr : Room (2 * m + 1) (A0.deeper (envOfC "Past.__init__" (defScope s0) s.heap.objs.size (ad K 0) cdv))) :
    DSs (cxOf (L2.CX P w) P w K mg base ["self", "text", "limit"] "Past.__init__" (defScope s0) (ad K 0) cdv A0 outer s H E) (ct K) pr (defBody s0) (b0 (runF m) pr) := by
  unfold b0
  exact ds_seq (ds_fld (n := 0) (co h _ rfl) (pv 0) rfl (nn_ (by decide)) (de_var (pv 2)))
    (ds_seq (ds_fld (n := 1) (co h _ rfl) (pv 0) rfl (nn_ (by decide)) (de_lst (da_nil)))
    (ds_seq (ds_fld (n := 2) (co h _ rfl) (pv 0) rfl (nn_ (by decide)) (de_var (pv 1)))
    (ds_seq (ds_fld (n := 3) (co h _ rfl) (pv 0) rfl (nn_ (by decide)) (de_lst (da_nil)))
    (ds_nil))))
theorem d1 (h : Fx K mg fd) (A : All P w K mg base fd m) {cdv : Value} {A0 : Around} {outer : List PySem.Env} {s : Shared} {H : Hp} {E : XK} {pr : Nat → Bool} (hr : Room (2 * m + 1) (A0.deeper (envOfC "Past.present" (defScope s1) s.heap.objs.size (ad K 1) cdv))) :
    DSs (cxOf (L2.CX P w) P w K mg base ["self"] "Past.present" (defScope s1) (ad K 1) cdv A0 outer s H E) (ct K) pr (defBody s1) (b1 (runF m) pr) := by
  unfold b1
  exact ds_seq (ds_ret (DB.de (db_fld (n := 2) (co h _ rfl) rfl (nn_ (by decide)) (db_var (pv 0)))))
    (ds_nil)
theorem d2 (h : Fx K mg fd) (A : All P w K mg base fd m) {cdv : Value} {A0 : Around} {outer : List PySem.Env} {s : Shared} {H : Hp} {E : XK} {pr : Nat → Bool} (hr : Room (2 * m + 1) (A0.deeper (envOfC "Past.add" (defScope s2) s.heap.objs.size (ad K 2) cdv))) :
    DSs (cxOf (L2.CX P w) P w K mg base ["self", "text"] "Past.add" (defScope s2) (ad K 2) cdv A0 outer s H E) (ct K) pr (defBody s2) (b2 (runF m) pr) := by
  unfold b2
  exact ds_seq (ds_expr (de_mu (k := 0) (co h _ rfl) mu_append mt_append PySem.F.plainAttrs_list PySem.F.slot_list_append PySem.F.type_list_append (dp_fld (n := 1) (co h _ rfl) rfl (nn_ (by decide)) (dp_name (pv 0))) (qtA (da_cons (DB.de (db_fld (n := 2) (co h _ rfl) rfl (nn_ (by decide)) (db_var (pv 0)))) (da_nil)))))
    (ds_seq (ds_fld (n := 1) (co h _ rfl) (pv 0) rfl (nn_ (by decide)) (de_sl (db_fld (n := 1) (co h _ rfl) rfl (nn_ (by decide)) (db_var (pv 0))) (do_some (qt (de_neg (DB.de (db_fld (n := 0) (co h _ rfl) rfl (nn_ (by decide)) (db_var (pv 0))))))) (do_none)))
    (ds_seq (ds_fld (n := 2) (co h _ rfl) (pv 0) rfl (nn_ (by decide)) (de_var (pv 1)))
    (ds_seq (ds_fld (n := 3) (co h _ rfl) (pv 0) rfl (nn_ (by decide)) (de_lst (da_nil)))
    (ds_nil))))
theorem d3 (h : Fx K mg fd) (A : All P w K mg base fd m) {cdv : Value} {A0 : Around} {outer : List PySem.Env} {s : Shared} {H : Hp} {E : XK} {pr : Nat → Bool} (hr : Room (2 * m + 1) (A0.deeper (envOfC "Past.back" (defScope s3) s.heap.objs.size (ad K 3) cdv))) :
    DSs (cxOf (L2.CX P w) P w K mg base ["self"] "Past.back" (defScope s3) (ad K 3) cdv A0 outer s H E) (ct K) pr (defBody s3) (b3 (runF m) pr) := by
  unfold b3
  exact ds_seq (ds_if (dt_cmpB (o_eq (room64 hr)) (DE.db (de_len rfl h.fr_len (db_fld (n := 1) (co h _ rfl) rfl (nn_ (by decide)) (db_var (pv 0))))) (qtB (DE.db (de_int))) (nomark _)) (ds_seq (ds_ret (de_bl))
    (ds_nil)) (ds_nil))
    (ds_seq (ds_expr (de_mu (k := 0) (co h _ rfl) mu_append mt_append PySem.F.plainAttrs_list PySem.F.slot_list_append PySem.F.type_list_append (dp_fld (n := 3) (co h _ rfl) rfl (nn_ (by decide)) (dp_name (pv 0))) (qtA (da_cons (DB.de (db_fld (n := 2) (co h _ rfl) rfl (nn_ (by decide)) (db_var (pv 0)))) (da_nil)))))
    (ds_seq (ds_fld (n := 2) (co h _ rfl) (pv 0) rfl (nn_ (by decide)) (de_mu0 (k := 0) (co h _ rfl) mu_pop mt_pop PySem.F.plainAttrs_list PySem.F.slot_list_pop PySem.F.type_list_pop (dp_fld (n := 1) (co h _ rfl) rfl (nn_ (by decide)) (dp_name (pv 0)))))
    (ds_seq (ds_ret (de_bl))
    (ds_nil))))
theorem d4 (h : Fx K mg fd) (A : All P w K mg base fd m) {cdv : Value} {A0 : Around} {outer : List PySem.Env} {s : Shared} {H : Hp} {E : XK} {pr : Nat → Bool} (hr : Room (2 * m + 1) (A0.deeper (envOfC "Past.forward" (defScope s4) s.heap.objs.size (ad K 4) cdv))) :
    DSs (cxOf (L2.CX P w) P w K mg base ["self"] "Past.forward" (defScope s4) (ad K 4) cdv A0 outer s H E) (ct K) pr (defBody s4) (b4 (runF m) pr) := by
  unfold b4
  exact ds_seq (ds_if (dt_cmpB (o_eq (room64 hr)) (DE.db (de_len rfl h.fr_len (db_fld (n := 3) (co h _ rfl) rfl (nn_ (by decide)) (db_var (pv 0))))) (qtB (DE.db (de_int))) (nomark _)) (ds_seq (ds_ret (de_bl))
    (ds_nil)) (ds_nil))
    (ds_seq (ds_expr (de_mu (k := 0) (co h _ rfl) mu_append mt_append PySem.F.plainAttrs_list PySem.F.slot_list_append PySem.F.type_list_append (dp_fld (n := 1) (co h _ rfl) rfl (nn_ (by decide)) (dp_name (pv 0))) (qtA (da_cons (DB.de (db_fld (n := 2) (co h _ rfl) rfl (nn_ (by decide)) (db_var (pv 0)))) (da_nil)))))
    (ds_seq (ds_fld (n := 2) (co h _ rfl) (pv 0) rfl (nn_ (by decide)) (de_mu0 (k := 0) (co h _ rfl) mu_pop mt_pop PySem.F.plainAttrs_list PySem.F.slot_list_pop PySem.F.type_list_pop (dp_fld (n := 3) (co h _ rfl) rfl (nn_ (by decide)) (dp_name (pv 0)))))
    (ds_seq (ds_ret (de_bl))
    (ds_nil))))
theorem d5 (h : Fx K mg fd) (A : All P w K mg base fd m) {cdv : Value} {A0 : Around} {outer : List PySem.Env} {s : Shared} {H : Hp} {E : XK} {pr : Nat → Bool} (hr : Room (2 * m + 1) (A0.deeper (envOfC "Past.before" (defScope s5) s.heap.objs.size (ad K 5) cdv))) :
    DSs (cxOf (L2.CX P w) P w K mg base ["self"] "Past.before" (defScope s5) (ad K 5) cdv A0 outer s H E) (ct K) pr (defBody s5) (b5 (runF m) pr) := by
  unfold b5
  exact ds_seq (ds_ret (de_len rfl h.fr_len (db_fld (n := 1) (co h _ rfl) rfl (nn_ (by decide)) (db_var (pv 0)))))
    (ds_nil)
theorem d6 (h : Fx K mg fd) (A : All P w K mg base fd m) {cdv : Value} {A0 : Around} {outer : List PySem.Env} {s : Shared} {H : Hp} {E : XK} {pr : Nat → Bool} (hr : Room (2 * m + 1) (A0.deeper (envOfC "Past.after" (defScope s6) s.heap.objs.size (ad K 6) cdv))) :
    DSs (cxOf (L2.CX P w) P w K mg base ["self"] "Past.after" (defScope s6) (ad K 6) cdv A0 outer s H E) (ct K) pr (defBody s6) (b6 (runF m) pr) := by
  unfold b6
  exact ds_seq (ds_ret (de_len rfl h.fr_len (db_fld (n := 3) (co h _ rfl) rfl (nn_ (by decide)) (db_var (pv 0)))))
    (ds_nil)
theorem d7 (h : Fx K mg fd) (A : All P w K mg base fd m) {cdv : Value} {A0 : Around} {outer : List PySem.Env} {s : Shared} {H : Hp} {E : XK} {pr : Nat → Bool} (hr : Room (2 * m + 1) (A0.deeper (envOfC "_law_cell" (defScope s7) s.heap.objs.size (ad K 7) cdv))) :
    DSs (cxOf (L2.CX P w) P w K mg base ["script", "k"] "_law_cell" (defScope s7) (ad K 7) cdv A0 outer s H E) (ct K) pr (defBody s7) (b7 (runF m) pr) := by
  unfold b7
  exact ds_seq (ds_if (dt_cmpB o_lt (db_var (pv 1)) (qtB (DE.db (de_len rfl h.fr_len (db_var (pv 0))))) (nomark _)) (ds_seq (ds_ret (de_intF rfl h.fr_int (db_ix (db_var (pv 0)) (qt (de_qvar (pv 1))))))
    (ds_nil)) (ds_nil))
    (ds_seq (ds_ret (de_int))
    (ds_nil))
theorem d8 (h : Fx K mg fd) (A : All P w K mg base fd m) {cdv : Value} {A0 : Around} {outer : List PySem.Env} {s : Shared} {H : Hp} {E : XK} {pr : Nat → Bool} (hr : Room (2 * m + 1) (A0.deeper (envOfC "law" (defScope s8) s.heap.objs.size (ad K 8) cdv))) :
    DSs (cxOf (L2.CX P w) P w K mg base ["script", "first", "limit", "past", "row", "at", "k", "cell", "told"] "law" (defScope s8) (ad K 8) cdv A0 outer s H E) (ct K) pr (defBody s8) (b8 (runF m) pr) := by
  unfold b8 b8_l0
  exact ds_seq (ds_asg sc8.nd rfl (Or.inl rfl) (de_abs rfl h.fr_abs (DE.db (de_cal (A 7) (hr.mono (Nat.le_succ _)) rfl h.g__law_cell h.f7.kp (bn7 h) (dg_nm (pv 0) (dg_val (de_int) (dg_nil)))))))
    (ds_seq (ds_asg sc8.nd rfl (Or.inl rfl) (DB.de (db_ix (DE.db (de_lst (da_cons (de_plusB (DE.db (de_int)) (qtB (DE.db (de_mod (de_div (de_qvar (pv 1)) (de_int)) (de_int))))) (da_cons (de_plusB (DE.db (de_int)) (qtB (DE.db (de_mod (de_div (de_qvar (pv 1)) (de_int)) (de_int))))) (da_cons (de_plusB (DE.db (de_int)) (qtB (DE.db (de_mod (de_div (de_qvar (pv 1)) (de_int)) (de_int))))) (da_nil)))))) (qt (de_mod (de_qvar (pv 1)) (de_int))))))
    (ds_seq (ds_asg sc8.nd rfl (Or.inl rfl) (de_mkN (c := 0) h.mk0 (A 0) hr rfl h.g_Past (bn0 h) (dg_val (de_str) (dg_nm (pv 2) (dg_nil)))))
    (ds_seq (ds_asg sc8.nd rfl (Or.inl rfl) (de_lst (da_cons (de_str) (da_nil))))
    (ds_seq (ds_asg sc8.nd rfl (Or.inl rfl) (de_int))
    (ds_seq (ds_for (passes_of rfl) rfl (di_rng1 rfl h.fr_range (da_cons (de_min2 rfl rfl h.fr_min (da_cons (de_int) (da_cons (de_max2 rfl rfl h.fr_max (da_cons (de_int) (da_cons (de_sub (de_len rfl h.fr_len (db_var (pv 0))) (de_int)) (da_nil)))) (da_nil)))) (da_nil))) (dg_name sc8.nd rfl (Or.inl rfl)) (ds_seq (ds_asg sc8.nd rfl (Or.inl rfl) (de_abs rfl h.fr_abs (DE.db (de_cal (A 7) (hr.mono (Nat.le_succ _)) rfl h.g__law_cell h.f7.kp (bn7 h) (dg_nm (pv 0) (dg_val (de_plusB (DE.db (de_int)) (qtB (db_var (pv 6)))) (dg_nil)))))))
    (ds_seq (ds_if (dt_cmpB o_lt (DE.db (de_mod (de_qvar (pv 7)) (de_int))) (qtB (DE.db (de_int))) (nomark _)) (ds_seq (ds_asg sc8.nd rfl (Or.inl rfl) (de_sl (DE.db (de_plusB (DE.db (de_sl (db_var (pv 4)) (do_none) (do_some (qt (de_plusB (db_var (pv 5)) (qtB (DE.db (de_int)))))))) (qtB (DE.db (de_lst (da_cons (de_plusB (DE.db (de_str)) (qtB (DE.db (de_strF rfl h.fr_str (DE.db (de_mod (de_div (de_qvar (pv 7)) (de_int)) (de_int))))))) (da_nil))))))) (do_some (qt (de_sub (de_sub (de_int) (de_qvar (pv 2))) (de_int)))) (do_none)))
    (ds_seq (ds_asg sc8.nd rfl (Or.inl rfl) (de_sub (de_len rfl h.fr_len (db_var (pv 4))) (de_int)))
    (ds_seq (ds_if (dt_cmpB o_notN (DE.db (de_metN (c := 0) (co h _ rfl) n0_ (pv 3) h.me2 (A 2) (hr.mono (Nat.le_succ _)) (bn2 h) (nmOf_ne (by decide +kernel) (by decide +kernel)) (dg_val (DB.de (db_ix (db_var (pv 4)) (qt (de_qvar (pv 5))))) (dg_nil)))) (qtB (DE.db (de_non))) (nomark _)) (ds_seq (ds_ret (de_bl))
    (ds_nil)) (ds_nil))
    (ds_nil)))) (ds_seq (ds_if (dt_cmpB (o_eq (room64 hr)) (DE.db (de_mod (de_qvar (pv 7)) (de_int))) (qtB (DE.db (de_int))) (nomark _)) (ds_seq (ds_asg sc8.nd rfl (Or.inl rfl) (de_metN0 (c := 0) (co h _ rfl) n0_ (pv 3) h.me3 (A 3) (hr.mono (Nat.le_succ _)) (bn3 h) (nmOf_ne (by decide +kernel) (by decide +kernel))))
    (ds_seq (ds_if (DW.dt (dw_or (dt_not (dt_tru (DE.db (de_isI (by decide) rfl h.fr_isinstance rfl h.fr_bool (by decide +kernel) (db_var (pv 8)))))) (dw_or1 (dt_cmpB (o_ne (room64 hr)) (db_var (pv 8)) (qtB (DE.db (de_cmpB o_gt (db_var (pv 5)) (qtB (DE.db (de_int))) (nomark _)))) (nomark _))))) (ds_seq (ds_ret (de_bl))
    (ds_nil)) (ds_nil))
    (ds_seq (ds_asg sc8.nd rfl (Or.inl rfl) (de_max2 rfl rfl h.fr_max (da_cons (de_int) (da_cons (de_sub (de_qvar (pv 5)) (de_int)) (da_nil)))))
    (ds_nil)))) (ds_seq (ds_asg sc8.nd rfl (Or.inl rfl) (de_metN0 (c := 0) (co h _ rfl) n0_ (pv 3) h.me4 (A 4) (hr.mono (Nat.le_succ _)) (bn4 h) (nmOf_ne (by decide +kernel) (by decide +kernel))))
    (ds_seq (ds_if (DW.dt (dw_or (dt_not (dt_tru (DE.db (de_isI (by decide) rfl h.fr_isinstance rfl h.fr_bool (by decide +kernel) (db_var (pv 8)))))) (dw_or1 (dt_cmpB (o_ne (room64 hr)) (db_var (pv 8)) (qtB (DE.db (de_cmpB o_lt (DE.db (de_plusB (db_var (pv 5)) (qtB (DE.db (de_int))))) (qtB (DE.db (de_len rfl h.fr_len (db_var (pv 4))))) (nomark _)))) (nomark _))))) (ds_seq (ds_ret (de_bl))
    (ds_nil)) (ds_nil))
    (ds_seq (ds_asg sc8.nd rfl (Or.inl rfl) (de_min2 rfl rfl h.fr_min (da_cons (de_sub (de_len rfl h.fr_len (db_var (pv 4))) (de_int)) (da_cons (de_plusB (db_var (pv 5)) (qtB (DE.db (de_int)))) (da_nil)))))
    (ds_nil)))))
    (ds_nil)))
    (ds_seq (ds_if (DW.dt (dw_or (dt_cmpB (o_ne (room64 hr)) (DE.db (de_metN0 (c := 0) (co h _ rfl) n0_ (pv 3) h.me1 (A 1) (hr.mono (Nat.le_succ _)) (bn1 h) (nmOf_ne (by decide +kernel) (by decide +kernel)))) (qtB (db_ix (db_var (pv 4)) (qt (de_qvar (pv 5))))) (nomark _)) (dw_or (dt_cmpB (o_ne (room64 hr)) (DE.db (de_metN0 (c := 0) (co h _ rfl) n0_ (pv 3) h.me5 (A 5) (hr.mono (Nat.le_succ _)) (bn5 h) (nmOf_ne (by decide +kernel) (by decide +kernel)))) (qtB (db_var (pv 5))) (nomark _)) (dw_or1 (dt_cmpB (o_ne (room64 hr)) (DE.db (de_metN0 (c := 0) (co h _ rfl) n0_ (pv 3) h.me6 (A 6) (hr.mono (Nat.le_succ _)) (bn6 h) (nmOf_ne (by decide +kernel) (by decide +kernel)))) (qtB (DE.db (de_sub (de_sub (de_len rfl h.fr_len (db_var (pv 4))) (de_int)) (de_qvar (pv 5))))) (nomark _)))))) (ds_seq (ds_ret (de_bl))
    (ds_nil)) (ds_nil))
    (ds_nil)))))
    (ds_seq (ds_ret (de_bl))
    (ds_nil)))))))
theorem none_ (i : Nat) (hi : 9 ≤ i) (m : Nat) : runF m i = fun _ => .stuck := by
  match m, i, hi with
  | 0, _, _ => rfl
  | m + 1, i, hi =>
    match i, hi with
    | 0, h => exact absurd h (by decide)
    | 1, h => exact absurd h (by decide)
    | 2, h => exact absurd h (by decide)
    | 3, h => exact absurd h (by decide)
    | 4, h => exact absurd h (by decide)
    | 5, h => exact absurd h (by decide)
    | 6, h => exact absurd h (by decide)
    | 7, h => exact absurd h (by decide)
    | 8, h => exact absurd h (by decide)
    | n + 9, _ => rfl
theorem all_ (h : Fx K mg fd) : ∀ m, All P w K mg base fd m
  | 0 => fun i => fn_pf0
  | m + 1 => fun i => match i with
    | 0 => fn_pf (n := 3) (k := 2 * m + 1) h.f0 sc0 rfl fun cdv A outer s H E pr hr => d0 h (all_ h m) hr
    | 1 => fn_pf (n := 1) (k := 2 * m + 1) h.f1 sc1 rfl fun cdv A outer s H E pr hr => d1 h (all_ h m) hr
    | 2 => fn_pf (n := 2) (k := 2 * m + 1) h.f2 sc2 rfl fun cdv A outer s H E pr hr => d2 h (all_ h m) hr
    | 3 => fn_pf (n := 1) (k := 2 * m + 1) h.f3 sc3 rfl fun cdv A outer s H E pr hr => d3 h (all_ h m) hr
    | 4 => fn_pf (n := 1) (k := 2 * m + 1) h.f4 sc4 rfl fun cdv A outer s H E pr hr => d4 h (all_ h m) hr
    | 5 => fn_pf (n := 1) (k := 2 * m + 1) h.f5 sc5 rfl fun cdv A outer s H E pr hr => d5 h (all_ h m) hr
    | 6 => fn_pf (n := 1) (k := 2 * m + 1) h.f6 sc6 rfl fun cdv A outer s H E pr hr => d6 h (all_ h m) hr
    | 7 => fn_pf (n := 2) (k := 2 * m + 1) h.f7 sc7 rfl fun cdv A outer s H E pr hr => d7 h (all_ h m) hr
    | 8 => fn_pf (n := 9) (k := 2 * m + 1) h.f8 sc8 rfl fun cdv A outer s H E pr hr => d8 h (all_ h m) hr
    | n + 9 => (none_ (n + 9) (Nat.le_add_left _ _) (m + 1)) ▸ ⟨fun vs H Q E h => spF_len vs H Q E h, fun A outer s H args us vs Q E _ _ _ _ h => by
      obtain ⟨G, tds, xs, h1, h2, _, z⟩ := h
      exact z.elim⟩
end
end LK20
--- HEAD
namespace LK20
open PySem PySem.Spec L2 PF
open PyProof.Rows hiding St
def dd0 : He.DefD := ⟨at0, "__init__", "Past.__init__", defArgs s0, defBody s0, defScope s0, [], []⟩
def dd1 : He.DefD := ⟨at1, "present", "Past.present", defArgs s1, defBody s1, defScope s1, [], []⟩
def dd2 : He.DefD := ⟨at2, "add", "Past.add", defArgs s2, defBody s2, defScope s2, [], []⟩
def dd3 : He.DefD := ⟨at3, "back", "Past.back", defArgs s3, defBody s3, defScope s3, [], []⟩
def dd4 : He.DefD := ⟨at4, "forward", "Past.forward", defArgs s4, defBody s4, defScope s4, [], []⟩
def dd5 : He.DefD := ⟨at5, "before", "Past.before", defArgs s5, defBody s5, defScope s5, [], []⟩
def dd6 : He.DefD := ⟨at6, "after", "Past.after", defArgs s6, defBody s6, defScope s6, [], []⟩
def dd7 : He.DefD := ⟨at7, "_law_cell", "_law_cell", defArgs s7, defBody s7, defScope s7, [], []⟩
def dd8 : He.DefD := ⟨at8, "law", "law", defArgs s8, defBody s8, defScope s8, [], []⟩
def fn : List He.DefD := [dd0, dd1, dd2, dd3, dd4, dd5, dd6, dd7, dd8]
def fa : List He.Fa := [.glo "_law_cell", .glo "law", .glo "Past", .free "abs", .free "bool", .free "int", .free "isinstance", .free "len", .free "max", .free "min", .free "range", .free "str", .cls "Past", .noat "Past" "_limit", .noat "Past" "_before", .noat "Past" "_present", .noat "Past" "_after", .mkr "Past", .meth "Past" "present", .meth "Past" "add", .meth "Past" "back", .meth "Past" "forward", .meth "Past" "before", .meth "Past" "after"]
abbrev R : PySem.W.OpenRow := PySem.W.OpenLaw.row PySem.Challenge.rw_partloft_k20_pasts
abbrev hk : PySem.W.Hook := He.hookD 5 fa fn
def ob (s : PySem.W.SharedT) : He.AlD := He.obsDG 5 fa fn (HandSHeadRun.getT s)
theorem ob_eq (s : PySem.W.SharedT) : ob s = hk.obs s.abs := He.obsDG_eq (HandSHeadRun.getT_eq s)
def loose : List PySem.Str := ["Past", "_law_cell"]
theorem run (w : World) : HandSHeadRun.RunEq R (PySem.W.view R.prog [4]) hk ob 20000 loose w := by
  intro os
  kernel_rfl
theorem facts_ {K : PySem.W.Frag} {hh : Heap} {mg : PySem.Str → Option Value} (X : K.In hh) (G : hh.Ns mainGlobals mg) (c : He.SaysD fa fn K) : ∃ fd : Nat → FuncData, Fx K mg fd := by
  obtain ⟨e0, h0⟩ := c.def_ 0 (d := dd0) rfl
  obtain ⟨e1, h1⟩ := c.def_ 1 (d := dd1) rfl
  obtain ⟨e2, h2⟩ := c.def_ 2 (d := dd2) rfl
  obtain ⟨e3, h3⟩ := c.def_ 3 (d := dd3) rfl
  obtain ⟨e4, h4⟩ := c.def_ 4 (d := dd4) rfl
  obtain ⟨e5, h5⟩ := c.def_ 5 (d := dd5) rfl
  obtain ⟨e6, h6⟩ := c.def_ 6 (d := dd6) rfl
  obtain ⟨e7, h7⟩ := c.def_ 7 (d := dd7) rfl
  obtain ⟨e8, h8⟩ := c.def_ 8 (d := dd8) rfl
  refine ⟨fun i => match i with
    | 0 => e0
    | 1 => e1
    | 2 => e2
    | 3 => e3
    | 4 => e4
    | 5 => e5
    | 6 => e6
    | 7 => e7
    | 8 => e8
    | _ => e0, h0,
    h1,
    h2,
    h3,
    h4,
    h5,
    h6,
    h7,
    h8,
    He.glo_ok X G (c.fact 0 (f := .glo "_law_cell") rfl),
    He.glo_ok X G (c.fact 1 (f := .glo "law") rfl),
    He.glo_ok X G (c.fact 2 (f := .glo "Past") rfl),
    He.free_ok X G (c.fact 3 (f := .free "abs") rfl),
    He.free_ok X G (c.fact 4 (f := .free "bool") rfl),
    He.free_ok X G (c.fact 5 (f := .free "int") rfl),
    He.free_ok X G (c.fact 6 (f := .free "isinstance") rfl),
    He.free_ok X G (c.fact 7 (f := .free "len") rfl),
    He.free_ok X G (c.fact 8 (f := .free "max") rfl),
    He.free_ok X G (c.fact 9 (f := .free "min") rfl),
    He.free_ok X G (c.fact 10 (f := .free "range") rfl),
    He.free_ok X G (c.fact 11 (f := .free "str") rfl),
    clsOf_all (p := fun a => Cls K a) (fun a ha => by
      simp only [List.mem_cons, List.not_mem_nil, or_false] at ha
      rcases ha with rfl
      · exact He.cls_ok (c.fact 12 (f := .cls "Past") rfl)),
    fun cc n hn => clsOf_all (p := fun a => NoAttr K a (nmOf nmT n)) (fun a ha => by
      simp only [List.mem_cons, List.not_mem_nil, or_false] at ha
      rcases ha with rfl
      · have z : ∀ x ∈ nmT, NoAttr K (He.ga K "Past") x := fun x hx => by
          simp only [nmT, List.mem_cons, List.not_mem_nil, or_false] at hx
          rcases hx with rfl | rfl | rfl | rfl
          · exact He.noat_ok (c.fact 13 (f := .noat "Past" "_limit") rfl)
          · exact He.noat_ok (c.fact 14 (f := .noat "Past" "_before") rfl)
          · exact He.noat_ok (c.fact 15 (f := .noat "Past" "_present") rfl)
          · exact He.noat_ok (c.fact 16 (f := .noat "Past" "_after") rfl)
        exact z _ (nmOf_at hn)) cc,
    He.mkr_ok (c.fact 17 (f := .mkr "Past") rfl),
    He.meth_ok (c.fact 18 (f := .meth "Past" "present") rfl),
    He.meth_ok (c.fact 19 (f := .meth "Past" "add") rfl),
    He.meth_ok (c.fact 20 (f := .meth "Past" "back") rfl),
    He.meth_ok (c.fact 21 (f := .meth "Past" "forward") rfl),
    He.meth_ok (c.fact 22 (f := .meth "Past" "before") rfl),
    He.meth_ok (c.fact 23 (f := .meth "Past" "after") rfl)⟩
theorem facts {P : Program} {w : World} {K : PySem.W.Frag} {hh : Heap} {mg : PySem.Str → Option Value} {f : Addr} (X : K.In hh) (G : hh.Ns mainGlobals mg) (hfa : mg "law" = some (.ref f)) (c : He.SaysD fa fn K) (m : Nat) :
    ∃ fd : FuncData, (∀ (s : Shared) (v : Value), BindsTo s fd ⟨[v], []⟩ [("script", v)]) ∧ ∀ base : Heap, FnOk P w K mg base CX0 (2 * m) f fd ["script"] (fun vs H Q _ => spF K (ct K) 1 (runF m 8) vs H Q fun _ _ _ => False) := by
  obtain ⟨fd, h⟩ := facts_ X G c
  have e := hfa.symm.trans h.g_law
  cases e
  have b := FunD.bindsA (ps := ["script"]) h.f8 fun _ _ _ _ _ _ us hl => match us, hl with | [_], _ => rfl
  exact ⟨fd 8, fun s v => b s [v] rfl, fun base => fnOk_quiet (all_ h m 8)⟩
/-- what is left: the law over values -/
def Law (m : Nat) : Prop := ∀ ns : List Int, ns.length ≤ 63 → ∃ t ys, runF m 8 [(.F, .scr ns)] = .ok (t, .bl true) ys ∧ ys.length = 1
end LK20
section
open PySem PySem.W PySem.Calls PyProof.Rows
theorem LK20.holds {m : Nat} (hm : 2 * m ≤ 230) (plain : LK20.Law m) : PySem.Challenge.rw_partloft_k20_pasts.Holds := by
  w_on; o_law
  refine HandSHeadRun.head_any (r := OpenLaw.row PySem.Challenge.rw_partloft_k20_pasts) (q := view (OpenLaw.row PySem.Challenge.rw_partloft_k20_pasts).prog [4]) (H := LK20.hk) (ob := LK20.ob) (M := 20000) (loose := LK20.loose) (d := HandSHeadRun.topDef (OpenLaw.row PySem.Challenge.rw_partloft_k20_pasts).prog 4) (kwd := []) LK20.ob_eq
    (by kernel_rfl) (fun s => by kernel_rfl) LK20.run (by kernel_rfl) (by kernel_rfl) (by kernel_rfl) (by rfl) (by first | assumption | decide +kernel) (by decide +kernel) ⟨rfl, rfl, rfl, rfl, rfl, by decide +kernel⟩ ?hw ?hc
  case hw => w_witness2
  case hc =>
    refine L2.walk_ofE (l := PySem.Challenge.rw_partloft_k20_pasts) (n := 63) (k := 2 * m) (x := "script") (CX := L2.CX0) rfl (by decide) (by kernel_rfl) (PF.roomC hm) ?F (fun _ _ _ _ z => z)
    intro w mg fa h Y G hmg0
    obtain ⟨K, KX, c⟩ := Y
    have hmg : mg ("law" : PySem.Str) = some (.ref fa) := by
      have e : (HandSHeadRun.topDef (OpenLaw.row PySem.Challenge.rw_partloft_k20_pasts).prog 4).name = ("law" : PySem.Str) := by kernel_rfl
      rw [← e]
      exact hmg0
    obtain ⟨fd, hb, hF⟩ := LK20.facts (P := (PySem.Challenge.rw_partloft_k20_pasts).prog) (w := w) KX G hmg c m
    refine ⟨K, fd, _, KX, hb, fun H a ns hl _ hS => ?_, fun base _ _ => hF base⟩
    obtain ⟨t, ys, e, hy⟩ := plain ns hl
    exact PF.law_end hS e hy
end
namespace LK20
open PF
/-- a past -/
abbrev past (lim : Int) (bs : List D) (p : D) (as : List D) : TD := (.R [.F, .L .F, .F, .L .F], .obj 0 [(0, .int lim), (1, .lst bs), (2, p), (3, .lst as)])
theorem init_ok (m : Nat) (lim : Int) (p : PySem.Str) : runF (m + 1) 0 [(.R [], .obj 0 []), (.F, .str p), (.F, .int lim)] = .ok (.F, .non) [past lim [] (.str p) [], (.F, .str p), (.F, .int lim)] := by
  simp [runF, b0, runB, fin, enter, prOf, backs, putTs, putD, fldTs, List.lookup, past]
theorem present_ok (m : Nat) (lim : Int) (bs as : List D) (p : PySem.Str) : runF (m + 1) 1 [past lim bs (.str p) as] = .ok (.F, .str p) [past lim bs (.str p) as] := by
  simp [runF, b1, runB, fin, enter, prOf, backs, putTs, putD, fldTs, List.lookup, past]
theorem before_ok (m : Nat) (lim : Int) (bs as : List D) (p : PySem.Str) : runF (m + 1) 5 [past lim bs (.str p) as] = .ok (.F, .int bs.length) [past lim bs (.str p) as] := by
  simp [runF, b5, runB, fin, enter, prOf, backs, putTs, putD, fldTs, List.lookup, past]
theorem after_ok (m : Nat) (lim : Int) (bs as : List D) (p : PySem.Str) : runF (m + 1) 6 [past lim bs (.str p) as] = .ok (.F, .int as.length) [past lim bs (.str p) as] := by
  simp [runF, b6, runB, fin, enter, prOf, backs, putTs, putD, fldTs, List.lookup, past]
theorem add_ok (m : Nat) (lim : Int) (bs as : List D) (p t : PySem.Str) (h : bs.length < SZ) : runF (m + 1) 2 [past lim bs (.str p) as, (.F, .str t)] = .ok (.F, .non) [past lim (cutD (bs ++ [.str p]) (some (-lim)) none) (.str t) [], (.F, .str t)] := by
  simp [runF, b2, runB, fin, enter, prOf, backs, putTs, putD, fldTs, List.lookup, past, h]
theorem back0_ok (m : Nat) (lim : Int) (as : List D) (p : PySem.Str) : runF (m + 1) 3 [past lim [] (.str p) as] = .ok (.F, .bl false) [past lim [] (.str p) as] := by
  simp [runF, b3, runB, fin, enter, prOf, backs, putTs, putD, fldTs, List.lookup, past]
theorem back1_ok (m : Nat) (lim : Int) (bs as : List D) (p t : PySem.Str) (h : as.length < SZ) : runF (m + 1) 3 [past lim (bs ++ [.str t]) (.str p) as] = .ok (.F, .bl true) [past lim bs (.str t) (as ++ [.str p]) ] := by
  have h0 : ¬((bs.length : Int) + 1 = 0) := by omega
  simp [runF, b3, runB, fin, enter, prOf, backs, putTs, putD, fldTs, List.lookup, past, h, h0]
theorem forw0_ok (m : Nat) (lim : Int) (bs : List D) (p : PySem.Str) : runF (m + 1) 4 [past lim bs (.str p) []] = .ok (.F, .bl false) [past lim bs (.str p) []] := by
  simp [runF, b4, runB, fin, enter, prOf, backs, putTs, putD, fldTs, List.lookup, past]
theorem forw1_ok (m : Nat) (lim : Int) (bs as : List D) (p t : PySem.Str) (h : bs.length < SZ) : runF (m + 1) 4 [past lim bs (.str p) (as ++ [.str t])] = .ok (.F, .bl true) [past lim (bs ++ [.str p]) (.str t) as] := by
  have h0 : ¬((as.length : Int) + 1 = 0) := by omega
  simp [runF, b4, runB, fin, enter, prOf, backs, putTs, putD, fldTs, List.lookup, past, h, h0]
/-- a cell of the script -/
def cellI (ns : List Int) (k : Nat) : Int := ns.getD k 0
theorem cell_ok (m : Nat) (ns : List Int) (k : Nat) : runF (m + 1) 7 [(.F, .scr ns), (.F, .int (k : Int))] = .ok (.F, .int (cellI ns k)) [(.F, .scr ns), (.F, .int (k : Int))] := by
  by_cases h : k < ns.length
  · have h1 : (k : Int) < (ns.length : Int) := by omega
    have e : L2.atI ns (k : Int) = some ns[k] := L2.atI_nat (List.getElem?_eq_getElem h)
    have e2 : cellI ns k = ns[k] := by simp [cellI, List.getD_eq_getElem?_getD, List.getElem?_eq_getElem h]
    simp [runF, b7, runB, fin, enter, prOf, backs, putTs, putD, fldTs, List.lookup, past, h, h1, e, e2]
  · have h1 : ¬ (k : Int) < (ns.length : Int) := by omega
    have e2 : cellI ns k = 0 := by simp [cellI, List.getD_eq_getElem?_getD, List.getElem?_eq_none (Nat.le_of_not_lt h)]
    simp [runF, b7, runB, fin, enter, prOf, backs, putTs, putD, fldTs, List.lookup, past, h, h1, e2]
theorem cut_neg (ds : List D) (l : Nat) (h : 0 < l) : cutD ds (some (-(l : Int))) none = ds.drop (ds.length - l) := by
  unfold cutD
  have e : HT.sIx ds.length 0 (some (-(l : Int))) = ds.length - l := by
    show (if (-(l : Int)) < 0 then (-(l : Int) + (ds.length : Int)).toNat else min (-(l : Int)).toNat ds.length) = _
    rw [if_pos (by omega)]
    omega
  rw [e, HT.sIx_none]
  exact List.take_of_length_le (by rw [List.length_drop]; omega)
theorem cut_to (ds : List D) (k : Nat) : cutD ds none (some (k : Int)) = ds.take k := by
  unfold cutD
  rw [HT.sIx_none, HT.sIx_nat, List.drop_zero, Nat.sub_zero]
  by_cases q : k ≤ ds.length
  · rw [Nat.min_eq_left q]
  · rw [Nat.min_eq_right (by omega), List.take_of_length_le (Nat.le_refl _), List.take_of_length_le (by omega)]
def tOf (c : Int) : PySem.Str := PySem.Str.ofString "t" ++ strI (c / 4 % 9)
def okS (x : PySem.Str) : Prop := (PySem.PyData.str x).canLay0 = true
theorem small_str : ∀ k : Nat, k < 9 → okS (PySem.Str.ofString "t" ++ strI (k : Int)) ∧ (PySem.Str.ofString "t").length + (strI (k : Int)).length ≤ 100 := by
  unfold okS
  decide +kernel
theorem tOf_ok (c : Int) : okS (tOf c) ∧ (PySem.Str.ofString "t").length + (strI (c / 4 % 9)).length ≤ SZ ∧ (c / 4 % 9).natAbs.log2 < 1920 := by
  have h1 : 0 ≤ c / 4 % 9 := Int.emod_nonneg _ (by decide)
  have h2 : c / 4 % 9 < 9 := Int.emod_lt_of_pos _ (by decide)
  obtain ⟨k, hk⟩ : ∃ k : Nat, c / 4 % 9 = (k : Int) := ⟨(c / 4 % 9).toNat, by omega⟩
  unfold tOf
  rw [hk]
  have hk9 : k < 9 := by omega
  obtain ⟨a, b⟩ := small_str k hk9
  refine ⟨a, Nat.le_trans b (by rw [SZ_eq]; decide), ?_⟩
  have : ∀ k : Nat, k < 9 → (k : Int).natAbs.log2 < 1920 := by decide +kernel
  exact this k hk9
/-- what stands ahead of a turn -/
def Inv (ns : List Int) (first : Int) (L : Nat) (ρ : PF.Env) : Prop := ∃ (row : List PySem.Str) (at_ : Nat) (p : PySem.Str) (x6 x7 x8 : Option TD), row[at_]? = some p ∧ row.length ≤ L + 1 ∧ (∀ s ∈ row, okS s) ∧
  ρ = [some (.F, .scr ns), some (.F, .int first), some (.F, .int (L : Int)), some (past L ((row.take at_).map D.str) (.str p) ((row.drop (at_ + 1)).reverse.map D.str)), some (.L .F, .lst (row.map D.str)), some (.F, .int (at_ : Int)), x6, x7, x8]
theorem cell1_ok (m : Nat) (ns : List Int) (k : Nat) : runF (m + 1) 7 [(.F, .scr ns), (.F, .int (1 + (k : Int)))] = .ok (.F, .int (cellI ns (1 + k))) [(.F, .scr ns), (.F, .int (1 + (k : Int)))] := by
  have := cell_ok m ns (1 + k)
  rw [show (((1 + k : Nat) : Nat) : Int) = 1 + (k : Int) by omega] at this
  exact this
theorem len_max (row : List PySem.Str) (L : Nat) (h : row.length ≤ L + 1) (hL : L ≤ 1000) : row.length < SZ := by
  rw [SZ_eq]; omega
theorem at_str (row : List PySem.Str) (k : Nat) (p : PySem.Str) (h : row[k]? = some p) : L2.atI (row.map D.str) (k : Int) = some (.str p) := L2.atI_nat (by rw [List.getElem?_map, h]; rfl)
end LK20
namespace LK20
open PF
section
variable (m : Nat) (ns : List Int) (first : Int) (L i : Nat) (pr : Nat → Bool) (hpr : ∀ i, pr i = false) (x6 x7 x8 : Option TD) (a : Int) (ha : (if cellI ns (1 + i) < 0 then -cellI ns (1 + i) else cellI ns (1 + i)) = a)
def envL (ns : List Int) (first : Int) (L : Nat) (bs as : List D) (p : PySem.Str) (rs : List D) (at_ : Int) (x6 x7 x8 : Option TD) : PF.Env :=
  [some (.F, .scr ns), some (.F, .int first), some (.F, .int (L : Int)), some (past L bs (.str p) as), some (.L .F, .lst rs), some (.F, .int at_), x6, x7, x8]
include hpr ha
theorem step_back0 (as rs : List D) (p : PySem.Str) (h2 : ¬ a.fmod 4 < 2) (h3 : a.fmod 4 = 2) (hs : okS p) (h0 : L2.atI rs 0 = some (.str p)) (hl : (as.length : Int) = (rs.length : Int) - 1) :
    stepD (gN pr 6) (b8_l0 (runF (m + 1)) pr) (.int (i : Int)) (envL ns first L [] as p rs 0 x6 x7 x8) = .ok .nx (envL ns first L [] as p rs 0 (some (.F, .int i)) (some (.F, .int a)) (some (.F, .bl false))) := by
  have hd : dsh (.str p) = true := dsh_str hs
  simp [envL, b8_l0, hpr, cell1_ok, ha, h2, h3, back0_ok, present_ok, before_ok, after_ok, hd, h0, deq_str, hl]
theorem step_back1 (bs as rs : List D) (p t : PySem.Str) (h2 : ¬ a.fmod 4 < 2) (h3 : a.fmod 4 = 2) (hs : okS t) (h0 : L2.atI rs (bs.length : Int) = some (.str t)) (hl : (as.length : Int) + 1 = (rs.length : Int) - 1 - bs.length) (hz : as.length < SZ) :
    stepD (gN pr 6) (b8_l0 (runF (m + 1)) pr) (.int (i : Int)) (envL ns first L (bs ++ [.str t]) as p rs ((bs.length : Int) + 1) x6 x7 x8) = .ok .nx (envL ns first L bs (as ++ [.str p]) t rs (bs.length : Int) (some (.F, .int i)) (some (.F, .int a)) (some (.F, .bl true))) := by
  have hd : dsh (.str t) = true := dsh_str hs
  have e1 : 0 < (bs.length : Int) + 1 := by omega
  have e2 : (if 0 < bs.length then (bs.length : Int) else 0) = (bs.length : Int) := by split <;> omega
  have e3 : (bs.length : Int) + 1 - 1 = bs.length := by omega
  simp [envL, b8_l0, hpr, cell1_ok, ha, h2, h3, back1_ok, present_ok, before_ok, after_ok, hd, h0, deq_str, hl, hz, e1, e2, e3]
theorem step_forw0 (bs rs : List D) (p : PySem.Str) (h2 : ¬ a.fmod 4 < 2) (h3 : ¬ a.fmod 4 = 2) (hs : okS p) (h0 : L2.atI rs (bs.length : Int) = some (.str p)) (hl : (rs.length : Int) = (bs.length : Int) + 1) :
    stepD (gN pr 6) (b8_l0 (runF (m + 1)) pr) (.int (i : Int)) (envL ns first L bs [] p rs (bs.length : Int) x6 x7 x8) = .ok .nx (envL ns first L bs [] p rs (bs.length : Int) (some (.F, .int i)) (some (.F, .int a)) (some (.F, .bl false))) := by
  have hd : dsh (.str p) = true := dsh_str hs
  have e2 : (if (bs.length : Int) + 1 < (bs.length : Int) then (bs.length : Int) + 1 else (bs.length : Int)) = (bs.length : Int) := by split <;> omega
  have e3 : (bs.length : Int) + 1 - 1 - bs.length = 0 := by omega
  simp [envL, b8_l0, hpr, cell1_ok, ha, h2, h3, forw0_ok, present_ok, before_ok, after_ok, hd, h0, deq_str, hl, e2, e3]
theorem step_forw1 (bs as rs : List D) (p t : PySem.Str) (h2 : ¬ a.fmod 4 < 2) (h3 : ¬ a.fmod 4 = 2) (hs : okS t) (h0 : L2.atI rs ((bs.length : Int) + 1) = some (.str t)) (hl : (rs.length : Int) = (bs.length : Int) + 2 + as.length) (hz : bs.length < SZ) :
    stepD (gN pr 6) (b8_l0 (runF (m + 1)) pr) (.int (i : Int)) (envL ns first L bs (as ++ [.str t]) p rs (bs.length : Int) x6 x7 x8) = .ok .nx (envL ns first L (bs ++ [.str p]) as t rs ((bs.length : Int) + 1) (some (.F, .int i)) (some (.F, .int a)) (some (.F, .bl true))) := by
  have hd : dsh (.str t) = true := dsh_str hs
  have e1 : (bs.length : Int) + 1 < (bs.length : Int) + 2 + as.length := by omega
  have e2 : (if (bs.length : Int) + 1 < (bs.length : Int) + 2 + as.length - 1 then (bs.length : Int) + 1 else (bs.length : Int) + 2 + as.length - 1) = (bs.length : Int) + 1 := by split <;> omega
  have e3 : (bs.length : Int) + 2 + as.length - 1 - (bs.length + 1) = as.length := by omega
  simp [envL, b8_l0, hpr, cell1_ok, ha, h2, h3, forw1_ok, present_ok, before_ok, after_ok, hd, h0, deq_str, hl, hz, e1, e2, e3]
theorem step_add (bs as rs bs2 rs2 : List D) (p : PySem.Str) (at_ : Int) (h2 : a.fmod 4 < 2) (ha0 : 0 ≤ a) (hb : cutD (bs ++ [.str p]) (some (-(L : Int))) none = bs2) (hr : cutD (cutD rs none (some (at_ + 1)) ++ [.str (tOf a)]) (some (-(L : Int) - 1)) none = rs2)
    (hz : bs.length < SZ) (hz2 : (cutD rs none (some (at_ + 1))).length + 1 ≤ SZ) (h0 : L2.atI rs2 ((rs2.length : Int) - 1) = some (.str (tOf a))) (hl : (bs2.length : Int) = (rs2.length : Int) - 1) :
    stepD (gN pr 6) (b8_l0 (runF (m + 1)) pr) (.int (i : Int)) (envL ns first L bs as p rs at_ x6 x7 x8) = .ok .nx (envL ns first L bs2 [] (tOf a) rs2 ((rs2.length : Int) - 1) (some (.F, .int i)) (some (.F, .int a)) x8) := by
  obtain ⟨hs, hz3, hz4⟩ := tOf_ok a
  have hd : dsh (.str (tOf a)) = true := dsh_str hs
  have f1 : (a.fdiv 4).fmod 9 = a / 4 % 9 := by
    rw [Int.fdiv_eq_ediv_of_nonneg _ (by decide), Int.fmod_eq_emod_of_nonneg _ (by decide)]
  have e3 : (rs2.length : Int) - 1 - (rs2.length - 1) = 0 := by omega
  have e4 : divOk 4 = true := by decide
  have e5 : 1 ≤ SZ := by rw [SZ_eq]; decide
  simp only [tOf] at hz3 hr h0 hd ⊢
  simp [envL, b8_l0, hpr, cell1_ok, ha, h2, add_ok, present_ok, before_ok, after_ok, hd, h0, deq_str, hl, hz, hz2, hz3, hz4, f1, e3, e4, e5, hb, hr, catE]
end
end LK20
namespace LK20
open PF
def InvL (ns : List Int) (first : Int) (L : Nat) (ρ : PF.Env) : Prop := ∃ (bs as : List PySem.Str) (p : PySem.Str) (x6 x7 x8 : Option TD), (∀ s ∈ bs ++ [p] ++ as.reverse, okS s) ∧ bs.length + as.length ≤ L ∧
  ρ = envL ns first L (bs.map D.str) (as.map D.str) p ((bs ++ [p] ++ as.reverse).map D.str) (bs.length : Int) x6 x7 x8
theorem at_mid (bs r : List PySem.Str) (p : PySem.Str) : L2.atI ((bs ++ [p] ++ r).map D.str) (bs.length : Int) = some (.str p) := L2.atI_nat (by simp)
theorem inv_step (m : Nat) (ns : List Int) (first : Int) (L i : Nat) (h1 : 1 ≤ L) (h2 : L ≤ 1000) (pr : Nat → Bool) (hpr : ∀ i, pr i = false) (ρ : PF.Env) (h : InvL ns first L ρ) :
    ∃ ρ', stepD (gN pr 6) (b8_l0 (runF (m + 1)) pr) (.int (i : Int)) ρ = .ok .nx ρ' ∧ InvL ns first L ρ' := by
  obtain ⟨bs, as, p, x6, x7, x8, hok, hlen, rfl⟩ := h
  obtain ⟨a, ha⟩ : ∃ a, (if cellI ns (1 + i) < 0 then -cellI ns (1 + i) else cellI ns (1 + i)) = a := ⟨_, rfl⟩
  have ha0 : 0 ≤ a := by rw [← ha]; split <;> omega
  by_cases c1 : a.fmod 4 < 2
  · -- a new one
    have n1 : (bs ++ [p]).length = bs.length + 1 := by simp
    have hb : cutD (bs.map D.str ++ [.str p]) (some (-(L : Int))) none = ((bs ++ [p]).drop (bs.length + 1 - L)).map D.str := by
      rw [cut_neg _ _ h1, List.map_drop]
      simp
    have ht : cutD ((bs ++ [p] ++ as.reverse).map D.str) none (some ((bs.length : Int) + 1)) = (bs ++ [p]).map D.str := by
      have := cut_to ((bs ++ [p] ++ as.reverse).map D.str) (bs.length + 1)
      rw [show ((bs.length + 1 : Nat) : Int) = (bs.length : Int) + 1 by omega] at this
      rw [this, ← List.map_take]
      congr 1
      rw [← n1, List.take_left]
    have hr : cutD (cutD ((bs ++ [p] ++ as.reverse).map D.str) none (some ((bs.length : Int) + 1)) ++ [.str (tOf a)]) (some (-(L : Int) - 1)) none = (((bs ++ [p]).drop (bs.length + 1 - L)) ++ [tOf a]).map D.str := by
      rw [ht, show (-(L : Int) - 1) = -((L + 1 : Nat) : Int) by omega, cut_neg _ _ (by omega)]
      rw [show (bs ++ [p]).map D.str ++ [D.str (tOf a)] = ((bs ++ [p]) ++ [tOf a]).map D.str by simp, ← List.map_drop]
      congr 1
      rw [List.length_map, List.length_append, n1]
      rw [List.drop_append_of_le_length (by rw [n1]; simp)]
      congr 2
      simp
    have len2 : ((((bs ++ [p]).drop (bs.length + 1 - L)) ++ [tOf a]).map D.str).length = ((bs ++ [p]).drop (bs.length + 1 - L)).length + 1 := by simp
    have e0 : ((((((bs ++ [p]).drop (bs.length + 1 - L)) ++ [tOf a]).map D.str).length : Nat) : Int) - 1 = ((((bs ++ [p]).drop (bs.length + 1 - L)).length : Nat) : Int) := by rw [len2]; omega
    have st := step_add m ns first L i pr hpr x6 x7 x8 a ha (bs.map D.str) (as.map D.str) ((bs ++ [p] ++ as.reverse).map D.str) (((bs ++ [p]).drop (bs.length + 1 - L)).map D.str) ((((bs ++ [p]).drop (bs.length + 1 - L)) ++ [tOf a]).map D.str) p (bs.length : Int) c1 ha0 hb hr
      (by rw [PF.SZ_eq, List.length_map]; omega) (by rw [ht, PF.SZ_eq, List.length_map, n1]; omega)
      (by rw [e0]; exact L2.atI_nat (by simp)) (by rw [e0, List.length_map])
    refine ⟨_, st, (bs ++ [p]).drop (bs.length + 1 - L), [], tOf a, some (.F, .int i), some (.F, .int a), x8, ?_, ?_, ?_⟩
    · intro s hs
      simp only [List.reverse_nil, List.append_nil] at hs
      rcases List.mem_append.mp hs with z | z
      · exact hok s (List.mem_append_left _ (List.mem_of_mem_drop z))
      · rw [List.mem_singleton.mp z]; exact (tOf_ok a).1
    · rw [List.length_drop, n1]; simp; omega
    · rw [e0]; simp
  · by_cases c2 : a.fmod 4 = 2
    · rcases List.eq_nil_or_concat bs with rfl | ⟨bs', t, rfl⟩
      · have st := step_back0 m ns first L i pr hpr x6 x7 x8 a ha (as.map D.str) (([] ++ [p] ++ as.reverse).map D.str) p c1 c2 (hok p (by simp)) (at_mid [] _ p) (by simp)
        exact ⟨_, st, [], as, p, _, _, _, hok, hlen, rfl⟩
      · rw [List.concat_eq_append] at hok hlen ⊢
        have e1 : ((bs' ++ [t]) ++ [p] ++ as.reverse) = bs' ++ [t] ++ (as ++ [p]).reverse := by simp
        have st := step_back1 m ns first L i pr hpr x6 x7 x8 a ha (bs'.map D.str) (as.map D.str) (((bs' ++ [t]) ++ [p] ++ as.reverse).map D.str) p t c1 c2 (hok t (by simp)) (by rw [e1, List.length_map]; exact at_mid bs' _ t) (by simp; omega)
          (by rw [PF.SZ_eq, List.length_map]; simp at hlen; omega)
        have e2 : envL ns first L ((bs' ++ [t]).map D.str) (as.map D.str) p (((bs' ++ [t]) ++ [p] ++ as.reverse).map D.str) ((bs' ++ [t]).length : Int) x6 x7 x8 =
            envL ns first L (bs'.map D.str ++ [D.str t]) (as.map D.str) p (((bs' ++ [t]) ++ [p] ++ as.reverse).map D.str) (((bs'.map D.str).length : Int) + 1) x6 x7 x8 := by simp [envL]
        rw [e2]
        refine ⟨_, st, bs', as ++ [p], t, some (.F, .int i), some (.F, .int a), some (.F, .bl true), ?_, ?_, ?_⟩
        · rw [← e1]; exact hok
        · simp at hlen ⊢; omega
        · simp [envL]
    · rcases List.eq_nil_or_concat as with rfl | ⟨as', t, rfl⟩
      · have st := step_forw0 m ns first L i pr hpr x6 x7 x8 a ha (bs.map D.str) ((bs ++ [p] ++ ([] : List PySem.Str).reverse).map D.str) p c1 c2 (hok p (by simp)) (by rw [List.length_map]; exact at_mid bs _ p) (by simp)
        rw [List.length_map] at st
        exact ⟨_, st, bs, [], p, _, _, _, hok, hlen, rfl⟩
      · rw [List.concat_eq_append] at hok hlen ⊢
        have e1 : (bs ++ [p] ++ (as' ++ [t]).reverse) = (bs ++ [p]) ++ [t] ++ as'.reverse := by simp
        have st := step_forw1 m ns first L i pr hpr x6 x7 x8 a ha (bs.map D.str) (as'.map D.str) ((bs ++ [p] ++ (as' ++ [t]).reverse).map D.str) p t c1 c2 (hok t (by simp)) (by
            have := at_mid (bs ++ [p]) as'.reverse t
            rw [e1, List.length_map]
            rw [List.length_append] at this
            exact this) (by simp; omega) (by rw [PF.SZ_eq, List.length_map]; simp at hlen; omega)
        have e2 : envL ns first L (bs.map D.str) ((as' ++ [t]).map D.str) p ((bs ++ [p] ++ (as' ++ [t]).reverse).map D.str) (bs.length : Int) x6 x7 x8 =
            envL ns first L (bs.map D.str) (as'.map D.str ++ [D.str t]) p ((bs ++ [p] ++ (as' ++ [t]).reverse).map D.str) ((bs.map D.str).length : Int) x6 x7 x8 := by simp [envL]
        rw [e2]
        refine ⟨_, st, bs ++ [p], as', t, some (.F, .int i), some (.F, .int a), some (.F, .bl true), ?_, ?_, ?_⟩
        · rw [← e1]; exact hok
        · simp at hlen ⊢; omega
        · simp [envL]
theorem lim_ok (first : Int) (h : 0 ≤ first) : ∃ L : Nat, 1 ≤ L ∧ L ≤ 1000 ∧ L2.atI [D.int (1 + (first.fdiv 3).fmod 6), D.int (1 + (first.fdiv 3).fmod 60), D.int (1 + (first.fdiv 3).fmod 1000)] (first.fmod 3) = some (.int (L : Int)) := by
  have f3 : first.fmod 3 = first % 3 := Int.fmod_eq_emod_of_nonneg _ (by decide)
  have g : ∀ n : Int, 0 < n → n ≤ 1000 → ∃ L : Nat, 1 ≤ L ∧ L ≤ 1000 ∧ 1 + (first.fdiv 3).fmod n = (L : Int) := fun n h1 h2 => by
    rw [Int.fmod_eq_emod_of_nonneg _ (by omega)]
    have a1 := Int.emod_nonneg (first.fdiv 3) (b := n) (by omega)
    have a2 := Int.emod_lt_of_pos (first.fdiv 3) (b := n) h1
    exact ⟨(1 + first.fdiv 3 % n).toNat, by omega, by omega, by omega⟩
  have b1 := Int.emod_nonneg first (b := 3) (by decide)
  have b2 := Int.emod_lt_of_pos first (b := 3) (by decide)
  rw [f3]
  rcases (by omega : first % 3 = 0 ∨ first % 3 = 1 ∨ first % 3 = 2) with c | c | c
  · obtain ⟨L, h1, h2, h3⟩ := g 6 (by decide) (by decide)
    exact ⟨L, h1, h2, by rw [c, ← h3]; rfl⟩
  · obtain ⟨L, h1, h2, h3⟩ := g 60 (by decide) (by decide)
    exact ⟨L, h1, h2, by rw [c, ← h3]; rfl⟩
  · obtain ⟨L, h1, h2, h3⟩ := g 1000 (by decide) (by decide)
    exact ⟨L, h1, h2, by rw [c, ← h3]; rfl⟩
theorem plain : Law 2 := by
  intro ns hn
  obtain ⟨first, hf⟩ : ∃ f, (if cellI ns 0 < 0 then -cellI ns 0 else cellI ns 0) = f := ⟨_, rfl⟩
  have hf0 : 0 ≤ first := by rw [← hf]; split <;> omega
  obtain ⟨L, h1, h2, hL⟩ := lim_ok first hf0
  have c0 : runF 1 7 [(.F, .scr ns), (.F, .int 0)] = .ok (.F, .int (cellI ns 0)) [(.F, .scr ns), (.F, .int 0)] := cell_ok 0 ns 0
  have hz : 3 ≤ SZ := by rw [PF.SZ_eq]; decide
  have hz1 : 1 ≤ SZ := by rw [PF.SZ_eq]; decide
  have d3 : divOk 3 = true := by decide
  obtain ⟨v, hv⟩ : ∃ v : Int, (if (if (12 : Int) < (ns.length : Int) - 1 then (ns.length : Int) - 1 else 12) < 60 then (if (12 : Int) < (ns.length : Int) - 1 then (ns.length : Int) - 1 else 12) else 60) = v := ⟨_, rfl⟩
  have hv2 : small62 v = true := by
    unfold small62
    rw [← hv]
    refine decide_eq_true ?_
    split <;> split <;> omega
  have hp : ∀ i, prOf [(T.F, D.scr ns)] i = false := fun i => by
    match i with
    | 0 => rfl
    | n + 1 => rfl
  obtain ⟨ρ', e1, bs, as, p, x6, x7, x8, hok, hlen, e2⟩ := forD_inv (step := stepD (gN (prOf [(T.F, D.scr ns)]) 6) (b8_l0 (runF 1) (prOf [(T.F, D.scr ns)]))) (ds := rngD 0 v.toNat) (fun _ ρ => InvL ns first L ρ)
    (fun i d ρ hd hi => by
      unfold rngD at hd
      rw [List.getElem?_map] at hd
      obtain ⟨j, hj, rfl⟩ := Option.map_eq_some_iff.mp hd
      rw [show ((0 : Int) + (j : Int)) = (j : Int) by omega]
      exact inv_step 0 ns first L j h1 h2 _ hp ρ hi)
    (ρ := envL ns first L [] [] (PySem.Str.ofString "start") [.str (PySem.Str.ofString "start")] 0 none none none)
    ⟨[], [], PySem.Str.ofString "start", none, none, none, by simp [okS]; decide +kernel, by simp, rfl⟩
  subst e2
  simp only [envL] at e1
  have c1 := init_ok 0 (L : Int) (PySem.Str.ofString "start")
  refine ⟨.F, [(.F, .scr ns)], ?_, rfl⟩
  show runB 9 (b8 (runF 1)) _ = _
  simp only [Nat.zero_add] at c1
  revert c0 c1 e1
  generalize runF 1 = cf
  intro c0 e1 c1
  simp [b8, c0, hf, hL, hz, hz1, d3, c1, hv, hv2, hp, enter, e1, runB, fin, backs]
end LK20
theorem PySem.Challenge.cw_partloft_k20_pasts_holds : PySem.Challenge.rw_partloft_k20_pasts.Holds :=
  LK20.holds (m := 2) (by decide) LK20.plain
