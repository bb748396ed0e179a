import PyProof.Rows.All
import Wide.All
import OpenK.AllK
import Wide.FinOn
import HandS.ForMost
import HandS.ForExc
import HandS.HeadHook2
import HandS.Lambda
import KE.LtData
import KE.SortData
import HandS.ReplaceList
import HandS.TupAny
import HandS.TupLe
import HandS.Deep
import HandS.Zip
import HandS.IsInst
import HandS.Small
import KE.DataCmp
import HandS.RaiseMore
import HandS.More
import HandS.MakeKwOnly
import HandS.ExcInit
import HandS.ExcOwn
import HandS.ExcField
import KE.KExcIs
import HandS.HeadWalk
import HandS.Iter
import KE.GoesEnum
import HandS.DictComp
import HandS.Style
import HandS.TryMany
import HandS.Text
import HandS.Nested
import HandS.Star
import HandS.Dict
import HandS.HeadHook4
import HandS.Head3
import HandS.Codes
import KE.KStateDown
import HandS.ReplaceLit
import PySem.Challenge.RW_quietbanks_k85_lines_not_understood
set_option Elab.async false
set_option linter.all false
set_option maxRecDepth 100000
/-! R1: values without addresses (D), objects (O), results (Res), and how they lie in the hand layer's heap. -/
namespace Rf
open PySem PySem.Spec PyProof.Rows L2

/-- a value: texts by their codes, tuples by their items, objects by their numbers; cl: a list that never changes -/
inductive D where
  | non | bl (b : Bool) | int (i : Int) | str (cs : List Nat) | tup (xs : List D) | cl (xs : List D) | ref (n : Nat)

/-- an object: list, dict (keys ints and texts; keys tuples), instance of the class c, the law's pool -/
inductive O where
  | lst (xs : List D)
  | dk (kvs : List (D × D))
  | ins (c : Nat) (fs : List (Nat × D))
  | pool

abbrev GG := List O
abbrev LL := List (Option D)

/-- what an evaluation comes to -/
inductive Res (α : Type) where
  | ok (a : α) (G : GG)
  | exn (c : Nat) (fs : List (Nat × D)) (G : GG)
  | bad
  | ask (n : Nat) (k : Nat → Res α)

namespace Res
def bind {α β : Type} : Res α → (α → GG → Res β) → Res β
  | ok a G, f => f a G
  | exn c fs G, _ => exn c fs G
  | bad, _ => bad
  | ask n k, f => ask n fun i => (k i).bind f
def wp {α : Type} : Res α → (α → GG → Prop) → (Nat → List (Nat × D) → GG → Prop) → Prop
  | ok a G, P, _ => P a G
  | exn c fs G, _, E => E c fs G
  | bad, _, _ => False
  | ask n k, P, E => ∀ i, i < n → (k i).wp P E
/-- an exception is not foreseen -/
def noX {α : Type} : Res α → Res α
  | ok a G => ok a G
  | exn _ _ _ => bad
  | bad => bad
  | ask n k => ask n fun i => (k i).noX
theorem wp_noX {α : Type} {P : α → GG → Prop} {E E' : Nat → List (Nat × D) → GG → Prop} : ∀ {r : Res α}, r.noX.wp P E → r.wp P E'
  | ok _ _, h => h
  | exn _ _ _, h => h.elim
  | bad, h => h.elim
  | ask _ k, h => fun i hi => wp_noX (h i hi)
theorem wp_mono {α : Type} {P P' : α → GG → Prop} {E E' : Nat → List (Nat × D) → GG → Prop} (hP : ∀ a G, P a G → P' a G) (hE : ∀ c fs G, E c fs G → E' c fs G) : ∀ {r : Res α}, r.wp P E → r.wp P' E'
  | ok _ _, h => hP _ _ h
  | exn _ _ _, h => hE _ _ _ h
  | bad, h => h.elim
  | ask _ k, h => fun i hi => wp_mono hP hE (h i hi)
theorem wp_bind {α β : Type} {P : β → GG → Prop} {E : Nat → List (Nat × D) → GG → Prop} {f : α → GG → Res β} : ∀ {r : Res α}, (r.bind f).wp P E ↔ r.wp (fun a G => (f a G).wp P E) E
  | ok _ _ => Iff.rfl
  | exn _ _ _ => Iff.rfl
  | bad => Iff.rfl
  | ask n k => ⟨fun h i hi => wp_bind.mp (h i hi), fun h i hi => wp_bind.mpr (h i hi)⟩
end Res

/-! ### how values lie -/
/-- a list that never changes: known, or written -/
def SqC (K : PySem.W.Frag) (H : Hp) (a : Addr) (xs : List V) : Prop :=
  (∃ o, H a = some (.frz o (.lst xs))) ∨
    ∃ (o : Obj) (its : Array Value) (n : Nat), K.lookup a = some o ∧ o.cls = .type "list" ∧ o.dict = none ∧ o.data = .seq its n ∧ its.size ≤ sizeLine ∧ Vals xs its.toList
theorem SqC.sq {K : PySem.W.Frag} {H : Hp} {a : Addr} {xs : List V} (h : SqC K H a xs) : SqL K H a xs := by
  rcases h with h | h
  · exact .inl (.inr h)
  · exact .inr h

mutual
def DR (K : PySem.W.Frag) (H : Hp) (ι : List Addr) : D → V → Prop
  | .non, v => v = .non
  | .bl b, v => v = .bl b
  | .int i, v => v = .int i
  | .str cs, v => v = .str ⟨cs.toArray⟩
  | .tup ds, v => ∃ a vs, v = .ref a ∧ SqT K H a vs ∧ DRs K H ι ds vs
  | .cl ds, v => ∃ a vs, v = .ref a ∧ SqC K H a vs ∧ DRs K H ι ds vs
  | .ref n, v => ∃ a, ι[n]? = some a ∧ v = .ref a
def DRs (K : PySem.W.Frag) (H : Hp) (ι : List Addr) : List D → List V → Prop
  | [], [] => True
  | d :: ds, v :: vs => DR K H ι d v ∧ DRs K H ι ds vs
  | _, _ => False
end

/-- the program's names: classes and attributes by number -/
structure Nm where
  cls : List Str
  att : List Str
  /-- the defs' names in the module; a method's: the empty text -/
  fn : List Str
  gl : List Str
  dk : List Str
  /-- the keywords of the calls by keywords -/
  kw : List (List Str)
  /-- the makers' tables of code objects, with the names of the code objects -/
  tb : PySem.W.Frag → List (Addr × Str) := fun _ => []
  /-- the slots that hold a function object -/
  fix : List (Nat × Addr) := []
  /-- what the function object has captured: its maker's slots; its code object -/
  capL : List (Option D) := []
  capS : L2.St := []
  cod : List (Addr × Str) := []

def Nm.c (M : Nm) (i : Nat) : Str := M.cls.getD i Str.empty
def Nm.a (M : Nm) (i : Nat) : Str := M.att.getD i Str.empty
def Nm.f (M : Nm) (i : Nat) : Str := M.fn.getD i Str.empty
def Nm.g (M : Nm) (i : Nat) : Str := M.gl.getD i Str.empty
def Nm.d (M : Nm) (i : Nat) : Str := M.dk.getD i Str.empty

def FR (K : PySem.W.Frag) (M : Nm) (H : Hp) (ι : List Addr) : List (Nat × D) → List (Str × V) → Prop
  | [], [] => True
  | (n, d) :: r, (x, v) :: s => x = M.a n ∧ n < M.att.length ∧ DR K H ι d v ∧ FR K M H ι r s
  | _, _ => False

def KR (K : PySem.W.Frag) (H : Hp) (ι : List Addr) : List (D × D) → List (Key × V) → Prop
  | [], [] => True
  | (k, d) :: r, (x, v) :: s => DR K H ι k (kV x) ∧ DR K H ι d v ∧ KR K H ι r s
  | _, _ => False

def OR (K : PySem.W.Frag) (M : Nm) (H : Hp) (ι : List Addr) (a : Addr) : O → Prop
  | .lst ds => ∃ vs, H a = some (.lst vs) ∧ DRs K H ι ds vs
  | .dk kvs => ∃ xs, H a = some (.dK xs) ∧ KR K H ι kvs xs
  | .ins c fs => ∃ dx xs, H a = some (.ins (He.ga K (M.c c)) dx xs) ∧ FR K M H ι fs xs
  | .pool => ∃ p q r : Int, H a = some (.lst [.int p, .int q, .int r])

structure Rep (K : PySem.W.Frag) (M : Nm) (ι : List Addr) (G : GG) (H : Hp) : Prop where
  len : ι.length = G.length
  nd : ι.Nodup
  obj : ∀ (i : Nat) a o, ι[i]? = some a → G[i]? = some o → OR K M H ι a o
  tab : LamX.Tabs (M.tb K) H

/-- from one heap to a later one: the objects with numbers may change, new ones come, the tables of code objects grow; all else stays -/
def NT (H : Hp) (a : Addr) : Prop := ∀ o, H a = some o → ∃ ps, o = HO.tbl ps
theorem nt_none {H : Hp} {a : Addr} (h : H a = none) : NT H a := fun o e => by rw [h] at e; cases e
structure Ext (ι ι' : List Addr) (H H' : Hp) : Prop where
  pre : ∃ τ, ι' = ι ++ τ ∧ ∀ a ∈ τ, NT H a
  frame : ∀ a o, H a = some o → a ∉ ι → (∀ ps, o ≠ .tbl ps) → H' a = some o
  mono : ∀ a, NT H' a → NT H a

theorem Ext.refl (ι : List Addr) (H : Hp) : Ext ι ι H H := ⟨⟨[], by simp, by simp⟩, fun _ _ h _ _ => h, fun _ h => h⟩
theorem Ext.trans {ι1 ι2 ι3 : List Addr} {H1 H2 H3 : Hp} (a : Ext ι1 ι2 H1 H2) (b : Ext ι2 ι3 H2 H3) : Ext ι1 ι3 H1 H3 := by
  obtain ⟨τ, e1, f1⟩ := a.pre
  obtain ⟨υ, e2, f2⟩ := b.pre
  refine ⟨⟨τ ++ υ, by rw [e2, e1, List.append_assoc], fun x hx => ?_⟩, fun x o h n t => ?_, fun x h => a.mono x (b.mono x h)⟩
  · rcases List.mem_append.mp hx with hx | hx
    · exact f1 x hx
    · exact a.mono x (f2 x hx)
  · refine b.frame x o (a.frame x o h n t) (fun hm => ?_) t
    rw [e1] at hm
    rcases List.mem_append.mp hm with hm | hm
    · exact n hm
    · obtain ⟨ps, e⟩ := f1 x hm o h
      exact t ps e
theorem Ext.get {ι ι' : List Addr} {H H' : Hp} (x : Ext ι ι' H H') {n : Nat} {a : Addr} (h : ι[n]? = some a) : ι'[n]? = some a := by
  obtain ⟨τ, e, _⟩ := x.pre
  rw [e, List.getElem?_append_left (List.getElem?_eq_some_iff.mp h).1]
  exact h
theorem Ext.mem {ι ι' : List Addr} {H H' : Hp} (x : Ext ι ι' H H') {a : Addr} (h : a ∈ ι) : a ∈ ι' := by
  obtain ⟨τ, e, _⟩ := x.pre
  rw [e]; exact List.mem_append_left _ h
theorem Ext.notMem {ι ι' : List Addr} {H H' : Hp} (x : Ext ι ι' H H') {a : Addr} {o : HO} (h : H a = some o) (n : a ∉ ι) (t : ∀ ps, o ≠ .tbl ps := by intro _ z; cases z) : a ∉ ι' := by
  obtain ⟨τ, e, f⟩ := x.pre
  rw [e]; intro hm
  rcases List.mem_append.mp hm with hm | hm
  · exact n hm
  · obtain ⟨ps, e⟩ := f a hm o h
    exact t ps e

/-- what an object with a number may be -/
def mob : HO → Prop
  | .lst _ => True
  | .dK _ => True
  | .ins _ _ _ => True
  | _ => False
section
variable {K : PySem.W.Frag} {M : Nm} {ι ι' : List Addr} {G : GG} {H H' : Hp} {a p : Addr} {o : O}
theorem OR.mob (h : OR K M H ι a o) : ∃ ho, H a = some ho ∧ mob ho := by
  cases o with
  | lst ds => obtain ⟨vs, e, _⟩ := h; exact ⟨_, e, trivial⟩
  | dk kvs => obtain ⟨vs, e, _⟩ := h; exact ⟨_, e, trivial⟩
  | ins c fs => obtain ⟨dx, vs, e, _⟩ := h; exact ⟨_, e, trivial⟩
  | pool => obtain ⟨p, q, r, e⟩ := h; exact ⟨_, e, trivial⟩
theorem Rep.mob (R : Rep K M ι G H) (h : a ∈ ι) : ∃ ho, H a = some ho ∧ Rf.mob ho := by
  obtain ⟨i, hi, e⟩ := List.getElem_of_mem h
  have h1 : ι[i]? = some a := List.getElem?_eq_some_iff.mpr ⟨hi, e⟩
  have hg : i < G.length := by rw [← R.len]; exact hi
  exact (R.obj i a _ h1 (List.getElem?_eq_some_iff.mpr ⟨hg, rfl⟩)).mob
theorem Rep.not (R : Rep K M ι G H) {ho : HO} (h : H a = some ho) (n : ¬ Rf.mob ho) : a ∉ ι := fun hm => by
  obtain ⟨o, e, m⟩ := R.mob hm
  rw [h] at e; cases e; exact n m
theorem Rep.fresh (R : Rep K M ι G H) (h : H p = none) : p ∉ ι := fun hm => by
  obtain ⟨o, e, m⟩ := R.mob hm
  rw [h] at e; cases e
theorem sqT_ext (R : Rep K M ι G H) (x : Ext ι ι' H H') {vs : List V} (h : SqT K H a vs) : SqT K H' a vs := by
  rcases h with h | h
  · rcases h with h | ⟨o, h⟩
    · exact .inl (.inl (x.frame a _ h (R.not h fun z => z) (fun _ => nofun)))
    · exact .inl (.inr ⟨o, x.frame a _ h (R.not h fun z => z) (fun _ => nofun)⟩)
  · exact .inr h
theorem sqC_ext (R : Rep K M ι G H) (x : Ext ι ι' H H') {vs : List V} (h : SqC K H a vs) : SqC K H' a vs := by
  rcases h with ⟨o, h⟩ | h
  · exact .inl ⟨o, x.frame a _ h (R.not h fun z => z) (fun _ => nofun)⟩
  · exact .inr h
mutual
theorem DR.ext (R : Rep K M ι G H) (x : Ext ι ι' H H') : ∀ {d : D} {v : V}, DR K H ι d v → DR K H' ι' d v
  | .non, _, h => h
  | .bl _, _, h => h
  | .int _, _, h => h
  | .str _, _, h => h
  | .tup _, _, h => by
    obtain ⟨a, vs, e, s, r⟩ := h
    exact ⟨a, vs, e, sqT_ext R x s, DRs.ext R x r⟩
  | .cl _, _, h => by
    obtain ⟨a, vs, e, s, r⟩ := h
    exact ⟨a, vs, e, sqC_ext R x s, DRs.ext R x r⟩
  | .ref _, _, h => by
    obtain ⟨a, e, r⟩ := h
    exact ⟨a, x.get e, r⟩
theorem DRs.ext (R : Rep K M ι G H) (x : Ext ι ι' H H') : ∀ {ds : List D} {vs : List V}, DRs K H ι ds vs → DRs K H' ι' ds vs
  | [], [], _ => trivial
  | _ :: _, _ :: _, h => ⟨DR.ext R x h.1, DRs.ext R x h.2⟩
  | [], _ :: _, h => h.elim
  | _ :: _, [], h => h.elim
end
theorem FR.ext (R : Rep K M ι G H) (x : Ext ι ι' H H') : ∀ {ds : List (Nat × D)} {vs : List (Str × V)}, FR K M H ι ds vs → FR K M H' ι' ds vs
  | [], [], _ => trivial
  | (_, _) :: _, (_, _) :: _, h => ⟨h.1, h.2.1, h.2.2.1.ext R x, FR.ext R x h.2.2.2⟩
  | [], _ :: _, h => h.elim
  | (_, _) :: _, [], h => h.elim
theorem KR.ext (R : Rep K M ι G H) (x : Ext ι ι' H H') : ∀ {ds : List (D × D)} {vs : List (Key × V)}, KR K H ι ds vs → KR K H' ι' ds vs
  | [], [], _ => trivial
  | (_, _) :: _, (_, _) :: _, h => ⟨h.1.ext R x, h.2.1.ext R x, KR.ext R x h.2.2⟩
  | [], _ :: _, h => h.elim
  | (_, _) :: _, [], h => h.elim
/-- an object that stands as it stood is what it was -/
theorem OR.ext (R : Rep K M ι G H) (x : Ext ι ι' H H') (e : H' a = H a) (h : OR K M H ι a o) : OR K M H' ι' a o := by
  cases o with
  | lst ds => obtain ⟨vs, e1, r⟩ := h; exact ⟨vs, e.trans e1, r.ext R x⟩
  | dk kvs => obtain ⟨vs, e1, r⟩ := h; exact ⟨vs, e.trans e1, r.ext R x⟩
  | ins c fs => obtain ⟨dx, vs, e1, r⟩ := h; exact ⟨dx, vs, e.trans e1, r.ext R x⟩
  | pool => obtain ⟨p, q, r, e1⟩ := h; exact ⟨p, q, r, e.trans e1⟩

theorem Ext.new (ι : List Addr) {ho : HO} (hp : H p = none) : Ext ι ι H (upd H p ho) :=
  ⟨⟨[], by simp, by simp⟩, fun b o h _ _ => by rw [upd_ne (ne_of_none h hp)]; exact h, fun b h => by
    by_cases e : b = p
    · rw [e]; exact nt_none hp
    · unfold NT at h
      rw [upd_ne e] at h
      exact h⟩
theorem Ext.newN (ι : List Addr) {ho : HO} (hp : H p = none) : Ext ι (ι ++ [p]) H (upd H p ho) :=
  ⟨⟨[p], rfl, fun a ha => by rw [List.mem_singleton.mp ha]; exact nt_none hp⟩, (Ext.new ι hp).frame, (Ext.new ι hp).mono⟩
theorem Ext.set {ho : HO} (hp : p ∈ ι) (t : ∀ ps, ho ≠ .tbl ps := by intro _ z; cases z) : Ext ι ι H (upd H p ho) :=
  ⟨⟨[], by simp, by simp⟩, fun b o h n _ => by rw [upd_ne (fun z => n (by rw [z]; exact hp))]; exact h, fun b h => by
    by_cases e : b = p
    · subst e
      obtain ⟨ps, e2⟩ := h ho upd_same
      exact absurd e2 (t ps)
    · unfold NT at h
      rw [upd_ne e] at h
      exact h⟩
theorem OR.nt {ho : HO} (w : OR K M (upd H p ho) ι p o) : ∀ ps, ho ≠ .tbl ps := fun ps z => by
  obtain ⟨h2, e, m⟩ := w.mob
  rw [upd_same] at e
  cases e
  rw [z] at m
  exact m
theorem tabs_upd {T : List (Addr × Str)} {ho : HO} (t : LamX.Tabs T H) (hp : ∀ o, H p = some o → Rf.mob o) : LamX.Tabs T (upd H p ho) := fun x hx => by
  obtain ⟨ps, h1, h2, h3⟩ := t x hx
  have ne : ∀ {b : Addr} {o : HO}, H b = some o → ¬ Rf.mob o → b ≠ p := fun {b o} h n e => n (hp o (by rw [← e]; exact h))
  refine ⟨ps, by rw [upd_ne (ne h1 fun z => z)]; exact h1, h2, fun pos cv hc => ?_⟩
  obtain ⟨c, e1, e2⟩ := h3 pos cv hc
  exact ⟨c, e1, by rw [upd_ne (ne e2 fun z => z)]; exact e2⟩
theorem tabs_new {T : List (Addr × Str)} {ho : HO} (t : LamX.Tabs T H) (hp : H p = none) : LamX.Tabs T (upd H p ho) := tabs_upd t fun o h => by rw [hp] at h; cases h
/-- a new object that has no number (a tuple, an iterator's, a list under way) -/
theorem Rep.new (R : Rep K M ι G H) {ho : HO} (hp : H p = none) : Rep K M ι G (upd H p ho) :=
  ⟨R.len, R.nd, fun i b o h1 h2 => (R.obj i b o h1 h2).ext R (Ext.new ι hp) (upd_ne fun z => R.fresh hp (by rw [← z]; exact List.mem_of_getElem? h1)), tabs_new R.tab hp⟩
/-- a later heap in which the numbered objects stand -/
theorem Rep.later (R : Rep K M ι G H) (x : Ext ι ι H H') (h : ∀ a ∈ ι, H' a = H a) (tb : LamX.Tabs (M.tb K) H') : Rep K M ι G H' :=
  ⟨R.len, R.nd, fun i b o h1 h2 => (R.obj i b o h1 h2).ext R x (h b (List.mem_of_getElem? h1)), tb⟩
/-- a new object gets a number -/
theorem Rep.newN (R : Rep K M ι G H) {ho : HO} (hp : H p = none) (n : OR K M (upd H p ho) (ι ++ [p]) p o) : Rep K M (ι ++ [p]) (G ++ [o]) (upd H p ho) := by
  have np := R.fresh hp
  refine ⟨by simp [R.len], List.nodup_append.mpr ⟨R.nd, by simp, fun x hx y hy => ?_⟩, fun i b o' h1 h2 => ?_, tabs_new R.tab hp⟩
  · have e : y = p := by simpa using hy
    subst e
    intro z; subst z; exact np hx
  · by_cases hi : i < ι.length
    · rw [List.getElem?_append_left hi] at h1
      rw [List.getElem?_append_left (by rw [← R.len]; exact hi)] at h2
      refine (R.obj i b o' h1 h2).ext R (Ext.newN ι hp) (upd_ne fun z => np (by rw [← z]; exact List.mem_of_getElem? h1))
    · have e : i = ι.length := by
        have := (List.getElem?_eq_some_iff.mp h1).1
        simp at this; omega
      subst e
      rw [List.getElem?_append_right (Nat.le_refl _)] at h1
      rw [R.len, List.getElem?_append_right (Nat.le_refl _)] at h2
      simp at h1 h2
      subst h1 h2
      exact n
/-- an object with a number is written -/
theorem Rep.set (R : Rep K M ι G H) {ho : HO} {n : Nat} (hn : ι[n]? = some p) (w : OR K M (upd H p ho) ι p o) : Rep K M ι (G.set n o) (upd H p ho) := by
  have hm : p ∈ ι := List.mem_of_getElem? hn
  refine ⟨by simp [R.len], R.nd, fun i b o' h1 h2 => ?_, tabs_upd R.tab fun o h => by
    obtain ⟨o2, e, m⟩ := R.mob hm
    rw [h] at e; cases e; exact m⟩
  by_cases hi : i = n
  · subst hi
    rw [hn] at h1; cases h1
    rw [List.getElem?_set_self (by rw [← R.len]; exact (List.getElem?_eq_some_iff.mp hn).1)] at h2
    cases h2
    exact w
  · rw [List.getElem?_set_ne (Ne.symm hi)] at h2
    refine (R.obj i b o' h1 h2).ext R (Ext.set hm w.nt) (upd_ne fun z => ?_)
    subst z
    obtain ⟨l1, e1⟩ := List.getElem?_eq_some_iff.mp h1
    obtain ⟨l2, e2⟩ := List.getElem?_eq_some_iff.mp hn
    exact hi ((List.getElem_inj R.nd).mp (e1.trans e2.symm))
/-- the numbers beyond n are forgotten -/
theorem Rep.obj' (R : Rep K M ι G H) {n : Nat} {o : O} (h : G[n]? = some o) : ∃ a, ι[n]? = some a ∧ OR K M H ι a o := by
  have hl : n < ι.length := by rw [R.len]; exact (List.getElem?_eq_some_iff.mp h).1
  exact ⟨_, List.getElem?_eq_some_iff.mpr ⟨hl, rfl⟩, R.obj n _ o (List.getElem?_eq_some_iff.mpr ⟨hl, rfl⟩) h⟩
theorem DRs.length : ∀ {ds : List D} {vs : List V}, DRs K H ι ds vs → ds.length = vs.length
  | [], [], _ => rfl
  | _ :: _, _ :: _, h => congrArg Nat.succ (DRs.length h.2)
  | [], _ :: _, h => h.elim
  | _ :: _, [], h => h.elim
theorem DRs.get : ∀ {ds : List D} {vs : List V} {i : Nat} {d : D}, DRs K H ι ds vs → ds[i]? = some d → ∃ v, vs[i]? = some v ∧ DR K H ι d v
  | d :: _, v :: _, 0, _, h, e => by simp at e; subst e; exact ⟨v, rfl, h.1⟩
  | _ :: ds, _ :: vs, i + 1, d, h, e => by
    obtain ⟨v, h1, h2⟩ := DRs.get (i := i) (d := d) h.2 (by simpa using e)
    exact ⟨v, by simpa using h1, h2⟩
  | [], [], _, _, _, e => by simp at e
  | [], _ :: _, _, _, h, _ => h.elim
  | _ :: _, [], _, _, h, _ => h.elim
theorem DRs.getV : ∀ {ds : List D} {vs : List V} {i : Nat} {v : V}, DRs K H ι ds vs → vs[i]? = some v → ∃ d, ds[i]? = some d ∧ DR K H ι d v
  | d :: _, v :: _, 0, _, h, e => by simp at e; subst e; exact ⟨d, rfl, h.1⟩
  | _ :: ds, _ :: vs, i + 1, v, h, e => by
    obtain ⟨d, h1, h2⟩ := DRs.getV (i := i) (v := v) h.2 (by simpa using e)
    exact ⟨d, by simpa using h1, h2⟩
  | [], [], _, _, _, e => by simp at e
  | [], _ :: _, _, _, h, _ => h.elim
  | _ :: _, [], _, _, h, _ => h.elim
theorem DRs.append : ∀ {ds es : List D} {vs us : List V}, DRs K H ι ds vs → DRs K H ι es us → DRs K H ι (ds ++ es) (vs ++ us)
  | [], _, [], _, _, h => h
  | _ :: _, _, _ :: _, _, h, h2 => ⟨h.1, DRs.append h.2 h2⟩
  | [], _, _ :: _, _, h, _ => h.elim
  | _ :: _, _, [], _, h, _ => h.elim
theorem DRs.set : ∀ {ds : List D} {vs : List V} {d : D} {v : V} (i : Nat), DRs K H ι ds vs → DR K H ι d v → DRs K H ι (ds.set i d) (vs.set i v)
  | [], [], _, _, _, _, _ => trivial
  | _ :: _, _ :: _, _, _, 0, h, h2 => ⟨h2, h.2⟩
  | _ :: _, _ :: _, _, _, i + 1, h, h2 => ⟨h.1, DRs.set i h.2 h2⟩
  | [], _ :: _, _, _, _, h, _ => h.elim
  | _ :: _, [], _, _, _, h, _ => h.elim
end

/-! ### slots -/
def LR0 (K : PySem.W.Frag) (H : Hp) (ι : List Addr) : LL → L2.St → Prop
  | [], [] => True
  | none :: r, _ :: s => LR0 K H ι r s
  | some d :: r, w :: s => (∃ v, w = some v ∧ DR K H ι d v) ∧ LR0 K H ι r s
  | _, _ => False
section
variable {K : PySem.W.Frag} {M : Nm} {ι ι' : List Addr} {G : GG} {H H' : Hp}
theorem LR0.ext (R : Rep K M ι G H) (x : Ext ι ι' H H') : ∀ {L : LL} {σ : L2.St}, LR0 K H ι L σ → LR0 K H' ι' L σ
  | [], [], _ => trivial
  | none :: L, _ :: σ, h => LR0.ext R x (L := L) (σ := σ) h
  | some _ :: L, _ :: σ, h => ⟨h.1.imp fun _ q => ⟨q.1, q.2.ext R x⟩, LR0.ext R x (L := L) (σ := σ) h.2⟩
  | [], _ :: _, h => h.elim
  | none :: _, [], h => h.elim
  | some _ :: _, [], h => h.elim
theorem LR0.get : ∀ {L : LL} {σ : L2.St} {i : Nat} {d : D}, LR0 K H ι L σ → L[i]? = some (some d) → ∃ v, σ[i]? = some (some v) ∧ DR K H ι d v
  | some d :: _, _ :: _, 0, _, h, e => by
    obtain ⟨v, ew, r⟩ := h.1
    simp at e; subst e; subst ew
    exact ⟨v, rfl, r⟩
  | none :: _, _ :: _, 0, _, h, e => by simp at e
  | none :: L, _ :: σ, i + 1, d, h, e => by
    obtain ⟨v, h1, h2⟩ := LR0.get (L := L) (σ := σ) (i := i) (d := d) h (by simpa using e)
    exact ⟨v, by simpa using h1, h2⟩
  | some _ :: L, _ :: σ, i + 1, d, h, e => by
    obtain ⟨v, h1, h2⟩ := LR0.get (L := L) (σ := σ) (i := i) (d := d) h.2 (by simpa using e)
    exact ⟨v, by simpa using h1, h2⟩
  | [], [], _, _, _, e => by simp at e
  | [], _ :: _, _, _, h, _ => h.elim
  | none :: _, [], _, _, h, _ => h.elim
  | some _ :: _, [], _, _, h, _ => h.elim
theorem LR0.length : ∀ {L : LL} {σ : L2.St}, LR0 K H ι L σ → L.length = σ.length
  | [], [], _ => rfl
  | none :: L, _ :: σ, h => congrArg Nat.succ (LR0.length (L := L) (σ := σ) h)
  | some _ :: L, _ :: σ, h => congrArg Nat.succ (LR0.length (L := L) (σ := σ) h.2)
  | [], _ :: _, h => h.elim
  | none :: _, [], h => h.elim
  | some _ :: _, [], h => h.elim
theorem LR0.set : ∀ {L : LL} {σ : L2.St} {d : D} {v : V} (i : Nat), LR0 K H ι L σ → DR K H ι d v → LR0 K H ι (L.set i (some d)) (σ.set i (some v))
  | [], [], _, _, _, _, _ => trivial
  | none :: L, _ :: σ, _, v, 0, h, r => ⟨⟨v, rfl, r⟩, h⟩
  | some _ :: L, _ :: σ, _, v, 0, h, r => ⟨⟨v, rfl, r⟩, h.2⟩
  | none :: L, _ :: σ, d, v, i + 1, h, r => LR0.set (L := L) (σ := σ) (d := d) (v := v) i h r
  | some _ :: L, _ :: σ, d, v, i + 1, h, r => ⟨h.1, LR0.set (L := L) (σ := σ) (d := d) (v := v) i h.2 r⟩
  | [], _ :: _, _, _, _, h, _ => h.elim
  | none :: _, [], _, _, _, h, _ => h.elim
  | some _ :: _, [], _, _, _, h, _ => h.elim
theorem LR0.unset : ∀ {L : LL} {σ : L2.St} {w : Option V} (i : Nat), LR0 K H ι L σ → LR0 K H ι (L.set i none) (σ.set i w)
  | [], [], _, _, _ => trivial
  | none :: L, _ :: σ, _, 0, h => h
  | some _ :: L, _ :: σ, _, 0, h => h.2
  | none :: L, _ :: σ, w, i + 1, h => LR0.unset (L := L) (σ := σ) (w := w) i h
  | some _ :: L, _ :: σ, w, i + 1, h => ⟨h.1, LR0.unset (L := L) (σ := σ) (w := w) i h.2⟩
  | [], _ :: _, _, _, h => h.elim
  | none :: _, [], _, _, h => h.elim
  | some _ :: _, [], _, _, h => h.elim
def wipeL (L : LL) : List Nat → LL
  | [] => L
  | v :: vs => (wipeL L vs).set v none
theorem LR0.wipe {L : LL} {σ : L2.St} (h : LR0 K H ι L σ) : ∀ vs : List Nat, LR0 K H ι (wipeL L vs) (wipe σ vs)
  | [] => h
  | v :: vs => (LR0.wipe h vs).unset v
theorem LR0.start {ds : List D} {vs : List V} (h : DRs K H ι ds vs) (k : Nat) : LR0 K H ι (ds.map some ++ List.replicate k none) (vs.map some ++ List.replicate k none) := by
  have base : ∀ k, LR0 K H ι (List.replicate k none) (List.replicate k none) := fun k => by
    induction k with
    | zero => trivial
    | succ k ih => exact ih
  have : ∀ {ds : List D} {vs : List V}, DRs K H ι ds vs → LR0 K H ι (ds.map some ++ List.replicate k none) (vs.map some ++ List.replicate k none) := by
    intro ds
    induction ds with
    | nil =>
      intro vs h
      cases vs with
      | nil => exact base k
      | cons _ _ => exact h.elim
    | cons d ds ih =>
      intro vs h
      cases vs with
      | nil => exact h.elim
      | cons v vs => exact ⟨⟨v, rfl, h.1⟩, ih h.2⟩
  exact this h

/-- the slots that hold a function object hold it -/
def fixB (M : Nm) (σ : L2.St) : Prop := ∀ p ∈ M.fix, σ[p.1]? = some (some (V.ref p.2))
/-- what a function object has captured stands -/
def capB (K : PySem.W.Frag) (M : Nm) (H : Hp) (ι : List Addr) : Prop := LR0 K H ι M.capL M.capS ∧ ∀ p ∈ M.cod, H p.1 = some (LamX.CodeO p.1 p.2)
theorem capB.ext (R : Rep K M ι G H) (x : Ext ι ι' H H') (h : capB K M H ι) : capB K M H' ι' := ⟨h.1.ext R x, fun p hp => x.frame p.1 _ (h.2 p hp) (R.not (h.2 p hp) fun z => z) (fun _ z => LamX.codeO_ne _ z)⟩
structure LR (K : PySem.W.Frag) (M : Nm) (H : Hp) (ι : List Addr) (L : LL) (σ : L2.St) : Prop where
  lr : LR0 K H ι L σ
  fx : fixB M σ
  cp : capB K M H ι
theorem LR.ext (R : Rep K M ι G H) (x : Ext ι ι' H H') {L : LL} {σ : L2.St} (h : LR K M H ι L σ) : LR K M H' ι' L σ := ⟨h.lr.ext R x, h.fx, h.cp.ext R x⟩
theorem LR.get {L : LL} {σ : L2.St} {i : Nat} {d : D} (h : LR K M H ι L σ) (e : L[i]? = some (some d)) : ∃ v, σ[i]? = some (some v) ∧ DR K H ι d v := h.lr.get e
theorem LR.set {L : LL} {σ : L2.St} {d : D} {v : V} (i : Nat) (h : LR K M H ι L σ) (r : DR K H ι d v) (nf : ∀ p ∈ M.fix, p.1 ≠ i) : LR K M H ι (L.set i (some d)) (σ.set i (some v)) :=
  ⟨h.lr.set i r, fun p hp => by rw [List.getElem?_set_ne (Ne.symm (nf p hp))]; exact h.fx p hp, h.cp⟩
theorem wipe_ne {σ : L2.St} {i : Nat} : ∀ {vs : List Nat}, i ∉ vs → (wipe σ vs)[i]? = σ[i]?
  | [], _ => rfl
  | v :: vs, h => by
    show ((wipe σ vs).set v none)[i]? = _
    rw [List.getElem?_set_ne (fun e => h (by rw [e]; exact List.mem_cons_self ..)), wipe_ne fun z => h (List.mem_cons_of_mem _ z)]
theorem LR.wipe {L : LL} {σ : L2.St} (h : LR K M H ι L σ) (vs : List Nat) (nf : ∀ p ∈ M.fix, p.1 ∉ vs) : LR K M H ι (wipeL L vs) (wipe σ vs) :=
  ⟨h.lr.wipe vs, fun p hp => by rw [wipe_ne (nf p hp)]; exact h.fx p hp, h.cp⟩
end
end Rf


set_option Elab.async false
set_option linter.all false
set_option maxRecDepth 100000
/-! R2: the small syntax, and what it comes to. -/
namespace Rf
open PySem PySem.Spec PyProof.Rows L2

inductive Bop where | add | sub | mul | mod | fdiv | pow | shl | shr | bor | bxor | band
inductive Cop where | eq | ne | lt | le | gt | ge | is | isnot | inn | notin
inductive Uop where | neg | inv
/-- built-in functions called by name -/
inductive Bf where | len | tuple | list | sorted | min | max | sum | any | all | int | abs | divmod | repr | str
/-- methods of built-in types -/
inductive Bm where | append | extend | pop | get | split | join | upper | replace | bitlen
inductive Ty where | int | bool | str | tuple | list | cls (c : Nat)
/-- targets of names -/
inductive TN where | nm (i : Nat) | tup (is : List Nat)

mutual
inductive PX where
  | var (i : Nat)
  | lit (d : D)
  | glob (g : Nat)
  | bin (o : Bop) (a b : PX)
  | un (o : Uop) (a : PX)
  | not (a : PX)
  | and (a b : PX)
  | or (a b : PX)
  | cmp (o : Cop) (a b : PX)
  | chain (o p : Cop) (a b c : PX)
  | ite (c a b : PX)
  | tup (es : PXs)
  | lst (es : PXs)
  | idx (a b : PX)
  | sl (a lo hi : PX)
  | nopart
  | attr (a : PX) (f : Nat)
  | call (f : Nat) (es : PXs)
  | calll (f : Nat) (es : PXs) (lam : Nat)
  | mk (c : Nat) (es : PXs)
  | meth (a : PX) (m : Nat) (es : PXs)
  | cloc (i : Nat) (es : PXs)
  /-- calls by keywords alone (e: the entry of kws) -/
  | callk (e : Nat) (es : PXs)
  | mkk (c : Nat) (e : Nat) (es : PXs)
  | methk (a : PX) (m : Nat) (e : Nat) (es : PXs)
  | blt (b : Bf) (es : PXs)
  | bmeth (b : Bm) (a : PX) (es : PXs)
  | isa (a : PX) (t : Ty)
  | exattr (f : Nat)
  | exisa (c : Nat)
  | lc (elt : PX) (vs : List Nat) (t : TN) (it : IT) (cond : PX)
  | yes
  | dnew
  | dknown (g : Nat) (a : PX)
  | dkget (g : Nat) (a : PX)
  | dcomp (k v : PX) (vs : List Nat) (t : TN) (it : IT)
  | stars (a : PX) (es : PXs)
inductive PXs where
  | nil
  | cons (e : PX) (r : PXs)
inductive IT where
  | seq (a : PX)
  | rng1 (a : PX)
  | rng2 (a b : PX)
  | enum (a : PX)
  | zip (a b : PX)
  | comb (a b : PX)
end

inductive T1 where
  | nm (i : Nat)
  | attr (a : PX) (f : Nat)
  | idx (a b : PX)
inductive TG where
  | one (t : T1)
  | tup (ts : List T1)

mutual
inductive PS where
  | expr (e : PX)
  | ret (e : PX)
  | retn
  | asg (t : TG) (e : PX)
  | aug (a b : PX) (o : Bop) (e : PX)
  | ite (c : PX) (a b : PSs)
  | for (t : TN) (it : IT) (b : PSs)
  /-- .. behind each turn the slots w are forgotten, and what is new, if nobody holds it -/
  | forw (w : List Nat) (t : TN) (it : IT) (b : PSs)
  | while (c : PX) (b : PSs)
  | raise (c : Nat) (es : PXs)
  | try1 (isret : Bool) (e : PX) (hs : List (Nat × Option Nat × PX))
  | pass
  | brk
inductive PSs where
  | nil
  | cons (s : PS) (r : PSs)
end

/-- a def: how many parameters, how many slots, the defaults of the last ones, the body -/
structure DefR where
  par : Nat
  slots : Nat
  dfl : List D
  body : PSs
/-- a lambda: its parameters; its body, whose slots are the parameters, then the maker's slots -/
structure LamR where
  par : Nat
  body : PX
structure ClsR where
  /-- methods: attribute, def -/
  ms : List (Nat × Nat)
  init : Option Nat
  eqm : Option Nat
  /-- base classes of the program, itself first (exceptions) -/
  up : List Nat
  /-- an exception's fields (parameters of its __init__ in order), none for no exception -/
  exc : Option (List Nat)
  /-- an instance's fields -/
  fld : List Nat
  /-- an exception's own __init__ -/
  xinit : Option Nat
/-- a call by keywords: the def, how many values stand ahead (self), where each parameter's value stands among the keywords -/
structure KwR where
  f : Nat
  ahead : Nat
  perm : List Nat
  n : Nat
structure Prg where
  defs : List (Option DefR)
  lams : List LamR
  cls : List ClsR
  globs : List D
  dks : List (List (List Nat × D))
  kws : List KwR
  draw : Nat
  pool : Nat

/-- who is called: a def; a def, a lambda its last argument; a lambda with what it captured -/
inductive CF where
  | fn (f : Nat)
  | fnl (f : Nat) (lam : Nat) (L : List (Option D))
  | clo (lam : Nat) (L : List (Option D))
abbrev CallT := CF → List D → GG → Res D

/-! ### equality of values, letter by letter -/
mutual
def D.beq : D → D → Bool
  | .non, .non => true
  | .bl a, .bl b => a == b
  | .int a, .int b => decide (a = b)
  | .str a, .str b => a == b
  | .tup a, .tup b => D.beqs a b
  | .cl a, .cl b => D.beqs a b
  | .ref a, .ref b => a == b
  | _, _ => false
def D.beqs : List D → List D → Bool
  | [], [] => true
  | a :: r, b :: s => D.beq a b && D.beqs r s
  | _, _ => false
end
mutual
theorem D.beq_ok : ∀ {a b : D}, D.beq a b = true → a = b
  | .non, .non, _ => rfl
  | .bl a, .bl b, h => by rw [show a = b from by simpa [D.beq] using h]
  | .int a, .int b, h => by rw [show a = b from by simpa [D.beq] using h]
  | .str a, .str b, h => by rw [show a = b from by simpa [D.beq] using h]
  | .tup a, .tup b, h => by rw [D.beqs_ok (show D.beqs a b = true from h)]
  | .cl a, .cl b, h => by rw [D.beqs_ok (show D.beqs a b = true from h)]
  | .ref a, .ref b, h => by rw [show a = b from by simpa [D.beq] using h]
  | .non, .bl _, h | .non, .int _, h | .non, .str _, h | .non, .tup _, h | .non, .cl _, h | .non, .ref _, h => by simp [D.beq] at h
  | .bl _, .non, h | .bl _, .int _, h | .bl _, .str _, h | .bl _, .tup _, h | .bl _, .cl _, h | .bl _, .ref _, h => by simp [D.beq] at h
  | .int _, .non, h | .int _, .bl _, h | .int _, .str _, h | .int _, .tup _, h | .int _, .cl _, h | .int _, .ref _, h => by simp [D.beq] at h
  | .str _, .non, h | .str _, .bl _, h | .str _, .int _, h | .str _, .tup _, h | .str _, .cl _, h | .str _, .ref _, h => by simp [D.beq] at h
  | .tup _, .non, h | .tup _, .bl _, h | .tup _, .int _, h | .tup _, .str _, h | .tup _, .cl _, h | .tup _, .ref _, h => by simp [D.beq] at h
  | .cl _, .non, h | .cl _, .bl _, h | .cl _, .int _, h | .cl _, .str _, h | .cl _, .tup _, h | .cl _, .ref _, h => by simp [D.beq] at h
  | .ref _, .non, h | .ref _, .bl _, h | .ref _, .int _, h | .ref _, .str _, h | .ref _, .tup _, h | .ref _, .cl _, h => by simp [D.beq] at h
theorem D.beqs_ok : ∀ {a b : List D}, D.beqs a b = true → a = b
  | [], [], _ => rfl
  | a :: r, b :: s, h => by
    have h' : D.beq a b = true ∧ D.beqs r s = true := by simpa [D.beqs] using h
    rw [D.beq_ok h'.1, D.beqs_ok h'.2]
  | [], _ :: _, h => by simp [D.beqs] at h
  | _ :: _, [], h => by simp [D.beqs] at h
end
mutual
theorem D.beq_self : ∀ (a : D), D.beq a a = true
  | .non => rfl
  | .bl a => by simp [D.beq]
  | .int a => by simp [D.beq]
  | .str a => by simp [D.beq]
  | .tup a => D.beqs_self a
  | .cl a => D.beqs_self a
  | .ref a => by simp [D.beq]
theorem D.beqs_self : ∀ (a : List D), D.beqs a a = true
  | [] => rfl
  | a :: r => by simp [D.beqs, D.beq_self a, D.beqs_self r]
end
def beqPs : List (D × D) → List (D × D) → Bool
  | [], [] => true
  | (a, b) :: r, (c, d) :: s => D.beq a c && D.beq b d && beqPs r s
  | _, _ => false
def beqFs : List (Nat × D) → List (Nat × D) → Bool
  | [], [] => true
  | (a, b) :: r, (c, d) :: s => a == c && D.beq b d && beqFs r s
  | _, _ => false
def O.beq : O → O → Bool
  | .lst a, .lst b => D.beqs a b
  | .dk a, .dk b => beqPs a b
  | .ins c a, .ins d b => c == d && beqFs a b
  | .pool, .pool => true
  | _, _ => false
/-- G stands at the head of G' -/
def headB : GG → GG → Bool
  | [], _ => true
  | a :: r, b :: s => O.beq a b && headB r s
  | _ :: _, [] => false
theorem beqPs_ok : ∀ {a b : List (D × D)}, beqPs a b = true → a = b
  | [], [], _ => rfl
  | (a, b) :: r, (c, d) :: s, h => by
    have h' : (D.beq a c = true ∧ D.beq b d = true) ∧ beqPs r s = true := by simpa [beqPs] using h
    rw [D.beq_ok h'.1.1, D.beq_ok h'.1.2, beqPs_ok h'.2]
  | [], _ :: _, h => by simp [beqPs] at h
  | _ :: _, [], h => by simp [beqPs] at h
theorem beqFs_ok : ∀ {a b : List (Nat × D)}, beqFs a b = true → a = b
  | [], [], _ => rfl
  | (a, b) :: r, (c, d) :: s, h => by
    have h' : (a = c ∧ D.beq b d = true) ∧ beqFs r s = true := by simpa [beqFs] using h
    rw [h'.1.1, D.beq_ok h'.1.2, beqFs_ok h'.2]
  | [], _ :: _, h => by simp [beqFs] at h
  | _ :: _, [], h => by simp [beqFs] at h
theorem beqPs_self : ∀ (a : List (D × D)), beqPs a a = true
  | [] => rfl
  | (a, b) :: r => by simp [beqPs, D.beq_self, beqPs_self r]
theorem beqFs_self : ∀ (a : List (Nat × D)), beqFs a a = true
  | [] => rfl
  | (a, b) :: r => by simp [beqFs, D.beq_self, beqFs_self r]
theorem O.beq_ok {a b : O} (h : O.beq a b = true) : a = b := by
  cases a with
  | lst a => cases b with
    | lst b => rw [D.beqs_ok (show D.beqs a b = true from h)]
    | _ => cases h
  | dk a => cases b with
    | dk b => rw [beqPs_ok (show beqPs a b = true from h)]
    | _ => cases h
  | ins c a => cases b with
    | ins d b =>
      have h' : c = d ∧ beqFs a b = true := by simpa [O.beq] using h
      rw [h'.1, beqFs_ok h'.2]
    | _ => cases h
  | pool => cases b with
    | pool => rfl
    | _ => cases h
theorem O.beq_self (a : O) : O.beq a a = true := by
  cases a <;> simp [O.beq, D.beqs_self, beqPs_self, beqFs_self]
theorem headB_ok : ∀ {G G' : GG}, headB G G' = true → ∃ τ, G' = G ++ τ
  | [], G', _ => ⟨G', rfl⟩
  | a :: r, b :: s, h => by
    have h' : O.beq a b = true ∧ headB r s = true := by simpa [headB] using h
    obtain ⟨τ, e⟩ := headB_ok h'.2
    exact ⟨τ, by rw [O.beq_ok h'.1, e, List.cons_append]⟩
  | _ :: _, [], h => by simp [headB] at h
theorem headB_app : ∀ (G τ : GG), headB G (G ++ τ) = true
  | [], _ => rfl
  | a :: r, τ => by simp [headB, O.beq_self, headB_app r τ]

/-! ### values without late objects -/
mutual
def D.low (n : Nat) : D → Bool
  | .tup xs => D.lows n xs
  | .cl xs => D.lows n xs
  | .ref k => decide (k < n)
  | _ => true
def D.lows (n : Nat) : List D → Bool
  | [] => true
  | d :: r => D.low n d && D.lows n r
end
def fsLow (n : Nat) : List (Nat × D) → Bool
  | [] => true
  | (_, d) :: r => D.low n d && fsLow n r
/-- behind a call: what it made and nobody holds is forgotten -/
def trim (G : GG) : Res D → Res D
  | .ok d G' => if D.low G.length d && headB G G' then .ok d G else .ok d G'
  | .exn c fs G' => if fsLow G.length fs && headB G G' then .exn c fs G else .exn c fs G'
  | .bad => .bad
  | .ask n k => .ask n fun i => trim G (k i)

def lowLL (n : Nat) : LL → Bool
  | [] => true
  | none :: r => lowLL n r
  | some d :: r => D.low n d && lowLL n r
def kvLow (n : Nat) : List (D × D) → Bool
  | [] => true
  | (k, v) :: r => D.low n k && (D.low n v && kvLow n r)
def lowO (n : Nat) : O → Bool
  | .lst ds => D.lows n ds
  | .dk kvs => kvLow n kvs
  | .ins _ fs => fsLow n fs
  | .pool => true
def trimL (w : List Nat) (n : Nat) (L : LL) (G : GG) : LL × GG := if lowLL n (wipeL L w) && (G.take n).all (lowO n) then (wipeL L w, G.take n) else (L, G)

/-! ### objects by number -/
def getL (G : GG) (n : Nat) : Option (List D) := match G[n]? with
  | some (.lst ds) => some ds
  | _ => none
def getK (G : GG) (n : Nat) : Option (List (D × D)) := match G[n]? with
  | some (.dk ds) => some ds
  | _ => none
def getI (G : GG) (n : Nat) : Option (Nat × List (Nat × D)) := match G[n]? with
  | some (.ins c fs) => some (c, fs)
  | _ => none
def isPool (G : GG) (n : Nat) : Bool := match G[n]? with
  | some .pool => true
  | _ => false
theorem getL_ok {G : GG} {n : Nat} {ds : List D} (h : getL G n = some ds) : G[n]? = some (.lst ds) := by
  unfold getL at h
  split at h
  · rename_i e; rw [e]; cases h; rfl
  · cases h
theorem getK_ok {G : GG} {n : Nat} {ds : List (D × D)} (h : getK G n = some ds) : G[n]? = some (.dk ds) := by
  unfold getK at h
  split at h
  · rename_i e; rw [e]; cases h; rfl
  · cases h
theorem getI_ok {G : GG} {n c : Nat} {fs : List (Nat × D)} (h : getI G n = some (c, fs)) : G[n]? = some (.ins c fs) := by
  unfold getI at h
  split at h
  · rename_i e; rw [e]; cases h; rfl
  · cases h
theorem isPool_ok {G : GG} {n : Nat} (h : isPool G n = true) : G[n]? = some .pool := by
  unfold isPool at h
  split at h
  · rename_i e; exact e
  · cases h

/-! ### data -/
def toPyL (f : D → Option PyData) : List D → Option (List PyData)
  | [] => some []
  | d :: ds => match f d, toPyL f ds with
    | some a, some b => some (a :: b)
    | _, _ => none
def toPy (G : GG) : Nat → D → Option PyData
  | 0, _ => none
  | n + 1, d => match d with
    | .non => some .none
    | .bl b => some (.bool b)
    | .int i => some (.int i)
    | .str cs => if PyData.strOk ⟨cs.toArray⟩ then some (.str ⟨cs.toArray⟩) else none
    | .tup ds => (toPyL (toPy G n) ds).map .tuple
    | .cl ds => (toPyL (toPy G n) ds).map .list
    | .ref k => match getL G k with
      | some ds => (toPyL (toPy G n) ds).map .list
      | none => none
def pyD (G : GG) (d : D) : Option PyData := toPy G 8 d
def seqOf (G : GG) : D → Option (List D)
  | .tup ds => some ds
  | .cl ds => some ds
  | .ref k => getL G k
  | _ => none
def lstOf (G : GG) : D → Option (List D)
  | .cl ds => some ds
  | .ref k => getL G k
  | _ => none
def boolsOf : List D → Option (List Bool)
  | [] => some []
  | .bl b :: r => (boolsOf r).map (b :: ·)
  | _ => none
def intsOf : List D → Option (List Int)
  | [] => some []
  | .int i :: r => (intsOf r).map (i :: ·)
  | _ => none
def strsOf : List D → Option (List (List Nat))
  | [] => some []
  | .str i :: r => (strsOf r).map (i :: ·)
  | _ => none

def ofO (o : Option D) (G : GG) : Res D := match o with
  | some d => .ok d G
  | none => .bad
def ofB (o : Option Bool) (G : GG) : Res D := match o with
  | some b => .ok (.bl b) G
  | none => .bad
def small : Nat := 1000000

def wide64 (i : Int) : Bool := decide (-(2 ^ 64) < i) && decide (i < 2 ^ 64)
def binF (o : Bop) (x y : D) (G : GG) : Res D := match o, x, y with
  | .add, .int i, .int j => .ok (.int (i + j)) G
  | .sub, .int i, .int j => .ok (.int (i - j)) G
  | .mul, .int i, .int j => if wide64 i || wide64 j then .ok (.int (i * j)) G else .bad
  | .mod, .int i, .int j => if 0 < j then .ok (.int (i % j)) G else .bad
  | .fdiv, .int i, .int j => if 0 < j && decide (j < 1073741824) then .ok (.int (i / j)) G else .bad
  | .pow, .int i, .int j => if decide (0 ≤ j) && decide (j ≤ 1000) && wide64 i then .ok (.int (i ^ j.toNat)) G else .bad
  | .shl, .int i, .int j => if decide (0 ≤ j) && decide (j ≤ 1000) && wide64 i then .ok (.int (i * 2 ^ j.toNat)) G else .bad
  | .shr, .int i, .int j => if 0 ≤ j then .ok (.int (i / 2 ^ j.toNat)) G else .bad
  | .band, .int i, .int j => .ok (.int (Builtin.bitAnd i j)) G
  | .bor, .int i, .int j => .ok (.int (Builtin.bitOr i j)) G
  | .bxor, .int i, .int j => .ok (.int (Builtin.bitXor i j)) G
  | .add, .str a, .str b => if decide (a.length + b.length ≤ small) then .ok (.str (a ++ b)) G else .bad
  | .add, .tup a, .tup b => if decide (a.length + b.length ≤ small) then .ok (.tup (a ++ b)) G else .bad
  | .add, .ref a, .ref b => match getL G a, getL G b with
    | some xs, some ys => if decide (xs.length + ys.length ≤ small) then .ok (.ref G.length) (G ++ [.lst (xs ++ ys)]) else .bad
    | _, _ => .bad
  | .mul, .ref a, .int k => match getL G a with
    | some xs => if decide (0 ≤ k) && decide (k ≤ small) && decide (xs.length * k.toNat ≤ small) then .ok (.ref G.length) (G ++ [.lst (List.replicate k.toNat xs).flatten]) else .bad
    | none => .bad
  | _, _, _ => .bad
def unF (o : Uop) (x : D) (G : GG) : Res D := match o, x with
  | .neg, .int i => .ok (.int (-i)) G
  | .inv, .int i => .ok (.int (Builtin.bitNot i)) G
  | _, _ => .bad
def strIn (x z : List Nat) : Bool := match x with
  | [c] => z.contains c
  | _ => !(Builtin.Str.occurrences ⟨z.toArray⟩ ⟨x.toArray⟩ 0 z.length 1).isEmpty
def eqF (G : GG) (x y : D) : Option Bool := match pyD G x, pyD G y with
  | some a, some b => some (PyData.eqv a b)
  | _, _ => match lstOf G x, lstOf G y with
    | some a, some b => if a.length == b.length then none else some false
    | _, _ => none
def eqvAny (a : PyData) : List PyData → Bool
  | [] => false
  | b :: r => PyData.eqv b a || eqvAny a r
def inF (G : GG) (x y : D) : Option Bool := match y with
  | .str z => match x with
    | .str a => some (strIn a z)
    | _ => none
  | _ => match seqOf G y with
    | some ds => match pyD G x, toPyL (toPy G 8) ds with
      | some a, some bs => some (eqvAny a bs)
      | _, _ => none
    | none => none
def ltP : Option PyData → Option PyData → Option Bool
  | some a, some b => if PySem.W.alike a b then some (PySem.W.dataLt a b) else none
  | _, _ => none
def neP : Option PyData → Option PyData → Option Bool
  | some a, some b => some (!PyData.eqv a b)
  | _, _ => none
def ltF (G : GG) (x y : D) : Option Bool := match x, y with
  | .int i, .int j => some (decide (i < j))
  | .str a, .str b => some (decide (a < b))
  | .tup _, .tup _ => ltP (pyD G x) (pyD G y)
  | _, _ => none
def isNonB : D → Bool
  | .non => true
  | _ => false
def isF (x y : D) : Option Bool := match x, y with
  | _, .non => some (isNonB x)
  | .bl a, .bl b => some (a == b)
  | _, _ => none
def cmpF (o : Cop) (x y : D) (G : GG) : Option Bool := match o with
  | .eq => eqF G x y
  | .ne => neP (pyD G x) (pyD G y)
  | .lt => ltF G x y
  | .gt => match x, y with
    | .int i, .int j => some (decide (j < i))
    | _, _ => none
  | .le => match x, y with
    | .int i, .int j => some (decide (i ≤ j))
    | _, _ => none
  | .ge => match x, y with
    | .int i, .int j => some (decide (j ≤ i))
    | _, _ => none
  | .is => isF x y
  | .isnot => (isF x y).map (!·)
  | .inn => inF G x y
  | .notin => (inF G x y).map (!·)
def dkFind (k : D) : List (D × D) → Option D
  | [] => none
  | (a, v) :: r => if D.beq a k then some v else dkFind k r
def dkPut (k v : D) : List (D × D) → List (D × D)
  | [] => [(k, v)]
  | (a, w) :: r => if D.beq a k then (a, v) :: r else (a, w) :: dkPut k v r
def flatKey : D → Bool
  | .int _ => true
  | .str _ => true
  | _ => false
def idxF (x y : D) (G : GG) : Option D := match x, y with
  | .str z, .int i => if decide (z.length ≤ small) then (atI z i).map fun c => .str [c] else none
  | .tup ds, .int i => atI ds i
  | .cl ds, .int i => atI ds i
  | .ref n, _ => match getL G n with
    | some ds => match y with
      | .int i => atI ds i
      | _ => none
    | none => match getK G n with
      | some kvs => if flatKey y then dkFind y kvs else none
      | none => none
  | _, _ => none
def cut {α : Type} (xs : List α) (lo hi : Option Int) : List α := (xs.drop (HT.sIx xs.length 0 lo)).take (HT.sIx xs.length xs.length hi - HT.sIx xs.length 0 lo)
def slF (x : D) (lo hi : Option Int) (G : GG) : Res D := match x with
  | .str z => if decide (z.length ≤ small) then .ok (.str (cut z lo hi)) G else .bad
  | .tup ds => .ok (.tup (cut ds lo hi)) G
  | .cl ds => .ok (.ref G.length) (G ++ [.lst (cut ds lo hi)])
  | .ref n => match getL G n with
    | some ds => .ok (.ref G.length) (G ++ [.lst (cut ds lo hi)])
    | none => .bad
  | _ => .bad
def partB (nop : Bool) (d : D) : Option (Option Int) := if nop then some none else match d with
  | .int i => some (some i)
  | _ => none
def PX.isNop : PX → Bool
  | .nopart => true
  | _ => false

/-! ### sorting: by insertion, equal ones keep their places -/
def insG {α : Type} (lt : α → α → Bool) (a : α) : List α → List α
  | [] => [a]
  | b :: r => if lt b a then b :: insG lt a r else a :: b :: r
def sortG {α : Type} (lt : α → α → Bool) : List α → List α
  | [] => []
  | a :: r => insG lt a (sortG lt r)
def allAlike : List PyData → Bool
  | [] => true
  | a :: r => r.all (fun b => PySem.W.alike a b && PySem.W.alike b a) && allAlike r
def zipD : List PyData → List D → List (PyData × D)
  | a :: r, b :: s => (a, b) :: zipD r s
  | _, _ => []
def notNone : PyData → Bool
  | .none => false
  | _ => true
def sortF (G : GG) (ds : List D) : Option (List D) := match toPyL (toPy G 8) ds with
  | some ps => if allAlike ps && ps.all notNone && decide (ds.length ≤ small) then some ((sortG (fun a b => PySem.W.dataLt a.1 b.1) (zipD ps ds)).map (·.2)) else none
  | none => none
def maxI : List Int → Option Int
  | [] => none
  | a :: r => some (r.foldl max a)
def minI : List Int → Option Int
  | [] => none
  | a :: r => some (r.foldl min a)
def strLt (a b : List Nat) : Bool := decide (a < b)
def maxS : List (List Nat) → Option (List Nat)
  | [] => none
  | a :: r => some (r.foldl (fun m x => if strLt m x then x else m) a)
def minS : List (List Nat) → Option (List Nat)
  | [] => none
  | a :: r => some (r.foldl (fun m x => if strLt x m then x else m) a)
def newL (ds : List D) (G : GG) : Res D := if decide (ds.length ≤ small) then .ok (.ref G.length) (G ++ [.lst ds]) else .bad
def bfF (b : Bf) (xs : List D) (G : GG) : Res D := match b, xs with
  | .len, [.str z] => if decide (z.length ≤ small) then .ok (.int z.length) G else .bad
  | .len, [x] => match seqOf G x with
    | some ds => .ok (.int ds.length) G
    | none => .bad
  | .tuple, [x] => match seqOf G x with
    | some ds => .ok (.tup ds) G
    | none => .bad
  | .list, [x] => match seqOf G x with
    | some ds => .ok (.ref G.length) (G ++ [.lst ds])
    | none => .bad
  | .sorted, [x] => match seqOf G x with
    | some ds => match sortF G ds with
      | some es => .ok (.ref G.length) (G ++ [.lst es])
      | none => .bad
    | none => .bad
  | .min, [.int i, .int j] => .ok (.int (if j < i then j else i)) G
  | .max, [.int i, .int j] => .ok (.int (if j > i then j else i)) G
  | .min, [x] => match (lstOf G x).bind intsOf with
    | some is => ofO ((minI is).map .int) G
    | none => .bad
  | .max, [x] => match (lstOf G x).bind intsOf with
    | some is => ofO ((maxI is).map .int) G
    | none => .bad
  | .sum, [x] => match (lstOf G x).bind intsOf with
    | some is => .ok (.int is.sum) G
    | none => .bad
  | .any, [x] => match (lstOf G x).bind boolsOf with
    | some bs => .ok (.bl (bs.any id)) G
    | none => .bad
  | .all, [x] => match (lstOf G x).bind boolsOf with
    | some bs => .ok (.bl (bs.all id)) G
    | none => .bad
  | .int, [.int i] => .ok (.int i) G
  | .int, [.bl b] => .ok (.int (if b then 1 else 0)) G
  | .abs, [.int i] => .ok (.int (if i < 0 then -i else i)) G
  | .divmod, [.int i, .int j] => if 0 < j && decide (j < 1073741824) then .ok (.tup [.int (i / j), .int (i % j)]) G else .bad
  | .repr, [.ref k] => match getK G k with
    | some [] => .ok (.str [123, 125]) G
    | _ => match pyD G (.ref k) with
      | some p => if p.showable && decide (p.shown.length ≤ small) then .ok (.str p.shown.cps.toList) G else .bad
      | none => .bad
  | .repr, [x] => match pyD G x with
    | some p => if p.showable && decide (p.shown.length ≤ small) then .ok (.str p.shown.cps.toList) G else .bad
    | none => .bad
  | .str, [.int i] => if decide (i.natAbs.log2 < 1920) then .ok (.str (Str.ofString (toString i)).cps.toList) G else .bad
  | _, _ => .bad
end Rf


set_option Elab.async false
set_option linter.all false
set_option maxRecDepth 100000
/-! R3: the evaluator. -/
namespace Rf
open PySem PySem.Spec PyProof.Rows L2

structure EC where
  P : Prg
  call : CallT
  lam : List (Nat × Nat × LL)
  ex : Option (Nat × List (Nat × D))

/-- what a loop walks: the items, and the lists that must stand meanwhile -/
structure IV where
  items : List D
  src : List (Nat × List D)

def clsOf (P : Prg) (c : Nat) : ClsR := P.cls.getD c ⟨[], none, none, [], none, [], none⟩
def cmpV (C : EC) (o : Cop) (x y : D) (G : GG) : Res D := ofB (cmpF o x y G) G
/-- what kind of value it is: a built-in type's name, or an own class -/
inductive Rt where | ty (n : Nat) | cls (c : Nat)
/-- the types' numbers: NoneType 0, bool 1, int 2, str 3, tuple 4, list 5, dict 6 -/
def rtOf (G : GG) : D → Option Rt
  | .non => some (.ty 0)
  | .bl _ => some (.ty 1)
  | .int _ => some (.ty 2)
  | .str _ => some (.ty 3)
  | .tup _ => some (.ty 4)
  | .cl _ => some (.ty 5)
  | .ref n => match G[n]? with
    | some (.lst _) => some (.ty 5)
    | some (.dk _) => some (.ty 6)
    | some (.ins c _) => some (.cls c)
    | _ => none
def rtIs : Rt → Ty → Bool
  | .ty n, .int => n == 2 || n == 1
  | .ty n, .bool => n == 1
  | .ty n, .str => n == 3
  | .ty n, .tuple => n == 4
  | .ty n, .list => n == 5
  | .cls c, .cls d => c == d
  | _, _ => false
/-- the classes of which isinstance is asked -/
def Prg.ord (P : Prg) (c : Nat) : Bool := match P.cls[c]? with
  | some r => r.exc.isNone
  | none => false
def tyOk (P : Prg) : Ty → Bool
  | .cls c => P.ord c
  | _ => true
def rtOk (P : Prg) : Rt → Bool
  | .cls c => P.ord c
  | .ty n => decide (n < 7)
def isaK (P : Prg) (x : D) (t : Ty) (G : GG) : Res D := match rtOf G x with
  | some r => if rtOk P r then .ok (.bl (rtIs r t)) G else .bad
  | none => .bad
def bindN (t : TN) (d : D) (L : LL) : Option LL := match t with
  | .nm i => some (L.set i (some d))
  | .tup is => match d with
    | .tup ds => if is.length == ds.length then some ((is.zip ds).foldl (fun L p => L.set p.1 (some p.2)) L) else none
    | _ => none
def srcOk (src : List (Nat × List D)) (G : GG) : Bool := src.all fun p => match getL G p.1 with
  | some xs => D.beqs xs p.2
  | none => false
def lcL (f : LL → GG → Res (Option D)) (t : TN) (src : List (Nat × List D)) (L : LL) : List D → List D → GG → Res (List D)
  | [], acc, G => if srcOk src G then .ok acc G else .bad
  | d :: ds, acc, G => if srcOk src G then match bindN t d L with
    | some L' => (f L' G).noX.bind fun o G' => match o with
      | some e => if decide (acc.length < small) then lcL f t src L ds (acc ++ [e]) G' else .bad
      | none => lcL f t src L ds acc G'
    | none => .bad
    else .bad
def dcL (f : LL → GG → Res (D × D)) (t : TN) (src : List (Nat × List D)) (L : LL) : List D → List (D × D) → GG → Res (List (D × D))
  | [], acc, G => if srcOk src G then .ok acc G else .bad
  | d :: ds, acc, G => if srcOk src G then match bindN t d L with
    | some L' => (f L' G).noX.bind fun o G' => if flatKey o.1 && decide (acc.length < small) then dcL f t src L ds (dkPut o.1 o.2 acc) G' else .bad
    | none => .bad
    else .bad
def combos {α : Type} : Nat → List α → List (List α)
  | 0, _ => [[]]
  | _ + 1, [] => []
  | k + 1, x :: xs => (combos k xs).map (x :: ·) ++ combos (k + 1) xs
def enumD (i : Nat) : List D → List D
  | [] => []
  | d :: ds => .tup [.int i, d] :: enumD (i + 1) ds
def zip2 : List D → List D → List D
  | a :: r, b :: s => .tup [a, b] :: zip2 r s
  | _, _ => []
def rngD (lo : Int) : Nat → List D
  | 0 => []
  | n + 1 => .int lo :: rngD (lo + 1) n
def srcOf (x : D) (ds : List D) : List (Nat × List D) := match x with
  | .ref n => [(n, ds)]
  | _ => []
def bmF (b : Bm) (x : D) (xs : List D) (G : GG) : Res D := match b, x, xs with
  | .append, .ref n, [y] => match getL G n with
    | some ds => if decide (ds.length < small) then .ok .non (G.set n (.lst (ds ++ [y]))) else .bad
    | none => .bad
  | .extend, .ref n, [.ref m] => match getL G n, getL G m with
    | some ds, some es => if decide (ds.length + es.length ≤ small) then .ok .non (G.set n (.lst (ds ++ es))) else .bad
    | _, _ => .bad
  | .pop, .ref n, [] => match getL G n with
    | some ds => match ds.getLast? with
      | some d => .ok d (G.set n (.lst ds.dropLast))
      | none => .bad
    | none => .bad
  | .get, .ref n, [k] => match getK G n with
    | some kvs => if flatKey k then .ok ((dkFind k kvs).getD .non) G else .bad
    | none => .bad
  | .get, .ref n, [k, y] => match getK G n with
    | some kvs => if flatKey k then .ok ((dkFind k kvs).getD y) G else .bad
    | none => .bad
  | .split, .str z, [.str y] => if !(y.length == 0) && decide (z.length ≤ small) then .ok (.ref G.length) (G ++ [.lst ((Txt.split ⟨z.toArray⟩ ⟨y.toArray⟩).map fun s => .str s.cps.toList)]) else .bad
  | .join, .str z, [y] => match (seqOf G y).bind strsOf with
    | some ss => if decide ((ss.map List.length).sum + ss.length * z.length ≤ small) then .ok (.str (TL.joinL z ss)) G else .bad
    | none => .bad
  | .upper, .str z, [] => if decide (z.length ≤ small) then .ok (.str (Txt.upper ⟨z.toArray⟩).cps.toList) G else .bad
  | .replace, .str x, [.str y, .str z] => if decide (1 ≤ y.length) && (decide (y ≠ z) && decide (x.length + (x.length + 1) * z.length ≤ small)) then .ok (.str (StrLaws.replL y z x)) G else .bad
  | _, _, _ => .bad
/-- the receiver is of the method's type -/
def rcvB (b : Bm) (x : D) (G : GG) : Bool := match b, x with
  | .append, .ref n => (getL G n).isSome
  | .extend, .ref n => (getL G n).isSome
  | .pop, .ref n => (getL G n).isSome
  | .get, .ref n => (getK G n).isSome
  | .split, .str _ => true
  | .join, .str _ => true
  | .upper, .str _ => true
  | .replace, .str _ => true
  | _, _ => false
def bmK (b : Bm) (es : GG → Res (List D)) (x : D) (G : GG) : Res D := if rcvB b x G then (es G).bind fun ds G => bmF b x ds G else .bad
def putA (f : Nat) (d : D) : List (Nat × D) → List (Nat × D)
  | [] => [(f, d)]
  | (g, e) :: r => if g == f then (g, d) :: r else (g, e) :: putA f d r
def whileFuel : Nat := 100000

/-! ### what is made of values, construct by construct -/
def andK (x : D) (r : Res D) (G : GG) : Res D := match x with
    | .bl true => r
    | .bl false => .ok (.bl false) G
    | _ => .bad
def orK (x : D) (r : Res D) (G : GG) : Res D := match x with
    | .bl false => r
    | .bl true => .ok (.bl true) G
    | _ => .bad
def notK (x : D) (G : GG) : Res D := match x with
    | .bl b => .ok (.bl (!b)) G
    | _ => .bad
def iteK {α : Type} (x : D) (r r' : Res α) : Res α := match x with
    | .bl true => r
    | .bl false => r'
    | _ => .bad
def chainK (o p : Cop) (x y : D) (h' : GG → Res D) (G : GG) : Res D := (ofB (cmpF o x y G) G).bind fun r G => match r with
    | .bl true => (h' G).bind fun z G => ofB (cmpF p y z G) G
    | .bl false => .ok (.bl false) G
    | _ => .bad
def tupK (ds : List D) (G : GG) : Res D := if decide (ds.length ≤ small) then .ok (.tup ds) G else .bad
def partK (nop : Bool) (d : D) (k : Option Int → Res D) : Res D := match partB nop d with
    | some p => k p
    | none => .bad
def attrK (P : Prg) (f : Nat) (x : D) (G : GG) : Res D := match x with
    | .ref n => match getI G n with
      | some (c, fs) => if (clsOf P c).fld.contains f then ofO (fs.lookup f) G else .bad
      | none => .bad
    | _ => .bad
def mkK (P : Prg) (call : CallT) (c : Nat) (ds : List D) (G : GG) : Res D := match (clsOf P c).init with
    | some f => (call (.fn f) (.ref G.length :: ds) (G ++ [.ins c []])).bind fun r G' => match r with
      | .non => .ok (.ref G.length) G'
      | _ => .bad
    | none => .bad
def methK (P : Prg) (call : CallT) (m : Nat) (es : GG → Res (List D)) (x : D) (G : GG) : Res D := match x with
    | .ref n => match getI G n with
      | some (c, fs) => match fs.lookup m, (clsOf P c).ms.lookup m with
        | none, some f => (es G).bind fun ds G => call (.fn f) (x :: ds) G
        | _, _ => .bad
      | none => .bad
    | _ => .bad
def pick {α : Type} (perm : List Nat) (l : List α) : List α := perm.filterMap (l[·]?)
def callkK (P : Prg) (call : CallT) (e : Nat) (ds : List D) (G : GG) : Res D := match P.kws[e]? with
    | some r => if r.ahead == 0 && ds.length == r.n then call (.fn r.f) (pick r.perm ds) G else .bad
    | none => .bad
def mkkK (P : Prg) (call : CallT) (c e : Nat) (ds : List D) (G : GG) : Res D := match P.kws[e]? with
    | some r => if r.ahead == 1 && decide ((clsOf P c).init = some r.f) && ds.length == r.n then mkK P call c (pick r.perm ds) G else .bad
    | none => .bad
def methkK (P : Prg) (call : CallT) (m e : Nat) (es : GG → Res (List D)) (x : D) (G : GG) : Res D := match P.kws[e]? with
    | some r => if r.ahead == 1 then match x with
      | .ref n => match getI G n with
        | some (c, fs) => match fs.lookup m, (clsOf P c).ms.lookup m with
          | none, some f => if f == r.f then (es G).bind fun ds G => if ds.length == r.n then call (.fn f) (x :: pick r.perm ds) G else .bad else .bad
          | _, _ => .bad
        | none => .bad
      | _ => .bad
      else .bad
    | none => .bad
def condK (elt : GG → Res D) (x : D) (G : GG) : Res (Option D) := match x with
        | .bl true => (elt G).bind fun d G => .ok (some d) G
        | .bl false => .ok none G
        | _ => .bad
def starsK (es : GG → Res (List D)) (x : D) (G : GG) : Res D := match seqOf G x with
    | some xs => (es G).bind fun ds G => newL (xs ++ ds) G
    | none => .bad
def seqK (x : D) (G : GG) : Res IV := match x with
    | .str z => .ok ⟨z.map fun c => .str [c], []⟩ G
    | _ => match seqOf G x with
      | some ds => .ok ⟨ds, srcOf x ds⟩ G
      | none => .bad
def rng1K (x : D) (G : GG) : Res IV := match x with
    | .int j => if decide (-(2 ^ 62) ≤ j) && decide (j ≤ small) then .ok ⟨rngD 0 j.toNat, []⟩ G else .bad
    | _ => .bad
def rng2K (x y : D) (G : GG) : Res IV := match x, y with
    | .int i, .int j => if decide (-(2 ^ 62) ≤ i) && decide (i < 2 ^ 62) && decide (-(2 ^ 62) ≤ j) && decide (j < 2 ^ 62) && decide (j - i ≤ small) then .ok ⟨rngD i (j - i).toNat, []⟩ G else .bad
    | _, _ => .bad
def enumK (x : D) (G : GG) : Res IV := match seqOf G x with
      | some ds => .ok ⟨enumD 0 ds, srcOf x ds⟩ G
      | none => .bad
def isTup : D → Bool
  | .tup _ => true
  | _ => false
def zipK (x y : D) (G : GG) : Res IV := match seqOf G x, seqOf G y with
      | some ds, some es => if isTup x == isTup y then .ok ⟨zip2 ds es, srcOf x ds ++ srcOf y es⟩ G else .bad
      | _, _ => .bad
def combK (x y : D) (G : GG) : Res IV := match x, y with
      | .tup ds, .int k => if decide (0 ≤ k) && decide (k ≤ small) then .ok ⟨(combos k.toNat ds).map .tup, []⟩ G else .bad
      | _, _ => .bad
def laK (call : CallT) (f lam : Nat) (L : LL) (ds : List D) (G : GG) : Res D := call (.fnl f lam L) ds G
def clocK (C : EC) (i : Nat) (es : GG → Res (List D)) (G : GG) : Res D := match C.lam.lookup i with
    | some (lam, L) => (es G).bind fun ds G => C.call (.clo lam L) ds G
    | none => .bad
def varK (o : Option (Option D)) (G : GG) : Res D := match o with
    | some (some d) => .ok d G
    | _ => .bad
def isExc (P : Prg) (c : Nat) : Bool := match P.cls[c]? with
  | some r => r.exc.isSome
  | none => false
def excHas (P : Prg) (c f : Nat) : Bool := match P.cls[c]? with
  | some r => match r.exc with
    | some fs => fs.contains f
    | none => false
  | none => false
def exaK (P : Prg) (f c : Nat) (fs : List (Nat × D)) (G : GG) : Res D := if excHas P c f then ofO (fs.lookup f) G else .bad
def exiK (P : Prg) (d c : Nat) (G : GG) : Res D := if isExc P c && isExc P d then .ok (.bl ((clsOf P c).up.contains d)) G else .bad
def dknK (o : Option (List (List Nat × D))) (x : D) (G : GG) : Res D := match x, o with
    | .str k, some kvs => .ok (.bl (kvs.lookup k).isSome) G
    | _, _ => .bad
def dkgK (o : Option (List (List Nat × D))) (x : D) (G : GG) : Res D := match x, o with
    | .str k, some kvs => ofO (kvs.lookup k) G
    | _, _ => .bad

mutual
def evX (C : EC) : PX → LL → GG → Res D
  | .var i, L, G => varK L[i]? G
  | .lit d, _, G => .ok d G
  | .glob g, _, G => ofO C.P.globs[g]? G
  | .bin o a b, L, G => (evX C a L G).bind fun x G => (evX C b L G).bind fun y G => binF o x y G
  | .un o a, L, G => (evX C a L G).bind fun x G => unF o x G
  | .not a, L, G => (evX C a L G).bind fun x G => notK x G
  | .and a b, L, G => (evX C a L G).bind fun x G => andK x (evX C b L G) G
  | .or a b, L, G => (evX C a L G).bind fun x G => orK x (evX C b L G) G
  | .cmp o a b, L, G => (evX C a L G).bind fun x G => (evX C b L G).bind fun y G => cmpV C o x y G
  | .chain o p a b c, L, G => (evX C a L G).bind fun x G => (evX C b L G).bind fun y G => chainK o p x y (evX C c L) G
  | .ite c a b, L, G => (evX C c L G).bind fun x G => iteK x (evX C a L G) (evX C b L G)
  | .tup es, L, G => (evXs C es L G).bind fun ds G => tupK ds G
  | .lst es, L, G => (evXs C es L G).bind fun ds G => newL ds G
  | .idx a b, L, G => (evX C a L G).bind fun x G => (evX C b L G).bind fun y G => ofO (idxF x y G) G
  | .sl a lo hi, L, G => (evX C a L G).bind fun x G => (evX C lo L G).bind fun l G => partK lo.isNop l fun l => (evX C hi L G).bind fun h G => partK hi.isNop h fun h => slF x l h G
  | .nopart, _, G => .ok .non G
  | .attr a f, L, G => (evX C a L G).bind fun x G => attrK C.P f x G
  | .call f es, L, G => (evXs C es L G).bind fun ds G => C.call (.fn f) ds G
  | .calll f es lam, L, G => (evXs C es L G).bind fun ds G => laK C.call f lam L ds G
  | .mk c es, L, G => (evXs C es L G).bind fun ds G => mkK C.P C.call c ds G
  | .meth a m es, L, G => (evX C a L G).bind fun x G => methK C.P C.call m (evXs C es L) x G
  | .callk e es, L, G => (evXs C es L G).bind fun ds G => callkK C.P C.call e ds G
  | .mkk c e es, L, G => (evXs C es L G).bind fun ds G => mkkK C.P C.call c e ds G
  | .methk a m e es, L, G => (evX C a L G).bind fun x G => methkK C.P C.call m e (evXs C es L) x G
  | .cloc i es, L, G => clocK C i (evXs C es L) G
  | .blt b es, L, G => (evXs C es L G).bind fun ds G => bfF b ds G
  | .bmeth b a es, L, G => (evX C a L G).bind fun x G => bmK b (evXs C es L) x G
  | .isa a t, L, G => (evX C a L G).bind fun x G => isaK C.P x t G
  | .exattr f, _, G => match C.ex with
    | some (c, fs) => exaK C.P f c fs G
    | none => .bad
  | .exisa d, _, G => match C.ex with
    | some (c, _) => exiK C.P d c G
    | none => .bad
  | .lc elt vs t it cond, L, G => (evI C it L G).bind fun iv G =>
      (lcL (fun L G => (evX C cond L G).bind fun x G => condK (evX C elt L) x G) t iv.src (wipeL L vs) iv.items [] G).bind fun ds G => .ok (.ref G.length) (G ++ [.lst ds])
  | .yes, _, G => .ok (.bl true) G
  | .dnew, _, G => .ok (.ref G.length) (G ++ [.dk []])
  | .dknown g a, L, G => (evX C a L G).bind fun x G => dknK C.P.dks[g]? x G
  | .dkget g a, L, G => (evX C a L G).bind fun x G => dkgK C.P.dks[g]? x G
  | .dcomp k v vs t it, L, G => (evI C it L G).bind fun iv G =>
      (dcL (fun L G => (evX C k L G).bind fun a G => (evX C v L G).bind fun b G => .ok (a, b) G) t iv.src (wipeL L vs) iv.items [] G).bind fun kvs G => .ok (.ref G.length) (G ++ [.dk kvs])
  | .stars a es, L, G => (evX C a L G).bind fun x G => starsK (evXs C es L) x G
def evXs (C : EC) : PXs → LL → GG → Res (List D)
  | .nil, _, G => .ok [] G
  | .cons e r, L, G => (evX C e L G).bind fun d G => (evXs C r L G).bind fun ds G => .ok (d :: ds) G
def evI (C : EC) : IT → LL → GG → Res IV
  | .seq a, L, G => (evX C a L G).bind fun x G => seqK x G
  | .rng1 a, L, G => (evX C a L G).bind fun x G => rng1K x G
  | .rng2 a b, L, G => (evX C a L G).bind fun x G => (evX C b L G).bind fun y G => rng2K x y G
  | .enum a, L, G => (evX C a L G).bind fun x G => enumK x G
  | .zip a b, L, G => (evX C a L G).bind fun x G => (evX C b L G).bind fun y G => zipK x y G
  | .comb a b, L, G => (evX C a L G).bind fun x G => (evX C b L G).bind fun y G => combK x y G
end

inductive Out where
  | nx (L : LL)
  | rt (d : D)
  | bk (L : LL)
def setIxF (x y d : D) (G : GG) : Res Unit := match x with
    | .ref n => match getL G n with
      | some ds => match y with
        | .int i => match ixN ds.length i with
          | some k => .ok () (G.set n (.lst (ds.set k d)))
          | none => .bad
        | _ => .bad
      | none => match getK G n with
        | some kvs => if flatKey y && decide (kvs.length < small) then .ok () (G.set n (.dk (dkPut y d kvs))) else .bad
        | none => .bad
    | _ => .bad
def setAtF (P : Prg) (f : Nat) (x d : D) (G : GG) : Res Unit := match x with
    | .ref n => match getI G n with
      | some (c, fs) => if decide (fs.length < 1000) && (clsOf P c).fld.contains f then .ok () (G.set n (.ins c (putA f d fs))) else .bad
      | none => .bad
    | _ => .bad
def asg1 (C : EC) (t : T1) (d : D) (L : LL) (G : GG) : Res LL := match t with
  | .nm i => .ok (L.set i (some d)) G
  | .attr a f => (evX C a L G).bind fun x G => (setAtF C.P f x d G).bind fun _ G => .ok L G
  | .idx a b => (evX C a L G).bind fun x G => (evX C b L G).bind fun y G => (setIxF x y d G).bind fun _ G => .ok L G
def asgs (C : EC) : List T1 → List D → LL → GG → Res LL
  | [], [], L, G => .ok L G
  | t :: ts, d :: ds, L, G => (asg1 C t d L G).bind fun L G => asgs C ts ds L G
  | _, _, _, _ => .bad
/-- a tuple's items; of anything else one item too many to be taken -/
def tupOf : D → List D
  | .tup ds => ds
  | _ => []
def asgT (C : EC) (t : TG) (d : D) (L : LL) (G : GG) : Res LL := match t with
  | .one t => asg1 C t d L G
  | .tup ts => if (tupOf d).length == ts.length then asgs C ts (tupOf d) L G else .bad
def forL (f : LL → GG → Res Out) (t : TN) (src : List (Nat × List D)) : List D → LL → GG → Res Out
  | [], L, G => if srcOk src G then .ok (.nx L) G else .bad
  | d :: ds, L, G => if srcOk src G then match bindN t d L with
    | some L' => (f L' G).bind fun o G' => match o with
      | .nx L'' => forL f t src ds L'' G'
      | .bk L'' => .ok (.nx L'') G'
      | .rt d => .ok (.rt d) G'
    | none => .bad
    else .bad
def forW (f : LL → GG → Res Out) (t : TN) (src : List (Nat × List D)) (w : List Nat) (n : Nat) : List D → LL → GG → Res Out
  | [], L, G => if srcOk src G then .ok (.nx L) G else .bad
  | d :: ds, L, G => if srcOk src G then match bindN t d L with
    | some L' => (f L' G).bind fun o G' => match o with
      | .nx L'' => forW f t src w n ds (trimL w n L'' G').1 (trimL w n L'' G').2
      | .bk L'' => .ok (.nx L'') G'
      | .rt d => .ok (.rt d) G'
    | none => .bad
    else .bad
def whileL (c : LL → GG → Res D) (f : LL → GG → Res Out) : Nat → LL → GG → Res Out
  | 0, _, _ => .bad
  | n + 1, L, G => (c L G).bind fun x G => match x with
    | .bl true => (f L G).bind fun o G' => match o with
      | .nx L' => whileL c f n L' G'
      | .bk L' => .ok (.nx L') G'
      | .rt d => .ok (.rt d) G'
    | .bl false => .ok (.nx L) G
    | _ => .bad
def Res.catch {α : Type} (r : Res α) (h : Nat → List (Nat × D) → GG → Res α) : Res α := match r with
  | .ok a G => .ok a G
  | .exn c fs G => h c fs G
  | .bad => .bad
  | .ask n k => .ask n fun i => (k i).catch h
def handle (C : EC) (L : LL) (c : Nat) (fs : List (Nat × D)) (G : GG) : List (Nat × Option Nat × PX) → Res Out
  | [] => .exn c fs G
  | (hc, _, b) :: r => if !(isExc C.P c && isExc C.P hc) then .bad else if (clsOf C.P c).up.contains hc then (evX { C with ex := some (c, fs) } b [] G).bind fun d G => .ok (.rt d) G else handle C L c fs G r

def raiseK (P : Prg) (c : Nat) (ds : List D) (G : GG) : Res Out := match (clsOf P c).exc with
    | some fs => if fs.length == ds.length then .exn c (fs.zip ds) G else .bad
    | none => .bad
def seqO (r : LL → GG → Res Out) (o : Out) (G : GG) : Res Out := match o with
    | .nx L => r L G
    | .bk L => .ok (.bk L) G
    | .rt d => .ok (.rt d) G
mutual
def evS (C : EC) : PS → LL → GG → Res Out
  | .expr e, L, G => (evX C e L G).bind fun _ G => .ok (.nx L) G
  | .ret e, L, G => (evX C e L G).bind fun d G => .ok (.rt d) G
  | .retn, _, G => .ok (.rt .non) G
  | .asg t e, L, G => (evX C e L G).bind fun d G => (asgT C t d L G).bind fun L G => .ok (.nx L) G
  | .aug a b o e, L, G => (evX C a L G).bind fun x G => (evX C b L G).bind fun y G => (ofO (idxF x y G) G).bind fun z G => (evX C e L G).bind fun u G => (binF o z u G).bind fun w G =>
      (setIxF x y w G).bind fun _ G => .ok (.nx L) G
  | .ite c a b, L, G => (evX C c L G).bind fun x G => iteK x (evSs C a L G) (evSs C b L G)
  | .for t it b, L, G => (evI C it L G).bind fun iv G => forL (evSs C b) t iv.src iv.items L G
  | .forw w t it b, L, G => (evI C it L G).bind fun iv G => forW (evSs C b) t iv.src w G.length iv.items L G
  | .while c b, L, G => whileL (evX C c) (evSs C b) whileFuel L G
  | .raise c es, L, G => (evXs C es L G).bind fun ds G => raiseK C.P c ds G
  | .try1 isret e hs, L, G => ((evX C e L G).bind fun d G => if isret then .ok (.rt d) G else .ok (.nx L) G).catch fun c fs G => handle C L c fs G hs
  | .pass, L, G => .ok (.nx L) G
  | .brk, L, G => .ok (.bk L) G
def evSs (C : EC) : PSs → LL → GG → Res Out
  | .nil, L, G => .ok (.nx L) G
  | .cons s r, L, G => (evS C s L G).bind fun o G => seqO (evSs C r) o G
end

def outR (r : Res Out) : Res D := r.bind fun o G => match o with
  | .rt d => .ok d G
  | .nx _ => .ok .non G
  | .bk _ => .bad
def fill (d : DefR) (n : Nat) : List D := d.dfl.drop (d.dfl.length - (d.par - n))
def startL (slots : Nat) (ds : List D) : LL := ds.map some ++ List.replicate (slots - ds.length) none
def drawF (ds : List D) (G : GG) : Res D := match ds with
  | [.ref p, .int m] => if isPool G p && decide (0 < m) && decide (m < 1073741824) then .ask m.toNat fun v => .ok (.int v) G else .bad
  | _ => .bad
def poolF (ds : List D) (G : GG) : Res D := match ds with
  | [.cl xs, .int t] => match intsOf xs with
    | some _ => if decide (0 ≤ t) && decide (t < 100) && decide (xs.length ≤ 63) then .ok (.ref G.length) (G ++ [.pool]) else .bad
    | none => .bad
  | _ => .bad
/-- a body, with what it may call -/
def bodyF (P : Prg) (call : CallT) (d : DefR) (lam : List (Nat × Nat × LL)) (ds : List D) (G : GG) : Res D := outR (evSs ⟨P, call, lam, none⟩ d.body (startL d.slots ds) G)
def run (P : Prg) : Nat → CallT
  | 0, _, _, _ => .bad
  | n + 1, .fn f, ds, G => if f == P.draw then drawF ds G else if f == P.pool then poolF ds G else match P.defs[f]? with
    | some (some d) => if d.par == ds.length then trim G (bodyF P (run P n) d [] ds G) else .bad
    | _ => .bad
  | n + 1, .fnl f lam L, ds, G => if f == P.draw || f == P.pool then .bad else match P.defs[f]? with
    | some (some d) => if d.par == ds.length + 1 then trim G (bodyF P (run P n) d [(ds.length, lam, L)] ds G) else .bad
    | _ => .bad
  | n + 1, .clo lam L, ds, G => match P.lams[lam]? with
    | some l => if l.par == ds.length then trim G (evX ⟨P, run P n, [], none⟩ l.body (ds.map some ++ L) G) else .bad
    | none => .bad
end Rf


set_option Elab.async false
set_option linter.all false
set_option maxRecDepth 100000
set_option maxHeartbeats 1000000
/-! R4: the operations. -/
namespace Rf
open PySem PySem.Spec PyProof.Rows L2

theorem and3 {a b c : Bool} (h : (a && b && c) = true) : a = true ∧ b = true ∧ c = true := by
  simp only [Bool.and_eq_true] at h
  exact ⟨h.1.1, h.1.2, h.2⟩
theorem and2 {a b : Bool} (h : (a && b) = true) : a = true ∧ b = true := by
  simpa only [Bool.and_eq_true] using h

/-- what is wanted of a value -/
def Kt (K : PySem.W.Frag) (M : Nm) (ι : List Addr) (H : Hp) (Q : VK) : D → GG → Prop := fun d G' => ∀ ι' H' v, Ext ι ι' H H' → Rep K M ι' G' H' → DR K H' ι' d v → Q v H'
def NoE : Nat → List (Nat × D) → GG → Prop := fun _ _ _ => True
section
variable {K : PySem.W.Frag} {M : Nm} {ι : List Addr} {G : GG} {H : Hp} {Q : VK} {d : D} {v : V}
theorem Kt.here (h : Kt K M ι H Q d G) (R : Rep K M ι G H) (r : DR K H ι d v) : Q v H := h ι H v (Ext.refl _ _) R r
theorem Kt.tup {ds : List D} {vs : List V} {p : Addr} (h : Kt K M ι H Q (.tup ds) G) (R : Rep K M ι G H) (r : DRs K H ι ds vs) (hp : H p = none) : Q (.ref p) (upd H p (.tup vs)) :=
  h ι _ _ (Ext.new ι hp) (R.new hp) ⟨p, vs, rfl, .of upd_same, r.ext R (Ext.new ι hp)⟩
theorem Kt.lst {ds : List D} {vs : List V} {p : Addr} (h : Kt K M ι H Q (.ref G.length) (G ++ [.lst ds])) (R : Rep K M ι G H) (r : DRs K H ι ds vs) (hp : H p = none) : Q (.ref p) (upd H p (.lst vs)) :=
  h (ι ++ [p]) _ _ (Ext.newN ι hp) (R.newN hp ⟨vs, upd_same, r.ext R (Ext.newN ι hp)⟩) ⟨p, by rw [← R.len]; simp, rfl⟩
theorem Kt.dk {ds : List (D × D)} {vs : List (Key × V)} {p : Addr} (h : Kt K M ι H Q (.ref G.length) (G ++ [.dk ds])) (R : Rep K M ι G H) (r : KR K H ι ds vs) (hp : H p = none) : Q (.ref p) (upd H p (.dK vs)) :=
  h (ι ++ [p]) _ _ (Ext.newN ι hp) (R.newN hp ⟨vs, upd_same, r.ext R (Ext.newN ι hp)⟩) ⟨p, by rw [← R.len]; simp, rfl⟩
/-- an object with a number is written -/
theorem Kt.set {n : Nat} {a : Addr} {o : O} {ho : HO} (h : Kt K M ι H Q d (G.set n o)) (R : Rep K M ι G H) (hn : ι[n]? = some a) (w : OR K M (upd H a ho) ι a o) (r : DR K (upd H a ho) ι d v) : Q v (upd H a ho) :=
  h ι _ v (Ext.set (List.mem_of_getElem? hn) w.nt) (R.set hn w) r
end

/-! ### two values -/
def r2 (K : PySem.W.Frag) (M : Nm) (f : D → D → GG → Res D) : R2 := fun x y H Q => ∃ ι G d e, Rep K M ι G H ∧ DR K H ι d x ∧ DR K H ι e y ∧ (f d e G).wp (Kt K M ι H Q) NoE
def r1 (K : PySem.W.Frag) (M : Nm) (f : D → GG → Res D) : V → Hp → VK → Prop := fun x H Q => ∃ ι G d, Rep K M ι G H ∧ DR K H ι d x ∧ (f d G).wp (Kt K M ι H Q) NoE

section
variable {X : Cx} {M : Nm}
theorem small_le : small ≤ sizeLine := by rw [sizeLine_eq]; decide
theorem le_small {n : Nat} (h : n ≤ small) : n ≤ sizeLine := Nat.le_trans h small_le
theorem wide_ok {i : Int} (h : wide64 i = true) : -(2 ^ 64) < i ∧ i < 2 ^ 64 := by simpa [wide64] using h
theorem wp_if {α : Type} {c : Bool} {r : Res α} {P : α → GG → Prop} {E : Nat → List (Nat × D) → GG → Prop} (h : (if c = true then r else Res.bad).wp P E) : c = true ∧ r.wp P E := by
  by_cases hc : c = true
  · rw [if_pos hc] at h; exact ⟨hc, h⟩
  · rw [if_neg hc] at h; exact h.elim
theorem wp_ifp {α : Type} {c : Prop} [Decidable c] {r : Res α} {P : α → GG → Prop} {E : Nat → List (Nat × D) → GG → Prop} (h : (if c then r else Res.bad).wp P E) : c ∧ r.wp P E := by
  by_cases hc : c
  · rw [if_pos hc] at h; exact ⟨hc, h⟩
  · rw [if_neg hc] at h; exact h.elim
theorem wp_ofO {o : Option D} {G : GG} {P : D → GG → Prop} {E : Nat → List (Nat × D) → GG → Prop} (h : (ofO o G).wp P E) : ∃ d, o = some d ∧ P d G := by
  cases o with
  | none => exact h.elim
  | some d => exact ⟨d, rfl, h⟩
theorem wp_ofB {o : Option Bool} {G : GG} {P : D → GG → Prop} {E : Nat → List (Nat × D) → GG → Prop} (h : (ofB o G).wp P E) : ∃ b, o = some b ∧ P (.bl b) G := by
  cases o with
  | none => exact h.elim
  | some d => exact ⟨d, rfl, h⟩

def bopO : Bop → Operator
  | .add => .Add | .sub => .Sub | .mul => .Mult | .mod => .Mod | .fdiv => .FloorDiv | .pow => .Pow | .shl => .LShift | .shr => .RShift | .bor => .BitOr | .bxor => .BitXor | .band => .BitAnd

theorem str_app (a b : List Nat) : (⟨(a ++ b).toArray⟩ : Str) = (⟨a.toArray⟩ : Str) ++ (⟨b.toArray⟩ : Str) := by
  show (⟨(a ++ b).toArray⟩ : Str) = ⟨a.toArray ++ b.toArray⟩
  simp
theorem bin_add_lists {a b : Nat} {G : GG} {P : D → GG → Prop} {E : Nat → List (Nat × D) → GG → Prop} (h : (binF .add (.ref a) (.ref b) G).wp P E) :
    ∃ xs ys, getL G a = some xs ∧ getL G b = some ys ∧ xs.length + ys.length ≤ small ∧ P (.ref G.length) (G ++ [.lst (xs ++ ys)]) := by
  simp only [binF] at h
  split at h
  · rename_i xs ys ea eb
    obtain ⟨c, h⟩ := wp_if h
    exact ⟨xs, ys, ea, eb, by simpa using c, h⟩
  · exact h.elim
theorem bin_mul_list {a : Nat} {k : Int} {G : GG} {P : D → GG → Prop} {E : Nat → List (Nat × D) → GG → Prop} (h : (binF .mul (.ref a) (.int k) G).wp P E) :
    ∃ xs, getL G a = some xs ∧ (0 ≤ k ∧ k ≤ small ∧ xs.length * k.toNat ≤ small) ∧ P (.ref G.length) (G ++ [.lst (List.replicate k.toNat xs).flatten]) := by
  simp only [binF] at h
  split at h
  · rename_i xs ea
    obtain ⟨c, h⟩ := wp_if h
    simp only [Bool.and_eq_true, decide_eq_true_eq] at c
    exact ⟨xs, ea, ⟨c.1.1, c.1.2, c.2⟩, h⟩
  · exact h.elim
theorem Rep.lst {K : PySem.W.Frag} {M : Nm} {ι : List Addr} {G : GG} {H : Hp} (R : Rep K M ι G H) {n : Nat} {ds : List D} {v : V} (h : getL G n = some ds) (r : DR K H ι (.ref n) v) :
    ∃ p vs, v = .ref p ∧ ι[n]? = some p ∧ H p = some (.lst vs) ∧ DRs K H ι ds vs := by
  obtain ⟨p, hp, vs, hvs, rvs⟩ := R.obj' (getL_ok h)
  obtain ⟨p', hp', e1⟩ := r
  rw [hp] at hp'; cases hp'
  exact ⟨p, vs, e1, hp, hvs, rvs⟩
theorem Rep.dk {K : PySem.W.Frag} {M : Nm} {ι : List Addr} {G : GG} {H : Hp} (R : Rep K M ι G H) {n : Nat} {ds : List (D × D)} {v : V} (h : getK G n = some ds) (r : DR K H ι (.ref n) v) :
    ∃ p vs, v = .ref p ∧ ι[n]? = some p ∧ H p = some (.dK vs) ∧ KR K H ι ds vs := by
  obtain ⟨p, hp, vs, hvs, rvs⟩ := R.obj' (getK_ok h)
  obtain ⟨p', hp', e1⟩ := r
  rw [hp] at hp'; cases hp'
  exact ⟨p, vs, e1, hp, hvs, rvs⟩
theorem Rep.ins {K : PySem.W.Frag} {M : Nm} {ι : List Addr} {G : GG} {H : Hp} (R : Rep K M ι G H) {n c : Nat} {fs : List (Nat × D)} {v : V} (h : getI G n = some (c, fs)) (r : DR K H ι (.ref n) v) :
    ∃ p dx xs, v = .ref p ∧ ι[n]? = some p ∧ H p = some (.ins (He.ga K (M.c c)) dx xs) ∧ FR K M H ι fs xs := by
  obtain ⟨p, hp, dx, xs, hvs, rvs⟩ := R.obj' (getI_ok h)
  obtain ⟨p', hp', e1⟩ := r
  rw [hp] at hp'; cases hp'
  exact ⟨p, dx, xs, e1, hp, hvs, rvs⟩
theorem DRs.rep {K : PySem.W.Frag} {ι : List Addr} {H : Hp} {ds : List D} {vs : List V} (r : DRs K H ι ds vs) : ∀ k : Nat, DRs K H ι (List.replicate k ds).flatten (List.replicate k vs).flatten
  | 0 => trivial
  | k + 1 => by
    rw [List.replicate_succ, List.replicate_succ, List.flatten_cons, List.flatten_cons]
    exact r.append (DRs.rep r k)
theorem op_add2 : OpR X (binaryOp .Add) (r2 X.K M (binF .add)) := by
  intro pins s σ H x y v u Q I rx ry ⟨ι, G, d, e, R, dx, dy, h⟩
  cases d with
  | int i => cases e with
    | int j => exact op_add pins s σ H x y v u Q I rx ry ⟨i, j, dx, dy, Kt.here h R rfl⟩
    | _ => exact h.elim
  | str a => cases e with
    | str b =>
      obtain ⟨hs, h⟩ := wp_if h
      refine op_add_str pins s σ H x y v u Q I rx ry ⟨_, _, dx, dy, le_small (by simpa [Str.length] using hs), Kt.here h R ?_⟩
      show _ = _
      rw [str_app]
    | _ => exact h.elim
  | tup a => cases e with
    | tup b =>
      obtain ⟨hs, h⟩ := wp_if h
      obtain ⟨p, vs, ep, sp, rp⟩ := dx
      obtain ⟨q, us, eq, sq, rq⟩ := dy
      have hl : vs.length + us.length ≤ sizeLine := by rw [← rp.length, ← rq.length]; exact le_small (by simpa using hs)
      refine op_catA pins s σ H x y v u Q I rx ry ⟨p, q, vs, us, ep, eq, sp, sq, hl, ?_⟩
      refine ⟨fun e0 => ?_, fun e1 e0 => ?_, fun e1 e0 p hp => Kt.tup h R (rp.append rq) hp⟩
      · subst e0
        refine Kt.here h R ⟨q, us, rfl, sq, ?_⟩
        cases a with
        | nil => exact rq
        | cons _ _ => exact rp.elim
      · subst e0
        refine Kt.here h R ⟨p, vs, rfl, sp, ?_⟩
        cases b with
        | nil => rw [List.append_nil]; exact rp
        | cons _ _ => exact rq.elim
    | _ => exact h.elim
  | ref a => cases e with
    | ref b =>
      obtain ⟨xs, ys, ea, eb, hs, h⟩ := bin_add_lists h
      obtain ⟨p, vs, e1, hp, hvs, rvs⟩ := R.lst ea dx
      obtain ⟨q, us, e2, hq, hus, rus⟩ := R.lst eb dy
      have hl : vs.length + us.length ≤ sizeLine := by rw [← rvs.length, ← rus.length]; exact le_small hs
      exact op_cat pins s σ H x y v u Q I rx ry ⟨p, q, vs, us, e1, e2, hvs, hus, hl, fun r hr => Kt.lst h R (rvs.append rus) hr⟩
    | _ => exact h.elim
  | _ => cases e <;> exact h.elim
theorem op_sub2 : OpR X (binaryOp .Sub) (r2 X.K M (binF .sub)) := by
  intro pins s σ H x y v u Q I rx ry ⟨ι, G, d, e, R, dx, dy, h⟩
  cases d with
  | int i => cases e with
    | int j =>
      exact op_sub pins s σ H x y v u Q I rx ry ⟨i, j, dx, dy, Kt.here h R rfl⟩
    | _ => exact h.elim
  | _ => cases e <;> exact h.elim
theorem op_mul2 : OpR X (binaryOp .Mult) (r2 X.K M (binF .mul)) := by
  intro pins s σ H x y v u Q I rx ry ⟨ι, G, d, e, R, dx, dy, h⟩
  cases d with
  | int i => cases e with
    | int j =>
      obtain ⟨hc, h⟩ := wp_if h
      have hc : CMul i j := by
        rcases (Bool.or_eq_true _ _ ▸ hc : wide64 i = true ∨ wide64 j = true) with z | z
        · exact .inl (wide_ok z)
        · exact .inr (wide_ok z)
      exact op_mul pins s σ H x y v u Q I rx ry ⟨i, j, dx, dy, hc, Kt.here h R rfl⟩
    | _ => exact h.elim
  | ref a => cases e with
    | int k =>
      obtain ⟨xs, ea, hs, h⟩ := bin_mul_list h
      obtain ⟨p, vs, e1, hp, hvs, rvs⟩ := R.lst ea dx
      refine op_rep pins s σ H x y v u Q I rx ry ⟨p, k, vs, e1, dy, hvs, by omega, ?_, ?_, fun r hr => Kt.lst h R (DRs.rep rvs _) hr⟩
      · have : (small : Int) < 2 ^ 63 := by decide
        omega
      · rw [← rvs.length]; exact le_small hs.2.2
    | _ => exact h.elim
  | _ => cases e <;> exact h.elim
theorem op_mod2 : OpR X (binaryOp .Mod) (r2 X.K M (binF .mod)) := by
  intro pins s σ H x y v u Q I rx ry ⟨ι, G, d, e, R, dx, dy, h⟩
  cases d with
  | int i => cases e with
    | int j =>
      obtain ⟨hc, h⟩ := wp_ifp h
      exact op_mod pins s σ H x y v u Q I rx ry ⟨i, j, dx, dy, hc, Kt.here h R rfl⟩
    | _ => exact h.elim
  | _ => cases e <;> exact h.elim
theorem op_fdiv2 : OpR X (binaryOp .FloorDiv) (r2 X.K M (binF .fdiv)) := by
  intro pins s σ H x y v u Q I rx ry ⟨ι, G, d, e, R, dx, dy, h⟩
  cases d with
  | int i => cases e with
    | int j =>
      obtain ⟨hc, h⟩ := wp_if h
      exact op_fdiv pins s σ H x y v u Q I rx ry ⟨i, j, dx, dy, (by simpa [CDiv] using hc), Kt.here h R rfl⟩
    | _ => exact h.elim
  | _ => cases e <;> exact h.elim
theorem op_pow2 : OpR X (binaryOp .Pow) (r2 X.K M (binF .pow)) := by
  intro pins s σ H x y v u Q I rx ry ⟨ι, G, d, e, R, dx, dy, h⟩
  cases d with
  | int i => cases e with
    | int j =>
      obtain ⟨hc, h⟩ := wp_if h
      have hc : CPow i j := by
        simp only [Bool.and_eq_true, decide_eq_true_eq] at hc
        have := wide_ok hc.2
        exact ⟨hc.1.1, by omega, by omega⟩
      exact op_pow pins s σ H x y v u Q I rx ry ⟨i, j, dx, dy, hc, Kt.here h R rfl⟩
    | _ => exact h.elim
  | _ => cases e <;> exact h.elim
theorem op_shl2 : OpR X (binaryOp .LShift) (r2 X.K M (binF .shl)) := by
  intro pins s σ H x y v u Q I rx ry ⟨ι, G, d, e, R, dx, dy, h⟩
  cases d with
  | int i => cases e with
    | int j =>
      obtain ⟨hc, h⟩ := wp_if h
      have hc : CPow i j := by
        simp only [Bool.and_eq_true, decide_eq_true_eq] at hc
        have := wide_ok hc.2
        exact ⟨hc.1.1, by omega, by omega⟩
      exact op_shl pins s σ H x y v u Q I rx ry ⟨i, j, dx, dy, hc, Kt.here h R rfl⟩
    | _ => exact h.elim
  | _ => cases e <;> exact h.elim
theorem op_shr2 : OpR X (binaryOp .RShift) (r2 X.K M (binF .shr)) := by
  intro pins s σ H x y v u Q I rx ry ⟨ι, G, d, e, R, dx, dy, h⟩
  cases d with
  | int i => cases e with
    | int j =>
      obtain ⟨hc, h⟩ := wp_ifp h
      exact op_shr pins s σ H x y v u Q I rx ry ⟨i, j, dx, dy, hc, Kt.here h R rfl⟩
    | _ => exact h.elim
  | _ => cases e <;> exact h.elim
theorem op_and2 : OpR X (binaryOp .BitAnd) (r2 X.K M (binF .band)) := by
  intro pins s σ H x y v u Q I rx ry ⟨ι, G, d, e, R, dx, dy, h⟩
  cases d with
  | int i => cases e with
    | int j =>
      exact op_and pins s σ H x y v u Q I rx ry ⟨i, j, dx, dy, Kt.here h R rfl⟩
    | _ => exact h.elim
  | _ => cases e <;> exact h.elim
theorem op_or2 : OpR X (binaryOp .BitOr) (r2 X.K M (binF .bor)) := by
  intro pins s σ H x y v u Q I rx ry ⟨ι, G, d, e, R, dx, dy, h⟩
  cases d with
  | int i => cases e with
    | int j =>
      exact op_or pins s σ H x y v u Q I rx ry ⟨i, j, dx, dy, Kt.here h R rfl⟩
    | _ => exact h.elim
  | _ => cases e <;> exact h.elim
theorem op_xor2 : OpR X (binaryOp .BitXor) (r2 X.K M (binF .bxor)) := by
  intro pins s σ H x y v u Q I rx ry ⟨ι, G, d, e, R, dx, dy, h⟩
  cases d with
  | int i => cases e with
    | int j =>
      exact op_xor pins s σ H x y v u Q I rx ry ⟨i, j, dx, dy, Kt.here h R rfl⟩
    | _ => exact h.elim
  | _ => cases e <;> exact h.elim
theorem op_bin (o : Bop) : OpR X (binaryOp (bopO o)) (r2 X.K M (binF o)) := by
  cases o with
  | add => exact op_add2
  | sub => exact op_sub2
  | mul => exact op_mul2
  | mod => exact op_mod2
  | fdiv => exact op_fdiv2
  | pow => exact op_pow2
  | shl => exact op_shl2
  | shr => exact op_shr2
  | bor => exact op_or2
  | bxor => exact op_xor2
  | band => exact op_and2
theorem op_neg1 : UnR X (unaryOp .USub) (r1 X.K M (unF .neg)) := by
  intro pins s σ H x v Q I rx ⟨ι, G, d, R, dx, h⟩
  cases d with
  | int i => exact un_neg pins s σ H x v Q I rx ⟨i, dx, Kt.here h R rfl⟩
  | _ => exact h.elim
theorem op_inv1 : UnR X (unaryOp .Invert) (r1 X.K M (unF .inv)) := by
  intro pins s σ H x v Q I rx ⟨ι, G, d, R, dx, h⟩
  cases d with
  | int i => exact un_inv pins s σ H x v Q I rx ⟨i, dx, Kt.here h R rfl⟩
  | _ => exact h.elim
end
end Rf


set_option Elab.async false
set_option linter.all false
set_option maxRecDepth 100000
set_option maxHeartbeats 1000000
/-! R5: comparisons. -/
namespace Rf
open PySem PySem.Spec PyProof.Rows L2
section
variable {K : PySem.W.Frag} {M : Nm} {ι : List Addr} {G : GG} {H : Hp}
theorem toPyL_cons {f : D → Option PyData} {d : D} {ds : List D} {ps : List PyData} (h : toPyL f (d :: ds) = some ps) : ∃ p r, ps = p :: r ∧ f d = some p ∧ toPyL f ds = some r := by
  unfold toPyL at h
  split at h
  · rename_i a b ea eb
    cases h
    exact ⟨a, b, rfl, ea, eb⟩
  · cases h
theorem toPyL_dp {f : D → Option PyData} (hf : ∀ d v p, f d = some p → DR K H ι d v → Dp K H v p) : ∀ {ds : List D} {vs : List V} {ps : List PyData}, toPyL f ds = some ps → DRs K H ι ds vs → DpAll K H vs ps
  | [], [], ps, h, _ => by cases h; exact .nil
  | d :: ds, v :: vs, ps, h, r => by
    obtain ⟨p, q, rfl, h1, h2⟩ := toPyL_cons h
    exact .cons (hf _ _ _ h1 r.1) (toPyL_dp hf h2 r.2)
  | [], _ :: _, _, _, r => r.elim
  | _ :: _, [], _, _, r => r.elim
theorem toPy_dp (R : Rep K M ι G H) : ∀ (n : Nat) (d : D) (v : V) (p : PyData), toPy G n d = some p → DR K H ι d v → Dp K H v p
  | 0, _, _, _, h, _ => by cases h
  | n + 1, .non, v, p, h, r => by cases h; cases r; exact .non
  | n + 1, .bl b, v, p, h, r => by cases h; cases r; exact .bl b
  | n + 1, .int i, v, p, h, r => by cases h; cases r; exact .int i
  | n + 1, .str cs, v, p, h, r => by
    unfold toPy at h
    simp only at h
    split at h
    · cases h; cases r; exact .str _
    · cases h
  | n + 1, .tup ds, v, p, h, r => by
    unfold toPy at h
    simp only [Option.map_eq_some_iff] at h
    obtain ⟨ps, h1, rfl⟩ := h
    obtain ⟨a, vs, rfl, s, rv⟩ := r
    exact .tup s (toPyL_dp (fun d v p => toPy_dp R n d v p) h1 rv)
  | n + 1, .cl ds, v, p, h, r => by
    unfold toPy at h
    simp only [Option.map_eq_some_iff] at h
    obtain ⟨ps, h1, rfl⟩ := h
    obtain ⟨a, vs, rfl, s, rv⟩ := r
    exact .lst s.sq (toPyL_dp (fun d v p => toPy_dp R n d v p) h1 rv)
  | n + 1, .ref k, v, p, h, r => by
    unfold toPy at h
    simp only at h
    split at h
    · rename_i ds e
      simp only [Option.map_eq_some_iff] at h
      obtain ⟨ps, h1, rfl⟩ := h
      obtain ⟨a, vs, rfl, _, hv, rv⟩ := R.lst e r
      exact .lst (.of hv) (toPyL_dp (fun d v p => toPy_dp R n d v p) h1 rv)
    · cases h
theorem toPyL_ok {f : D → Option PyData} {n : Nat} (hf : ∀ d p, f d = some p → p.canLay0 = true ∧ p.depth ≤ n) : ∀ {ds : List D} {ps : List PyData}, toPyL f ds = some ps → PyData.canLayAll0 ps = true ∧ PyData.depthAll ps ≤ n
  | [], ps, h => by cases h; exact ⟨rfl, by simp [PyData.depthAll]⟩
  | d :: ds, ps, h => by
    obtain ⟨p, q, rfl, h1, h2⟩ := toPyL_cons h
    obtain ⟨a1, a2⟩ := hf _ _ h1
    obtain ⟨b1, b2⟩ := toPyL_ok hf h2
    refine ⟨by simp [PyData.canLayAll0, a1, b1], ?_⟩
    simp only [PyData.depthAll]
    omega
theorem toPy_ok : ∀ (n : Nat) (d : D) (p : PyData), toPy G n d = some p → p.canLay0 = true ∧ p.depth ≤ n
  | 0, _, _, h => by cases h
  | n + 1, .non, p, h => by cases h; simp [PyData.canLay0, PyData.depth]
  | n + 1, .bl b, p, h => by cases h; simp [PyData.canLay0, PyData.depth]
  | n + 1, .int i, p, h => by cases h; simp [PyData.canLay0, PyData.depth]
  | n + 1, .str cs, p, h => by
    unfold toPy at h
    simp only at h
    split at h
    · rename_i e
      cases h; simp [PyData.canLay0, PyData.depth, e]
    · cases h
  | n + 1, .tup ds, p, h => by
    unfold toPy at h
    simp only [Option.map_eq_some_iff] at h
    obtain ⟨ps, h1, rfl⟩ := h
    obtain ⟨a1, a2⟩ := toPyL_ok (toPy_ok n) h1
    refine ⟨by simpa [PyData.canLay0] using a1, ?_⟩
    simp only [PyData.depth]; omega
  | n + 1, .cl ds, p, h => by
    unfold toPy at h
    simp only [Option.map_eq_some_iff] at h
    obtain ⟨ps, h1, rfl⟩ := h
    obtain ⟨a1, a2⟩ := toPyL_ok (toPy_ok n) h1
    refine ⟨by simpa [PyData.canLay0] using a1, ?_⟩
    simp only [PyData.depth]; omega
  | n + 1, .ref k, p, h => by
    unfold toPy at h
    simp only at h
    split at h
    · simp only [Option.map_eq_some_iff] at h
      obtain ⟨ps, h1, rfl⟩ := h
      obtain ⟨a1, a2⟩ := toPyL_ok (toPy_ok n) h1
      refine ⟨by simpa [PyData.canLay0] using a1, ?_⟩
      simp only [PyData.depth]; omega
    · cases h
theorem pyD_shaped {d : D} {p : PyData} (h : pyD G d = some p) : SeqAt.shaped p = true := by
  obtain ⟨h1, h2⟩ := toPy_ok 8 d p h
  unfold SeqAt.shaped
  rw [h1, decide_eq_true (by omega)]
  rfl
theorem pyD_dp (R : Rep K M ι G H) {d : D} {v : V} {p : PyData} (h : pyD G d = some p) (r : DR K H ι d v) : Dp K H v p := toPy_dp R 8 d v p h r
/-- a list's items, whatever list it is -/
theorem Rep.list (R : Rep K M ι G H) {d : D} {ds : List D} {v : V} (h : lstOf G d = some ds) (r : DR K H ι d v) : ∃ p vs, v = .ref p ∧ SqL K H p vs ∧ DRs K H ι ds vs := by
  cases d with
  | cl xs =>
    cases h
    obtain ⟨a, vs, e, s, rv⟩ := r
    exact ⟨a, vs, e, s.sq, rv⟩
  | ref k =>
    obtain ⟨p, vs, e, _, hv, rv⟩ := R.lst (show getL G k = some ds from h) r
    exact ⟨p, vs, e, .of hv, rv⟩
  | _ => cases h
theorem Rep.seq (R : Rep K M ι G H) {d : D} {ds : List D} {v : V} (h : seqOf G d = some ds) (r : DR K H ι d v) : ∃ p vs, v = .ref p ∧ (SqL K H p vs ∨ SqT K H p vs) ∧ DRs K H ι ds vs := by
  cases d with
  | tup xs =>
    cases h
    obtain ⟨a, vs, e, s, rv⟩ := r
    exact ⟨a, vs, e, .inr s, rv⟩
  | cl xs =>
    cases h
    obtain ⟨a, vs, e, s, rv⟩ := r
    exact ⟨a, vs, e, .inl s.sq, rv⟩
  | ref k =>
    obtain ⟨p, vs, e, _, hv, rv⟩ := R.lst (show getL G k = some ds from h) r
    exact ⟨p, vs, e, .inl (.of hv), rv⟩
  | _ => cases h
end
section
variable {X : Cx} {M : Nm}
/-- an operation on two values that leaves the heap -/
def r2b (K : PySem.W.Frag) (M : Nm) (f : D → D → GG → Option Bool) : R2 := r2 K M fun x y G => ofB (f x y G) G
theorem lists_ne {pins : List (Addr × Obj)} {s : Shared} {σ : L2.St} {H : Hp} {p q : Addr} {vs us : List V} {Q : Value → Shared → Prop} {E : Value → Shared → Prop} (I : Inv X pins σ H s) (hp : SqL X.K H p vs) (hq : SqL X.K H q us) (hl : vs.length ≠ us.length) (hu : X.A.units < cLine)
    (h : Q (.bool false) s) : wpAny (model X.prog X.w) X.A (compareOp .Eq (.ref p) (.ref q)) Q E s := by
  obtain ⟨its, r1, pl1, _⟩ := I.list hp
  obtain ⟨its2, r2, pl2, _⟩ := I.list hq
  refine SeqAt.eq_list_lengthsAt pl1.isList pl2.isList ?_ hu h
  have e1 := r1.length
  have e2 := r2.length
  simp only [bne_iff_ne, ne_eq, List.size_toArray]
  omega
theorem eqF_cases {G : GG} {x y : D} {b : Bool} (h : eqF G x y = some b) : (∃ p q, pyD G x = some p ∧ pyD G y = some q ∧ b = PyData.eqv p q) ∨ (∃ xs ys, lstOf G x = some xs ∧ lstOf G y = some ys ∧ xs.length ≠ ys.length ∧ b = false) := by
  unfold eqF at h
  split at h
  · rename_i a c ea ec
    cases h
    exact .inl ⟨a, c, ea, ec, rfl⟩
  · split at h
    · rename_i xs ys ex ey
      split at h
      · cases h
      · rename_i hn
        cases h
        exact .inr ⟨xs, ys, ex, ey, by simpa using hn, rfl⟩
    · cases h
theorem op_eq2 (hu : X.A.units + 64 < cLine) : OpR X (compareOp .Eq) (r2b X.K M fun x y G => cmpF .eq x y G) := by
  intro pins s σ H x y v u Q I rx ry ⟨ι, G, d, e, R, dx, dy, h⟩
  obtain ⟨b, hb, q⟩ := wp_ofB h
  rcases eqF_cases hb with ⟨p1, p2, h1, h2, rfl⟩ | ⟨xs, ys, h1, h2, hn, rfl⟩
  · exact op_eqD hu pins s σ H x y v u Q I rx ry ⟨p1, p2, pyD_dp R h1 dx, pyD_dp R h2 dy, pyD_shaped h1, pyD_shaped h2, Kt.here q R rfl⟩
  · obtain ⟨p, vs, rfl, sp, rp⟩ := R.list h1 dx
    obtain ⟨q', us, rfl, sq, rq⟩ := R.list h2 dy
    cases rx
    cases ry
    exact lists_ne I sp sq (by rw [← rp.length, ← rq.length]; exact hn) (by omega) ⟨.bl false, H, I, rfl, Kt.here q R rfl⟩
theorem neP_ok {a b : Option PyData} {r : Bool} (h : neP a b = some r) : ∃ p q, a = some p ∧ b = some q ∧ r = !PyData.eqv p q := by
  cases a with
  | none => cases h
  | some x => cases b with
    | none => cases h
    | some y => cases h; exact ⟨x, y, rfl, rfl, rfl⟩
theorem ltP_ok {a b : Option PyData} {r : Bool} (h : ltP a b = some r) : ∃ p q, a = some p ∧ b = some q ∧ PySem.W.alike p q = true ∧ r = PySem.W.dataLt p q := by
  unfold ltP at h
  split at h
  · rename_i x y
    split at h
    · rename_i e
      exact ⟨x, y, rfl, rfl, e, (Option.some.inj h).symm⟩
    · cases h
  · cases h
theorem op_ne2 (hu : X.A.units + 64 < cLine) : OpR X (compareOp .NotEq) (r2b X.K M fun x y G => cmpF .ne x y G) := by
  intro pins s σ H x y v u Q I rx ry ⟨ι, G, d, e, R, dx, dy, h⟩
  obtain ⟨b, hb, q⟩ := wp_ofB h
  obtain ⟨p1, p2, h1, h2, rfl⟩ := neP_ok hb
  exact op_neD hu pins s σ H x y v u Q I rx ry ⟨p1, p2, pyD_dp R h1 dx, pyD_dp R h2 dy, pyD_shaped h1, pyD_shaped h2, Kt.here q R rfl⟩
theorem op_lt2 (hu : X.A.units + 64 < cLine) : OpR X (compareOp .Lt) (r2b X.K M fun x y G => cmpF .lt x y G) := by
  intro pins s σ H x y v u Q I rx ry ⟨ι, G, d, e, R, dx, dy, h⟩
  obtain ⟨b, hb, q⟩ := wp_ofB h
  cases d with
  | int i => cases e with
    | int j =>
      cases hb
      exact op_lt pins s σ H x y v u Q I rx ry ⟨i, j, dx, dy, Kt.here q R rfl⟩
    | _ => cases hb
  | str i => cases e with
    | str j =>
      cases hb
      exact op_lt_str pins s σ H x y v u Q I rx ry ⟨_, _, dx, dy, Kt.here q R (by show _ = _; simp)⟩
    | _ => cases hb
  | tup i => cases e with
    | tup j =>
      obtain ⟨p1, p2, h1, h2, ha, rfl⟩ := ltP_ok hb
      · obtain ⟨as, r1⟩ := Dp.reads I p1 x v (pyD_dp R h1 dx) rx
        obtain ⟨bs, r2⟩ := Dp.reads I p2 y u (pyD_dp R h2 dy) ry
        have hn : p1 ≠ .none := fun z => by
          subst z
          unfold pyD toPy at h1
          simp only [Option.map_eq_some_iff] at h1
          obtain ⟨_, _, z⟩ := h1
          cases z
        have hd := (toPy_ok 8 _ _ h1).2
        refine PySem.W.lt_data r1 r2 ha hn (by have := Nat.min_le_left p1.depth p2.depth; omega) ⟨.bl _, H, I, rfl, Kt.here q R rfl⟩
    | _ => cases hb
  | _ => cases e <;> cases hb
theorem op_ii2 {op : CmpOp} {o : Cop} {g : Int → Int → Bool} (ho : OpR X (compareOp op) (rI0 fun i j => .bl (g i j))) (hc : ∀ x y G b, cmpF o x y G = some b → ∃ i j, x = .int i ∧ y = .int j ∧ b = g i j) :
    OpR X (compareOp op) (r2b X.K M fun x y G => cmpF o x y G) := by
  intro pins s σ H x y v u Q I rx ry ⟨ι, G, d, e, R, dx, dy, h⟩
  obtain ⟨b, hb, q⟩ := wp_ofB h
  obtain ⟨i, j, rfl, rfl, rfl⟩ := hc _ _ _ _ hb
  exact ho pins s σ H x y v u Q I rx ry ⟨i, j, dx, dy, Kt.here q R rfl⟩
theorem op_gt2 : OpR X (compareOp .Gt) (r2b X.K M fun x y G => cmpF .gt x y G) := op_ii2 op_gt fun x y G b h => by
  cases x <;> cases y <;> first | (cases h; exact ⟨_, _, rfl, rfl, rfl⟩) | cases h
theorem op_le2 : OpR X (compareOp .LtE) (r2b X.K M fun x y G => cmpF .le x y G) := op_ii2 op_le fun x y G b h => by
  cases x <;> cases y <;> first | (cases h; exact ⟨_, _, rfl, rfl, rfl⟩) | cases h
theorem op_ge2 : OpR X (compareOp .GtE) (r2b X.K M fun x y G => cmpF .ge x y G) := op_ii2 op_ge fun x y G b h => by
  cases x <;> cases y <;> first | (cases h; exact ⟨_, _, rfl, rfl, rfl⟩) | cases h
theorem DR.isNon {K : PySem.W.Frag} {H : Hp} {ι : List Addr} {d : D} {x : V} (r : DR K H ι d x) : decide (x = .non) = isNonB d := by
  cases d with
  | non => cases r; rfl
  | bl b => cases r; rfl
  | int b => cases r; rfl
  | str b => cases r; rfl
  | tup b => obtain ⟨a, vs, rfl, _⟩ := r; rfl
  | cl b => obtain ⟨a, vs, rfl, _⟩ := r; rfl
  | ref b => obtain ⟨a, _, rfl⟩ := r; rfl
theorem isF_cases {x y : D} {b : Bool} (h : isF x y = some b) : (y = .non ∧ b = isNonB x) ∨ ∃ p q, x = .bl p ∧ y = .bl q ∧ b = (p == q) := by
  cases y with
  | non => cases x <;> (cases h; exact .inl ⟨rfl, rfl⟩)
  | bl q => cases x with
    | bl p => cases h; exact .inr ⟨p, q, rfl, rfl, rfl⟩
    | _ => cases h
  | _ => cases x <;> cases h
theorem op_is2 : OpR X (compareOp .Is) (r2b X.K M fun x y G => cmpF .is x y G) := by
  intro pins s σ H x y v u Q I rx ry ⟨ι, G, d, e, R, dx, dy, h⟩
  obtain ⟨b, hb, q⟩ := wp_ofB h
  rcases isF_cases hb with ⟨rfl, rfl⟩ | ⟨p, p', rfl, rfl, rfl⟩
  · exact op_isN pins s σ H x y v u Q I rx ry ⟨dy, by rw [dx.isNon]; exact Kt.here q R rfl⟩
  · exact op_is_bl pins s σ H x y v u Q I rx ry ⟨p, p', dx, dy, by rw [show decide (p = p') = (p == p') from by cases p <;> cases p' <;> rfl]; exact Kt.here q R rfl⟩
theorem op_isnot2 : OpR X (compareOp .IsNot) (r2b X.K M fun x y G => cmpF .isnot x y G) := by
  intro pins s σ H x y v u Q I rx ry ⟨ι, G, d, e, R, dx, dy, h⟩
  obtain ⟨b, hb, q⟩ := wp_ofB h
  obtain ⟨c, hc, rfl⟩ := Option.map_eq_some_iff.mp (show (isF d e).map (!·) = some b from hb)
  rcases isF_cases hc with ⟨rfl, rfl⟩ | ⟨p, p', rfl, rfl, rfl⟩
  · exact op_notN pins s σ H x y v u Q I rx ry ⟨dy, by rw [dx.isNon]; exact Kt.here q R rfl⟩
  · exact op_isnot_bl pins s σ H x y v u Q I rx ry ⟨p, p', dx, dy, by rw [show decide (p = p') = (p == p') from by cases p <;> cases p' <;> rfl]; exact Kt.here q R rfl⟩
theorem strIn_eq {x z : List Nat} (hx : ∀ c, x = [c] → False) : strIn x z = !(Builtin.Str.occurrences ⟨z.toArray⟩ ⟨x.toArray⟩ 0 (⟨z.toArray⟩ : Str).length 1).isEmpty := by
  unfold strIn
  split
  · rename_i c
    exact (hx c rfl).elim
  · simp [Str.length]
theorem eqvAny_eq (a : PyData) : ∀ bs : List PyData, eqvAny a bs = bs.any fun z => PyData.eqv z a
  | [] => rfl
  | b :: r => by simp [eqvAny, eqvAny_eq a r]
theorem inF_cases {G : GG} {x y : D} {b : Bool} (h : inF G x y = some b) : (∃ a z, x = .str a ∧ y = .str z ∧ b = strIn a z) ∨
    ∃ ds p ps, seqOf G y = some ds ∧ pyD G x = some p ∧ toPyL (toPy G 8) ds = some ps ∧ b = eqvAny p ps := by
  have key : ∀ y, (match seqOf G y with
    | some ds => match pyD G x, toPyL (toPy G 8) ds with
      | some a, some bs => some (eqvAny a bs)
      | _, _ => none
    | none => none) = some b → ∃ ds p ps, seqOf G y = some ds ∧ pyD G x = some p ∧ toPyL (toPy G 8) ds = some ps ∧ b = eqvAny p ps := fun y h => by
    split at h
    · rename_i ds e
      split at h
      · rename_i p ps e1 e2
        cases h
        exact ⟨ds, p, ps, e, e1, e2, rfl⟩
      · cases h
    · cases h
  cases y with
  | str z => cases x with
    | str a => cases h; exact .inl ⟨a, z, rfl, rfl, rfl⟩
    | _ => cases h
  | _ => exact .inr (key _ h)
theorem DRs.dpAll {K : PySem.W.Frag} {M : Nm} {ι : List Addr} {G : GG} {H : Hp} (R : Rep K M ι G H) {ds : List D} {vs : List V} {ps : List PyData} (h : toPyL (toPy G 8) ds = some ps) (r : DRs K H ι ds vs) : DpAll K H vs ps :=
  toPyL_dp (fun d v p => toPy_dp R 8 d v p) h r
theorem op_inSeq (hu : X.A.units + 65 < cLine) {pins : List (Addr × Obj)} {s : Shared} {σ : L2.St} {H : Hp} {x : V} {v : Value} {p : Addr} {vs : List V} {d : PyData} {ps : List PyData} {Q : Value → Shared → Prop} {E : Value → Shared → Prop} (I : Inv X pins σ H s) (rx : RelV x v)
    (hs : SqL X.K H p vs ∨ SqT X.K H p vs) (hd : Dp X.K H x d) (hps : DpAll X.K H vs ps) (sd : SeqAt.shaped d = true) (cps : PyData.canLayAll0 ps = true) (h : Q (.bool (eqvAny d ps)) s) :
    wpAny (model X.prog X.w) X.A (compareOp .In v (.ref p)) Q E s := by
  obtain ⟨as, r1⟩ := Dp.reads I d x v hd rx
  rw [eqvAny_eq] at h
  rcases hs with hs | hs
  · obtain ⟨bs, r2⟩ := Dp.reads I (.list ps) (.ref p) (.ref p) (.lst hs hps) rfl
    exact SeqAt.in_list_reads r2 r1 cps (SeqAt.canLay_of_shaped sd) (room_in_shaped sd hu) h
  · obtain ⟨bs, r2⟩ := Dp.reads I (.tuple ps) (.ref p) (.ref p) (.tup hs hps) rfl
    exact SeqAt.in_tuple_reads r2 r1 cps (SeqAt.canLay_of_shaped sd) (room_in_shaped sd hu) h
theorem op_notInSeq (hu : X.A.units + 65 < cLine) {pins : List (Addr × Obj)} {s : Shared} {σ : L2.St} {H : Hp} {x : V} {v : Value} {p : Addr} {vs : List V} {d : PyData} {ps : List PyData} {Q : Value → Shared → Prop} {E : Value → Shared → Prop} (I : Inv X pins σ H s) (rx : RelV x v)
    (hs : SqL X.K H p vs ∨ SqT X.K H p vs) (hd : Dp X.K H x d) (hps : DpAll X.K H vs ps) (sd : SeqAt.shaped d = true) (cps : PyData.canLayAll0 ps = true) (h : Q (.bool (!eqvAny d ps)) s) :
    wpAny (model X.prog X.w) X.A (compareOp .NotIn v (.ref p)) Q E s := by
  obtain ⟨as, r1⟩ := Dp.reads I d x v hd rx
  rw [eqvAny_eq] at h
  rcases hs with hs | hs
  · obtain ⟨bs, r2⟩ := Dp.reads I (.list ps) (.ref p) (.ref p) (.lst hs hps) rfl
    exact SeqAt.notIn_list_reads r2 r1 cps (SeqAt.canLay_of_shaped sd) (room_in_shaped sd hu) h
  · obtain ⟨bs, r2⟩ := Dp.reads I (.tuple ps) (.ref p) (.ref p) (.tup hs hps) rfl
    exact SeqAt.notIn_tuple_reads r2 r1 cps (SeqAt.canLay_of_shaped sd) (room_in_shaped sd hu) h
theorem op_in2 (hu : X.A.units + 65 < cLine) : OpR X (compareOp .In) (r2b X.K M fun x y G => cmpF .inn x y G) := by
  intro pins s σ H x y v u Q I rx ry ⟨ι, G, d, e, R, dx, dy, h⟩
  obtain ⟨b, hb, q⟩ := wp_ofB h
  rcases inF_cases hb with ⟨a, z, rfl, rfl, rfl⟩ | ⟨ds, p, ps, h1, h2, h3, rfl⟩
  · by_cases hx : ∃ c, a = [c]
    · obtain ⟨c, rfl⟩ := hx
      refine op_in_sign pins s σ H x y v u Q I rx ry ⟨c, _, dx, dy, ?_⟩
      have e : decide (c ∈ (⟨z.toArray⟩ : Str).cps.toList) = strIn [c] z := by simp [strIn, List.elem_eq_mem]
      rw [e]
      exact Kt.here q R rfl
    · refine op_in_str pins s σ H x y v u Q I rx ry ⟨_, _, dx, dy, ?_⟩
      rw [← strIn_eq fun c z => hx ⟨c, z⟩]
      exact Kt.here q R rfl
  · obtain ⟨q', vs, rfl, sq, rv⟩ := R.seq h1 dy
    cases ry
    exact op_inSeq hu I rx sq (pyD_dp R h2 dx) (rv.dpAll R h3) (pyD_shaped h2) (toPyL_ok (toPy_ok 8) h3).1 ⟨.bl _, H, I, rfl, Kt.here q R rfl⟩
theorem op_notin2 (hu : X.A.units + 65 < cLine) : OpR X (compareOp .NotIn) (r2b X.K M fun x y G => cmpF .notin x y G) := by
  intro pins s σ H x y v u Q I rx ry ⟨ι, G, d, e, R, dx, dy, h⟩
  obtain ⟨b, hb, q⟩ := wp_ofB h
  obtain ⟨c, hc, rfl⟩ := Option.map_eq_some_iff.mp (show (inF G d e).map (!·) = some b from hb)
  rcases inF_cases hc with ⟨a, z, rfl, rfl, rfl⟩ | ⟨ds, p, ps, h1, h2, h3, rfl⟩
  · by_cases hx : ∃ c, a = [c]
    · obtain ⟨c, rfl⟩ := hx
      refine op_notIn_sign pins s σ H x y v u Q I rx ry ⟨c, _, dx, dy, ?_⟩
      have e : decide (c ∈ (⟨z.toArray⟩ : Str).cps.toList) = strIn [c] z := by simp [strIn, List.elem_eq_mem]
      rw [e]
      exact Kt.here q R rfl
    · refine op_notIn_str pins s σ H x y v u Q I rx ry ⟨_, _, dx, dy, ?_⟩
      rw [← strIn_eq fun c z => hx ⟨c, z⟩]
      exact Kt.here q R rfl
  · obtain ⟨q', vs, rfl, sq, rv⟩ := R.seq h1 dy
    cases ry
    exact op_notInSeq hu I rx sq (pyD_dp R h2 dx) (rv.dpAll R h3) (pyD_shaped h2) (toPyL_ok (toPy_ok 8) h3).1 ⟨.bl _, H, I, rfl, Kt.here q R rfl⟩
def copO : Cop → CmpOp
  | .eq => .Eq | .ne => .NotEq | .lt => .Lt | .le => .LtE | .gt => .Gt | .ge => .GtE | .is => .Is | .isnot => .IsNot | .inn => .In | .notin => .NotIn
theorem op_cmp (hu : X.A.units + 65 < cLine) (o : Cop) : OpR X (compareOp (copO o)) (r2b X.K M fun x y G => cmpF o x y G) := by
  cases o with
  | eq => exact op_eq2 (by omega)
  | ne => exact op_ne2 (by omega)
  | lt => exact op_lt2 (by omega)
  | le => exact op_le2
  | gt => exact op_gt2
  | ge => exact op_ge2
  | is => exact op_is2
  | isnot => exact op_isnot2
  | inn => exact op_in2 hu
  | notin => exact op_notin2 hu
end
end Rf


set_option Elab.async false
set_option linter.all false
set_option maxRecDepth 100000
set_option maxHeartbeats 1000000
/-! R6: places, slices, built-in functions, methods of built-in types. -/
namespace Rf
open PySem PySem.Spec PyProof.Rows L2
section
variable {K : PySem.W.Frag} {M : Nm} {ι : List Addr} {G : GG} {H : Hp}
theorem DRs.at {ds : List D} {vs : List V} {i : Int} {d : D} (r : DRs K H ι ds vs) (h : atI ds i = some d) : ∃ v, atI vs i = some v ∧ DR K H ι d v := by
  unfold atI at h ⊢
  rw [r.length] at h
  obtain ⟨j, hj, hd⟩ := Option.bind_eq_some_iff.mp h
  obtain ⟨v, hv, rv⟩ := r.get hd
  exact ⟨v, by rw [hj]; exact hv, rv⟩
theorem DRs.drop : ∀ {ds : List D} {vs : List V} (n : Nat), DRs K H ι ds vs → DRs K H ι (ds.drop n) (vs.drop n)
  | _, _, 0, h => h
  | [], [], n + 1, _ => trivial
  | _ :: _, _ :: _, n + 1, h => DRs.drop n h.2
  | [], _ :: _, _ + 1, h => h.elim
  | _ :: _, [], _ + 1, h => h.elim
theorem DRs.take : ∀ {ds : List D} {vs : List V} (n : Nat), DRs K H ι ds vs → DRs K H ι (ds.take n) (vs.take n)
  | _, _, 0, _ => by simp [DRs]
  | [], [], n + 1, _ => trivial
  | _ :: _, _ :: _, n + 1, h => ⟨h.1, DRs.take n h.2⟩
  | [], _ :: _, _ + 1, h => h.elim
  | _ :: _, [], _ + 1, h => h.elim
theorem DRs.cut {ds : List D} {vs : List V} (r : DRs K H ι ds vs) (lo hi : Option Int) : DRs K H ι (Rf.cut ds lo hi) (cutV vs lo hi) := by
  unfold Rf.cut cutV
  rw [r.length]
  exact (r.drop _).take _
/-- keys of a dict -/
theorem DR.key {d : D} {k : Key} (r : DR K H ι d (kV k)) : (∃ i, d = .int i ∧ k = .inl i) ∨ ∃ cs, d = .str cs ∧ k = .inr ⟨cs.toArray⟩ := by
  cases d with
  | int i => cases k with
    | inl j => cases (show V.int j = V.int i from r); exact .inl ⟨i, rfl, rfl⟩
    | inr z => cases (show V.str z = V.int i from r)
  | str cs => cases k with
    | inl j => cases (show V.int j = V.str _ from r)
    | inr z => cases (show V.str z = V.str _ from r); exact .inr ⟨cs, rfl, rfl⟩
  | non => cases k <;> cases (show _ = V.non from r)
  | bl b => cases k <;> cases (show _ = V.bl b from r)
  | tup b => obtain ⟨a, vs, e, _⟩ := r; cases k <;> cases e
  | cl b => obtain ⟨a, vs, e, _⟩ := r; cases k <;> cases e
  | ref b => obtain ⟨a, _, e⟩ := r; cases k <;> cases e
theorem key_of_flat {d : D} {v : V} (h : flatKey d = true) (r : DR K H ι d v) : ∃ k, v = kV k := by
  cases d with
  | int i => exact ⟨.inl i, r⟩
  | str cs => exact ⟨.inr _, r⟩
  | _ => cases h
theorem arr_inj {a b : List Nat} (h : (⟨a.toArray⟩ : Str) = ⟨b.toArray⟩) : a = b := by
  have h1 : a.toArray = b.toArray := by
    injection h
  simpa using congrArg Array.toList h1
theorem beq_key {d e : D} {k l : Key} (r : DR K H ι d (kV k)) (q : DR K H ι e (kV l)) : D.beq d e = decide (k = l) := by
  rcases r.key with ⟨i, rfl, rfl⟩ | ⟨a, rfl, rfl⟩ <;> rcases q.key with ⟨j, rfl, rfl⟩ | ⟨b, rfl, rfl⟩
  · by_cases h : i = j
    · subst h; simp [D.beq]
    · rw [decide_eq_false (by intro z; exact h (Sum.inl.inj z))]; simp [D.beq, h]
  · rw [decide_eq_false (by intro z; cases z)]; simp [D.beq]
  · rw [decide_eq_false (by intro z; cases z)]; simp [D.beq]
  · by_cases h : a = b
    · subst h; simp [D.beq]
    · rw [decide_eq_false (by intro z; exact h (arr_inj (Sum.inr.inj z)))]; simp [D.beq, h]
theorem KR.find {d : D} {k : Key} (r : DR K H ι d (kV k)) : ∀ {kvs : List (D × D)} {xs : List (Key × V)}, KR K H ι kvs xs →
    (match dkFind d kvs with
      | some e => ∃ v, valV xs k = some v ∧ DR K H ι e v
      | none => valV xs k = none)
  | [], [], _ => rfl
  | (a, w) :: kvs, (l, y) :: xs, h => by
    have e := beq_key h.1 r
    unfold dkFind
    by_cases hk : l = k
    · rw [decide_eq_true hk] at e
      rw [e, if_pos rfl]
      exact ⟨y, valV_pos hk, h.2.1⟩
    · rw [decide_eq_false hk] at e
      rw [e, if_neg (by simp)]
      have ih := KR.find r h.2.2
      rw [valV_neg (p := (l, y)) hk]
      exact ih
  | [], _ :: _, h => h.elim
  | (_, _) :: _, [], h => h.elim
theorem KR.any {d : D} {k : Key} (r : DR K H ι d (kV k)) {kvs : List (D × D)} {xs : List (Key × V)} (h : KR K H ι kvs xs) : (valV xs k).isSome = (dkFind d kvs).isSome := by
  have q := h.find r
  split at q
  · rename_i e1 e2; obtain ⟨v, h1, _⟩ := q; rw [h1, e2]; rfl
  · rename_i e2; rw [q, e2]; rfl
theorem KR.length : ∀ {kvs : List (D × D)} {xs : List (Key × V)}, KR K H ι kvs xs → kvs.length = xs.length
  | [], [], _ => rfl
  | (_, _) :: _, (_, _) :: _, h => congrArg Nat.succ (KR.length h.2.2)
  | [], _ :: _, h => h.elim
  | (_, _) :: _, [], h => h.elim
theorem KR.put {d e : D} {k : Key} {v : V} (r : DR K H ι d (kV k)) (q : DR K H ι e v) : ∀ {kvs : List (D × D)} {xs : List (Key × V)}, KR K H ι kvs xs → (xs.map (·.1)).Nodup → KR K H ι (dkPut d e kvs) (putK xs k v) := by
  have key : ∀ {kvs : List (D × D)} {xs : List (Key × V)}, KR K H ι kvs xs → (xs.map (·.1)).Nodup →
      KR K H ι (dkPut d e kvs) (if (xs.any fun kv => decide (kv.1 = k)) = true then xs.map fun kv => if kv.1 = k then (kv.1, v) else kv else xs ++ [(k, v)]) := by
    intro kvs
    induction kvs with
    | nil =>
      intro xs h _
      cases xs with
      | nil => exact ⟨r, q, trivial⟩
      | cons _ _ => exact h.elim
    | cons p kvs ih =>
      obtain ⟨a, w⟩ := p
      intro xs h nd
      cases xs with
      | nil => exact h.elim
      | cons t xs =>
        obtain ⟨l, y⟩ := t
        have e1 := beq_key h.1 r
        unfold dkPut
        have nd' : (xs.map (·.1)).Nodup := (List.nodup_cons.mp (by simpa using nd)).2
        by_cases hk : l = k
        · rw [decide_eq_true hk] at e1
          rw [e1, if_pos rfl]
          have ha : (((l, y) :: xs).any fun kv => decide (kv.1 = k)) = true := by simp [hk]
          rw [if_pos ha, List.map_cons, if_pos hk]
          have nk : ∀ z ∈ xs, ¬ z.1 = k := fun z hz q => by
            have := (List.nodup_cons.mp (show (l :: xs.map (·.1)).Nodup from by simpa using nd)).1
            exact this (by rw [hk, ← q]; exact List.mem_map_of_mem hz)
          have em : xs.map (fun kv => if kv.1 = k then (kv.1, v) else kv) = xs := by
            conv => rhs; rw [← List.map_id xs]
            exact List.map_congr_left fun z hz => if_neg (nk z hz)
          rw [em]
          exact ⟨h.1, q, h.2.2⟩
        · rw [decide_eq_false hk] at e1
          rw [e1, if_neg (by simp)]
          have ih' := ih h.2.2 nd'
          have ha : (((l, y) :: xs).any fun kv => decide (kv.1 = k)) = xs.any fun kv => decide (kv.1 = k) := by simp [hk]
          rw [ha]
          by_cases hx : (xs.any fun kv => decide (kv.1 = k)) = true
          · rw [if_pos hx] at ih' ⊢
            rw [List.map_cons, if_neg hk]
            exact ⟨h.1, h.2.1, ih'⟩
          · rw [if_neg hx] at ih' ⊢
            exact ⟨h.1, h.2.1, ih'⟩
  intro kvs xs h nd
  unfold putK
  exact key h nd
theorem FR.look {M : Nm} (nd : M.att.Nodup) {f : Nat} (hf : f < M.att.length) : ∀ {fs : List (Nat × D)} {xs : List (Str × V)}, FR K M H ι fs xs →
    (match fs.lookup f with
      | some e => ∃ v, xs.lookup (M.a f) = some v ∧ DR K H ι e v
      | none => xs.lookup (M.a f) = none)
  | [], [], _ => rfl
  | (g, d) :: fs, (x, v) :: xs, h => by
    obtain ⟨ex, hg, rd, rt⟩ := h
    subst ex
    have ih := FR.look nd hf rt
    rw [List.lookup_cons, List.lookup_cons]
    by_cases e : f = g
    · subst e
      simp only [beq_self_eq_true]
      exact ⟨v, rfl, rd⟩
    · have e2 : (f == g) = false := by simpa using e
      have e3 : (M.a f == M.a g) = false := by
        have : ¬ M.a f = M.a g := fun z => by
          unfold Nm.a at z
          rw [List.getD_eq_getElem?_getD, List.getD_eq_getElem?_getD, List.getElem?_eq_getElem hf, List.getElem?_eq_getElem hg] at z
          exact e ((List.getElem_inj nd).mp z)
        simpa using this
      rw [e2, e3]
      exact ih
  | [], _ :: _, h => h.elim
  | (_, _) :: _, [], h => h.elim
theorem FR.length {M : Nm} : ∀ {fs : List (Nat × D)} {xs : List (Str × V)}, FR K M H ι fs xs → fs.length = xs.length
  | [], [], _ => rfl
  | (_, _) :: _, (_, _) :: _, h => congrArg Nat.succ (FR.length h.2.2.2)
  | [], _ :: _, h => h.elim
  | (_, _) :: _, [], h => h.elim
theorem FR.put {M : Nm} (nd : M.att.Nodup) {f : Nat} (hf : f < M.att.length) {d : D} {v : V} (r : DR K H ι d v) : ∀ {fs : List (Nat × D)} {xs : List (Str × V)}, FR K M H ι fs xs → FR K M H ι (putA f d fs) (putF (M.a f) v xs)
  | [], [], _ => ⟨rfl, hf, r, trivial⟩
  | (g, e) :: fs, (x, w) :: xs, h => by
    obtain ⟨ex, hg, rd, rt⟩ := h
    subst ex
    have ih := FR.put nd hf r rt
    unfold putA putF
    by_cases e1 : g = f
    · subst e1
      simp only [beq_self_eq_true, if_true]
      exact ⟨rfl, hg, r, rt⟩
    · have e3 : ¬ M.a g = M.a f := fun z => by
        unfold Nm.a at z
        rw [List.getD_eq_getElem?_getD, List.getD_eq_getElem?_getD, List.getElem?_eq_getElem hf, List.getElem?_eq_getElem hg] at z
        exact e1 ((List.getElem_inj nd).mp z)
      rw [if_neg e3, if_neg (by simpa using e1)]
      exact ⟨rfl, hg, rd, ih⟩
  | [], _ :: _, h => h.elim
  | (_, _) :: _, [], h => h.elim
end
end Rf


set_option Elab.async false
set_option linter.all false
set_option maxRecDepth 100000
set_option maxHeartbeats 1000000
/-! R7: subscripts, slices, calls of built-ins by values. -/
namespace Rf
open PySem PySem.Spec PyProof.Rows L2
section
variable {X : Cx} {M : Nm}
theorem ix_dk (hu : X.A.units + 1 < cLine) : IxR X (fun x y H Q => ∃ a v, x = .ref a ∧ DGet H a y (some v) ∧ Q v H) := by
  intro value slice pins s σ H x y v u Q I rx ry h hs
  obtain ⟨a, z, rfl, g, q⟩ := h
  cases rx
  exact tail_any (dict_typeIs I g) PySem.F.slot_dict_getitem.lookup (d_getItem hu I g ry fun w' s3 I3 rw' => ⟨z, H, I3, rw', q⟩) hs
theorem dget_of {K : PySem.W.Frag} {ι : List Addr} {H : Hp} {a : Addr} {y : V} {k : D} {kvs : List (D × D)} {xs : List (Key × V)} {e : D} (hk : flatKey k = true) (rk : DR K H ι k y) (hx : H a = some (.dK xs)) (r : KR K H ι kvs xs) (h : dkFind k kvs = some e) :
    ∃ v, DGet H a y (some v) ∧ DR K H ι e v := by
  obtain ⟨k', rfl⟩ := key_of_flat hk rk
  have q := r.find rk
  rw [h] at q
  obtain ⟨v, h1, h2⟩ := q
  exact ⟨v, by rw [← h1]; exact DGet.k hx, h2⟩
theorem op_ix (hu : X.A.units + 1 < cLine) : IxR X (r2 X.K M fun x y G => ofO (idxF x y G) G) := by
  intro value slice pins s σ H x y v u Q I rx ry ⟨ι, G, d, e, R, dx, dy, h⟩ hs
  obtain ⟨b, hb, q⟩ := wp_ofO h
  cases d with
  | str z => cases e with
    | int i =>
      have hb : (if decide (z.length ≤ small) = true then (atI z i).map fun c => .str [c] else none) = some b := hb
      split at hb
      · rename_i hz
        obtain ⟨c, hc, rfl⟩ := Option.map_eq_some_iff.mp hb
        refine ix_str value slice pins s σ H x y v u Q I rx ry ⟨_, i, c, dx, dy, le_small (by simpa [Str.length] using hz), by simpa using hc, ?_⟩ hs
        exact Kt.here q R rfl
      · cases hb
    | _ => cases hb
  | tup ds => cases e with
    | int i =>
      obtain ⟨p, vs, e1, sp, rp⟩ := dx
      obtain ⟨w', hw, rw'⟩ := rp.at (show atI ds i = some b from hb)
      exact ix_tup value slice pins s σ H x y v u Q I rx ry ⟨p, vs, i, w', e1, dy, sp, hw, Kt.here q R rw'⟩ hs
    | _ => cases hb
  | cl ds => cases e with
    | int i =>
      obtain ⟨p, vs, e1, sp, rp⟩ := dx
      obtain ⟨w', hw, rw'⟩ := rp.at (show atI ds i = some b from hb)
      exact ix_list value slice pins s σ H x y v u Q I rx ry ⟨p, vs, i, w', e1, dy, sp.sq, hw, Kt.here q R rw'⟩ hs
    | _ => cases hb
  | ref n =>
    have hb : (match getL G n with
      | some ds => match e with
        | .int i => atI ds i
        | _ => none
      | none => match getK G n with
        | some kvs => if flatKey e = true then dkFind e kvs else none
        | none => none) = some b := by
      cases e <;> exact hb
    split at hb
    · rename_i ds hd
      cases e with
      | int i =>
        obtain ⟨p, vs, e1, hp, hvs, rp⟩ := R.lst hd dx
        obtain ⟨w', hw, rw'⟩ := rp.at (show atI ds i = some b from hb)
        exact ix_list value slice pins s σ H x y v u Q I rx ry ⟨p, vs, i, w', e1, dy, .of hvs, hw, Kt.here q R rw'⟩ hs
      | _ => cases hb
    · split at hb
      · rename_i kvs hk
        split at hb
        · rename_i hf
          obtain ⟨p, xs, e1, hp, hxs, rp⟩ := R.dk hk dx
          obtain ⟨w', g, rw'⟩ := dget_of hf dy hxs rp hb
          exact ix_dk hu value slice pins s σ H x y v u Q I rx ry ⟨p, w', e1, g, Kt.here q R rw'⟩ hs
        · cases hb
      · cases hb
  | _ => cases e <;> cases hb
/-- a slice by values -/
def rSl (K : PySem.W.Frag) (M : Nm) (f : D → Option Int → Option Int → GG → Res D) : V → Option Int → Option Int → Hp → VK → Prop :=
  fun x lo hi H Q => ∃ ι G d, Rep K M ι G H ∧ DR K H ι d x ∧ (f d lo hi G).wp (Kt K M ι H Q) NoE
theorem cut_full {α : Type} {xs : List α} {lo hi : Option Int} (h1 : HT.sIx xs.length 0 lo = 0) (h2 : HT.sIx xs.length xs.length hi = xs.length) : Rf.cut xs lo hi = xs := by
  unfold Rf.cut
  rw [h1, h2]
  simp
theorem op_sl : SlR X (rSl X.K M slF) := by
  intro pins s σ H x v vl vu lo hi sl Q I rx hs pl pu ⟨ι, G, d, R, dx, h⟩
  cases d with
  | str z =>
    obtain ⟨hz, h⟩ := wp_if h
    refine sl_str pins s σ H x v vl vu lo hi sl Q I rx hs pl pu ⟨_, dx, le_small (by simpa [Str.length] using hz), ?_⟩
    refine Kt.here h R ?_
    show _ = _
    simp [cutS, Rf.cut, Str.length]
  | tup ds =>
    obtain ⟨p, vs, e1, sp, rp⟩ := dx
    refine sl_tupA pins s σ H x v vl vu lo hi sl Q I rx hs pl pu ⟨p, vs, e1, sp, fun hw => ?_, fun _ q hq => Kt.tup h R (rp.cut lo hi) hq⟩
    have e : Rf.cut ds lo hi = ds := cut_full (by rw [rp.length]; exact hw.1) (by rw [rp.length]; exact hw.2)
    have h : Kt X.K M ι H Q (.tup (Rf.cut ds lo hi)) G := h
    rw [e] at h
    exact Kt.here h R ⟨p, vs, rfl, sp, rp⟩
  | cl ds =>
    obtain ⟨p, vs, e1, sp, rp⟩ := dx
    exact sl_list pins s σ H x v vl vu lo hi sl Q I rx hs pl pu ⟨p, vs, e1, sp.sq, fun q hq => Kt.lst h R (rp.cut lo hi) hq⟩
  | ref n =>
    simp only [slF] at h
    split at h
    · rename_i ds hd
      obtain ⟨p, vs, e1, hp, hvs, rp⟩ := R.lst hd dx
      exact sl_list pins s σ H x v vl vu lo hi sl Q I rx hs pl pu ⟨p, vs, e1, .of hvs, fun q hq => Kt.lst h R (rp.cut lo hi) hq⟩
    · exact h.elim
  | _ => exact h.elim

/-! ### calls by values -/
def rN (K : PySem.W.Frag) (M : Nm) (f : List D → GG → Res D) : List V → Hp → VK → Prop := fun xs H Q => ∃ ι G ds, Rep K M ι G H ∧ DRs K H ι ds xs ∧ (f ds G).wp (Kt K M ι H Q) NoE
theorem DRs.one {K : PySem.W.Frag} {ι : List Addr} {H : Hp} {d : D} {xs : List V} (r : DRs K H ι [d] xs) : ∃ x, xs = [x] ∧ DR K H ι d x := by
  cases xs with
  | nil => exact r.elim
  | cons x xs => cases xs with
    | nil => exact ⟨x, rfl, r.1⟩
    | cons _ _ => exact r.2.elim
theorem DRs.two {K : PySem.W.Frag} {ι : List Addr} {H : Hp} {d e : D} {xs : List V} (r : DRs K H ι [d, e] xs) : ∃ x y, xs = [x, y] ∧ DR K H ι d x ∧ DR K H ι e y := by
  cases xs with
  | nil => exact r.elim
  | cons x xs =>
    obtain ⟨y, rfl, r2⟩ := DRs.one (show DRs K H ι [e] xs from r.2)
    exact ⟨x, y, rfl, r.1, r2⟩
theorem DRs.none' {K : PySem.W.Frag} {ι : List Addr} {H : Hp} {xs : List V} (r : DRs K H ι [] xs) : xs = [] := by
  cases xs with
  | nil => rfl
  | cons _ _ => exact r.elim
theorem boolsOf_ok {K : PySem.W.Frag} {ι : List Addr} {H : Hp} : ∀ {ds : List D} {vs : List V} {bs : List Bool}, boolsOf ds = some bs → DRs K H ι ds vs → vs = bs.map V.bl
  | [], [], bs, h, _ => by cases h; rfl
  | .bl b :: r, v :: vs, bs, h, q => by
    obtain ⟨cs, hc, rfl⟩ := Option.map_eq_some_iff.mp (show (boolsOf r).map (b :: ·) = some bs from h)
    rw [boolsOf_ok hc q.2, show v = V.bl b from q.1]; rfl
  | [], _ :: _, _, _, q => q.elim
  | _ :: _, [], _, _, q => q.elim
  | .non :: _, _ :: _, _, h, _ | .int _ :: _, _ :: _, _, h, _ | .str _ :: _, _ :: _, _, h, _ | .tup _ :: _, _ :: _, _, h, _ | .cl _ :: _, _ :: _, _, h, _ | .ref _ :: _, _ :: _, _, h, _ => by cases h
theorem intsOf_ok {K : PySem.W.Frag} {ι : List Addr} {H : Hp} : ∀ {ds : List D} {vs : List V} {bs : List Int}, intsOf ds = some bs → DRs K H ι ds vs → vs = bs.map V.int
  | [], [], bs, h, _ => by cases h; rfl
  | .int b :: r, v :: vs, bs, h, q => by
    obtain ⟨cs, hc, rfl⟩ := Option.map_eq_some_iff.mp (show (intsOf r).map (b :: ·) = some bs from h)
    rw [intsOf_ok hc q.2, show v = V.int b from q.1]; rfl
  | [], _ :: _, _, _, q => q.elim
  | _ :: _, [], _, _, q => q.elim
  | .non :: _, _ :: _, _, h, _ | .bl _ :: _, _ :: _, _, h, _ | .str _ :: _, _ :: _, _, h, _ | .tup _ :: _, _ :: _, _, h, _ | .cl _ :: _, _ :: _, _, h, _ | .ref _ :: _, _ :: _, _, h, _ => by cases h
theorem foldl_max : ∀ (r : List Int) (a : Int), r.foldl max a ∈ a :: r ∧ ∀ y ∈ a :: r, y ≤ r.foldl max a
  | [], a => ⟨by simp, by simp⟩
  | b :: r, a => by
    obtain ⟨h1, h2⟩ := foldl_max r (max a b)
    refine ⟨?_, fun y hy => ?_⟩
    · show r.foldl max (max a b) ∈ _
      rcases List.mem_cons.mp h1 with e | e
      · rw [e]
        rcases (by omega : max a b = a ∨ max a b = b) with q | q <;> rw [q] <;> simp
      · exact List.mem_cons_of_mem _ (List.mem_cons_of_mem _ e)
    · show y ≤ r.foldl max (max a b)
      have h3 := h2 (max a b) List.mem_cons_self
      rcases List.mem_cons.mp hy with e | hy
      · subst e; omega
      · rcases List.mem_cons.mp hy with e | hy
        · subst e; omega
        · exact h2 y (List.mem_cons_of_mem _ hy)
theorem foldl_min : ∀ (r : List Int) (a : Int), r.foldl min a ∈ a :: r ∧ ∀ y ∈ a :: r, r.foldl min a ≤ y
  | [], a => ⟨by simp, by simp⟩
  | b :: r, a => by
    obtain ⟨h1, h2⟩ := foldl_min r (min a b)
    refine ⟨?_, fun y hy => ?_⟩
    · show r.foldl min (min a b) ∈ _
      rcases List.mem_cons.mp h1 with e | e
      · rw [e]
        rcases (by omega : min a b = a ∨ min a b = b) with q | q <;> rw [q] <;> simp
      · exact List.mem_cons_of_mem _ (List.mem_cons_of_mem _ e)
    · show r.foldl min (min a b) ≤ y
      have h3 := h2 (min a b) List.mem_cons_self
      rcases List.mem_cons.mp hy with e | hy
      · subst e; omega
      · rcases List.mem_cons.mp hy with e | hy
        · subst e; omega
        · exact h2 y (List.mem_cons_of_mem _ hy)
theorem maxI_ok {ns : List Int} {m k : Int} (h : maxI ns = some k) (hm : m ∈ ns) (ha : ∀ y, y ∈ ns → y ≤ m) : m = k := by
  cases ns with
  | nil => cases h
  | cons a r =>
    cases h
    obtain ⟨h1, h2⟩ := foldl_max r a
    have := ha _ h1
    have := h2 m hm
    omega
theorem minI_ok {ns : List Int} {m k : Int} (h : minI ns = some k) (hm : m ∈ ns) (ha : ∀ y, y ∈ ns → m ≤ y) : m = k := by
  cases ns with
  | nil => cases h
  | cons a r =>
    cases h
    obtain ⟨h1, h2⟩ := foldl_min r a
    have := ha _ h1
    have := h2 m hm
    omega
end
end Rf


set_option Elab.async false
set_option linter.all false
set_option maxRecDepth 100000
set_option maxHeartbeats 1000000
/-! R8: built-in functions, methods of built-in types. -/
namespace Rf
open PySem PySem.Spec PyProof.Rows L2
section
variable {X : Cx} {M : Nm}
/-- what a built-in's name stands for -/
inductive BfIs : Bf → Value → Prop
  | len : BfIs .len (.builtin "len")
  | tuple : BfIs .tuple (.type "tuple")
  | list : BfIs .list (.type "list")
  | min : BfIs .min (.builtin "min")
  | max : BfIs .max (.builtin "max")
  | sum : BfIs .sum (.builtin "sum")
  | any : BfIs .any (.builtin "any")
  | all : BfIs .all (.builtin "all")
  | int : BfIs .int (.type "int")
  | abs : BfIs .abs (.builtin "abs")
  | divmod : BfIs .divmod (.builtin "divmod")
  | repr : BfIs .repr (.builtin "repr")
  | str : BfIs .str (.type "str")
theorem list_cases {α : Type} (l : List α) : l = [] ∨ (∃ a, l = [a]) ∨ (∃ a b, l = [a, b]) ∨ ∃ a b c r, l = a :: b :: c :: r := by
  match l with
  | [] => exact .inl rfl
  | [a] => exact .inr (.inl ⟨a, rfl⟩)
  | [a, b] => exact .inr (.inr (.inl ⟨a, b, rfl⟩))
  | a :: b :: c :: r => exact .inr (.inr (.inr ⟨a, b, c, r, rfl⟩))
theorem bf_len : CallR X (.builtin "len") (rN X.K M (bfF .len)) := by
  intro pins s σ H xs us Q I r ⟨ι, G, ds, R, rs, h⟩
  rcases list_cases ds with rfl | ⟨d, rfl⟩ | ⟨a, b, rfl⟩ | ⟨a, b, c, r, rfl⟩
  · exact h.elim
  · obtain ⟨x, rfl, rx⟩ := rs.one
    have key : ∀ {ds : List D}, seqOf G d = some ds → Kt X.K M ι H Q (.int ds.length) G → wpAny (model X.prog X.w) X.A (call (.builtin "len") us) (EP X pins σ Q) X.xe s := fun {ds} hd q => by
      obtain ⟨p, vs, e, sq, rv⟩ := R.seq hd rx
      exact call_len_seq pins s σ H _ us Q I r ⟨p, vs, by rw [e], sq, by rw [← rv.length]; exact Kt.here q R rfl⟩
    cases d with
    | str z =>
      obtain ⟨hz, h⟩ := wp_if h
      exact call_len_str pins s σ H _ us Q I r ⟨_, by rw [show x = _ from rx], le_small (by simpa [Str.length] using hz), Kt.here h R (by show _ = _; simp [Str.length])⟩
    | tup ds => exact key rfl h
    | cl ds => exact key rfl h
    | ref n =>
      simp only [bfF] at h
      split at h
      · rename_i e; exact key e h
      · exact h.elim
    | _ => exact h.elim
  · cases a <;> exact h.elim
  · cases a <;> exact h.elim
theorem bf_tuple : CallR X (.type "tuple") (rN X.K M (bfF .tuple)) := by
  intro pins s σ H xs us Q I r ⟨ι, G, ds, R, rs, h⟩
  rcases list_cases ds with rfl | ⟨d, rfl⟩ | ⟨a, b, rfl⟩ | ⟨a, b, c, r, rfl⟩
  · exact h.elim
  · obtain ⟨x, rfl, rx⟩ := rs.one
    simp only [bfF] at h
    split at h
    · rename_i ds hd
      obtain ⟨p, vs, e, sq, rv⟩ := R.seq hd rx
      refine call_tuple_of pins s σ H _ us Q I r ⟨p, vs, by rw [e], ?_⟩
      rcases sq with sq | sq
      · exact .inl ⟨sq, fun l hl => Kt.tup h R rv hl⟩
      · exact .inr ⟨sq, Kt.here h R ⟨p, vs, rfl, sq, rv⟩⟩
    · exact h.elim
  · exact h.elim
  · exact h.elim
theorem bf_list : CallR X (.type "list") (rN X.K M (bfF .list)) := by
  intro pins s σ H xs us Q I r ⟨ι, G, ds, R, rs, h⟩
  rcases list_cases ds with rfl | ⟨d, rfl⟩ | ⟨a, b, rfl⟩ | ⟨a, b, c, r, rfl⟩
  · exact h.elim
  · obtain ⟨x, rfl, rx⟩ := rs.one
    simp only [bfF] at h
    split at h
    · rename_i ds hd
      obtain ⟨p, vs, e, sq, rv⟩ := R.seq hd rx
      exact call_list_of pins s σ H _ us Q I r ⟨p, vs, by rw [e], sq, fun l hl => Kt.lst h R rv hl⟩
    · exact h.elim
  · exact h.elim
  · exact h.elim
theorem bf_sum (hc : X.calm = true) : CallR X (.builtin "sum") (rN X.K M (bfF .sum)) := by
  intro pins s σ H xs us Q I r ⟨ι, G, ds, R, rs, h⟩
  rcases list_cases ds with rfl | ⟨d, rfl⟩ | ⟨a, b, rfl⟩ | ⟨a, b, c, r, rfl⟩
  · exact h.elim
  · obtain ⟨x, rfl, rx⟩ := rs.one
    simp only [bfF] at h
    split at h
    · rename_i ns e
      obtain ⟨ds, hd, hn⟩ := Option.bind_eq_some_iff.mp e
      obtain ⟨p, vs, e, sq, rv⟩ := R.list hd rx
      rw [intsOf_ok hn rv] at sq
      exact cr_sum hc pins s σ H _ us Q I r ⟨p, ns, by rw [e], sq, Kt.here h R rfl⟩
    · exact h.elim
  · exact h.elim
  · exact h.elim
theorem bf_any (hc : X.calm = true) : CallR X (.builtin "any") (rN X.K M (bfF .any)) := by
  intro pins s σ H xs us Q I r ⟨ι, G, ds, R, rs, h⟩
  rcases list_cases ds with rfl | ⟨d, rfl⟩ | ⟨a, b, rfl⟩ | ⟨a, b, c, r, rfl⟩
  · exact h.elim
  · obtain ⟨x, rfl, rx⟩ := rs.one
    simp only [bfF] at h
    split at h
    · rename_i ns e
      obtain ⟨ds, hd, hn⟩ := Option.bind_eq_some_iff.mp e
      obtain ⟨p, vs, e, sq, rv⟩ := R.list hd rx
      rw [boolsOf_ok hn rv] at sq
      exact cr_any hc pins s σ H _ us Q I r ⟨p, ns, by rw [e], sq, Kt.here h R rfl⟩
    · exact h.elim
  · exact h.elim
  · exact h.elim
theorem bf_all (hc : X.calm = true) : CallR X (.builtin "all") (rN X.K M (bfF .all)) := by
  intro pins s σ H xs us Q I r ⟨ι, G, ds, R, rs, h⟩
  rcases list_cases ds with rfl | ⟨d, rfl⟩ | ⟨a, b, rfl⟩ | ⟨a, b, c, r, rfl⟩
  · exact h.elim
  · obtain ⟨x, rfl, rx⟩ := rs.one
    simp only [bfF] at h
    split at h
    · rename_i ns e
      obtain ⟨ds, hd, hn⟩ := Option.bind_eq_some_iff.mp e
      obtain ⟨p, vs, e, sq, rv⟩ := R.list hd rx
      rw [boolsOf_ok hn rv] at sq
      exact cr_all hc pins s σ H _ us Q I r ⟨p, ns, by rw [e], sq, Kt.here h R rfl⟩
    · exact h.elim
  · exact h.elim
  · exact h.elim
/-- min, max of two ints or of a list of ints -/
theorem bf_min (hc : X.calm = true) : CallR X (.builtin "min") (rN X.K M (bfF .min)) := by
  intro pins s σ H xs us Q I r ⟨ι, G, ds, R, rs, h⟩
  rcases list_cases ds with rfl | ⟨d, rfl⟩ | ⟨a, b, rfl⟩ | ⟨a, b, c, r, rfl⟩
  · exact h.elim
  · obtain ⟨x, rfl, rx⟩ := rs.one
    have key : (match (lstOf G d).bind intsOf with
      | some is => ofO ((minI is).map .int) G
      | none => .bad).wp (Kt X.K M ι H Q) NoE → wpAny (model X.prog X.w) X.A (call (.builtin "min") us) (EP X pins σ Q) X.xe s := fun h => by
      split at h
      · rename_i ns e
        obtain ⟨ds, hd, hn⟩ := Option.bind_eq_some_iff.mp e
        obtain ⟨p, vs, e, sq, rv⟩ := R.list hd rx
        rw [intsOf_ok hn rv] at sq
        obtain ⟨m, hm, q⟩ := wp_ofO h
        obtain ⟨k, hk, rfl⟩ := Option.map_eq_some_iff.mp hm
        have h0 : 0 < ns.length := by
          cases ns with
          | nil => cases hk
          | cons _ _ => simp
        exact cr_min hc pins s σ H _ us Q I r ⟨p, ns, by rw [e], sq, h0, fun m hm ha => by rw [minI_ok hk hm ha]; exact Kt.here q R rfl⟩
      · exact h.elim
    cases d <;> exact key h
  · obtain ⟨x, y, rfl, rx, ry⟩ := rs.two
    cases a with
    | int i => cases b with
      | int j => exact call_min2 hc pins s σ H _ us Q I r ⟨i, j, by rw [show x = _ from rx, show y = _ from ry], Kt.here h R rfl⟩
      | _ => exact h.elim
    | _ => cases b <;> exact h.elim
  · cases a <;> cases b <;> exact h.elim
theorem bf_max (hc : X.calm = true) : CallR X (.builtin "max") (rN X.K M (bfF .max)) := by
  intro pins s σ H xs us Q I r ⟨ι, G, ds, R, rs, h⟩
  rcases list_cases ds with rfl | ⟨d, rfl⟩ | ⟨a, b, rfl⟩ | ⟨a, b, c, r, rfl⟩
  · exact h.elim
  · obtain ⟨x, rfl, rx⟩ := rs.one
    have key : (match (lstOf G d).bind intsOf with
      | some is => ofO ((maxI is).map .int) G
      | none => .bad).wp (Kt X.K M ι H Q) NoE → wpAny (model X.prog X.w) X.A (call (.builtin "max") us) (EP X pins σ Q) X.xe s := fun h => by
      split at h
      · rename_i ns e
        obtain ⟨ds, hd, hn⟩ := Option.bind_eq_some_iff.mp e
        obtain ⟨p, vs, e, sq, rv⟩ := R.list hd rx
        rw [intsOf_ok hn rv] at sq
        obtain ⟨m, hm, q⟩ := wp_ofO h
        obtain ⟨k, hk, rfl⟩ := Option.map_eq_some_iff.mp hm
        have h0 : 0 < ns.length := by
          cases ns with
          | nil => cases hk
          | cons _ _ => simp
        exact cr_max hc pins s σ H _ us Q I r ⟨p, ns, by rw [e], sq, h0, fun m hm ha => by rw [maxI_ok hk hm ha]; exact Kt.here q R rfl⟩
      · exact h.elim
    cases d <;> exact key h
  · obtain ⟨x, y, rfl, rx, ry⟩ := rs.two
    cases a with
    | int i => cases b with
      | int j => exact call_max2 hc pins s σ H _ us Q I r ⟨i, j, by rw [show x = _ from rx, show y = _ from ry], Kt.here h R rfl⟩
      | _ => exact h.elim
    | _ => cases b <;> exact h.elim
  · cases a <;> cases b <;> exact h.elim
theorem bf_int : CallR X (.type "int") (rN X.K M (bfF .int)) := by
  intro pins s σ H xs us Q I r ⟨ι, G, ds, R, rs, h⟩
  rcases list_cases ds with rfl | ⟨d, rfl⟩ | ⟨a, b, rfl⟩ | ⟨a, b, c, r, rfl⟩
  · exact h.elim
  · obtain ⟨x, rfl, rx⟩ := rs.one
    cases d with
    | int i => exact call_int1 pins s σ H _ us Q I r (.inl ⟨i, by rw [show x = _ from rx], Kt.here h R rfl⟩)
    | bl b => exact call_int1 pins s σ H _ us Q I r (.inr ⟨b, by rw [show x = _ from rx], Kt.here h R rfl⟩)
    | _ => exact h.elim
  · cases a <;> exact h.elim
  · cases a <;> exact h.elim
theorem bf_abs : CallR X (.builtin "abs") (rN X.K M (bfF .abs)) := by
  intro pins s σ H xs us Q I r ⟨ι, G, ds, R, rs, h⟩
  rcases list_cases ds with rfl | ⟨d, rfl⟩ | ⟨a, b, rfl⟩ | ⟨a, b, c, r, rfl⟩
  · exact h.elim
  · obtain ⟨x, rfl, rx⟩ := rs.one
    cases d with
    | int i => exact call_abs pins s σ H _ us Q I r ⟨i, by rw [show x = _ from rx], Kt.here h R rfl⟩
    | _ => exact h.elim
  · cases a <;> exact h.elim
  · cases a <;> exact h.elim
theorem bf_divmod : CallR X (.builtin "divmod") (rN X.K M (bfF .divmod)) := by
  intro pins s σ H xs us Q I r ⟨ι, G, ds, R, rs, h⟩
  rcases list_cases ds with rfl | ⟨d, rfl⟩ | ⟨a, b, rfl⟩ | ⟨a, b, c, r, rfl⟩
  · exact h.elim
  · cases d <;> exact h.elim
  · obtain ⟨x, y, rfl, rx, ry⟩ := rs.two
    cases a with
    | int i => cases b with
      | int j =>
        obtain ⟨hc, h⟩ := wp_if h
        exact call_divmod pins s σ H _ us Q I r ⟨i, j, by rw [show x = _ from rx, show y = _ from ry], by simpa [CDiv] using hc, fun p hp => Kt.tup h R ⟨rfl, rfl, trivial⟩ hp⟩
      | _ => exact h.elim
    | _ => cases b <;> exact h.elim
  · cases a <;> cases b <;> exact h.elim
theorem bf_str : CallR X (.type "str") (rN X.K M (bfF .str)) := by
  intro pins s σ H xs us Q I r ⟨ι, G, ds, R, rs, h⟩
  rcases list_cases ds with rfl | ⟨d, rfl⟩ | ⟨a, b, rfl⟩ | ⟨a, b, c, r, rfl⟩
  · exact h.elim
  · obtain ⟨x, rfl, rx⟩ := rs.one
    cases d with
    | int i =>
      obtain ⟨hc, h⟩ := wp_if h
      exact call_str_int pins s σ H _ us Q I r ⟨i, by rw [show x = _ from rx], of_decide_eq_true hc, Kt.here h R (by show _ = _; rfl)⟩
    | _ => exact h.elim
  · cases a <;> exact h.elim
  · cases a <;> exact h.elim
/-! ### repr -/
theorem repr_dp (hg : X.A.guards = some []) (hu : X.A.units + 66 < cLine) {pins : List (Addr × Obj)} {s : Shared} {σ : L2.St} {H : Hp} {x : V} {u : Value} {p : PyData} {Q : Value → Shared → Prop} (I : Inv X pins σ H s) (rx : RelV x u) (hp : Dp X.K H x p) (hs : p.showable = true) (hd : p.hasDict = false) (hz : p.shown.length ≤ sizeLine) (hdep : p.depth ≤ 8)
    (h : ∀ s' t, Inv X pins σ H s' → Q (.str p.shown t) s') : wpAny (model X.prog X.w) X.A (call (.builtin "repr") [u]) Q X.xe s := by
  obtain ⟨as, rd⟩ := Dp.reads I p x u hp rx
  have atom : (∀ a, u ≠ .ref a) → wpAny (model X.prog X.w) X.A (call (.builtin "repr") [u]) Q X.xe s := fun hn => by
    cases hp with
    | non => cases (show u = .none from rx); exact PySem.P.repr_of_none (h _ _ (I.tok _))
    | bl b =>
      cases (show u = .bool b from rx)
      refine PySem.P.repr_of_bool ?_
      have := h _ s.toks (I.tok (s.toks + 1))
      cases b <;> exact this
    | int i =>
      obtain ⟨t, rfl⟩ := rx
      exact PySem.P.repr_of_int (by simpa [PyData.showable] using hs) (h _ _ (I.tok _))
    | str y =>
      obtain ⟨t, rfl⟩ := rx
      exact PySem.P.repr_of_str (h _ _ (I.tok _)) hz
    | lst s1 _ => exact absurd rx (hn _)
    | tup s1 _ => exact absurd rx (hn _)
  cases u with
  | ref a =>
    exact repr_of_reads' rd hs (PyData.noDict_hsm hd) hg (by omega) (fun _ _ e => e) (fun h' t tk hk => h _ t (I.kept (t' := tk) hk)) hz
  | _ => exact atom fun a z => by cases z
theorem bf_repr (hg : X.A.guards = some []) (hu : X.A.units + 66 < cLine) : CallR X (.builtin "repr") (rN X.K M (bfF .repr)) := by
  intro pins s σ H xs us Q I r ⟨ι, G, ds, R, rs, h⟩
  rcases list_cases ds with rfl | ⟨d, rfl⟩ | ⟨a, b, rfl⟩ | ⟨a, b, c, r, rfl⟩
  · exact h.elim
  · obtain ⟨x, rfl, rx⟩ := rs.one
    obtain ⟨u, rfl, ru⟩ := vals1 r
    have key : ∀ {d : D}, DR X.K H ι d x → (match pyD G d with
      | some p => if p.showable && decide (p.shown.length ≤ small) then .ok (.str p.shown.cps.toList) G else .bad
      | none => .bad : Res D).wp (Kt X.K M ι H Q) NoE → wpAny (model X.prog X.w) X.A (call (.builtin "repr") [u]) (EP X pins σ Q) X.xe s := fun {d} rx h => by
      split at h
      · rename_i p hp
        obtain ⟨hc, h⟩ := wp_if h
        obtain ⟨h1, h2⟩ := and2 hc
        obtain ⟨k1, k2⟩ := toPy_ok 8 d p hp
        exact repr_dp hg hu I ru (pyD_dp R hp rx) h1 (PyData.hasDict_of_canLay p k1) (le_small (of_decide_eq_true h2)) k2 fun s' t I' => ⟨.str p.shown, H, I', ⟨t, rfl⟩, Kt.here h R (by show _ = _; rfl)⟩
      · exact h.elim
    cases d with
    | ref k =>
      simp only [bfF] at h
      split at h
      · rename_i hk
        obtain ⟨p, vs, e1, hp, hvs, rvs⟩ := R.dk hk rx
        subst e1
        cases vs with
        | cons _ _ => exact rvs.elim
        | nil =>
          obtain rfl : u = Value.ref p := ru
          obtain ⟨_, hsys, us, kv, o, es, ep, e1, e2, e3, e4, e5, e6⟩ := dk_of I.hok hvs
          cases kv
          have el : es.toList = [] := by
            cases hl : es.toList with
            | nil => rfl
            | cons a b => rw [hl] at e5; cases e5
          have rd : Reads s.heap (.ref p) (.dict []) (p :: [] ++ []) := .dict e1 e2.1 e3 (by rw [el]; exact .nil) (by rw [el]; exact .nil)
          refine repr_of_reads' rd rfl (fun _ => by simpa using fun z => by rw [z] at hsys; simp at hsys) hg (by
            have : (PyData.dict []).depth ≤ 8 := by decide
            omega) (fun _ _ e => e) (fun h' t tk hk => ⟨.str (PyData.dict []).shown, H, I.kept (t' := tk) hk, ⟨t, rfl⟩, ?_⟩) (by decide +kernel)
          exact Kt.here h R (by show _ = _; decide +kernel)
      · exact key rx h
    | _ => exact key rx h
  · cases a <;> exact h.elim
  · cases a <;> exact h.elim
end
end Rf


set_option Elab.async false
set_option linter.all false
set_option maxRecDepth 100000
set_option maxHeartbeats 1000000
/-! S1: readings over the evaluator. -/
namespace Rf
open PySem PySem.Spec PyProof.Rows L2

/-- an exception's fields lie in its dict; none: no dict -/
def XD (K : PySem.W.Frag) (M : Nm) (H : Hp) (ι : List Addr) (fs : List (Nat × D)) (dd : Option Addr) : Prop :=
  (fs = [] ∧ dd = none) ∨ ∃ d xs, dd = some d ∧ H d = some (.xd xs) ∧ FR K M H ι fs xs
def XR (K : PySem.W.Frag) (M : Nm) (H : Hp) (ι : List Addr) (c : Nat) (fs : List (Nat × D)) (cls : Value) (dd : Option Addr) : Prop :=
  cls = .ref (He.ga K (M.c c)) ∧ XD K M H ι fs dd
/-- what is wanted of an exception -/
def Kx (K : PySem.W.Frag) (M : Nm) (ι : List Addr) (H : Hp) (E : XK) : Nat → List (Nat × D) → GG → Prop := fun c fs G' => ∀ ι' H' cls dd, Ext ι ι' H H' → Rep K M ι' G' H' → XR K M H' ι' c fs cls dd → E cls dd H'
/-- what is wanted of several values -/
def Ks (K : PySem.W.Frag) (M : Nm) (ι : List Addr) (H : Hp) (Q : List V → Hp → Prop) : List D → GG → Prop := fun ds G' => ∀ ι' H' vs, Ext ι ι' H H' → Rep K M ι' G' H' → DRs K H' ι' ds vs → Q vs H'
/-- what is wanted of a truth -/
def Kb (K : PySem.W.Frag) (M : Nm) (ι : List Addr) (H : Hp) (Q : Bool → Hp → Prop) : D → GG → Prop := fun d G' => ∀ ι' H', Ext ι ι' H H' → Rep K M ι' G' H' → ∃ b, d = .bl b ∧ Q b H'
section
variable {K : PySem.W.Frag} {M : Nm} {ι ι1 : List Addr} {H H1 : Hp} {σ : L2.St} {G : GG} {L : LL}
theorem Kt.go {Q : VK} {d : D} (x : Ext ι ι1 H H1) (h : Kt K M ι H Q d G) : Kt K M ι1 H1 Q d G := fun ι' H' v y R r => h ι' H' v (x.trans y) R r
theorem Kx.go {E : XK} {c : Nat} {fs : List (Nat × D)} (x : Ext ι ι1 H H1) (h : Kx K M ι H E c fs G) : Kx K M ι1 H1 E c fs G := fun ι' H' v dd y R r => h ι' H' v dd (x.trans y) R r
theorem Ks.go {Q : List V → Hp → Prop} {d : List D} (x : Ext ι ι1 H H1) (h : Ks K M ι H Q d G) : Ks K M ι1 H1 Q d G := fun ι' H' v y R r => h ι' H' v (x.trans y) R r
theorem Kb.go {Q : Bool → Hp → Prop} {d : D} (x : Ext ι ι1 H H1) (h : Kb K M ι H Q d G) : Kb K M ι1 H1 Q d G := fun ι' H' y R => h ι' H' (x.trans y) R
/-- what holds at the end holds later on -/
def Go {α : Type} (P : List Addr → Hp → α → GG → Prop) : Prop := ∀ (ι ι1 : List Addr) (H H1 : Hp) (a : α) (G : GG), Ext ι ι1 H H1 → P ι H a G → P ι1 H1 a G
theorem go_t {Q : VK} : Go (fun ι H => Kt K M ι H Q) := fun _ _ _ _ _ _ x h => h.go x
theorem go_s {Q : List V → Hp → Prop} : Go (fun ι H => Ks K M ι H Q) := fun _ _ _ _ _ _ x h => h.go x
theorem go_b {Q : Bool → Hp → Prop} : Go (fun ι H => Kb K M ι H Q) := fun _ _ _ _ _ _ x h => h.go x

/-- an expression's reading; a list's of them -/
def tE (K : PySem.W.Frag) (M : Nm) (E : XK) (f : LL → GG → Res D) : TE := fun σ H Q => ∃ ι L G, LR K M H ι L σ ∧ Rep K M ι G H ∧ (f L G).wp (Kt K M ι H Q) (Kx K M ι H E)
def tEs (K : PySem.W.Frag) (M : Nm) (E : XK) (f : LL → GG → Res (List D)) : TA := fun σ H Q => ∃ ι L G, LR K M H ι L σ ∧ Rep K M ι G H ∧ (f L G).wp (Ks K M ι H Q) (Kx K M ι H E)
/-- a test's -/
def tB (K : PySem.W.Frag) (M : Nm) (E : XK) (f : LL → GG → Res D) : TT := fun σ H Q => ∃ ι L G, LR K M H ι L σ ∧ Rep K M ι G H ∧ (f L G).wp (Kb K M ι H Q) (Kx K M ι H E)
theorem tE_mk {E : XK} {f : LL → GG → Res D} {Q : VK} (l : LR K M H ι L σ) (R : Rep K M ι G H) (h : (f L G).wp (Kt K M ι H Q) (Kx K M ι H E)) : tE K M E f σ H Q := ⟨ι, L, G, l, R, h⟩
/-- THE STEP: an expression, then the rest -/
theorem tE_bind {α : Type} {P : List Addr → Hp → α → GG → Prop} {E : XK} {f : LL → GG → Res D} {k : D → GG → Res α} {Q1 : VK} (g : Go P) (l : LR K M H ι L σ) (R : Rep K M ι G H) (h : ((f L G).bind k).wp (P ι H) (Kx K M ι H E))
    (hk : ∀ ι1 H1 v d G1, Ext ι ι1 H H1 → LR K M H1 ι1 L σ → Rep K M ι1 G1 H1 → DR K H1 ι1 d v → (k d G1).wp (P ι1 H1) (Kx K M ι1 H1 E) → Q1 v H1) : tE K M E f σ H Q1 :=
  ⟨ι, L, G, l, R, Res.wp_mono (fun d G1 h ι1 H1 v x R1 r => hk ι1 H1 v d G1 x (l.ext R x) R1 r (Res.wp_mono (fun a G2 h => g _ _ _ _ _ _ x h) (fun _ _ _ h => h.go x) h)) (fun _ _ _ h => h) (Res.wp_bind.mp h)⟩
theorem tEs_bind {α : Type} {P : List Addr → Hp → α → GG → Prop} {E : XK} {f : LL → GG → Res (List D)} {k : List D → GG → Res α} {Q1 : List V → Hp → Prop} (g : Go P) (l : LR K M H ι L σ) (R : Rep K M ι G H) (h : ((f L G).bind k).wp (P ι H) (Kx K M ι H E))
    (hk : ∀ ι1 H1 v d G1, Ext ι ι1 H H1 → LR K M H1 ι1 L σ → Rep K M ι1 G1 H1 → DRs K H1 ι1 d v → (k d G1).wp (P ι1 H1) (Kx K M ι1 H1 E) → Q1 v H1) : tEs K M E f σ H Q1 :=
  ⟨ι, L, G, l, R, Res.wp_mono (fun d G1 h ι1 H1 v x R1 r => hk ι1 H1 v d G1 x (l.ext R x) R1 r (Res.wp_mono (fun a G2 h => g _ _ _ _ _ _ x h) (fun _ _ _ h => h.go x) h)) (fun _ _ _ h => h) (Res.wp_bind.mp h)⟩
theorem tB_bind {α : Type} {P : List Addr → Hp → α → GG → Prop} {E : XK} {f : LL → GG → Res D} {k : D → GG → Res α} {Q1 : Bool → Hp → Prop} (g : Go P) (l : LR K M H ι L σ) (R : Rep K M ι G H) (h : ((f L G).bind k).wp (P ι H) (Kx K M ι H E))
    (hb : ∀ d G, (∀ b, d ≠ .bl b) → k d G = .bad)
    (hk : ∀ ι1 H1 b G1, Ext ι ι1 H H1 → LR K M H1 ι1 L σ → Rep K M ι1 G1 H1 → (k (.bl b) G1).wp (P ι1 H1) (Kx K M ι1 H1 E) → Q1 b H1) : tB K M E f σ H Q1 :=
  ⟨ι, L, G, l, R, Res.wp_mono (fun d G1 h ι1 H1 x R1 => by
    have q := Res.wp_mono (P' := P ι1 H1) (E' := Kx K M ι1 H1 E) (fun a G2 h => g _ _ _ _ _ _ x h) (fun _ _ _ h => h.go x) h
    cases d with
    | bl b => exact ⟨b, rfl, hk ι1 H1 b G1 x (l.ext R x) R1 q⟩
    | _ => rw [hb _ _ (fun b z => by cases z)] at q; exact q.elim) (fun _ _ _ h => h) (Res.wp_bind.mp h)⟩
theorem tB_test {E : XK} {f : LL → GG → Res D} {Q : Bool → Hp → Prop} (h : tB K M E f σ H Q) : L2.tB (tE K M E f) σ H Q := by
  obtain ⟨ι, L, G, l, R, h⟩ := h
  refine ⟨ι, L, G, l, R, Res.wp_mono (fun d G1 h ι1 H1 v x R1 r => ?_) (fun _ _ _ h => h) h⟩
  obtain ⟨b, rfl, q⟩ := h ι1 H1 x R1
  exact ⟨b, r, q⟩
end
section
variable {X : Cx}
theorem _root_.L2.PE.imp {e : Expr} {t t' : TE} (h : PE X e t) (i : ∀ σ H Q, t' σ H Q → t σ H Q) : PE X e t' := ⟨fun pins s σ H Q I q => h.run pins s σ H Q I (i σ H Q q)⟩
theorem _root_.L2.PT.imp {e : Expr} {t t' : TT} (h : PT X e t) (i : ∀ σ H Q, t' σ H Q → t σ H Q) : PT X e t' := ⟨fun pins s σ H Q I q => h.run pins s σ H Q I (i σ H Q q)⟩
theorem _root_.L2.PW.imp {e : Expr} {t t' : TT} (h : PW X e t) (i : ∀ σ H Q, t' σ H Q → t σ H Q) : PW X e t' := ⟨fun w pins s σ H Q I q => h.run w pins s σ H Q I (i σ H Q q)⟩
theorem _root_.L2.PA.imp {e : List Expr} {t t' : TA} (h : PA X e t) (i : ∀ σ H Q, t' σ H Q → t σ H Q) : PA X e t' := ⟨fun p pins s σ H Q I q => h.run p pins s σ H Q I (i σ H Q q)⟩
theorem ps_imp {e : Stmt} {t t' : TS} (h : L2.PS X e t) (i : ∀ D σ H, t' D σ H → t D σ H) : L2.PS X e t' := ⟨fun pins s σ H D I q => h.run pins s σ H D I (i D σ H q)⟩
theorem pss_imp {e : List Stmt} {t t' : TS} (h : L2.PSs X e t) (i : ∀ D σ H, t' D σ H → t D σ H) : L2.PSs X e t' := ⟨fun pins s σ H D I q => h.run pins s σ H D I (i D σ H q)⟩
end
end Rf


set_option Elab.async false
set_option linter.all false
set_option maxRecDepth 100000
set_option maxHeartbeats 1000000
/-! S2: the static side: what the text says, the checker's small questions. -/
namespace Rf
open PySem PySem.Spec PyProof.Rows L2

/-- a place in the text: the slots' names, the scope, the names whose cells the frame makes -/
structure Sx where
  N : List Str
  sc : Scope
  fn : Str → Bool
  /-- the slots that hold a function object -/
  fix : List Nat
  /-- no comprehension's block: a function object may be called; lambdas may be made -/
  top : Bool
  mkr : Bool
def Sx.blk (sx : Sx) (scope : Scope) : Sx := ⟨sx.N, relS scope sx.sc, fun x => scope.names.lookup x == some .cell, sx.fix, false, false⟩
def visB (sc : Scope) (x : Str) : Bool := match sc.names.lookup x with
  | some .local => true
  | some .cell => true
  | some .free => true
  | _ => false
def locB (sc : Scope) (x : Str) : Bool := match sc.names.lookup x with
  | some .local => true
  | some .cell => true
  | _ => false
def dunB (x : Str) : Bool := !(x == ("__debug__" : Str)) && !(x == ("__classdict__" : Str)) && !decide (x = ("__name__" : Str))
def nmB (sx : Sx) (i : Nat) (x : Str) : Bool := decide (sx.N[i]? = some x) && visB sx.sc x && dunB x
def stB (sx : Sx) (i : Nat) (x : Str) : Bool := decide (sx.N[i]? = some x) && locB sx.sc x && ((sx.fn x || decide (sx.sc.names.lookup x = some .local)) && !sx.fix.contains i)
def glB (sc : Scope) (x : Str) : Bool := decide (sc.names.lookup x = some .globalImplicit) && dunB x
def notStar : Expr → Bool
  | .Starred _ _ => false
  | _ => true
def notSlice : Expr → Bool
  | .Slice _ _ _ _ => false
  | _ => true
def notSet : Expr → Bool
  | .Set _ _ _ => false
  | _ => true
def notComp : Expr → Bool
  | .ListComp _ _ _ _ => false
  | .SetComp _ _ _ _ => false
  | .DictComp _ _ _ _ _ => false
  | _ => true
def baseB : Expr → Bool
  | .Call (.Name _ _) [] [] _ => false
  | _ => true
theorem star_of {e : Expr} {es : List Expr} {env : Env} (h : notStar e = true) : starEach (e :: es) env = (false, eval e env) :: starEach es env := by
  cases e <;> first | rfl | cases h
theorem plain_of {pos : Pos} {env : Env} : ∀ {es : List Expr}, es.all notStar = true → (backTo pos (starEach es env)).any (·.1) = false
  | [], _ => rfl
  | e :: es, h => by
    simp only [List.all_cons, Bool.and_eq_true] at h
    rw [star_of h.1]
    show (false || (backTo pos (starEach es env)).any (·.1)) = false
    rw [plain_of h.2]; rfl
theorem allN_of {pos : Pos} {env : Env} : ∀ {es : List Expr}, es.all notStar = true → (backTo pos (starEach es env)).all (fun x => !x.1) = true
  | [], _ => rfl
  | e :: es, h => by
    simp only [List.all_cons, Bool.and_eq_true] at h
    rw [star_of h.1]
    show (true && (backTo pos (starEach es env)).all (fun x => !x.1)) = true
    rw [allN_of h.2]; rfl
theorem ix_of {b : Expr} (h : notSlice b = true) : PlainIx b := fun o i => by
  cases b <;> first | rfl | cases h
theorem in_of {op : CmpOp} {b : Expr} (h : notSet b = true) : behindInMarks op b = false := by
  cases b <;> first | rfl | cases h
theorem fold_of {b : Expr} {env : Env} (h : notSet b = true) : ∀ x, foldedSetIterable b env x = pure x := fun x => by
  cases b <;> first | rfl | cases h
theorem swap_of {e : Expr} {t : Option Expr} {l : Nat} {env : Env} (h : notComp e = true) : swapsWith e t l env = pure false := by
  cases e <;> first | rfl | cases h
theorem base_of {e : Expr} {f : Str} {env : Env} (h : baseB e = true) : attributeBase e f env (eval e env) = eval e env := by
  unfold attributeBase
  split
  · rename_i id p pos
    cases h
  · rfl
/-! ### what the module's objects are -/
/-- what a def promises: what the evaluator's call says -/
def spF (K : PySem.W.Frag) (M : Nm) (call : CallT) (f : Nat) : Sp := fun vs H Q E => ∃ ι G ds, Rep K M ι G H ∧ DRs K H ι ds vs ∧ (call (.fn f) ds G).wp (Kt K M ι H Q) (Kx K M ι H E)
/-- a def's promise where no object is being shown (repr) -/
structure FnG (P : Program) (w : World) (K : PySem.W.Frag) (mg : Str → Option Value) (base : Heap) (CX : CXT) (k : Nat) (f : Addr) (fd : FuncData) (ps : List Str) (sp : Sp) : Prop where
  len : ∀ vs H Q E, sp vs H Q E → vs.length = ps.length
  run : ∀ (A : Around) (outer : List Env) (s : Shared) (H : Hp) (args : Args) (us : List Value) (vs : List V) (Q : VK) (E : XK), Room k A → A.guards = some [] → Env0 P w K mg base A outer s H → BindsTo s fd args (ps.zip us) → Vals vs us → sp vs H Q E →
    codeAny (model P w) A (.call (.ref f) args) (CR CX outer P w H s Q E) s
section
variable {X : Cx} {CX : CXT} {k : Nat} {f C : Addr} {fd : FuncData} {ps : List Str} {sp : Sp} {E : XK} {x : Str} {p pos : Pos} {e : Expr} {es : List Expr} {t : TA}
theorem run_g {pins : List (Addr × Obj)} {σ : L2.St} {H : Hp} {s : Shared} {Q : VK} {us : List Value} {vs : List V} (F : FnG X.prog X.w X.K X.mg X.base CX k f fd ps sp) (hr : Room k X.A) (hgd : X.A.guards = some []) (hb : Binds X.K fd ps []) (hx : Passes CX X E)
    (I : Inv X pins σ H s) (r : Vals vs us) (h : sp vs H Q E) : wpAny (model X.prog X.w) X.A (call (.ref f) us) (EP X pins σ Q) X.xe s := by
  have hl : us.length = ps.length := by rw [← r.length]; exact F.len _ _ _ _ h
  have b := hb s us I.kIn (by rw [List.append_nil]; exact hl)
  rw [List.append_nil] at b
  refine wpAny_call (codeAny_mono (F.run X.A X.stack s H ⟨us, []⟩ us vs Q E hr hgd I.env0 b r h) fun r s' hq => ?_)
  cases r with
  | error e => exact hx pins σ H s e s' I hq
  | ok fl =>
    cases fl with
    | ret u => exact I.after hq
    | next => exact False.elim hq
    | brk => exact False.elim hq
    | cont => exact False.elim hq
theorem guards_make {A : Around} {C : Addr} {us : List Value} {kw : List (Str × Value)} : (A.under (.builtin "type.__call__" ⟨.ref C :: us, kw⟩)).guards = A.guards := by
  first | rfl | simp [Around.under, Code.weight, Code.isCreation, Code.isGuard, Code.isCaller, Code.frames, Code.isFrame, guardIds]
theorem pe_callG (F : FnG X.prog X.w X.K X.mg X.base CX k f fd ps sp) (hr : Room k X.A) (hgd : X.A.guards = some []) (hg : Gl X x) (hm : X.mg x = some (.ref f)) (hk : PySem.W.keepIn X.K (.ref f) = true) (hb : Binds X.K fd ps []) (hx : Passes CX X E)
    (ha : PA X (e :: es) t) (hdb : (x == ("__debug__" : Str)) = false) (he : starEach (e :: es) X.env = (false, eval e X.env) :: starEach es X.env) (hpl : (backTo pos (starEach es X.env)).any (·.1) = false) :
    PE X (.Call (.Name x p) (e :: es) [] pos) (tCall sp [] E t) := by
  refine ⟨fun pins s σ H Q I h => ?_⟩
  refine wpAny_Call_Name_kw (ld_glob I hg hm ?_ hdb)
  refine PySem.W.callWith_K (h₀ := X.base) I.ok.mod.kin hk (thn (ha.run pos pins s σ H _ I h) fun us s1 ⟨vs, H1, I1, r, q⟩ => ⟨I1.kIn, ?_⟩) he hpl
  have q : sp (vs ++ []) H1 Q E := q
  rw [List.append_nil] at q
  exact run_g F hr hgd hb hx I1 r q
theorem pe_callG0 (F : FnG X.prog X.w X.K X.mg X.base CX k f fd ps sp) (hr : Room k X.A) (hgd : X.A.guards = some []) (hg : Gl X x) (hm : X.mg x = some (.ref f)) (hk : PySem.W.keepIn X.K (.ref f) = true) (hb : Binds X.K fd ps []) (hx : Passes CX X E)
    (hdb : (x == ("__debug__" : Str)) = false) : PE X (.Call (.Name x p) [] [] pos) (tCall sp [] E tNil) := by
  refine ⟨fun pins s σ H Q I h => ?_⟩
  refine wpAny_Call_Name_kw (ld_glob I hg hm ?_ hdb)
  exact PySem.W.callWith_K0 I.kIn hk (run_g (us := []) F hr hgd hb hx I .nil h)
theorem run_makeG {pins : List (Addr × Obj)} {σ : L2.St} {H : Hp} {s : Shared} {Q : VK} {us : List Value} {vs : List V} {kw : List (Str × Value)} {ws : List Value} (M : Mk X.K C f) (F : FnG X.prog X.w X.K X.mg X.base CX k f fd ps sp) (hr : Room (k + 1) X.A) (hgd : X.A.guards = some [])
    (hb : ∀ (x : Addr) (s : Shared), X.K.In s.heap → BindsTo s fd ⟨.ref x :: us, kw⟩ (ps.zip (.ref x :: ws))) (hx : Passes CX X E) (I : Inv X pins σ H s) (r : Vals vs ws)
    (h : ∀ x dx, H x = none → H dx = none → dx ≠ x → sp (.ref x :: vs) (upd (upd H dx (.own x)) x (.ins C dx [])) (fun v H2 => v = .non ∧ Q (.ref x) H2) E) :
    wpAny (model X.prog X.w) X.A (call (.ref C) us kw) (EP X pins σ Q) X.xe s := by
  have hq := h (s.heap.objs.size + 1) s.heap.objs.size (I.hok.fresh (Nat.le_succ _)) (I.hok.fresh (Nat.le_refl _)) (Nat.ne_of_lt (Nat.lt_succ_self _))
  have I2 := Inv.made (C := C) I
  have r2 : Vals (V.ref (s.heap.objs.size + 1) :: vs) (Value.ref (s.heap.objs.size + 1) :: ws) := .cons rfl r
  refine wpAny_call (make_map (f := f) I.kIn M.makes M.init (beq_iff_eq.mp M.fn) (codeAny_mono (F.run _ X.stack _ _ ⟨Value.ref (s.heap.objs.size + 1) :: us, kw⟩ (Value.ref (s.heap.objs.size + 1) :: ws) _ _ E (hr.make C us kw) (guards_make.trans hgd)
    (I2.env0.make C us kw) (hb _ _ I2.kIn) r2 hq) fun r s' hq' => ?_))
  cases r with
  | error e => exact hx pins σ _ _ e s' I2 hq'
  | ok fl =>
    cases fl with
    | ret u =>
      obtain ⟨v, H', I3, rv, ev, q3⟩ := I2.after hq'
      subst ev
      exact ⟨rv, ⟨V.ref (s.heap.objs.size + 1), H', I3, rfl, q3⟩⟩
    | next => exact False.elim hq'
    | brk => exact False.elim hq'
    | cont => exact False.elim hq'
theorem pe_makeG (M : Mk X.K C f) (F : FnG X.prog X.w X.K X.mg X.base CX k f fd ps sp) (hr : Room (k + 1) X.A) (hgd : X.A.guards = some []) (hg : Gl X x) (hm : X.mg x = some (.ref C)) (hb : Binds X.K fd ps []) (hx : Passes CX X E)
    (ha : PA X (e :: es) t) (hdb : (x == ("__debug__" : Str)) = false) (he : starEach (e :: es) X.env = (false, eval e X.env) :: starEach es X.env) (hpl : (backTo pos (starEach es X.env)).any (·.1) = false) :
    PE X (.Call (.Name x p) (e :: es) [] pos) (tMake C sp [] E t) := by
  refine ⟨fun pins s σ H Q I h => ?_⟩
  refine wpAny_Call_Name_kw (ld_glob I hg hm ?_ hdb)
  refine PySem.W.callWith_K (h₀ := X.base) I.ok.mod.kin M.kp (thn (ha.run pos pins s σ H _ I h) fun us s1 ⟨vs, H1, I1, r, q⟩ => ⟨I1.kIn, ?_⟩) he hpl
  have q2 : ∀ x dx, H1 x = none → H1 dx = none → dx ≠ x → sp (.ref x :: vs) (upd (upd H1 dx (.own x)) x (.ins C dx [])) (fun v H2 => v = .non ∧ Q (.ref x) H2) E := fun x dx h1 h2 h3 => by
    have this : sp (.ref x :: (vs ++ [])) (upd (upd H1 dx (.own x)) x (.ins C dx [])) (fun v H2 => v = .non ∧ Q (.ref x) H2) E := q x dx h1 h2 h3
    rw [List.append_nil] at this
    exact this
  have hl : us.length + 1 = ps.length := by
    have := F.len _ _ _ _ (q2 (s1.heap.objs.size + 1) s1.heap.objs.size (I1.hok.fresh (Nat.le_succ _)) (I1.hok.fresh (Nat.le_refl _)) (Nat.ne_of_lt (Nat.lt_succ_self _)))
    rw [← this, ← r.length]; rfl
  refine run_makeG M F hr hgd (fun x s' k => ?_) hx I1 r q2
  have b := hb s' (.ref x :: us) k (by rw [List.append_nil]; exact hl)
  rw [List.append_nil] at b
  exact b
theorem pe_makeG0 (M : Mk X.K C f) (F : FnG X.prog X.w X.K X.mg X.base CX k f fd ps sp) (hr : Room (k + 1) X.A) (hgd : X.A.guards = some []) (hg : Gl X x) (hm : X.mg x = some (.ref C)) (hb : Binds X.K fd ps []) (hx : Passes CX X E)
    (hdb : (x == ("__debug__" : Str)) = false) : PE X (.Call (.Name x p) [] [] pos) (tMake C sp [] E tNil) := by
  refine ⟨fun pins s σ H Q I h => ?_⟩
  refine wpAny_Call_Name_kw (ld_glob I hg hm ?_ hdb)
  refine PySem.W.callWith_K0 I.kIn M.kp ?_
  have h : ∀ x dx, H x = none → H dx = none → dx ≠ x → sp [.ref x] (upd (upd H dx (.own x)) x (.ins C dx [])) (fun v H2 => v = .non ∧ Q (.ref x) H2) E := h
  have hl : 1 = ps.length := by
    have := F.len _ _ _ _ (h (s.heap.objs.size + 1) s.heap.objs.size (I.hok.fresh (Nat.le_succ _)) (I.hok.fresh (Nat.le_refl _)) (Nat.ne_of_lt (Nat.lt_succ_self _)))
    rw [← this]; rfl
  refine run_makeG (us := []) (vs := []) (ws := []) M F hr hgd (fun x s' k => ?_) hx I .nil h
  have b := hb s' [.ref x] k (by rw [List.append_nil]; exact hl)
  rw [List.append_nil] at b
  exact b
end
/-- the objects of the module: the defs, with their parameters -/
structure Ob where
  fa : Nat → Addr
  fd : Nat → FuncData
  ps : Nat → List Str
def bltNames : List Str := ["len", "tuple", "list", "sorted", "min", "max", "sum", "any", "all", "int", "abs", "divmod", "repr", "str", "bool", "isinstance", "range", "enumerate", "zip", "ValueError"]
def tyV (M : Nm) (K : PySem.W.Frag) : Ty → Value
  | .int => .type "int"
  | .bool => .type "bool"
  | .str => .type "str"
  | .tuple => .type "tuple"
  | .list => .type "list"
  | .cls c => .ref (He.ga K (M.c c))
def rtN : Nat → String
  | 0 => "NoneType"
  | 1 => "bool"
  | 2 => "int"
  | 3 => "str"
  | 4 => "tuple"
  | 5 => "list"
  | _ => "dict"
def rtV (M : Nm) (K : PySem.W.Frag) : Rt → Value
  | .ty n => .type (rtN n)
  | .cls c => .ref (He.ga K (M.c c))
structure FxI (M : Nm) (P : Prg) (K : PySem.W.Frag) : Prop where
  kit : ∀ r t, rtOk P r = true → tyOk P t = true → PySem.W.kitOne K (rtV M K r) (tyV M K t) = some (rtIs r t)
  own : ∀ c, P.ord c = true → PySem.W.findIn K (.ref (He.ga K (M.c c))) "__class__" = some (some (.builtin "object.__class__")) ∧ PySem.W.specialIn K (.builtin "object.__class__") "__get__" = some (some (.builtin "getset_descriptor.__get__")) ∧
    PySem.W.takesIn K (.builtin "object.__class__") = some true ∧ PySem.W.mroIn K (He.ga K (M.c c)) (.type "object") = some true
/-- an exception's __init__: one field -/
def spXi (K : PySem.W.Frag) (f : Str) : Sp := fun vs H Q _ => ∃ (a C : Addr) (v : V), vs = [.ref a, v] ∧ OexC K C ∧ PySem.W.findIn K (.ref C) f = some none ∧ H a = some (exo a C none) ∧
  ∀ dx, H dx = none → dx ≠ a → Q .non (upd (upd H dx (exd dx [(f, v)])) a (exo a C (some dx)))
/-- the facts of the exception classes -/
structure FxX (M : Nm) (P : Prg) (O : Ob) (K : PySem.W.Frag) : Prop where
  any : ∀ (c : Nat) r fs, P.cls[c]? = some r → r.exc = some fs → PySem.W.subIn K (.ref (He.ga K (M.c c))) (.type "BaseException") = some true ∧ PySem.W.typeIn K (.ref (He.ga K (M.c c))) = some (.type "type") ∧ PySem.W.keepIn K (.ref (He.ga K (M.c c))) = true
  nul : ∀ (c : Nat) r, P.cls[c]? = some r → r.exc = some [] → PySem.W.excIn K (He.ga K (M.c c)) [.type "ValueError", .type "Exception", .type "BaseException", .type "object"] "ValueError.__new__" = true
  one : ∀ (c : Nat) r f, P.cls[c]? = some r → r.exc = some [f] → f < M.att.length ∧ OexC K (He.ga K (M.c c)) ∧ PySem.W.findIn K (.ref (He.ga K (M.c c))) (M.a f) = some none ∧ ∃ fi, r.xinit = some fi ∧ fi < M.fn.length ∧
    PySem.W.findIn K (.ref (He.ga K (M.c c))) "__init__" = some (some (.ref (O.fa fi))) ∧ PySem.W.typeIn K (.ref (O.fa fi)) = some (.type "function")
  xf : ∀ (c : Nat) r fs, P.cls[c]? = some r → r.exc = some fs → XfC K (He.ga K (M.c c)) ∧ (PySem.W.clsIn K (He.ga K (M.c c))).isSome = true ∧
    PySem.W.findIn K (.ref (He.ga K (M.c c))) "__class__" = some (some (.builtin "object.__class__")) ∧ PySem.W.specialIn K (.builtin "object.__class__") "__get__" = some (some (.builtin "getset_descriptor.__get__")) ∧
    PySem.W.takesIn K (.builtin "object.__class__") = some true ∧ PySem.W.mroIn K (He.ga K (M.c c)) (.type "object") = some true ∧ (∀ f ∈ fs, f < M.att.length ∧ PySem.W.findIn K (.ref (He.ga K (M.c c))) (M.a f) = some none)
  kit : ∀ (c d : Nat) r fs, P.cls[c]? = some r → r.exc = some fs → (∃ r' fs', P.cls[d]? = some r' ∧ r'.exc = some fs') → PySem.W.kitOne K (.ref (He.ga K (M.c c))) (.ref (He.ga K (M.c d))) = some (r.up.contains d)
  exm : ∀ (c d : Nat) r fs, P.cls[c]? = some r → r.exc = some fs → (∃ r' fs', P.cls[d]? = some r' ∧ r'.exc = some fs') → PySem.W.exmOne K (.ref (He.ga K (M.c c))) (.ref (He.ga K (M.c d))) = some (r.up.contains d)
/-- the facts of the module -/
structure Fx (M : Nm) (P : Prg) (O : Ob) (K : PySem.W.Frag) (mg : Str → Option Value) : Prop where
  attN : M.att.Nodup
  glob : ∀ (g : Nat) d, P.globs[g]? = some d → ∃ u v, mg (M.g g) = some u ∧ RelV v u ∧ ∀ H ι, DR K H ι d v
  blt : ∀ x ∈ bltNames, mg x = none
  cls : ∀ (c : Nat) r, P.cls[c]? = some r → mg (M.c c) = some (.ref (He.ga K (M.c c))) ∧ (r.exc = none → Cls K (He.ga K (M.c c)))
  noat : ∀ (c : Nat) r f, P.cls[c]? = some r → f ∈ r.fld → r.exc = none ∧ f < M.att.length ∧ NoAttr K (He.ga K (M.c c)) (M.a f)
  meth : ∀ (c : Nat) r m f, P.cls[c]? = some r → r.ms.lookup m = some f → r.exc = none ∧ f < M.fn.length ∧ m < M.att.length ∧ Meth K (He.ga K (M.c c)) (M.a m) (O.fa f)
  mkr : ∀ (c : Nat) r f, P.cls[c]? = some r → r.init = some f → r.exc = none ∧ f < M.fn.length ∧ Mk K (He.ga K (M.c c)) (O.fa f)
  isi : FxI M P K
  xx : FxX M P O K
  kw : ∀ (e : Nat) r ks, P.kws[e]? = some r → M.kw[e]? = some ks → r.f < M.fn.length ∧ ks.length = r.n ∧
    KBn K (O.fd r.f) (O.ps r.f) r.ahead ks (fun us ws => us ++ pick r.perm ws) (fun us ws => us ++ pick r.perm ws)
  fn : ∀ f, f < M.fn.length → Binds K (O.fd f) (O.ps f) [] ∧ PySem.W.keepIn K (.ref (O.fa f)) = true ∧ (M.f f ≠ Str.empty → mg (M.f f) = some (.ref (O.fa f)))
/-- what may be called -/
def Fns (M : Nm) (O : Ob) (call : CallT) (k : Nat) (prog : Program) (w : World) (K : PySem.W.Frag) (mg : Str → Option Value) (base : Heap) : Prop :=
  ∀ f, f < M.fn.length → FnG prog w K mg base (CX prog w) k (O.fa f) (O.fd f) (O.ps f) (spF K M call f)
/-- the exceptions' inits -/
def Xns (M : Nm) (P : Prg) (O : Ob) (k : Nat) (prog : Program) (w : World) (K : PySem.W.Frag) (mg : Str → Option Value) (base : Heap) : Prop :=
  ∀ (c : Nat) r f fi, P.cls[c]? = some r → r.exc = some [f] → r.xinit = some fi → FnOk prog w K mg base (CX prog w) k (O.fa fi) (O.fd fi) (O.ps fi) (spXi K (M.a f))
/-- written arguments: their reading; no stars; none: nothing is done -/
structure AJ (X : Cx) (M : Nm) (E : XK) (es : List Expr) (fs : LL → GG → Res (List D)) : Prop where
  pa : PA X es (tEs X.K M E fs)
  st : es.all notStar = true
  nl : es = [] → fs = fun _ G => .ok [] G
/-- the written dicts of the module -/
def FxD (M : Nm) (P : Prg) (K : PySem.W.Frag) (w : World) (mg : Str → Option Value) : Prop :=
  ∀ (g : Nat) kvs, P.dks[g]? = some kvs → ∃ d es n, mg (M.d g) = some (.ref d) ∧ KDict K w d es n ∧ ∀ z : List Nat, match kvs.lookup z with
    | some e => ∃ u v, PySem.W.nsIn K d ⟨z.toArray⟩ = some (some u) ∧ RelV v u ∧ ∀ H ι, DR K H ι e v
    | none => PySem.W.nsIn K d ⟨z.toArray⟩ = some none
/-- a function object in slot i may be called -/
def ClOk (X : Cx) (M : Nm) (C : EC) (i lam : Nat) (L : LL) : Prop :=
  ∀ (pn : List (Addr × Obj)) (xe : Value → Shared → Prop) (E : XK) (es : List Expr) (fs : LL → GG → Res (List D)) (a : Str) (p1 p2 : Pos), X.N[i]? = some a → Vis X.env.scope a → (a == ("__debug__" : Str)) = false → (a == ("__classdict__" : Str)) = false →
    Passes (CX X.prog X.w) (X.tr pn xe) E → AJ (X.tr pn xe) M E es fs → PE (X.tr pn xe) (.Call (.Name a p1) es [] p2) (tE X.K M E fun L' G => (fs L' G).bind fun ds G => C.call (.clo lam L) ds G)
/-- lambdas may be made here -/
structure Mkr (X : Cx) (M : Nm) : Prop where
  hM : M.fix = [] ∧ M.capL = [] ∧ M.capS = [] ∧ M.cod = []
  tb : ∃ c P, LamX.TabB X.base X.mg c P ∧ X.env.code = .ref c ∧ (P, X.env.qual ++ "<lambda>") ∈ M.tb X.K ∧ ∀ p ∈ M.tb X.K, p.1 = P → p.2 = X.env.qual ++ "<lambda>"
/-- a context of a place: the facts alone (an except suite's, too) -/
structure Cg (X : Cx) (M : Nm) (C : EC) (O : Ob) (sx : Sx) : Prop where
  fx : Fx M C.P O X.K X.mg
  N : X.N = sx.N
  sc : X.env.scope = sx.sc
  fn : X.fn = sx.fn
  nd : X.N.Nodup
  un : X.A.units + 66 < cLine
  gd : X.A.guards = some []
  fixS : ∀ p ∈ M.fix, p.1 ∈ sx.fix
  dkx : FxD M C.P X.K X.w X.mg
/-- .. where defs may be called -/
structure Cd (X : Cx) (M : Nm) (C : EC) (O : Ob) (sx : Sx) (E : XK) (k : Nat) : Prop extends Cg X M C O sx where
  fns : Fns M O C.call k X.prog X.w X.K X.mg X.base
  xns : Xns M C.P O k X.prog X.w X.K X.mg X.base
  calm : X.calm = true
  hr : Room (k + 1) X.A
  px : Passes (CX X.prog X.w) X E
  clo : sx.top = true → ∀ i lam L, C.lam.lookup i = some (lam, L) → ClOk X M C i lam L
  mkf : sx.mkr = true → Mkr X M
section
variable {X : Cx} {M : Nm} {C : EC} {O : Ob} {sx : Sx} {E : XK} {k : Nat}
theorem Cg.name (c : Cg X M C O sx) {i : Nat} {x : Str} (h : nmB sx i x = true) : X.N[i]? = some x ∧ Vis X.env.scope x ∧ (x == ("__debug__" : Str)) = false ∧ (x == ("__classdict__" : Str)) = false := by
  obtain ⟨h1, h2, h3⟩ := and3 h
  obtain ⟨h3, h4, _⟩ := and3 h3
  refine ⟨by rw [c.N]; exact of_decide_eq_true h1, ?_, by simpa using h3, by simpa using h4⟩
  rw [c.sc]
  unfold visB at h2
  unfold Vis
  split at h2
  · exact .inl (by assumption)
  · exact .inr (.inl (by assumption))
  · exact .inr (.inr (by assumption))
  · cases h2
theorem Cg.gl (c : Cg X M C O sx) {x : Str} (h : glB sx.sc x = true) : Gl X x ∧ (x == ("__debug__" : Str)) = false ∧ x ≠ "__name__" := by
  obtain ⟨h1, h2⟩ := and2 h
  obtain ⟨h3, h4, h5⟩ := and3 h2
  refine ⟨?_, by simpa using h3, by simpa using h5⟩
  show X.env.scope.names.lookup x = _
  rw [c.sc]
  exact of_decide_eq_true h1
end
end Rf


set_option Elab.async false
set_option linter.all false
set_option maxRecDepth 100000
set_option maxHeartbeats 1000000
/-! S3: expressions, construct by construct. -/
namespace Rf
open PySem PySem.Spec PyProof.Rows L2
section
variable {X : Cx} {M : Nm} {C : EC} {O : Ob} {sx : Sx} {E : XK} {k : Nat} {a b c : Expr} {f g h' : LL → GG → Res D} {pos p : Pos}
theorem toNoE {α : Type} {P : α → GG → Prop} {E : Nat → List (Nat × D) → GG → Prop} {r : Res α} (h : r.wp P E) : r.wp P NoE := Res.wp_mono (fun _ _ h => h) (fun _ _ _ _ => trivial) h
theorem e_var {i : Nat} {x : Str} (c : Cg X M C O sx) (h : nmB sx i x = true) : PE X (.Name x pos) (tE X.K M E (evX C (.var i))) := by
  obtain ⟨h1, h2, h3, h4⟩ := c.name h
  refine (pe_var h1 h2 h3 h4).imp fun σ H Q ⟨ι, L, G, l, R, w⟩ => ?_
  simp only [evX, varK] at w
  split at w
  · rename_i d e
    obtain ⟨v, e1, r⟩ := l.get e
    exact ⟨v, e1, Kt.here w R r⟩
  · exact w.elim
theorem e_lit {d : D} {v : V} (he : PE X a (tC v)) (hd : ∀ H ι, DR X.K H ι d v) : PE X a (tE X.K M E (evX C (.lit d))) :=
  he.imp fun σ H Q ⟨ι, L, G, l, R, w⟩ => Kt.here w R (hd _ _)
theorem e_glob {n : Nat} {x : Str} (c : Cg X M C O sx) (h : glB sx.sc x = true) (hx : x = M.g n) : PE X (.Name x pos) (tE X.K M E (evX C (.glob n))) := by
  obtain ⟨h1, h2, h3⟩ := c.gl h
  refine ⟨fun pins s σ H Q I ⟨ι, L, G, l, R, w⟩ => ?_⟩
  obtain ⟨d, hd, q⟩ := wp_ofO w
  obtain ⟨u, v, e1, e2, e3⟩ := c.fx.glob n d hd
  exact (pe_glob (pos := pos) h1 (by rw [hx]; exact e1) e2 h2).run pins s σ H Q I (Kt.here q R (e3 _ _))
theorem e_bin {o : Bop} (ha : PE X a (tE X.K M E f)) (hb : PE X b (tE X.K M E g)) : PE X (.BinOp a (bopO o) b pos) (tE X.K M E fun L G => (f L G).bind fun x G => (g L G).bind fun y G => binF o x y G) :=
  (pe_op (op_bin o) ha hb).imp fun σ H Q ⟨ι, L, G, l, R, w⟩ => tE_bind go_t l R w fun ι1 H1 v d G1 x1 l1 R1 r1 w1 => tE_bind go_t l1 R1 w1 fun ι2 H2 v2 d2 G2 x2 l2 R2 r2 w2 =>
    ⟨ι2, G2, d, d2, R2, r1.ext R1 x2, r2, toNoE w2⟩
theorem e_neg (ha : PE X a (tE X.K M E f)) : PE X (.UnaryOp .USub a pos) (tE X.K M E fun L G => (f L G).bind fun x G => unF .neg x G) :=
  (pe_un op_neg1 ha).imp fun σ H Q ⟨ι, L, G, l, R, w⟩ => tE_bind go_t l R w fun ι1 H1 v d G1 x1 l1 R1 r1 w1 => ⟨ι1, G1, d, R1, r1, toNoE w1⟩
theorem e_inv (ha : PE X a (tE X.K M E f)) : PE X (.UnaryOp .Invert a pos) (tE X.K M E fun L G => (f L G).bind fun x G => unF .inv x G) :=
  (pe_un op_inv1 ha).imp fun σ H Q ⟨ι, L, G, l, R, w⟩ => tE_bind go_t l R w fun ι1 H1 v d G1 x1 l1 R1 r1 w1 => ⟨ι1, G1, d, R1, r1, toNoE w1⟩
theorem i_cmp {o : Cop} {σ : L2.St} {H : Hp} {Q : VK} (w : tE X.K M E (fun L G => (f L G).bind fun x G => (g L G).bind fun y G => cmpV C o x y G) σ H Q) : tOp (r2b X.K M fun x y G => cmpF o x y G) (tE X.K M E f) (tE X.K M E g) σ H Q := by
  obtain ⟨ι, L, G, l, R, w⟩ := w
  exact tE_bind go_t l R w fun ι1 H1 v d G1 x1 l1 R1 r1 w1 => tE_bind go_t l1 R1 w1 fun ι2 H2 v2 d2 G2 x2 l2 R2 r2 w2 => ⟨ι2, G2, d, d2, R2, r1.ext R1 x2, r2, toNoE w2⟩
theorem e_cmp {o : Cop} (hu : X.A.units + 66 < cLine) (ha : PE X a (tE X.K M E f)) (hb : PE X b (tE X.K M E g)) (hs : notSet b = true) : PE X (.Compare a [copO o] [b] pos) (tE X.K M E fun L G => (f L G).bind fun x G => (g L G).bind fun y G => cmpV C o x y G) :=
  (pe_cmpR (op_cmp (by omega) o) ha hb (in_of hs)).imp fun _ _ _ => i_cmp
theorem t_cmp {o : Cop} (hu : X.A.units + 66 < cLine) (ha : PE X a (tE X.K M E f)) (hb : PE X b (tE X.K M E g)) (hs : notSet b = true) : PT X (.Compare a [copO o] [b] pos) (tB X.K M E fun L G => (f L G).bind fun x G => (g L G).bind fun y G => cmpV C o x y G) :=
  (pt_cmpR (op_cmp (by omega) o) ha hb (in_of hs)).imp fun _ _ _ w => i_cmp (C := C) (tB_test w)
theorem t_val {e : Expr} (h : PE X e (tE X.K M E f)) (he : ∀ whole, isTrue e X.env whole = (do let v ← whole; standAt e.pos; holding [v] (truthy v))) : PT X e (tB X.K M E f) :=
  (pt_val h he).imp fun _ _ _ w => tB_test w
theorem i_chain {o p : Cop} {σ : L2.St} {H : Hp} {Q : VK} (w : tE X.K M E (fun L G => (f L G).bind fun x G => (g L G).bind fun y G => chainK o p x y (h' L) G) σ H Q) :
    tChain (r2b X.K M fun x y G => cmpF o x y G) (r2b X.K M fun x y G => cmpF p x y G) (tE X.K M E f) (tE X.K M E g) (tE X.K M E h') σ H Q := by
  obtain ⟨ι, L, G, l, R, w⟩ := w
  refine tE_bind go_t l R w fun ι1 H1 v d G1 x1 l1 R1 r1 w1 => tE_bind go_t l1 R1 w1 fun ι2 H2 v2 d2 G2 x2 l2 R2 r2 w2 => ?_
  refine ⟨ι2, G2, d, d2, R2, r1.ext R1 x2, r2, ?_⟩
  have w3 := Res.wp_bind.mp w2
  obtain ⟨b, hb, q⟩ := wp_ofB w3
  show (ofB (cmpF o d d2 G2) G2).wp _ _
  rw [hb]
  show Kt X.K M ι2 H2 _ (.bl b) G2
  intro ι3 H3 v3 x3 R3 r3
  refine ⟨b, r3, ?_⟩
  cases b with
  | false => exact (show Kt X.K M ι2 H2 Q (.bl false) G2 from q) ι3 H3 _ x3 R3 rfl
  | true =>
    have q : ((h' L G2).bind fun z G => ofB (cmpF p d2 z G) G).wp (Kt X.K M ι2 H2 Q) (Kx X.K M ι2 H2 E) := q
    have q := Res.wp_mono (fun _ _ h => Kt.go x3 h) (fun _ _ _ h => Kx.go x3 h) q
    exact tE_bind go_t (l2.ext R2 x3) R3 q fun ι4 H4 v4 d4 G4 x4 l4 R4 r4 w4 => ⟨ι4, G4, d2, d4, R4, (r2.ext R2 x3).ext R3 x4, r4, toNoE w4⟩
theorem last_of {o p : CmpOp} (hb : notSet b = true) (hc : notSet c = true) : lastMarks [o, p] [b, c] = false := by
  show behindInMarks p c = false
  exact in_of hc
theorem e_chain {o p : Cop} (hu : X.A.units + 66 < cLine) (ha : PE X a (tE X.K M E f)) (hb : PE X b (tE X.K M E g)) (hc : PE X c (tE X.K M E h')) (hs : notSet b = true) (hs' : notSet c = true) : PE X (.Compare a [copO o, copO p] [b, c] pos) (tE X.K M E fun L G => (f L G).bind fun x G => (g L G).bind fun y G => chainK o p x y (h' L) G) :=
  (pe_chain (op_cmp (by omega) o) (op_cmp (by omega) p) ha hb hc (last_of hs hs')).imp fun _ _ _ => i_chain
theorem t_chain {o p : Cop} (hu : X.A.units + 66 < cLine) (ha : PE X a (tE X.K M E f)) (hb : PE X b (tE X.K M E g)) (hc : PE X c (tE X.K M E h')) (hs : notSet b = true) (hs' : notSet c = true) : PT X (.Compare a [copO o, copO p] [b, c] pos) (tB X.K M E fun L G => (f L G).bind fun x G => (g L G).bind fun y G => chainK o p x y (h' L) G) :=
  (pt_chain (op_cmp (by omega) o) (op_cmp (by omega) p) ha hb hc (last_of hs hs')).imp fun _ _ _ w => i_chain (tB_test w)

/-! ### and, or, not, if else -/
theorem andK_bad {x : D} {r : Res D} {G : GG} (h : ∀ b, x ≠ .bl b) : andK x r G = .bad := by cases x <;> first | rfl | exact absurd rfl (h _)
theorem orK_bad {x : D} {r : Res D} {G : GG} (h : ∀ b, x ≠ .bl b) : orK x r G = .bad := by cases x <;> first | rfl | exact absurd rfl (h _)
theorem notK_bad {x : D} {G : GG} (h : ∀ b, x ≠ .bl b) : notK x G = .bad := by cases x <;> first | rfl | exact absurd rfl (h _)
theorem iteK_bad {α : Type} {x : D} {r r' : Res α} (h : ∀ b, x ≠ .bl b) : iteK x r r' = .bad := by cases x <;> first | rfl | exact absurd rfl (h _)
variable {rest : List Expr}
theorem e_and (ha : PE X a (tE X.K M E f)) (hb : PE X (.BoolOp .And (b :: rest) pos) (tE X.K M E g)) : PE X (.BoolOp .And (a :: b :: rest) pos) (tE X.K M E fun L G => (f L G).bind fun x G => andK x (g L G) G) :=
  (pe_and ha hb).imp fun σ H Q ⟨ι, L, G, l, R, w⟩ => tE_bind go_t l R w fun ι1 H1 v d G1 x1 l1 R1 r1 w1 => by
    cases d with
    | bl t => cases t with
      | true => exact ⟨true, r1, ι1, L, G1, l1, R1, w1⟩
      | false => exact ⟨false, r1, Kt.here w1 R1 rfl⟩
    | _ => exact w1.elim
theorem e_or (ha : PE X a (tE X.K M E f)) (hb : PE X (.BoolOp .Or (b :: rest) pos) (tE X.K M E g)) : PE X (.BoolOp .Or (a :: b :: rest) pos) (tE X.K M E fun L G => (f L G).bind fun x G => orK x (g L G) G) :=
  (pe_or ha hb).imp fun σ H Q ⟨ι, L, G, l, R, w⟩ => tE_bind go_t l R w fun ι1 H1 v d G1 x1 l1 R1 r1 w1 => by
    cases d with
    | bl t => cases t with
      | false => exact ⟨false, r1, ι1, L, G1, l1, R1, w1⟩
      | true => exact ⟨true, r1, Kt.here w1 R1 rfl⟩
    | _ => exact w1.elim
theorem e_not (ha : PE X a (tE X.K M E f)) : PE X (.UnaryOp .Not a pos) (tE X.K M E fun L G => (f L G).bind fun x G => notK x G) :=
  (pe_not ha).imp fun σ H Q ⟨ι, L, G, l, R, w⟩ => tE_bind go_t l R w fun ι1 H1 v d G1 x1 l1 R1 r1 w1 => by
    cases d with
    | bl t => exact ⟨t, r1, Kt.here w1 R1 rfl⟩
    | _ => exact w1.elim
theorem Kb.here {ι : List Addr} {G : GG} {H : Hp} {Q : Bool → Hp → Prop} {b : Bool} {K : PySem.W.Frag} (h : Kb K M ι H Q (.bl b) G) (R : Rep K M ι G H) : Q b H := by
  obtain ⟨b', e, q⟩ := h ι H (Ext.refl _ _) R
  cases e; exact q
theorem w_and (ha : PT X a (tB X.K M E f)) (hb : PW X (.BoolOp .And (b :: rest) pos) (tB X.K M E g)) : PW X (.BoolOp .And (a :: b :: rest) pos) (tB X.K M E fun L G => (f L G).bind fun x G => andK x (g L G) G) :=
  (pw_and ha hb).imp fun σ H Q ⟨ι, L, G, l, R, w⟩ => tB_bind go_b l R w (fun _ _ h => andK_bad h) fun ι1 H1 t G1 x1 l1 R1 w1 => by
    cases t with
    | true => exact ⟨ι1, L, G1, l1, R1, w1⟩
    | false => exact Kb.here w1 R1
theorem w_or (ha : PT X a (tB X.K M E f)) (hb : PW X (.BoolOp .Or (b :: rest) pos) (tB X.K M E g)) : PW X (.BoolOp .Or (a :: b :: rest) pos) (tB X.K M E fun L G => (f L G).bind fun x G => orK x (g L G) G) :=
  (pw_or ha hb).imp fun σ H Q ⟨ι, L, G, l, R, w⟩ => tB_bind go_b l R w (fun _ _ h => orK_bad h) fun ι1 H1 t G1 x1 l1 R1 w1 => by
    cases t with
    | false => exact ⟨ι1, L, G1, l1, R1, w1⟩
    | true => exact Kb.here w1 R1
theorem t_not (ha : PT X a (tB X.K M E f)) : PT X (.UnaryOp .Not a pos) (tB X.K M E fun L G => (f L G).bind fun x G => notK x G) :=
  (pt_not ha).imp fun σ H Q ⟨ι, L, G, l, R, w⟩ => tB_bind go_b l R w (fun _ _ h => notK_bad h) fun ι1 H1 t G1 x1 l1 R1 w1 => Kb.here w1 R1
theorem e_ite (hc : PT X c (tB X.K M E h')) (ha : PE X a (tE X.K M E f)) (hb : PE X b (tE X.K M E g)) : PE X (.IfExp c a b pos) (tE X.K M E fun L G => (h' L G).bind fun x G => iteK x (f L G) (g L G)) :=
  (pe_ifExp hc ha hb).imp fun σ H Q ⟨ι, L, G, l, R, w⟩ => tB_bind go_t l R w (fun _ _ h => iteK_bad h) fun ι1 H1 t G1 x1 l1 R1 w1 => by
    cases t with
    | true => exact ⟨ι1, L, G1, l1, R1, w1⟩
    | false => exact ⟨ι1, L, G1, l1, R1, w1⟩
/-- a if c else b, as a test -/
theorem t_ite (hc : PT X c (tB X.K M E h')) (ha : PT X a (tB X.K M E f)) (hb : PT X b (tB X.K M E g)) : PT X (.IfExp c a b pos) (tB X.K M E fun L G => (h' L G).bind fun x G => iteK x (f L G) (g L G)) := by
  refine ⟨fun pins s σ H Q I ⟨ι, L, G, l, R, w⟩ => ?_⟩
  show wpAny _ _ (do if ← isTrue c X.env (eval c X.env) then isTrue a X.env (eval a X.env) else isTrue b X.env (eval b X.env)) _ _ _
  refine wpAny_bind (thn (hc.run pins s σ H (fun t H1 => if t = true then tB X.K M E f σ H1 Q else tB X.K M E g σ H1 Q) I (tB_bind go_b l R w (fun _ _ h => iteK_bad h) fun ι1 H1 t G1 x1 l1 R1 w1 => ?_)) fun t s1 ⟨H1, I1, q⟩ => ?_)
  · cases t with
    | true => exact ⟨ι1, L, G1, l1, R1, w1⟩
    | false => exact ⟨ι1, L, G1, l1, R1, w1⟩
  · cases t with
    | true => exact ha.run pins s1 σ H1 Q I1 q
    | false => exact hb.run pins s1 σ H1 Q I1 q

/-! ### lists of expressions, displays -/
variable {fs : LL → GG → Res (List D)} {es : List Expr}
theorem a_nil : PA X [] (tEs X.K M E fun _ G => .ok [] G) := pa_nil.imp fun σ H Q ⟨ι, L, G, l, R, w⟩ => w ι H [] (Ext.refl _ _) R trivial
theorem a_cons (ha : PE X a (tE X.K M E f)) (hr : PA X es (tEs X.K M E fs)) (hs : notStar a = true) : PA X (a :: es) (tEs X.K M E fun L G => (f L G).bind fun d G => (fs L G).bind fun ds G => .ok (d :: ds) G) :=
  (pa_cons ha hr (star_of hs)).imp fun σ H Q ⟨ι, L, G, l, R, w⟩ => tE_bind go_s l R w fun ι1 H1 v d G1 x1 l1 R1 r1 w1 => tEs_bind go_s l1 R1 w1 fun ι2 H2 vs ds G2 x2 l2 R2 r2 w2 =>
    w2 ι2 H2 (v :: vs) (Ext.refl _ _) R2 ⟨r1.ext R1 x2, r2⟩
theorem e_tup {n : Nat} (h : PA X es (tEs X.K M E fs)) : PE X (.Tuple es n pos) (tE X.K M E fun L G => (fs L G).bind fun ds G => tupK ds G) :=
  (pe_tup h).imp fun σ H Q ⟨ι, L, G, l, R, w⟩ => tEs_bind go_t l R w fun ι1 H1 vs ds G1 x1 l1 R1 r1 w1 => by
    obtain ⟨hz, w1⟩ := wp_if w1
    exact ⟨by rw [← r1.length]; exact le_small (by simpa using hz), fun p hp => Kt.tup w1 R1 r1 hp⟩
theorem e_lst (h : PA X es (tEs X.K M E fs)) : PE X (.List es pos) (tE X.K M E fun L G => (fs L G).bind fun ds G => newL ds G) :=
  (pe_lst h).imp fun σ H Q ⟨ι, L, G, l, R, w⟩ => tEs_bind go_t l R w fun ι1 H1 vs ds G1 x1 l1 R1 r1 w1 => by
    obtain ⟨hz, w1⟩ := wp_if w1
    exact ⟨by rw [← r1.length]; exact le_small (by simpa using hz), fun p hp => Kt.lst w1 R1 r1 hp⟩
/-! ### subscripts, slices -/
theorem e_idx (hu : X.A.units + 66 < cLine) (ha : PE X a (tE X.K M E f)) (hb : PE X b (tE X.K M E g)) (hs : notSlice b = true) : PE X (.Subscript a b pos) (tE X.K M E fun L G => (f L G).bind fun x G => (g L G).bind fun y G => ofO (idxF x y G) G) :=
  (pe_ix (op_ix (by omega)) ha hb (ix_of hs)).imp fun σ H Q ⟨ι, L, G, l, R, w⟩ => tE_bind go_t l R w fun ι1 H1 v d G1 x1 l1 R1 r1 w1 => tE_bind go_t l1 R1 w1 fun ι2 H2 v2 d2 G2 x2 l2 R2 r2 w2 =>
    ⟨ι2, G2, d, d2, R2, r1.ext R1 x2, r2, toNoE w2⟩
/-- a slice's part: it is told, or not -/
def tO (K : PySem.W.Frag) (M : Nm) (E : XK) (nop : Bool) (f : LL → GG → Res D) : TO := fun σ H Q => ∃ ι L G, LR K M H ι L σ ∧ Rep K M ι G H ∧
  (f L G).wp (fun d G' => ∀ ι' H', Ext ι ι' H H' → Rep K M ι' G' H' → ∃ p, partB nop d = some p ∧ Q p H') (Kx K M ι H E)
theorem o_none : PO X none (tO X.K M E true fun _ G => .ok .non G) := by
  refine ⟨fun pins s σ H Q I ⟨ι, L, G, l, R, w⟩ => po_none.run pins s σ H Q I ?_⟩
  obtain ⟨p, e, q⟩ := w ι H (Ext.refl _ _) R
  cases e
  exact q
theorem o_some (ha : PE X a (tE X.K M E f)) : PO X (some a) (tO X.K M E false f) := by
  refine ⟨fun pins s σ H Q I ⟨ι, L, G, l, R, w⟩ => (po_some ha).run pins s σ H Q I ?_⟩
  refine ⟨ι, L, G, l, R, Res.wp_mono (fun d G1 w1 ι1 H1 v x1 R1 r1 => ?_) (fun _ _ _ h => h) w⟩
  obtain ⟨p, e, q⟩ := w1 ι1 H1 x1 R1
  cases d with
  | int i => cases e; exact ⟨i, r1, q⟩
  | _ => cases e
theorem tO_bind {α : Type} {K : PySem.W.Frag} {ι : List Addr} {L : LL} {G : GG} {H : Hp} {σ : L2.St} {P : List Addr → Hp → α → GG → Prop} {nop : Bool} {k : D → GG → Res α} {Q1 : Option Int → Hp → Prop} (g : Go P) (l : LR K M H ι L σ) (R : Rep K M ι G H) (h : ((f L G).bind k).wp (P ι H) (Kx K M ι H E))
    (hb : ∀ d G, partB nop d = none → k d G = .bad)
    (hk : ∀ ι1 H1 p d G1, Ext ι ι1 H H1 → LR K M H1 ι1 L σ → Rep K M ι1 G1 H1 → partB nop d = some p → (k d G1).wp (P ι1 H1) (Kx K M ι1 H1 E) → Q1 p H1) : tO K M E nop f σ H Q1 :=
  ⟨ι, L, G, l, R, Res.wp_mono (fun d G1 h ι1 H1 x R1 => by
    have q := Res.wp_mono (P' := P ι1 H1) (E' := Kx K M ι1 H1 E) (fun a G2 h => g _ _ _ _ _ _ x h) (fun _ _ _ h => h.go x) h
    cases e : partB nop d with
    | some p => exact ⟨p, rfl, hk ι1 H1 p d G1 x (l.ext R x) R1 e q⟩
    | none => rw [hb _ _ e] at q; exact q.elim) (fun _ _ _ h => h) (Res.wp_bind.mp h)⟩
theorem e_sl {lo hi : Option Expr} {n1 n2 : Bool} {p2 : Pos} (ha : PE X a (tE X.K M E f)) (hl : PO X lo (tO X.K M E n1 g)) (hh : PO X hi (tO X.K M E n2 h')) :
    PE X (.Subscript a (.Slice lo hi none p2) pos) (tE X.K M E fun L G => (f L G).bind fun x G => (g L G).bind fun l G => partK n1 l fun l => (h' L G).bind fun h G => partK n2 h fun h => slF x l h G) := by
  have bd : ∀ (n : Bool) (d : D) (k : Option Int → Res D), partB n d = none → partK n d k = .bad := fun n d k e => by unfold partK; rw [e]
  have gd : ∀ (n : Bool) (d : D) (p : Option Int) (k : Option Int → Res D), partB n d = some p → partK n d k = k p := fun n d p k e => by unfold partK; rw [e]
  refine (pe_slice (op_sl (M := M)) ha hl hh).imp fun σ H Q w => ?_
  obtain ⟨ι, L, G, l, R, w⟩ := w
  refine tE_bind go_t l R w fun ι1 H1 v d G1 x1 l1 R1 r1 w1 => ?_
  refine tO_bind go_t l1 R1 w1 (fun _ _ e => bd _ _ _ e) fun ι2 H2 p2 d2 G2 x2 l2 R2 e2 w2 => ?_
  rw [gd _ _ _ _ e2] at w2
  refine tO_bind go_t l2 R2 w2 (fun _ _ e => bd _ _ _ e) fun ι3 H3 p3 d3 G3 x3 l3 R3 e3 w3 => ?_
  rw [gd _ _ _ _ e3] at w3
  exact ⟨ι3, G3, d, R3, (r1.ext R1 x2).ext R2 x3, toNoE w3⟩
end
end Rf


set_option Elab.async false
set_option linter.all false
set_option maxRecDepth 100000
set_option maxHeartbeats 1000000
/-! S4: fields, calls, methods, new instances, isinstance. -/
namespace Rf
open PySem PySem.Spec PyProof.Rows L2
theorem clsOf_some {P : Prg} {c : Nat} {r : ClsR} (h : P.cls[c]? = some r) : clsOf P c = r := by
  unfold clsOf
  rw [List.getD_eq_getElem?_getD, h]; rfl
theorem clsOf_none {P : Prg} {c : Nat} (h : P.cls[c]? = none) : clsOf P c = ⟨[], none, none, [], none, [], none⟩ := by
  unfold clsOf
  rw [List.getD_eq_getElem?_getD, h]; rfl
section
variable {X : Cx} {M : Nm} {C : EC} {O : Ob} {sx : Sx} {E : XK} {k : Nat} {a b c : Expr} {f g h' : LL → GG → Res D} {pos p apos : Pos} {fs : LL → GG → Res (List D)} {es : List Expr}
theorem i_attr (c : Cd X M C O sx E k) {n : Nat} {σ : L2.St} {H : Hp} {Q : VK} (w : tE X.K M E (fun L G => (f L G).bind fun x G => attrK C.P n x G) σ H Q) : (tFld X.K (tE X.K M E f) (M.a n)) σ H Q := by
  obtain ⟨ι, L, G, l, R, w⟩ := w
  refine tE_bind go_t l R w fun ι1 H1 v d G1 x1 l1 R1 r1 w1 => ?_
  unfold attrK at w1
  cases d with
  | ref m =>
    simp only at w1
    split at w1
    · rename_i cc fs hi
      obtain ⟨hf, w1⟩ := wp_if w1
      obtain ⟨d, hd, q⟩ := wp_ofO w1
      obtain ⟨a, dx, xs, e1, e2, e3, e4⟩ := R1.ins hi r1
      cases hr : C.P.cls[cc]? with
      | none =>
        rw [clsOf_none hr] at hf
        simp at hf
      | some r =>
        rw [clsOf_some hr] at hf
        have hm : n ∈ r.fld := by simpa using hf
        obtain ⟨hx, h1, h2⟩ := c.fx.noat cc r n hr hm
        obtain ⟨_, h3⟩ := c.fx.cls cc r hr
        have q2 := e4.look c.fx.attN h1
        rw [hd] at q2
        obtain ⟨v', q3, q4⟩ := q2
        exact ⟨a, _, dx, xs, v', e1, e3, h3 hx, h2, q3, Kt.here q R1 q4⟩
    · exact w1.elim
  | _ => exact w1.elim
theorem e_attr (c : Cd X M C O sx E k) {n : Nat} (ha : PE X a (tE X.K M E f)) (hb : baseB a = true) : PE X (.Attribute a (M.a n) pos) (tE X.K M E fun L G => (f L G).bind fun x G => attrK C.P n x G) :=
  (pe_fld ha (base_of hb)).imp fun _ _ _ => i_attr c
/-! ### calls -/
theorem i_call {F : Nat} {σ : L2.St} {H : Hp} {Q : VK} (w : tE X.K M E (fun L G => (fs L G).bind fun ds G => C.call (.fn F) ds G) σ H Q) : tCall (spF X.K M C.call F) [] E (tEs X.K M E fs) σ H Q := by
  obtain ⟨ι, L, G, l, R, w⟩ := w
  refine tEs_bind go_t l R w fun ι1 H1 vs ds G1 x1 l1 R1 r1 w1 => ?_
  rw [List.append_nil]
  exact ⟨ι1, G1, ds, R1, r1, w1⟩
theorem AJ.nil : AJ X M E [] fun _ G => .ok [] G := ⟨a_nil, rfl, fun _ => rfl⟩
theorem AJ.cons (ha : PE X a (tE X.K M E f)) (hs : notStar a = true) (r : AJ X M E es fs) : AJ X M E (a :: es) fun L G => (f L G).bind fun d G => (fs L G).bind fun ds G => .ok (d :: ds) G :=
  ⟨a_cons ha r.pa hs, by simp only [List.all_cons, Bool.and_eq_true]; exact ⟨hs, r.st⟩, fun h => by cases h⟩
theorem nil_of {σ : L2.St} {H : Hp} {Q : List V → Hp → Prop} (w : tEs X.K M E (fun _ G => .ok [] G) σ H Q) : tNil σ H Q := by
  obtain ⟨ι, L, G, l, R, w⟩ := w
  exact w ι H [] (Ext.refl _ _) R trivial
theorem e_call (c : Cd X M C O sx E k) {F : Nat} {x : Str} (hF : F < M.fn.length) (hx : x = M.f F) (hne : M.f F ≠ Str.empty) (hg : glB sx.sc x = true) (ha : AJ X M E es fs) :
    PE X (.Call (.Name x p) es [] pos) (tE X.K M E fun L G => (fs L G).bind fun ds G => C.call (.fn F) ds G) := by
  obtain ⟨g1, g2, g3⟩ := c.gl hg
  obtain ⟨b1, b2, b3⟩ := c.fx.fn F hF
  have m : X.mg x = some (.ref (O.fa F)) := by rw [hx]; exact b3 hne
  cases es with
  | nil =>
    cases ha.nl rfl
    exact (pe_callG0 (c.fns F hF) (c.hr.mono (Nat.le_succ _)) c.gd g1 m b2 b1 c.px g2).imp fun σ H Q w => nil_of (i_call w)
  | cons e es =>
    have hs := ha.st
    simp only [List.all_cons, Bool.and_eq_true] at hs
    exact (pe_callG (c.fns F hF) (c.hr.mono (Nat.le_succ _)) c.gd g1 m b2 b1 c.px ha.pa g2 (star_of hs.1) (plain_of hs.2)).imp fun _ _ _ => i_call
/-- C(..): a new instance; it gets the next number -/
theorem new_ins {ι : List Addr} {G : GG} {H : Hp} {K : PySem.W.Frag} {x dx : Addr} {cc : Nat} (R : Rep K M ι G H) (h1 : H x = none) (h2 : H dx = none) (h3 : dx ≠ x) :
    Ext ι (ι ++ [x]) H (upd (upd H dx (.own x)) x (.ins (He.ga K (M.c cc)) dx [])) ∧ Rep K M (ι ++ [x]) (G ++ [.ins cc []]) (upd (upd H dx (.own x)) x (.ins (He.ga K (M.c cc)) dx [])) := by
  have e1 : Ext ι ι H (upd H dx (.own x)) := Ext.new ι h2
  have R1 : Rep K M ι G (upd H dx (.own x)) := R.new h2
  have h4 : upd H dx (.own x) x = none := by rw [upd_ne (Ne.symm h3)]; exact h1
  exact ⟨e1.trans (Ext.newN ι h4), R1.newN h4 ⟨dx, [], upd_same, trivial⟩⟩
theorem mk_end {cc F : Nat} {r : ClsR} (hr : C.P.cls[cc]? = some r) (hi : r.init = some F) {σ : L2.St} {H1 : Hp} {Q : VK} {ι1 : List Addr} {G1 : GG} {ds : List D} {vs : List V} (R1 : Rep X.K M ι1 G1 H1) (r1 : DRs X.K H1 ι1 ds vs)
    (w1 : (mkK C.P C.call cc ds G1).wp (Kt X.K M ι1 H1 Q) (Kx X.K M ι1 H1 E)) : ∀ x dx, H1 x = none → H1 dx = none → dx ≠ x →
      spF X.K M C.call F (.ref x :: vs) (upd (upd H1 dx (.own x)) x (.ins (He.ga X.K (M.c cc)) dx [])) (fun v H2 => v = .non ∧ Q (.ref x) H2) E := by
  intro x dx h1 h2 h3
  obtain ⟨x2, R2⟩ := new_ins (cc := cc) R1 h1 h2 h3
  unfold mkK at w1
  rw [clsOf_some hr, hi] at w1
  refine ⟨_, _, .ref G1.length :: ds, R2, ⟨⟨x, by rw [← R1.len]; simp, rfl⟩, r1.ext R1 x2⟩, ?_⟩
  refine Res.wp_mono (fun d G' w ι' H' v x' R' r' => ?_) (fun _ _ _ h => Kx.go x2 h) (Res.wp_bind.mp w1)
  cases d with
  | non =>
    refine ⟨r', (show Kt X.K M ι1 H1 Q (.ref G1.length) G' from w) ι' H' _ (x2.trans x') R' ⟨x, ?_, rfl⟩⟩
    exact x'.get (by rw [← R1.len]; simp)
  | _ => exact w.elim
theorem i_mk {cc F : Nat} {r : ClsR} (hr : C.P.cls[cc]? = some r) (hi : r.init = some F) {σ : L2.St} {H : Hp} {Q : VK} (w : tE X.K M E (fun L G => (fs L G).bind fun ds G => mkK C.P C.call cc ds G) σ H Q) :
    tMake (He.ga X.K (M.c cc)) (spF X.K M C.call F) [] E (tEs X.K M E fs) σ H Q := by
  obtain ⟨ι, L, G, l, R, w⟩ := w
  refine tEs_bind go_t l R w fun ι1 H1 vs ds G1 x1 l1 R1 r1 w1 => ?_
  rw [List.append_nil]
  exact mk_end (σ := σ) hr hi R1 r1 w1
theorem e_mk (c : Cd X M C O sx E k) {cc F : Nat} {r : ClsR} {x : Str} (hr : C.P.cls[cc]? = some r) (hi : r.init = some F) (hx : x = M.c cc) (hg : glB sx.sc x = true) (ha : AJ X M E es fs) :
    PE X (.Call (.Name x p) es [] pos) (tE X.K M E fun L G => (fs L G).bind fun ds G => mkK C.P C.call cc ds G) := by
  obtain ⟨g1, g2, g3⟩ := c.gl hg
  obtain ⟨i1, hF, i2⟩ := c.fx.mkr cc r F hr hi
  obtain ⟨b1, b2, b3⟩ := c.fx.fn F hF
  have m : X.mg x = some (.ref (He.ga X.K (M.c cc))) := by rw [hx]; exact (c.fx.cls cc r hr).1
  cases es with
  | nil =>
    cases ha.nl rfl
    exact (pe_makeG0 i2 (c.fns F hF) c.hr c.gd g1 m b1 c.px g2).imp fun σ H Q w => nil_of (i_mk hr hi w)
  | cons e es =>
    have hs := ha.st
    simp only [List.all_cons, Bool.and_eq_true] at hs
    exact (pe_makeG i2 (c.fns F hF) c.hr c.gd g1 m b1 c.px ha.pa g2 (star_of hs.1) (plain_of hs.2)).imp fun _ _ _ => i_mk hr hi
end
end Rf


set_option Elab.async false
set_option linter.all false
set_option maxRecDepth 100000
set_option maxHeartbeats 1000000
/-! S5: methods, calls by keywords. -/
namespace Rf
open PySem PySem.Spec PyProof.Rows L2
/-- a method call's text, on one line, few arguments -/
theorem ht_of {o : Expr} {m : Str} {apos pos : Pos} {args : List Expr} {kws : List Keyword} {env : Env} (hb : baseB o = true) (hl : (apos.endLine == pos.line) = true)
    (hf : methodCallForm (args.length + kws.length) (backTo pos (starEach args env)) (backToKw pos (keywordEach kws env)) = true) :
    eval (.Call (.Attribute o m apos) args kws pos) env = (do
      let ov ← eval o env
      standAt apos.atName
      let (f, first) ← holding [ov] (getMethod ov m (plainOf o env))
      callWith pos f first (backTo pos (starEach args env)) (backToKw pos (keywordEach kws env))) := by
  show (do
    let ov ← attributeBase o m env (eval o env)
    standAt apos.atName
    methodCall o m apos pos env ov (args.length + kws.length) (backTo pos (starEach args env)) (backToKw pos (keywordEach kws env))) = _
  rw [base_of hb]
  congr 1
  funext ov
  congr 1
  funext _
  exact mcall_line hf hl
def kwB (kws : List Keyword) : Bool := kws.all (·.arg.isSome)
theorem backKw_some {pos : Pos} {env : Env} : ∀ {kws : List Keyword}, kwB kws = true → (backToKw pos (keywordEach kws env)).all (·.1.isSome) = true
  | [], _ => rfl
  | ⟨a, e, q⟩ :: r, h => by
    simp only [kwB, List.all_cons, Bool.and_eq_true] at h
    show (a.isSome && (backToKw pos (keywordEach r env)).all (·.1.isSome)) = true
    rw [h.1, backKw_some (by exact h.2)]; rfl
theorem form_of {pos : Pos} {env : Env} {args : List Expr} {kws : List Keyword} (hs : args.all notStar = true) (hk : kwB kws = true) (hn : args.length + kws.length < 29) :
    methodCallForm (args.length + kws.length) (backTo pos (starEach args env)) (backToKw pos (keywordEach kws env)) = true := by
  unfold methodCallForm
  simp only [Bool.and_eq_true, decide_eq_true_eq]
  exact ⟨⟨allN_of hs, backKw_some hk⟩, by split <;> omega⟩
section
variable {X : Cx} {M : Nm} {C : EC} {O : Ob} {sx : Sx} {E : XK} {k : Nat} {a b c : Expr} {f g h' : LL → GG → Res D} {pos p apos : Pos} {fs : LL → GG → Res (List D)} {es : List Expr}
theorem methK_ok {P : Prg} {call : CallT} {m : Nat} {es : GG → Res (List D)} {d : D} {G : GG} {Q : D → GG → Prop} {E : Nat → List (Nat × D) → GG → Prop} (w : (methK P call m es d G).wp Q E) :
    ∃ n cc gs F r, d = .ref n ∧ getI G n = some (cc, gs) ∧ gs.lookup m = none ∧ P.cls[cc]? = some r ∧ r.ms.lookup m = some F ∧ ((es G).bind fun ds G => call (.fn F) (.ref n :: ds) G).wp Q E := by
  unfold methK at w
  cases d with
  | ref n =>
    simp only at w
    split at w
    · rename_i cc gs hi
      split at w
      · rename_i F h1 h2
        cases hr : P.cls[cc]? with
        | none =>
          rw [clsOf_none hr] at h2
          cases h2
        | some r =>
          rw [clsOf_some hr] at h2
          exact ⟨n, cc, gs, F, r, rfl, hi, h1, hr, h2, w⟩
      · exact w.elim
    · exact w.elim
  | _ => exact w.elim
theorem e_meth (c : Cd X M C O sx E k) {m : Nat} (ha : PE X a (tE X.K M E f)) (hb : baseB a = true) (hl : (apos.endLine == pos.line) = true) (hn : es.length < 29) (hA : AJ X M E es fs) :
    PE X (.Call (.Attribute a (M.a m) apos) es [] pos) (tE X.K M E fun L G => (f L G).bind fun x G => methK C.P C.call m (fs L) x G) := by
  refine ⟨fun pins s σ H Q I ⟨ι, L, G, l, R, w⟩ => ?_⟩
  refine PySem.W.methodCall_KW (pl := plainOf a X.env) (thn (ha.run pins s σ H (fun x H1 => ∃ ι1 G1 d, LR X.K M H1 ι1 L σ ∧ Rep X.K M ι1 G1 H1 ∧ DR X.K H1 ι1 d x ∧ (methK C.P C.call m (fs L) d G1).wp (Kt X.K M ι1 H1 Q) (Kx X.K M ι1 H1 E)) I
    (tE_bind go_t l R w fun ι1 H1 v d G1 x1 l1 R1 r1 w1 => ⟨ι1, G1, d, l1, R1, r1, w1⟩)) fun u s1 ⟨x, H1, I1, rx, ι1, G1, d, l1, R1, r1, w1⟩ => ?_) (ht_of hb hl (form_of hA.st rfl (by simpa using hn)))
  obtain ⟨n, cc, gs, F, r, rfl, hi, h1, hr, h2, w2⟩ := methK_ok w1
  obtain ⟨p, dx, xs, e1, e2, e3, e4⟩ := R1.ins hi r1
  subst e1
  obtain rfl : u = Value.ref p := rx
  obtain ⟨i1, hF, i2, i3⟩ := c.fx.meth cc r m F hr h2
  have cl := (c.fx.cls cc r hr).2 i1
  obtain ⟨b1, b2, b3⟩ := c.fx.fn F hF
  have hl2 : xs.lookup (M.a m) = none := by
    have q := e4.look c.fx.attN i2
    rw [h1] at q
    exact q
  refine getmeth_ok I1 e3 cl i3 hl2 ?_
  have key : tEs X.K M E fs σ H1 fun vs H2 => spF X.K M C.call F (.ref p :: vs) H2 Q E :=
    tEs_bind go_t l1 R1 w2 fun ι2 H2 vs ds G2 x2 l2 R2 r2 w3 => ⟨ι2, G2, .ref n :: ds, R2, ⟨r1.ext R1 x2, r2⟩, w3⟩
  cases es with
  | nil =>
    cases hA.nl rfl
    exact PySem.W.callWith_K0 (first := [.ref p]) I1.kIn i3.kp (run_g (us := [.ref p]) (vs := [.ref p]) (c.fns F hF) (c.hr.mono (Nat.le_succ _)) c.gd b1 c.px I1 (.cons rfl .nil) (nil_of key))
  | cons e es =>
    have hs := hA.st
    simp only [List.all_cons, Bool.and_eq_true] at hs
    refine PySem.W.callWith_K (first := [.ref p]) (h₀ := X.base) I.ok.mod.kin i3.kp (thn (hA.pa.run pos pins s1 σ H1 _ I1 key) fun us s2 ⟨vs, H2, I2, r, q2⟩ => ⟨I2.kIn, ?_⟩) (star_of hs.1) (plain_of hs.2)
    exact run_g (us := .ref p :: us) (vs := .ref p :: vs) (c.fns F hF) (c.hr.mono (Nat.le_succ _)) c.gd b1 c.px I2 (.cons rfl r) q2
/-! ### keywords alone -/
structure KJ (X : Cx) (M : Nm) (E : XK) (kws : List Keyword) (fs : LL → GG → Res (List D)) : Prop where
  pk : PK X kws (tEs X.K M E fs)
  all : kwB kws = true
theorem KJ.nil : KJ X M E [] fun _ G => .ok [] G := ⟨⟨fun pos pins s σ H Q I h => pk_nil.run pos pins s σ H Q I (nil_of h)⟩, rfl⟩
theorem KJ.cons {nm : Str} {kp : Pos} {kws : List Keyword} (ha : PE X a (tE X.K M E f)) (r : KJ X M E kws fs) : KJ X M E (⟨some nm, a, kp⟩ :: kws) fun L G => (f L G).bind fun d G => (fs L G).bind fun ds G => .ok (d :: ds) G := by
  refine ⟨⟨fun pos pins s σ H Q I ⟨ι, L, G, l, R, w⟩ => (pk_cons ha r.pk).run pos pins s σ H Q I ?_⟩, by
    have := r.all
    unfold kwB at this ⊢
    simp only [List.all_cons, Bool.and_eq_true]
    exact ⟨rfl, this⟩⟩
  exact tE_bind go_s l R w fun ι1 H1 v d G1 x1 l1 R1 r1 w1 => tEs_bind go_s l1 R1 w1 fun ι2 H2 vs ds G2 x2 l2 R2 r2 w2 =>
    w2 ι2 H2 (v :: vs) (Ext.refl _ _) R2 ⟨r1.ext R1 x2, r2⟩
theorem kw_names {pos : Pos} {env : Env} : ∀ {kws : List Keyword}, (backToKw pos (keywordEach kws env)).filterMap (·.1) = kws.filterMap (·.arg)
  | [] => rfl
  | ⟨a, e, q⟩ :: r => by
    have ih := kw_names (pos := pos) (env := env) (kws := r)
    show List.filterMap (·.1) ((a, _) :: backToKw pos (keywordEach r env)) = _
    cases a with
    | none => exact ih
    | some x => exact congrArg (x :: ·) ih
theorem kw_plain {pos : Pos} {env : Env} : ∀ {kws : List Keyword}, kwB kws = true → (backToKw pos (keywordEach kws env)).any (·.1.isNone) = false
  | [], _ => rfl
  | ⟨a, e, q⟩ :: r, h => by
    simp only [kwB, List.all_cons, Bool.and_eq_true] at h
    show (a.isNone || (backToKw pos (keywordEach r env)).any (·.1.isNone)) = false
    rw [kw_plain (by exact h.2)]
    cases a with
    | none => cases h.1
    | some x => rfl
theorem pick_rel {ι : List Addr} {H : Hp} {K : PySem.W.Frag} {ds : List D} {vs : List V} (r : DRs K H ι ds vs) : ∀ perm : List Nat, DRs K H ι (pick perm ds) (pick perm vs)
  | [] => trivial
  | i :: perm => by
    have ih := pick_rel r perm
    unfold pick at ih ⊢
    rw [List.filterMap_cons, List.filterMap_cons]
    cases h : ds[i]? with
    | none =>
      have : vs[i]? = none := by
        rw [List.getElem?_eq_none_iff] at h ⊢
        rw [← r.length]; exact h
      rw [this]; exact ih
    | some d =>
      obtain ⟨v, e1, e2⟩ := r.get h
      rw [e1]; exact ⟨e2, ih⟩
/-- the callee runs, its arguments behind keywords -/
theorem run_kw {CXx : CXT} {kk : Nat} {F : Addr} {fd : FuncData} {ps ks : List Str} {sp : Sp} {n : Nat} {g : List Value → List Value → List Value} {gV : List V → List V → List V} {pins : List (Addr × Obj)} {σ : L2.St} {H : Hp} {s : Shared} {Q : VK} {us ws : List Value} {vs zs : List V}
    (Fk : FnG X.prog X.w X.K X.mg X.base CXx kk F fd ps sp) (hr : Room kk X.A) (hgd : X.A.guards = some []) (hb : KBn X.K fd ps n ks g gV) (hx : Passes CXx X E)
    (I : Inv X pins σ H s) (r : Vals vs us) (rz : Vals zs ws) (l1 : vs.length = n) (l2 : zs.length = ks.length) (h : sp (gV vs zs) H Q E) : wpAny (model X.prog X.w) X.A (call (.ref F) us (ks.zip ws)) (EP X pins σ Q) X.xe s := by
  have r2 := hb.rel r rz
  refine wpAny_call (codeAny_mono (Fk.run X.A X.stack s H ⟨us, ks.zip ws⟩ (g us ws) (gV vs zs) Q E hr hgd I.env0 (hb.to s us ws I.kIn (r.length.symm.trans l1) (rz.length.symm.trans l2)) r2 h) fun r s' hq => ?_)
  cases r with
  | error e => exact hx pins σ H s e s' I hq
  | ok fl =>
    cases fl with
    | ret u => exact I.after hq
    | next => exact False.elim hq
    | brk => exact False.elim hq
    | cont => exact False.elim hq
variable {kws : List Keyword} {e : Nat} {ks : List Str}
theorem callkK_ok {P : Prg} {call : CallT} {ds : List D} {G : GG} {Q : D → GG → Prop} {E : Nat → List (Nat × D) → GG → Prop} (w : (callkK P call e ds G).wp Q E) :
    ∃ r, P.kws[e]? = some r ∧ r.ahead = 0 ∧ ds.length = r.n ∧ (call (.fn r.f) (pick r.perm ds) G).wp Q E := by
  unfold callkK at w
  split at w
  · rename_i r hr
    obtain ⟨h, w⟩ := wp_if w
    obtain ⟨h1, h2⟩ := and2 h
    exact ⟨r, hr, by simpa using h1, by simpa using h2, w⟩
  · exact w.elim
theorem mkkK_ok {P : Prg} {call : CallT} {cc : Nat} {ds : List D} {G : GG} {Q : D → GG → Prop} {E : Nat → List (Nat × D) → GG → Prop} (w : (mkkK P call cc e ds G).wp Q E) :
    ∃ r, P.kws[e]? = some r ∧ r.ahead = 1 ∧ (clsOf P cc).init = some r.f ∧ ds.length = r.n ∧ (mkK P call cc (pick r.perm ds) G).wp Q E := by
  unfold mkkK at w
  split at w
  · rename_i r hr
    obtain ⟨h, w⟩ := wp_if w
    obtain ⟨h1, h2, h3⟩ := and3 h
    exact ⟨r, hr, by simpa using h1, by simpa using h2, by simpa using h3, w⟩
  · exact w.elim
theorem init_some {P : Prg} {cc F : Nat} (h : (clsOf P cc).init = some F) : ∃ r, P.cls[cc]? = some r ∧ r.init = some F := by
  cases hr : P.cls[cc]? with
  | none => rw [clsOf_none hr] at h; cases h
  | some r => rw [clsOf_some hr] at h; exact ⟨r, rfl, h⟩
theorem methkK_ok {P : Prg} {call : CallT} {m : Nat} {es : GG → Res (List D)} {d : D} {G : GG} {Q : D → GG → Prop} {E : Nat → List (Nat × D) → GG → Prop} (w : (methkK P call m e es d G).wp Q E) :
    ∃ r n cc gs cr, P.kws[e]? = some r ∧ r.ahead = 1 ∧ d = .ref n ∧ getI G n = some (cc, gs) ∧ gs.lookup m = none ∧ P.cls[cc]? = some cr ∧ cr.ms.lookup m = some r.f ∧
      ((es G).bind fun ds G => if ds.length == r.n then call (.fn r.f) (.ref n :: pick r.perm ds) G else .bad).wp Q E := by
  unfold methkK at w
  split at w
  · rename_i r hr
    obtain ⟨h, w⟩ := wp_if w
    cases d with
    | ref n =>
      simp only at w
      split at w
      · rename_i cc gs hi
        split at w
        · rename_i F h1 h2
          obtain ⟨hf, w⟩ := wp_if w
          have hf : F = r.f := by simpa using hf
          subst hf
          cases hc : P.cls[cc]? with
          | none => rw [clsOf_none hc] at h2; cases h2
          | some cr =>
            rw [clsOf_some hc] at h2
            exact ⟨r, n, cc, gs, cr, hr, by simpa using h, rfl, hi, h1, hc, h2, w⟩
        · exact w.elim
      · exact w.elim
    | _ => exact w.elim
  · exact w.elim
theorem e_callk (c : Cd X M C O sx E k) {x : Str} {r : KwR} (hr : C.P.kws[e]? = some r) (hk : M.kw[e]? = some ks) (hx : x = M.f r.f) (hne : M.f r.f ≠ Str.empty) (hg : glB sx.sc x = true) (hA : KJ X M E kws fs) (hks : kws.filterMap (·.arg) = ks) :
    PE X (.Call (.Name x p) [] kws pos) (tE X.K M E fun L G => (fs L G).bind fun ds G => callkK C.P C.call e ds G) := by
  obtain ⟨g1, g2, g3⟩ := c.gl hg
  obtain ⟨hF, hn, kb⟩ := c.fx.kw e r ks hr hk
  obtain ⟨b1, b2, b3⟩ := c.fx.fn r.f hF
  have m : X.mg x = some (.ref (O.fa r.f)) := by rw [hx]; exact b3 hne
  refine ⟨fun pins s σ H Q I ⟨ι, L, G, l, R, w⟩ => ?_⟩
  refine wpAny_Call_Name_kw (ld_glob I g1 m ?_ g2)
  refine PySem.W.callWith_KW0 (h₀ := X.base) I.ok.mod.kin b2 (backKw_some hA.all) ?_ (by
    show ((false : Bool) || _) = false
    rw [kw_plain hA.all]; rfl)
  refine thn (hA.pk.run pos pins s σ H (fun zs H2 => ∃ r', C.P.kws[e]? = some r' ∧ r'.ahead = 0 ∧ zs.length = r'.n ∧ spF X.K M C.call r'.f (pick r'.perm zs) H2 Q E) I (tEs_bind go_t l R w fun ι1 H1 vs ds G1 x1 l1 R1 r1 w1 => ?_)) fun ws s2 ⟨zs, H2, I2, rz, r', q1, q2, q3, q4⟩ => ⟨I2.kIn, ?_⟩
  · obtain ⟨r', h1, h2, h3, h4⟩ := callkK_ok w1
    exact ⟨r', h1, h2, by rw [← r1.length]; exact h3, ι1, G1, pick r'.perm ds, R1, pick_rel r1 _, h4⟩
  · rw [hr] at q1
    cases q1
    rw [kw_names, hks]
    rw [q2] at kb
    exact run_kw (us := []) (vs := []) (c.fns r.f hF) (c.hr.mono (Nat.le_succ _)) c.gd kb c.px I2 .nil rz rfl (by rw [hn]; exact q3) q4
theorem e_mkk (c : Cd X M C O sx E k) {cc : Nat} {x : Str} {r : KwR} (hr : C.P.kws[e]? = some r) (hk : M.kw[e]? = some ks) (hi : (clsOf C.P cc).init = some r.f) (ha1 : r.ahead = 1) (hx : x = M.c cc) (hg : glB sx.sc x = true) (hA : KJ X M E kws fs) (hks : kws.filterMap (·.arg) = ks) :
    PE X (.Call (.Name x p) [] kws pos) (tE X.K M E fun L G => (fs L G).bind fun ds G => mkkK C.P C.call cc e ds G) := by
  obtain ⟨g1, g2, g3⟩ := c.gl hg
  obtain ⟨hF, hn, kb⟩ := c.fx.kw e r ks hr hk
  obtain ⟨cr, hc, hi⟩ := init_some hi
  obtain ⟨i1, _, i2⟩ := c.fx.mkr cc cr r.f hc hi
  have m : X.mg x = some (.ref (He.ga X.K (M.c cc))) := by rw [hx]; exact (c.fx.cls cc cr hc).1
  refine ⟨fun pins s σ H Q I ⟨ι, L, G, l, R, w⟩ => ?_⟩
  refine wpAny_Call_Name_kw (ld_glob I g1 m ?_ g2)
  refine PySem.W.callWith_KW0 (h₀ := X.base) I.ok.mod.kin i2.kp (backKw_some hA.all) ?_ (by
    show ((false : Bool) || _) = false
    rw [kw_plain hA.all]; rfl)
  refine thn (hA.pk.run pos pins s σ H (fun zs H2 => zs.length = r.n ∧ ∀ x dx, H2 x = none → H2 dx = none → dx ≠ x →
      spF X.K M C.call r.f (.ref x :: pick r.perm zs) (upd (upd H2 dx (.own x)) x (.ins (He.ga X.K (M.c cc)) dx [])) (fun v H2 => v = .non ∧ Q (.ref x) H2) E) I (tEs_bind go_t l R w fun ι1 H1 vs ds G1 x1 l1 R1 r1 w1 => ?_)) fun ws s2 ⟨zs, H2, I2, rz, q3, q4⟩ => ⟨I2.kIn, ?_⟩
  · obtain ⟨r', h1, h2, h3, h4, h5⟩ := mkkK_ok w1
    rw [hr] at h1
    cases h1
    exact ⟨by rw [← r1.length]; exact h4, mk_end (σ := σ) hc hi R1 (pick_rel r1 _) h5⟩
  · rw [kw_names, hks]
    rw [ha1] at kb
    have rz2 : Vals (pick r.perm zs) (pick r.perm ws) := by
      have := kb.rel (vs := []) (us := []) .nil rz
      exact this
    exact run_makeG (us := []) i2 (c.fns r.f hF) c.hr c.gd (fun x s' kk => kb.to s' [.ref x] ws kk rfl (by rw [← rz.length, hn]; exact q3)) c.px I2 rz2 q4
theorem e_methk (c : Cd X M C O sx E k) {m : Nat} {r : KwR} (hr : C.P.kws[e]? = some r) (hk : M.kw[e]? = some ks) (ha : PE X a (tE X.K M E f)) (hb : baseB a = true) (hl : (apos.endLine == pos.line) = true) (hn : kws.length < 29) (hA : KJ X M E kws fs) (hks : kws.filterMap (·.arg) = ks) :
    PE X (.Call (.Attribute a (M.a m) apos) [] kws pos) (tE X.K M E fun L G => (f L G).bind fun x G => methkK C.P C.call m e (fs L) x G) := by
  refine ⟨fun pins s σ H Q I ⟨ι, L, G, l, R, w⟩ => ?_⟩
  refine PySem.W.methodCall_KW (pl := plainOf a X.env) (thn (ha.run pins s σ H (fun x H1 => ∃ ι1 G1 d, LR X.K M H1 ι1 L σ ∧ Rep X.K M ι1 G1 H1 ∧ DR X.K H1 ι1 d x ∧ (methkK C.P C.call m e (fs L) d G1).wp (Kt X.K M ι1 H1 Q) (Kx X.K M ι1 H1 E)) I
    (tE_bind go_t l R w fun ι1 H1 v d G1 x1 l1 R1 r1 w1 => ⟨ι1, G1, d, l1, R1, r1, w1⟩)) fun u s1 ⟨x, H1, I1, rx, ι1, G1, d, l1, R1, r1, w1⟩ => ?_) (ht_of hb hl (form_of rfl hA.all (by simpa using hn)))
  obtain ⟨r', n, cc, gs, cr, hr', ha1, rfl, hi, h1, hc, h2, w2⟩ := methkK_ok w1
  rw [hr] at hr'
  cases hr'
  obtain ⟨p, dx, xs, e1, e2, e3, e4⟩ := R1.ins hi r1
  subst e1
  obtain rfl : u = Value.ref p := rx
  obtain ⟨i1, hF, i2, i3⟩ := c.fx.meth cc cr m r.f hc h2
  have cl := (c.fx.cls cc cr hc).2 i1
  obtain ⟨_, hn', kb⟩ := c.fx.kw e r ks hr hk
  have hl2 : xs.lookup (M.a m) = none := by
    have q := e4.look c.fx.attN i2
    rw [h1] at q
    exact q
  refine getmeth_ok I1 e3 cl i3 hl2 ?_
  have key : tEs X.K M E fs σ H1 fun vs H2 => vs.length = r.n ∧ spF X.K M C.call r.f (.ref p :: pick r.perm vs) H2 Q E :=
    tEs_bind go_t l1 R1 w2 fun ι2 H2 vs ds G2 x2 l2 R2 r2 w3 => by
      obtain ⟨hz, w3⟩ := wp_if w3
      exact ⟨by rw [← r2.length]; simpa using hz, ι2, G2, .ref n :: pick r.perm ds, R2, ⟨r1.ext R1 x2, pick_rel r2 _⟩, w3⟩
  refine PySem.W.callWith_KW0 (first := [.ref p]) (h₀ := X.base) I.ok.mod.kin i3.kp (backKw_some hA.all) ?_ (by
    show ((false : Bool) || _) = false
    rw [kw_plain hA.all]; rfl)
  refine thn (hA.pk.run pos pins s1 σ H1 _ I1 key) fun ws s2 ⟨zs, H2, I2, rz, q3, q4⟩ => ⟨I2.kIn, ?_⟩
  rw [kw_names, hks]
  rw [ha1] at kb
  exact run_kw (us := [.ref p]) (vs := [.ref p]) (c.fns r.f hF) (c.hr.mono (Nat.le_succ _)) c.gd kb c.px I2 (.cons rfl .nil) rz rfl (by rw [hn']; exact q3) q4
end
end Rf


set_option Elab.async false
set_option linter.all false
set_option maxRecDepth 100000
set_option maxHeartbeats 1000000
/-! S6: built-in functions by name, isinstance. -/
namespace Rf
open PySem PySem.Spec PyProof.Rows L2
section
variable {X : Cx} {M : Nm} {C : EC} {O : Ob} {sx : Sx} {E : XK} {k : Nat} {a b c e : Expr} {f g h' : LL → GG → Res D} {pos p p2 apos : Pos} {fs : LL → GG → Res (List D)} {es : List Expr} {x : Str}
theorem i_blt {q : List D → GG → Res D} {σ : L2.St} {H : Hp} {Q : VK} (w : tE X.K M E (fun L G => (fs L G).bind fun ds G => q ds G) σ H Q) : tCB (rN X.K M q) (tEs X.K M E fs) σ H Q := by
  obtain ⟨ι, L, G, l, R, w⟩ := w
  exact tEs_bind go_t l R w fun ι1 H1 vs ds G1 x1 l1 R1 r1 w1 => ⟨ι1, G1, ds, R1, r1, toNoE w1⟩
theorem e_bltB {q : List D → GG → Res D} {id : String} (c : Cg X M C O sx) (hc : CallR X (.builtin id) (rN X.K M q)) (hv : bootBuiltins x = some (.builtin id)) (hm : x ∈ bltNames) (hg : glB sx.sc x = true) (ha : AJ X M E (e :: es) fs) :
    PE X (.Call (.Name x p) (e :: es) [] pos) (tE X.K M E fun L G => (fs L G).bind fun ds G => q ds G) := by
  obtain ⟨g1, g2, g3⟩ := c.gl hg
  have hs := ha.st
  simp only [List.all_cons, Bool.and_eq_true] at hs
  exact (pe_callB hc g1 (c.fx.blt x hm) hv ha.pa g3 g2 (star_of hs.1) (plain_of hs.2)).imp fun _ _ _ => i_blt
theorem e_bltT {q : List D → GG → Res D} {T : String} (c : Cg X M C O sx) (hc : CallR X (.type T) (rN X.K M q)) (hv : bootBuiltins x = some (.type T)) (hm : x ∈ bltNames) (hg : glB sx.sc x = true) (ha : AJ X M E (e :: es) fs) :
    PE X (.Call (.Name x p) (e :: es) [] pos) (tE X.K M E fun L G => (fs L G).bind fun ds G => q ds G) := by
  obtain ⟨g1, g2, g3⟩ := c.gl hg
  have hs := ha.st
  simp only [List.all_cons, Bool.and_eq_true] at hs
  exact (pe_callTy hc g1 (c.fx.blt x hm) hv ha.pa g3 g2 (star_of hs.1) (plain_of hs.2)).imp fun _ _ _ => i_blt
/-! ### isinstance -/
def tyN : Ty → Str
  | .int => "int"
  | .bool => "bool"
  | .str => "str"
  | .tuple => "tuple"
  | .list => "list"
  | .cls _ => Str.empty
def tyX (M : Nm) : Ty → Str
  | .cls c => M.c c
  | t => tyN t
theorem tyx {ι : List Addr} {G : GG} {H : Hp} {d : D} {v : V} {r : Rt} (fx : Fx M C.P O X.K X.mg) (R : Rep X.K M ι G H) (rd : DR X.K H ι d v) (h : rtOf G d = some r) (ok : rtOk C.P r = true) : TyX X.K H v (rtV M X.K r) := by
  have tt : ∀ {a : Addr} {vs : List V}, SqT X.K H a vs → TyX X.K H (.ref a) (.type "tuple") := fun {a vs} h => by
    rcases h with (h | ⟨o, h⟩) | ⟨o, its, n, h1, h2, _⟩
    · exact .base (.tup h)
    · exact .fTuple h
    · exact .kTuple h1 h2
  cases d with
  | non => cases h; cases (show v = .non from rd); exact .base .non
  | bl b => cases h; cases (show v = .bl b from rd); exact .base (.bl b)
  | int b => cases h; cases (show v = .int b from rd); exact .base (.int b)
  | str b => cases h; cases (show v = .str ⟨b.toArray⟩ from rd); exact .base (.str _)
  | tup ds =>
    cases h
    obtain ⟨a, vs, rfl, s, _⟩ := rd
    exact tt s
  | cl ds =>
    cases h
    obtain ⟨a, vs, rfl, s, _⟩ := rd
    rcases s with ⟨o, s⟩ | ⟨o, its, n, h1, h2, _⟩
    · exact .base (.frz s)
    · exact .kList h1 h2
  | ref n =>
    obtain ⟨a, ha, rfl⟩ := rd
    unfold rtOf at h
    simp only at h
    split at h
    · rename_i ds e
      cases h
      obtain ⟨a', ha', vs, e1, _⟩ := R.obj' e
      rw [ha] at ha'; cases ha'
      exact .base (.lst e1)
    · rename_i ds e
      cases h
      obtain ⟨a', ha', vs, e1, _⟩ := R.obj' e
      rw [ha] at ha'; cases ha'
      exact .base (.dK e1)
    · rename_i cc fs e
      cases h
      obtain ⟨a', ha', dx, vs, e1, _⟩ := R.obj' e
      rw [ha] at ha'; cases ha'
      obtain ⟨o1, o2, o3, o4⟩ := fx.isi.own cc ok
      have hc : Cls X.K (He.ga X.K (M.c cc)) := by
        have ok : C.P.ord cc = true := ok
        unfold Prg.ord at ok
        split at ok
        · rename_i r hr
          exact (fx.cls cc r hr).2 (by simpa using ok)
        · cases ok
      exact .base (.ins e1 hc o1 o2 o3 o4)
    · cases h
theorem e_isa (c : Cd X M C O sx E k) {t : Ty} {x2 : Str} (hg : glB sx.sc "isinstance" = true) (hgt : glB sx.sc x2 = true) (hx : x2 = tyX M t) (ht : tyOk C.P t = true) (ha : PE X a (tE X.K M E f)) (hs : notStar a = true) :
    PE X (.Call (.Name "isinstance" p) [a, .Name x2 p2] [] pos) (tE X.K M E fun L G => (f L G).bind fun x G => isaK C.P x t G) := by
  obtain ⟨g1, g2, g3⟩ := c.gl hg
  obtain ⟨t1, t2, t3⟩ := c.gl hgt
  have tv : ∃ w : V, ClsV w (tyV M X.K t) ∧ PE X (.Name x2 p2) (tC w) := by
    cases t with
    | int => exact ⟨.ty "int", .ty _, by
      have hx : x2 = "int" := hx
      subst hx
      exact pe_bltn t1 (c.fx.blt _ (by decide)) (by rfl) rfl t3 t2⟩
    | bool => exact ⟨.ty "bool", .ty _, by
      have hx : x2 = "bool" := hx
      subst hx
      exact pe_bltn t1 (c.fx.blt _ (by decide)) (by rfl) rfl t3 t2⟩
    | str => exact ⟨.ty "str", .ty _, by
      have hx : x2 = "str" := hx
      subst hx
      exact pe_bltn t1 (c.fx.blt _ (by decide)) (by rfl) rfl t3 t2⟩
    | tuple => exact ⟨.ty "tuple", .ty _, by
      have hx : x2 = "tuple" := hx
      subst hx
      exact pe_bltn t1 (c.fx.blt _ (by decide)) (by rfl) rfl t3 t2⟩
    | list => exact ⟨.ty "list", .ty _, by
      have hx : x2 = "list" := hx
      subst hx
      exact pe_bltn t1 (c.fx.blt _ (by decide)) (by rfl) rfl t3 t2⟩
    | cls q =>
      have ht : C.P.ord q = true := ht
      unfold Prg.ord at ht
      split at ht
      · rename_i r hr
        exact ⟨.ref (He.ga X.K (M.c q)), .own _, by subst hx; exact pe_glob t1 (c.fx.cls q r hr).1 rfl t2⟩
      · cases ht
  obtain ⟨w, cv, pt⟩ := tv
  refine (pe_callB call_isi g1 (c.fx.blt _ (by decide)) (by rfl) (pa_cons ha (pa_cons pt pa_nil) (star_of hs)) g3 g2 (star_of hs) (by rfl)).imp fun σ H Q q => ?_
  obtain ⟨ι, L, G, l, R, q⟩ := q
  refine tE_bind go_t l R q fun ι1 H1 v d G1 x1 l1 R1 r1 w1 => ?_
  unfold isaK at w1
  split at w1
  · rename_i r hr
    obtain ⟨ok, w1⟩ := wp_if w1
    exact ⟨v, w, rtV M X.K r, tyV M X.K t, rtIs r t, rfl, cv, tyx c.fx R1 r1 hr ok, c.fx.isi.kit r t ok ht, Kt.here w1 R1 rfl⟩
  · exact w1.elim
end
end Rf


set_option Elab.async false
set_option linter.all false
set_option maxRecDepth 100000
set_option maxHeartbeats 1000000
/-! S7: what is walked. -/
namespace Rf
open PySem PySem.Spec PyProof.Rows L2
/-- J walks the items of iv as long as the lists that are walked stand -/
def Walk (K : PySem.W.Frag) (M : Nm) (J : It) (iv : IV) (ι0 : List Addr) (H0 : Hp) : Prop :=
  ∀ ι H G, Ext ι0 ι H0 H → Rep K M ι G H → srcOk iv.src G = true → ∀ i, (i < iv.items.length → J.go i H) ∧ (iv.items.length ≤ i → J.stop i H) ∧
    ∀ x H', J.yld i H x H' → ∀ d, iv.items[i]? = some d → Ext ι ι H H' ∧ Rep K M ι G H' ∧ DR K H' ι d x
def Ki (K : PySem.W.Frag) (M : Nm) (ι : List Addr) (H : Hp) (R : It → Hp → Prop) : IV → GG → Prop := fun iv G' => ∀ ι' H' J, Ext ι ι' H H' → Rep K M ι' G' H' → Walk K M J iv ι' H' → R J H'
def tI (K : PySem.W.Frag) (M : Nm) (E : XK) (f : LL → GG → Res IV) : TI := fun σ H R => ∃ ι L G, LR K M H ι L σ ∧ Rep K M ι G H ∧ (f L G).wp (Ki K M ι H R) (Kx K M ι H E)
section
variable {K : PySem.W.Frag} {M : Nm} {ι ι1 : List Addr} {H H1 : Hp} {G : GG}
theorem go_i {R : It → Hp → Prop} : Go (fun ι H => Ki K M ι H R) := fun _ _ _ _ _ _ x h ι' H' J y R w => h ι' H' J (x.trans y) R w
theorem Ki.here {R : It → Hp → Prop} {iv : IV} {J : It} (h : Ki K M ι H R iv G) (Rp : Rep K M ι G H) (w : Walk K M J iv ι H) : R J H := h ι H J (Ext.refl _ _) Rp w
theorem _root_.L2.PI.imp {X : Cx} {tg iter : Expr} {t t' : TI} (h : PI X tg iter t) (i : ∀ σ H Q, t' σ H Q → t σ H Q) : PI X tg iter t' := ⟨fun pins s σ H R I q => h.run pins s σ H R I (i σ H R q)⟩
theorem walk_list {a : Addr} {ds : List D} {src : List (Nat × List D)} (h : ∀ ι' H' G', Ext ι ι' H H' → Rep K M ι' G' H' → srcOk src G' = true → ∃ vs, SqL K H' a vs ∧ DRs K H' ι' ds vs) : Walk K M (Itl K a) ⟨ds, src⟩ ι H := by
  intro ι' H' G' x R hs i
  obtain ⟨vs, h1, h2⟩ := h ι' H' G' x R hs
  have hl := h2.length
  refine ⟨fun hi => ?_, fun hi => ⟨vs, h1, by rw [← hl]; exact hi⟩, fun v H2 y d hd => ?_⟩
  · have hi' : i < vs.length := by rw [← hl]; exact hi
    exact ⟨vs, vs[i], h1, by simp [hi']⟩
  · obtain ⟨e, q⟩ := y
    subst e
    obtain ⟨w, e1, e2⟩ := h2.get hd
    have := q vs h1
    rw [e1] at this
    cases this
    exact ⟨Ext.refl _ _, R, e2⟩
theorem walk_tup {a : Addr} {ds : List D} {src : List (Nat × List D)} (h : ∀ ι' H' G', Ext ι ι' H H' → Rep K M ι' G' H' → ∃ vs, SqT K H' a vs ∧ DRs K H' ι' ds vs) : Walk K M (Itt K a) ⟨ds, src⟩ ι H := by
  intro ι' H' G' x R hs i
  obtain ⟨vs, h1, h2⟩ := h ι' H' G' x R
  have hl := h2.length
  refine ⟨fun hi => ?_, fun hi => ⟨vs, h1, by rw [← hl]; exact hi⟩, fun v H2 y d hd => ?_⟩
  · have hi' : i < vs.length := by rw [← hl]; exact hi
    exact ⟨vs, vs[i], h1, by simp [hi']⟩
  · obtain ⟨e, q⟩ := y
    subst e
    obtain ⟨w, e1, e2⟩ := h2.get hd
    have := q vs h1
    rw [e1] at this
    cases this
    exact ⟨Ext.refl _ _, R, e2⟩
theorem walk_rng {lo : Int} {n : Nat} : Walk K M (Itr lo n) ⟨rngD lo n, []⟩ ι H := by
  have len : ∀ n lo, (rngD lo n).length = n := by
    intro n
    induction n with
    | zero => intro lo; rfl
    | succ n ih => intro lo; exact congrArg Nat.succ (ih (lo + 1))
  have get : ∀ (n : Nat) (lo : Int) (i : Nat) (d : D), (rngD lo n)[i]? = some d → d = D.int (lo + i) := by
    intro n
    induction n with
    | zero => intro lo i d h; simp [rngD] at h
    | succ n ih =>
      intro lo i d h
      cases i with
      | zero => simp [rngD] at h; rw [← h]; simp
      | succ i =>
        simp only [rngD, List.getElem?_cons_succ] at h
        rw [ih (lo + 1) i d h]
        congr 1
        omega
  intro ι' H' G' x R hs i
  rw [len]
  refine ⟨fun hi => hi, fun hi => hi, fun v H2 y d hd => ?_⟩
  obtain ⟨e, q⟩ := y
  subst e
  rw [get _ _ _ _ hd]
  exact ⟨Ext.refl _ _, R, q⟩
theorem walk_str {z : List Nat} : Walk K M (Its ⟨z.toArray⟩) ⟨z.map fun c => .str [c], []⟩ ι H := by
  intro ι' H' G' x R hs i
  refine ⟨fun hi => by simpa [Its] using hi, fun hi => by simpa [Its] using hi, fun v H2 y d hd => ?_⟩
  obtain ⟨e, c, hc, q⟩ := y
  subst e
  have hc' : z[i]? = some c := by simpa using hc
  simp only [List.getElem?_map, hc', Option.map_some, Option.some.injEq] at hd
  subst hd
  refine ⟨Ext.refl _ _, R, ?_⟩
  rw [q]
  rfl
theorem Ext.sq {d : D} {ds : List D} {v : V} {src : List (Nat × List D)} (R : Rep K M ι G H) (r : DR K H ι d v) (h : seqOf G d = some ds) (hs : src = srcOf d ds ∨ ∃ u, src = srcOf d ds ++ u ∨ src = u ++ srcOf d ds) :
    ∃ a, v = .ref a ∧ ((isTup d = false ∧ (∃ vs, SqL K H a vs) ∧ ∀ ι' H' G', Ext ι ι' H H' → Rep K M ι' G' H' → srcOk src G' = true → ∃ vs, SqL K H' a vs ∧ DRs K H' ι' ds vs) ∨ (isTup d = true ∧ ∀ ι' H' G', Ext ι ι' H H' → Rep K M ι' G' H' → ∃ vs, SqT K H' a vs ∧ DRs K H' ι' ds vs)) := by
  cases d with
  | tup xs =>
    cases h
    obtain ⟨a, vs, rfl, s, rv⟩ := r
    exact ⟨a, rfl, .inr ⟨rfl, fun ι' H' G' x R' => ⟨vs, sqT_ext R x s, rv.ext R x⟩⟩⟩
  | cl xs =>
    cases h
    obtain ⟨a, vs, rfl, s, rv⟩ := r
    exact ⟨a, rfl, .inl ⟨rfl, ⟨vs, s.sq⟩, fun ι' H' G' x R' _ => ⟨vs, (sqC_ext R x s).sq, rv.ext R x⟩⟩⟩
  | ref n =>
    obtain ⟨a, ha, rfl⟩ := r
    have h0 : ∃ vs, SqL K H a vs := by
      obtain ⟨p, vs, e1, hp, hvs, rvs⟩ := R.lst (show getL G n = some ds from h) (v := .ref a) ⟨a, ha, rfl⟩
      cases e1
      exact ⟨vs, .of hvs⟩
    refine ⟨a, rfl, .inl ⟨rfl, h0, fun ι' H' G' x R' hk => ?_⟩⟩
    have hk : srcOk (srcOf (.ref n) ds) G' = true := by
      unfold srcOk at hk ⊢
      rcases hs with e | ⟨u, e | e⟩
      · rw [e] at hk; exact hk
      · rw [e, List.all_append, Bool.and_eq_true] at hk; exact hk.1
      · rw [e, List.all_append, Bool.and_eq_true] at hk; exact hk.2
    unfold srcOk srcOf at hk
    simp only [List.all_cons, List.all_nil, Bool.and_true] at hk
    split at hk
    · rename_i xs e
      have hk2 := hk
      have e2 := D.beqs_ok hk2
      subst e2
      obtain ⟨p, vs, e1, hp, hvs, rvs⟩ := R'.lst e (v := .ref a) ⟨a, x.get ha, rfl⟩
      cases e1
      exact ⟨vs, .of hvs, rvs⟩
    · cases hk
  | _ => cases h
end
section
variable {X : Cx} {M : Nm} {C : EC} {O : Ob} {sx : Sx} {E : XK} {k : Nat} {a b c tg : Expr} {f g h' : LL → GG → Res D} {pos p : Pos}
/-- a list, a tuple, a text, walked -/
theorem pi_seq {l : Expr} {tl : TE} (hl : PE X l tl) : PI X tg l (fun σ H R => tl σ H fun x H1 => (∃ a xs, x = .ref a ∧ SqL X.K H1 a xs ∧ R (Itl X.K a) H1) ∨ (∃ a xs, x = .ref a ∧ SqT X.K H1 a xs ∧ R (Itt X.K a) H1) ∨ ∃ y, x = .str y ∧ R (Its y) H1) := by
  refine ⟨fun pins s σ H R I h => ?_⟩
  refine thn (hl.run pins s σ H _ I h) fun v s1 ⟨x, H1, I1, r1, q1⟩ => ?_
  rcases q1 with ⟨a, xs, e, hq, q⟩ | ⟨a, xs, e, hq, q⟩ | ⟨y, e, q⟩
  · subst e
    cases r1
    obtain ⟨its, rv, p, hz⟩ := I1.list hq
    refine wpAny_pyIter_list p.isList ?_
    refine ⟨s1.heap.objs.size, [s1.heap.objs.size], _, _, H1, rfl, I1.kept (t' := s1.toks) fun b o e => Heap.get?_push_of_some _ e, turn_list a _, ⟨_, Heap.get?_push_size _ rfl, rfl, rfl⟩, fun b hb => ?_, q⟩
    have e : b = s1.heap.objs.size := by simpa using hb
    subst e
    exact I1.fpOk (Nat.le_refl _) (I1.hok.fresh (Nat.le_refl _))
  · subst e
    cases r1
    obtain ⟨its, rv, p, hz⟩ := I1.tuple hq
    refine wpAny_pyIter_tuple (show s1.heap.IsTuple a its.toArray from p) ?_
    refine ⟨s1.heap.objs.size, [s1.heap.objs.size], _, _, H1, rfl, I1.kept (t' := s1.toks) fun b o e => Heap.get?_push_of_some _ e, turn_tuple a _, ⟨_, Heap.get?_push_size _ rfl, rfl, rfl⟩, fun b hb => ?_, q⟩
    have e : b = s1.heap.objs.size := by simpa using hb
    subst e
    exact I1.fpOk (Nat.le_refl _) (I1.hok.fresh (Nat.le_refl _))
  · subst e
    obtain ⟨t, rfl⟩ := r1
    cases ha : y.cps.all (· < 128)
    · exact wpAny_pyIter_wide ha (pi_one (tk := s1.toks) I1 _ (turn_str _ y t "str_iterator" (.inr rfl)) ⟨_, Heap.get?_push_size _ rfl, rfl, rfl⟩ q)
    · exact wpAny_pyIter_ascii ha (pi_one (tk := s1.toks) I1 _ (turn_str _ y t "str_ascii_iterator" (.inl rfl)) ⟨_, Heap.get?_push_size _ rfl, rfl, rfl⟩ q)
theorem i_seq (ha : PE X a (tE X.K M E f)) : PI X tg a (tI X.K M E fun L G => (f L G).bind fun x G => seqK x G) := by
  refine (pi_seq ha).imp fun σ H R ⟨ι, L, G, l, Rp, w⟩ => tE_bind go_i l Rp w fun ι1 H1 v d G1 x1 l1 R1 r1 w1 => ?_
  have key : ∀ {ds : List D}, seqOf G1 d = some ds → Ki X.K M ι1 H1 R ⟨ds, srcOf d ds⟩ G1 → (∃ a xs, v = V.ref a ∧ SqL X.K H1 a xs ∧ R (Itl X.K a) H1) ∨ (∃ a xs, v = V.ref a ∧ SqT X.K H1 a xs ∧ R (Itt X.K a) H1) ∨ ∃ y, v = V.str y ∧ R (Its y) H1 := fun {ds} hd q => by
    obtain ⟨p, e1, h⟩ := Ext.sq R1 r1 hd (.inl rfl)
    rcases h with ⟨_, ⟨vs, hs⟩, h⟩ | ⟨_, h⟩
    · exact .inl ⟨p, vs, e1, hs, q.here R1 (walk_list h)⟩
    · obtain ⟨vs, hs, _⟩ := h ι1 H1 G1 (Ext.refl _ _) R1
      exact .inr (.inl ⟨p, vs, e1, hs, q.here R1 (walk_tup h)⟩)
  cases d with
  | str z => exact .inr (.inr ⟨_, show v = _ from r1, w1.here R1 walk_str⟩)
  | tup ds => exact key rfl w1
  | cl ds => exact key rfl w1
  | ref n =>
    simp only [seqK] at w1
    split at w1
    · rename_i ds hd
      exact key hd w1
    · exact w1.elim
  | _ => exact w1.elim
theorem i_rng1 (c : Cd X M C O sx E k) (hg : glB sx.sc "range" = true) (ha : PE X a (tE X.K M E f)) (hs : notStar a = true) : PI X tg (.Call (.Name "range" p) [a] [] pos) (tI X.K M E fun L G => (f L G).bind fun x G => rng1K x G) := by
  obtain ⟨g1, g2, g3⟩ := c.gl hg
  refine (pi_range1 g1 (c.fx.blt _ (by decide)) (pa_cons ha pa_nil (star_of hs)) (by rw [star_of hs]; rfl)).imp fun σ H R ⟨ι, L, G, l, Rp, w⟩ => tE_bind go_i l Rp w fun ι1 H1 v d G1 x1 l1 R1 r1 w1 => ?_
  cases d with
  | int j =>
    obtain ⟨h, w1⟩ := wp_if w1
    obtain ⟨h1, h2⟩ := and2 h
    have h1 := of_decide_eq_true h1
    have h2 := of_decide_eq_true h2
    have : (small : Int) < 2 ^ 62 := by decide
    exact ⟨j, by rw [show v = .int j from r1], h1, by omega, w1.here R1 walk_rng⟩
  | _ => exact w1.elim
theorem i_rng2 (c : Cd X M C O sx E k) (hg : glB sx.sc "range" = true) (ha : PE X a (tE X.K M E f)) (hb : PE X b (tE X.K M E g)) (hs : notStar a = true) (hs2 : notStar b = true) :
    PI X tg (.Call (.Name "range" p) [a, b] [] pos) (tI X.K M E fun L G => (f L G).bind fun x G => (g L G).bind fun y G => rng2K x y G) := by
  obtain ⟨g1, g2, g3⟩ := c.gl hg
  refine (pi_range2 g1 (c.fx.blt _ (by decide)) (pa_cons ha (pa_cons hb pa_nil (star_of hs2)) (star_of hs)) (by rw [star_of hs, star_of hs2]; rfl) (by rw [star_of hs2]; rfl)).imp fun σ H R ⟨ι, L, G, l, Rp, w⟩ =>
    tE_bind go_i l Rp w fun ι1 H1 v d G1 x1 l1 R1 r1 w1 => tE_bind go_i l1 R1 w1 fun ι2 H2 v2 d2 G2 x2 l2 R2 r2 w2 => ?_
  cases d with
  | int i => cases d2 with
    | int j =>
      obtain ⟨h, w2⟩ := wp_if w2
      simp only [Bool.and_eq_true, decide_eq_true_eq] at h
      obtain ⟨⟨⟨⟨h1, h2⟩, h3⟩, h4⟩, h5⟩ := h
      exact ⟨i, j, by rw [show v = .int i from r1, show v2 = .int j from r2], ⟨h1, h2, h3, h4⟩, w2.here R2 walk_rng⟩
    | _ => exact w2.elim
  | _ => cases d2 <;> exact w2.elim
theorem tup2 {K : PySem.W.Frag} {ι : List Addr} {G : GG} {H : Hp} {T : Addr} {x y : V} {d e : D} (R : Rep K M ι G H) (hT : H T = none) (rd : DR K H ι d x) (re : DR K H ι e y) :
    Ext ι ι H (upd H T (.tup [x, y])) ∧ Rep K M ι G (upd H T (.tup [x, y])) ∧ DR K (upd H T (.tup [x, y])) ι (.tup [d, e]) (.ref T) :=
  ⟨Ext.new ι hT, R.new hT, T, [x, y], rfl, .of upd_same, rd.ext R (Ext.new ι hT), re.ext R (Ext.new ι hT), trivial⟩
theorem zip2_get : ∀ {ds es : List D} {i : Nat} {d : D}, (zip2 ds es)[i]? = some d → ∃ a b, ds[i]? = some a ∧ es[i]? = some b ∧ d = .tup [a, b]
  | [], _, _, _, h => by simp [zip2] at h
  | _ :: _, [], _, _, h => by simp [zip2] at h
  | a :: r, b :: s, 0, d, h => by simp [zip2] at h; exact ⟨a, b, rfl, rfl, h.symm⟩
  | a :: r, b :: s, i + 1, d, h => by
    simp only [zip2, List.getElem?_cons_succ] at h
    simpa using zip2_get h
theorem zip2_len : ∀ {ds es : List D}, (zip2 ds es).length = min ds.length es.length
  | [], _ => by simp [zip2]
  | _ :: _, [] => by simp [zip2]
  | a :: r, b :: s => by simp [zip2, zip2_len (ds := r) (es := s)]
theorem walk_zip {K : PySem.W.Frag} {ι : List Addr} {H : Hp} {p q : Addr} {ds es : List D} {src : List (Nat × List D)} (h : ∀ ι' H' G', Ext ι ι' H H' → Rep K M ι' G' H' → srcOk src G' = true → ∃ vs us, SqL K H' p vs ∧ DRs K H' ι' ds vs ∧ SqL K H' q us ∧ DRs K H' ι' es us) :
    Walk K M (Itz K p q) ⟨zip2 ds es, src⟩ ι H := by
  intro ι' H' G' x R hs i
  obtain ⟨vs, us, h1, h2, h3, h4⟩ := h ι' H' G' x R hs
  have hl := h2.length
  have hl2 := h4.length
  refine ⟨fun hi => ?_, fun hi => ⟨vs, us, h1, h3, ?_⟩, fun v H2 y d hd => ?_⟩
  · rw [zip2_len] at hi
    have i1 : i < vs.length := by omega
    have i2 : i < us.length := by omega
    exact ⟨vs, us, vs[i], us[i], h1, h3, by simp [i1], by simp [i2]⟩
  · rw [zip2_len] at hi
    omega
  · obtain ⟨T, a, b, e, hT, eH, q1, q2⟩ := y
    obtain ⟨d1, d2, g1, g2, rfl⟩ := zip2_get hd
    obtain ⟨w1, e1, r1⟩ := h2.get g1
    obtain ⟨w2, e2, r2⟩ := h4.get g2
    have z1 := q1 vs h1
    have z2 := q2 us h3
    rw [e1] at z1
    rw [e2] at z2
    cases z1; cases z2
    subst e eH
    exact tup2 R hT r1 r2
theorem walk_zipT {K : PySem.W.Frag} {ι : List Addr} {H : Hp} {p q : Addr} {ds es : List D} {src : List (Nat × List D)} (h : ∀ ι' H' G', Ext ι ι' H H' → Rep K M ι' G' H' → ∃ vs us, SqT K H' p vs ∧ DRs K H' ι' ds vs ∧ SqT K H' q us ∧ DRs K H' ι' es us) :
    Walk K M (RZ.ItzT K p q) ⟨zip2 ds es, src⟩ ι H := by
  intro ι' H' G' x R hs i
  obtain ⟨vs, us, h1, h2, h3, h4⟩ := h ι' H' G' x R
  have hl := h2.length
  have hl2 := h4.length
  refine ⟨fun hi => ?_, fun hi => ⟨vs, us, h1, h3, ?_⟩, fun v H2 y d hd => ?_⟩
  · rw [zip2_len] at hi
    have i1 : i < vs.length := by omega
    have i2 : i < us.length := by omega
    exact ⟨vs, us, vs[i], us[i], h1, h3, by simp [i1], by simp [i2]⟩
  · rw [zip2_len] at hi
    omega
  · obtain ⟨T, a, b, e, hT, eH, q1, q2⟩ := y
    obtain ⟨d1, d2, g1, g2, rfl⟩ := zip2_get hd
    obtain ⟨w1, e1, r1⟩ := h2.get g1
    obtain ⟨w2, e2, r2⟩ := h4.get g2
    have z1 := q1 vs h1
    have z2 := q2 us h3
    rw [e1] at z1
    rw [e2] at z2
    cases z1; cases z2
    subst e eH
    exact tup2 R hT r1 r2
end
end Rf


set_option Elab.async false
set_option linter.all false
set_option maxRecDepth 100000
set_option maxHeartbeats 2000000
/-! S8: enumerate over a list or a tuple; zip. -/
namespace Rf
open PySem PySem.Spec PyProof.Rows L2
open Sem (wp)
theorem meets_enum1 {v : Value} {o : Obj} {H : Heap → Prop} (B : Begins v o H) :
    Meets (Builtin.«enumerate.__new__» ⟨[.type "enumerate", v], []⟩) (fun _ R s => H s.heap ∧
      R (.ok (.ret (.ref (s.heap.push o).objs.size))) { s with heap := (s.heap.push o).push { cls := .type "enumerate", data := .fields #[.none, .bool false, .ref s.heap.objs.size, rawInt 0, .none, .none] } }) :=
  .of_wp fun prog w A R s h => by
    obtain ⟨hp, g, d, tk, os⟩ := s; obtain ⟨h1, h⟩ := h
    have hsub := sub_enumerate
    have q1 : ∀ {A' : Around} {E : Value → Shared → Prop} {Q : Value → Shared → Prop}, Q (.ref hp.objs.size) ⟨hp.push o, g, d, tk, os⟩ → wpAny (model prog w) A' (pyIter v) Q E ⟨hp, g, d, tk, os⟩ :=
      fun q => B.iter prog w _ _ ⟨hp, g, d, tk, os⟩ _ h1 q
    wp_walk using q1
    refine wpAny_stack_any fun st => wpAny_pure ?_
    split
    · rename_i c _ _ _ _ _
      cases (c == Value.type "enumerate")
      · wp_walk using q1
        exact ⟨_, rfl, h⟩
      · wp_walk using q1
        exact ⟨_, rfl, h⟩
    · wp_walk using q1
      exact ⟨_, rfl, h⟩
theorem enum_begins1 {prog : Program} {w : World} {A : Around} {E : Value → Shared → Prop} {s : Shared} {v : Value} {o : Obj} {H : Heap → Prop} {Q : Value → Shared → Prop} (B : Begins v o H) (h1 : H s.heap)
    (h : ∀ h', IsEnum h' (s.heap.objs.size + 1) s.heap.objs.size 0 .none → h'.get? s.heap.objs.size = some o → h'.objs.size = s.heap.objs.size + 2 →
      (∀ b o, s.heap.get? b = some o → h'.get? b = some o) → Q (.ref (s.heap.objs.size + 1)) { s with heap := h' }) :
    wpAny (model prog w) A (call (.type "enumerate") [v]) Q E s := by
  refine callType_new F.called_enumerate (by decide) (F.typeCall_enumerate_1 _) (F.newCall_enumerate_1 _) (fun obj => F.args_object_init_2 obj _) F.entry_enumerate_new
    (meets_enum1 B) ⟨h1, ?_⟩
  have hz : (s.heap.push o).objs.size = s.heap.objs.size + 1 := Heap.size_push ..
  show _ ∧ _
  rw [hz]
  have he : IsEnum ((s.heap.push o).push { cls := .type "enumerate", data := .fields #[.none, .bool false, .ref s.heap.objs.size, rawInt 0, .none, .none] }) (s.heap.objs.size + 1) s.heap.objs.size 0 .none := by
    have := Heap.get?_push_size (s.heap.push o) (o := { cls := .type "enumerate", data := .fields #[.none, .bool false, .ref s.heap.objs.size, rawInt 0, .none, .none] }) rfl
    rw [hz] at this; exact this
  refine ⟨⟨_, he, rfl⟩, h _ he (Heap.get?_push_of_some _ (Heap.get?_push_size _ B.free)) (by rw [Heap.size_push, hz]) fun b o x => Heap.get?_push_of_some _ (Heap.get?_push_of_some _ x)⟩
/-- the tuple at a, each item in a new pair -/
def IteT (K : PySem.W.Frag) (a : Addr) : It :=
  ⟨fun i H => ∃ (xs : List V) (x : V), SqT K H a xs ∧ xs[i]? = some x, fun i H v H' => ∃ T x, v = .ref T ∧ H T = none ∧ H' = upd H T (.tup [.int (i : Nat), x]) ∧ ∀ xs, SqT K H a xs → xs[i]? = some x, fun i H => ∃ xs : List V, SqT K H a xs ∧ xs.length ≤ i⟩
theorem turn_enumT {P : Program} {w : World} {K : PySem.W.Frag} {elts : List Expr} {kk : Nat} {tpos : Pos} (a e it : Addr) :
    Turn P w K (.Tuple elts kk tpos) (IteT K a) [e, it] e (fun i h => (∃ old, IsEnum h e it ((i : Nat) : Int) old) ∧ h.IsTupleIter it a i ∧ e ≠ it) where
  mem := by simp
  obj := fun i h st b hb => by
    obtain ⟨⟨old, he⟩, ⟨o, ho, hc, hd⟩, _⟩ := st
    have e' : b = e ∨ b = it := by simpa using hb
    rcases e' with z | z
    · rw [z]; exact ⟨_, he, fun v q => nomatch q⟩
    · rw [z]; exact ⟨o, ho, fun v q => by rw [hd] at q; cases q⟩
  keep := fun i h h' st k => let ⟨⟨old, he⟩, hi, hne⟩ := st; ⟨⟨old, k e (by simp) _ he⟩, hi.at fun o q => k it (by simp) o q, hne⟩
  item := by
    intro X hP hw hK hc i pins s σ H E I hf st hg
    subst hP hw hK
    obtain ⟨⟨old, he⟩, hit, hne⟩ := st
    obtain ⟨xs, x, hq, hx⟩ := hg
    obtain ⟨its, rv, p, hz⟩ := I.tuple hq
    obtain ⟨u, hu, ru⟩ := rv.get hx
    have hel : e < s.heap.objs.size := Heap.lt_size he
    have hil : it < s.heap.objs.size := by obtain ⟨_, q, _⟩ := hit; exact Heap.lt_size q
    have pt : s.heap.IsTuple a its.toArray := p
    have hai : a ≠ it := fun z => by
      obtain ⟨o1, e1, c1, _⟩ := hit
      obtain ⟨o2, e2, c2, _⟩ := p
      rw [z, e1] at e2; cases e2
      rw [c1] at c2
      injection c2 with z
      exact absurd z (by decide)
    have hae : e ∉ [it, a] := fun z => by
      have z : e = it ∨ e = a := by simpa using z
      rcases z with z | z
      · exact hne z
      · obtain ⟨o2, e2, c2, _⟩ := p
        have he' : s.heap.get? e = _ := he
        rw [z, e2] at he'; cases he'
        injection c2 with z
        exact absurd z (by decide)
    have hlt : i < its.toArray.size := by
      have := (List.getElem?_eq_some_iff.mp (show its[i]? = some u from by simpa using hu)).1
      simpa using this
    refine wpAny_pyNext_enum_itemD (Draws.tuple (A := X.A.in1) (prog := X.prog) (w := X.w) (I.ok.hd hc) it a hai its.toArray) he ⟨hit, pt⟩ hlt hne hae fun u' h' tk hu' ho hst' hT hsz hk => ?_
    have eu : u' = u := by
      have z : its[i]? = some u := by simpa using hu
      rw [List.getElem?_toArray, z] at hu'
      exact (Option.some.inj hu').symm
    subst eu
    refine ⟨_, rfl, wpAny_letOwnedTupleGo_enum (s := { s with heap := h', toks := tk + 1 }) ho fun h'' he' sb => ?_⟩
    have hT2 : h''.get? s.heap.objs.size = some { cls := .type "tuple", data := .seq #[.int i tk, u'] } := (sb.2 _ (Nat.ne_of_gt hel)).trans hT
    have new : ObjOk X.prog X.w (upd H s.heap.objs.size (.tup [.int (i : Nat), x])) h'' s.heap.objs.size (.tup [.int (i : Nat), x]) :=
      ⟨by show 2 ≤ sizeLine; decide, [.int i tk, u'], .cons ⟨_, rfl⟩ (.cons ru .nil), ⟨_, hT2, rfl, _, rfl⟩⟩
    have I1 : Inv X pins σ (upd H s.heap.objs.size (.tup [.int (i : Nat), x])) { s with heap := h'', toks := tk + 1 } :=
      I.turnedNew (ch := [e, it]) (fun b ob hb q => (sb.2 b (fun z => hb (by simp [z]))).trans (hk b ob (fun z => hb (by simp [z])) (fun z => hb (by simp [z])) q)) hf (Nat.le_refl _) new
    refine ⟨.ref s.heap.objs.size, _, I1, rfl, ⟨_, x, rfl, I.hok.fresh (Nat.le_refl _), rfl, fun ys hy => by rw [I.tuple_inj hy hq]; exact hx⟩, ⟨⟨u', ?_⟩, hst'.1.at fun o q => (sb.2 it (Ne.symm hne)).trans q, hne⟩, fun b hb => ?_⟩
    · have e1 : ((i + 1 : Nat) : Int) = (i : Int) + 1 := by omega
      rw [e1]; exact he'
    · have hb' : b < s.heap.objs.size := by
        have e' : b = e ∨ b = it := by simpa using hb
        rcases e' with z | z
        · rw [z]; exact hel
        · rw [z]; exact hil
      rw [upd_ne (Nat.ne_of_lt hb')]
      exact (hf b hb).1
  done := by
    intro X hP hw hK hc i pins s σ H E I hf st hg
    subst hP hw hK
    obtain ⟨⟨old, he⟩, hit, hne⟩ := st
    obtain ⟨xs, hq, hx⟩ := hg
    obtain ⟨its, rv, p, hz⟩ := I.tuple hq
    have hl := rv.length
    have pt : s.heap.IsTuple a its.toArray := p
    have hT : s.TypeIs (.ref e) "enumerate" := ⟨_, he, rfl⟩
    unfold pyNext
    refine wpAny_bind (wpAny_attempt (wpAny_callSpecial?_slot (name := Str.ofString "__next__") hT F.slot_enumerate_next
      (wpAny_call_entry F.slot_enumerate_next hT F.entry_enumerate_next ?_ (F.args_enumerate_next_1 _))))
    show wpAny _ _ (field (.ref e) 2 >>= _) _ _ _
    refine wpAny_bind (wpAny_field he rfl (x := .ref it) rfl ?_)
    refine wpAny_bind (wpAny_nextOf_tuple_end (I.ok.hd hc) hit pt (by simp; omega) fun h' x he' hx' => ?_)
    obtain ⟨o, ho, hcc⟩ := hx'
    refine wpAny_bind (wpAny_isInstance (T := "StopIteration") (b := true) ⟨o, ho, hcc⟩ isSubtype_stop ?_)
    exact wpAny_pure ⟨rfl, I.turnedL (t' := s.toks) (ch := [e, it]) (fun b o hb q => he' b o (fun z => hb (by simp [z])) q) hf⟩
  self := fun A i s Q E st h => let ⟨⟨_, he⟩, _⟩ := st; wpAny_pyIter_enum he h
section
variable {X : Cx} {M : Nm} {C : EC} {O : Ob} {sx : Sx} {E : XK} {k : Nat} {a b c tg : Expr} {f g h' : LL → GG → Res D} {pos p : Pos} {elts : List Expr} {kk : Nat} {tpos : Pos}
theorem pi_enumA {e : Expr} {te : TE} (hg : Gl X "enumerate") (hm : X.mg "enumerate" = none) (ha : PE X e te) (hs : notStar e = true) :
    PI X (.Tuple elts kk tpos) (.Call (.Name "enumerate" p) [e] [] pos) (fun σ H R => te σ H fun x H1 => (∃ a xs, x = .ref a ∧ SqL X.K H1 a xs ∧ R (Ite X.K a) H1) ∨ (∃ a xs, x = .ref a ∧ SqT X.K H1 a xs ∧ R (IteT X.K a) H1)) := by
  refine ⟨fun pins s σ H R I h => ?_⟩
  refine Call_ (ld_blt I hg hm boot_enumerate (PyProof.Rows.callWith_type1 (thn ((pa_cons ha pa_nil (star_of hs)).run pos pins s σ H (fun vs H1 => ∃ x, vs = [x] ∧ ((∃ a xs, x = .ref a ∧ SqL X.K H1 a xs ∧ R (Ite X.K a) H1) ∨ (∃ a xs, x = .ref a ∧ SqT X.K H1 a xs ∧ R (IteT X.K a) H1))) I ?_) fun us s1 ⟨vs, H1, I1, r1, q1⟩ => ?_) (star_of hs) rfl))
  · have : tCons te tNil = fun σ H Q => te σ H fun x H1 => Q [x] H1 := rfl
    rw [this]
    have mono : ∀ {Q Q' : VK}, (∀ x H, Q x H → Q' x H) → te σ H Q → te σ H Q' → True := fun _ _ _ => trivial
    have e : (fun x H1 => ∃ x_1, [x] = [x_1] ∧ ((∃ a xs, x_1 = V.ref a ∧ SqL X.K H1 a xs ∧ R (Ite X.K a) H1) ∨ ∃ a xs, x_1 = V.ref a ∧ SqT X.K H1 a xs ∧ R (IteT X.K a) H1)) = (fun x H1 => (∃ a xs, x = V.ref a ∧ SqL X.K H1 a xs ∧ R (Ite X.K a) H1) ∨ ∃ a xs, x = V.ref a ∧ SqT X.K H1 a xs ∧ R (IteT X.K a) H1) := by
      funext x H1
      refine propext ⟨fun ⟨y, e, h⟩ => ?_, fun h => ⟨x, rfl, h⟩⟩
      cases e
      exact h
    show te σ H _
    rw [e]
    exact h
  · obtain ⟨x, ex, q⟩ := q1
    subst ex
    cases r1 with
    | cons r rr =>
      cases rr
      have fp : ∀ b, b ∈ [s1.heap.objs.size + 1, s1.heap.objs.size] → FpOk X pins H1 b := fun b hb => by
        have e' : b = s1.heap.objs.size + 1 ∨ b = s1.heap.objs.size := by simpa using hb
        have hle : s1.heap.objs.size ≤ b := by
          rcases e' with z | z
          · rw [z]; exact Nat.le_add_right _ _
          · rw [z]; exact Nat.le_refl _
        exact I1.fpOk hle (I1.hok.fresh hle)
      rcases q with ⟨a, xs, ex, hq, q⟩ | ⟨a, xs, ex, hq, q⟩
      · subst ex
        cases r
        obtain ⟨its, rv, p', hz⟩ := I1.list hq
        refine call_enumerate_list p'.isList fun h' he hit hsz hk => wpAny_pyIter_enum he ?_
        have I2 : Inv X pins σ H1 { s1 with heap := h' } := I1.kept (t' := s1.toks) hk
        exact ⟨s1.heap.objs.size + 1, [s1.heap.objs.size + 1, s1.heap.objs.size], _, _, H1, rfl, I2, turn_enum a (s1.heap.objs.size + 1) s1.heap.objs.size, ⟨⟨.none, he⟩, hit, Nat.succ_ne_self _⟩, fp, q⟩
      · subst ex
        cases r
        obtain ⟨its, rv, p', hz⟩ := I1.tuple hq
        refine enum_begins1 (begins_tuple a its.toArray) (show s1.heap.IsTuple a its.toArray from p') fun h' he hit hsz hk => wpAny_pyIter_enum he ?_
        have I2 : Inv X pins σ H1 { s1 with heap := h' } := I1.kept (t' := s1.toks) hk
        exact ⟨s1.heap.objs.size + 1, [s1.heap.objs.size + 1, s1.heap.objs.size], _, _, H1, rfl, I2, turn_enumT a (s1.heap.objs.size + 1) s1.heap.objs.size, ⟨⟨.none, he⟩, ⟨_, hit, rfl, rfl⟩, Nat.succ_ne_self _⟩, fp, q⟩
theorem enumD_get : ∀ {ds : List D} {n i : Nat} {d : D}, (enumD n ds)[i]? = some d → ∃ a, ds[i]? = some a ∧ d = .tup [.int ((n + i : Nat) : Int), a]
  | [], _, _, _, h => by simp [enumD] at h
  | a :: r, n, 0, d, h => by simp [enumD] at h; exact ⟨a, rfl, by rw [← h]; rfl⟩
  | a :: r, n, i + 1, d, h => by
    simp only [enumD, List.getElem?_cons_succ] at h
    obtain ⟨x, h1, h2⟩ := enumD_get h
    exact ⟨x, by simpa using h1, by rw [h2]; congr 4; omega⟩
theorem enumD_len : ∀ {ds : List D} {n : Nat}, (enumD n ds).length = ds.length
  | [], _ => rfl
  | a :: r, n => congrArg Nat.succ enumD_len
theorem walk_enum {K : PySem.W.Frag} {ι : List Addr} {H : Hp} {p : Addr} {ds : List D} {src : List (Nat × List D)} (h : ∀ ι' H' G', Ext ι ι' H H' → Rep K M ι' G' H' → srcOk src G' = true → ∃ vs, SqL K H' p vs ∧ DRs K H' ι' ds vs) : Walk K M (Ite K p) ⟨enumD 0 ds, src⟩ ι H := by
  intro ι' H' G' x R hs i
  obtain ⟨vs, h1, h2⟩ := h ι' H' G' x R hs
  have hl := h2.length
  refine ⟨fun hi => ?_, fun hi => ⟨vs, h1, by rw [enumD_len] at hi; rw [← hl]; exact hi⟩, fun v H2 y d hd => ?_⟩
  · have hi' : i < vs.length := by rw [enumD_len] at hi; rw [← hl]; exact hi
    exact ⟨vs, vs[i], h1, by simp [hi']⟩
  · obtain ⟨T, a, e, hT, eH, q1⟩ := y
    obtain ⟨d1, g1, rfl⟩ := enumD_get hd
    obtain ⟨w1, e1, r1⟩ := h2.get g1
    have z1 := q1 vs h1
    rw [e1] at z1
    cases z1
    subst e eH
    rw [Nat.zero_add]
    exact tup2 R hT rfl r1
theorem walk_enumT {K : PySem.W.Frag} {ι : List Addr} {H : Hp} {p : Addr} {ds : List D} {src : List (Nat × List D)} (h : ∀ ι' H' G', Ext ι ι' H H' → Rep K M ι' G' H' → ∃ vs, SqT K H' p vs ∧ DRs K H' ι' ds vs) : Walk K M (IteT K p) ⟨enumD 0 ds, src⟩ ι H := by
  intro ι' H' G' x R hs i
  obtain ⟨vs, h1, h2⟩ := h ι' H' G' x R
  have hl := h2.length
  refine ⟨fun hi => ?_, fun hi => ⟨vs, h1, by rw [enumD_len] at hi; rw [← hl]; exact hi⟩, fun v H2 y d hd => ?_⟩
  · have hi' : i < vs.length := by rw [enumD_len] at hi; rw [← hl]; exact hi
    exact ⟨vs, vs[i], h1, by simp [hi']⟩
  · obtain ⟨T, a, e, hT, eH, q1⟩ := y
    obtain ⟨d1, g1, rfl⟩ := enumD_get hd
    obtain ⟨w1, e1, r1⟩ := h2.get g1
    have z1 := q1 vs h1
    rw [e1] at z1
    cases z1
    subst e eH
    rw [Nat.zero_add]
    exact tup2 R hT rfl r1
theorem i_enum (c : Cd X M C O sx E k) (hg : glB sx.sc "enumerate" = true) (ha : PE X a (tE X.K M E f)) (hs : notStar a = true) : PI X (.Tuple elts kk tpos) (.Call (.Name "enumerate" p) [a] [] pos) (tI X.K M E fun L G => (f L G).bind fun x G => enumK x G) := by
  obtain ⟨g1, g2, g3⟩ := c.gl hg
  refine (pi_enumA g1 (c.fx.blt _ (by decide)) ha hs).imp fun σ H R ⟨ι, L, G, l, Rp, w⟩ => tE_bind go_i l Rp w fun ι1 H1 v d G1 x1 l1 R1 r1 w1 => ?_
  unfold enumK at w1
  split at w1
  · rename_i ds hd
    obtain ⟨p, e1, h⟩ := Ext.sq R1 r1 hd (.inl rfl)
    rcases h with ⟨_, ⟨vs, hs⟩, h⟩ | ⟨_, h⟩
    · exact .inl ⟨p, vs, e1, hs, w1.here R1 (walk_enum h)⟩
    · obtain ⟨vs, hs, _⟩ := h ι1 H1 G1 (Ext.refl _ _) R1
      exact .inr ⟨p, vs, e1, hs, w1.here R1 (walk_enumT h)⟩
  · exact w1.elim
theorem i_zip (c : Cd X M C O sx E k) (hg : glB sx.sc "zip" = true) (ha : PE X a (tE X.K M E f)) (hb : PE X b (tE X.K M E g)) (hs : notStar a = true) (hs2 : notStar b = true) :
    PI X (.Tuple elts kk tpos) (.Call (.Name "zip" p) [a, b] [] pos) (tI X.K M E fun L G => (f L G).bind fun x G => (g L G).bind fun y G => zipK x y G) := by
  obtain ⟨g1, g2, g3⟩ := c.gl hg
  refine (RZ.pi_zipA g1 (c.fx.blt _ (by decide)) (pa_cons ha (pa_cons hb pa_nil (star_of hs2)) (star_of hs)) (star_of hs) (by rw [star_of hs2]; rfl)).imp fun σ H R ⟨ι, L, G, l, Rp, w⟩ =>
    tE_bind go_i l Rp w fun ι1 H1 v d G1 x1 l1 R1 r1 w1 => tE_bind go_i l1 R1 w1 fun ι2 H2 v2 d2 G2 x2 l2 R2 r2 w2 => ?_
  have r1 := r1.ext R1 x2
  unfold zipK at w2
  split at w2
  · rename_i ds es h1 h2
    obtain ⟨hk, w2⟩ := wp_if w2
    obtain ⟨p, e1, q1⟩ := Ext.sq (src := srcOf d ds ++ srcOf d2 es) R2 r1 h1 (.inr ⟨_, .inl rfl⟩)
    obtain ⟨q, e2, q2⟩ := Ext.sq (src := srcOf d ds ++ srcOf d2 es) R2 r2 h2 (.inr ⟨_, .inr rfl⟩)
    have both : (∃ vs us, SqL X.K H2 p vs ∧ SqL X.K H2 q us) ∧ (∀ ι' H' G', Ext ι2 ι' H2 H' → Rep X.K M ι' G' H' → srcOk (srcOf d ds ++ srcOf d2 es) G' = true → ∃ vs us, SqL X.K H' p vs ∧ DRs X.K H' ι' ds vs ∧ SqL X.K H' q us ∧ DRs X.K H' ι' es us) ∨
        (∀ ι' H' G', Ext ι2 ι' H2 H' → Rep X.K M ι' G' H' → ∃ vs us, SqT X.K H' p vs ∧ DRs X.K H' ι' ds vs ∧ SqT X.K H' q us ∧ DRs X.K H' ι' es us) := by
      rcases q1 with ⟨k1, ⟨vs, s1⟩, q1⟩ | ⟨k1, q1⟩
      · rcases q2 with ⟨k2, ⟨us, s2⟩, q2⟩ | ⟨k2, q2⟩
        · refine .inl ⟨⟨vs, us, s1, s2⟩, fun ι' H' G' x R hk => ?_⟩
          obtain ⟨vs, a1, a2⟩ := q1 ι' H' G' x R hk
          obtain ⟨us, a3, a4⟩ := q2 ι' H' G' x R hk
          exact ⟨vs, us, a1, a2, a3, a4⟩
        · rw [k1, k2] at hk; cases hk
      · rcases q2 with ⟨k2, ⟨us, s2⟩, q2⟩ | ⟨k2, q2⟩
        · rw [k1, k2] at hk; cases hk
        · refine .inr fun ι' H' G' x R => ?_
          obtain ⟨vs, a1, a2⟩ := q1 ι' H' G' x R
          obtain ⟨us, a3, a4⟩ := q2 ι' H' G' x R
          exact ⟨vs, us, a1, a2, a3, a4⟩
    rcases both with ⟨⟨vs, us, hs1, hs2⟩, h⟩ | h
    · exact ⟨p, q, vs, us, by rw [e1, e2], .inl ⟨hs1, hs2, w2.here R2 (walk_zip h)⟩⟩
    · obtain ⟨vs, us, hs1, _, hs2, _⟩ := h ι2 H2 G2 (Ext.refl _ _) R2
      exact ⟨p, q, vs, us, by rw [e1, e2], .inr ⟨hs1, hs2, w2.here R2 (walk_zipT h)⟩⟩
  · exact w2.elim
end
end Rf


set_option Elab.async false
set_option linter.all false
set_option maxRecDepth 100000
set_option maxHeartbeats 2000000
/-! S9: targets of names; list comprehensions. -/
namespace Rf
open PySem PySem.Spec PyProof.Rows L2
/-! ### heaps in which the numbered objects and the tuples stand -/
def isTF : HO → Prop
  | .tup _ => True
  | .frz _ _ => True
  | _ => False
section
variable {K : PySem.W.Frag} {M : Nm} {ι ι' : List Addr} {G : GG} {H H' : Hp} {a p : Addr} {o : O}
theorem sqT_keep (k : ∀ a o, H a = some o → isTF o → H' a = some o) {vs : List V} (h : SqT K H a vs) : SqT K H' a vs := by
  rcases h with h | h
  · rcases h with h | ⟨o, h⟩
    · exact .inl (.inl (k a _ h trivial))
    · exact .inl (.inr ⟨o, k a _ h trivial⟩)
  · exact .inr h
theorem sqC_keep (k : ∀ a o, H a = some o → isTF o → H' a = some o) {vs : List V} (h : SqC K H a vs) : SqC K H' a vs := by
  rcases h with ⟨o, h⟩ | h
  · exact .inl ⟨o, k a _ h trivial⟩
  · exact .inr h
mutual
theorem DR.keep (k : ∀ a o, H a = some o → isTF o → H' a = some o) : ∀ {d : D} {v : V}, DR K H ι d v → DR K H' ι d v
  | .non, _, h => h
  | .bl _, _, h => h
  | .int _, _, h => h
  | .str _, _, h => h
  | .tup _, _, h => by
    obtain ⟨a, vs, e, s, r⟩ := h
    exact ⟨a, vs, e, sqT_keep k s, DRs.keep k r⟩
  | .cl _, _, h => by
    obtain ⟨a, vs, e, s, r⟩ := h
    exact ⟨a, vs, e, sqC_keep k s, DRs.keep k r⟩
  | .ref _, _, h => h
theorem DRs.keep (k : ∀ a o, H a = some o → isTF o → H' a = some o) : ∀ {ds : List D} {vs : List V}, DRs K H ι ds vs → DRs K H' ι ds vs
  | [], [], _ => trivial
  | _ :: _, _ :: _, h => ⟨DR.keep k h.1, DRs.keep k h.2⟩
  | [], _ :: _, h => h.elim
  | _ :: _, [], h => h.elim
end
theorem FR.keep (k : ∀ a o, H a = some o → isTF o → H' a = some o) : ∀ {ds : List (Nat × D)} {vs : List (Str × V)}, FR K M H ι ds vs → FR K M H' ι ds vs
  | [], [], _ => trivial
  | (_, _) :: _, (_, _) :: _, h => ⟨h.1, h.2.1, h.2.2.1.keep k, FR.keep k h.2.2.2⟩
  | [], _ :: _, h => h.elim
  | (_, _) :: _, [], h => h.elim
theorem KR.keep (k : ∀ a o, H a = some o → isTF o → H' a = some o) : ∀ {ds : List (D × D)} {vs : List (Key × V)}, KR K H ι ds vs → KR K H' ι ds vs
  | [], [], _ => trivial
  | (_, _) :: _, (_, _) :: _, h => ⟨h.1.keep k, h.2.1.keep k, KR.keep k h.2.2⟩
  | [], _ :: _, h => h.elim
  | (_, _) :: _, [], h => h.elim
theorem OR.keep (k : ∀ a o, H a = some o → isTF o → H' a = some o) (e : H' a = H a) (h : OR K M H ι a o) : OR K M H' ι a o := by
  cases o with
  | lst ds => obtain ⟨vs, e1, r⟩ := h; exact ⟨vs, e.trans e1, r.keep k⟩
  | dk kvs => obtain ⟨vs, e1, r⟩ := h; exact ⟨vs, e.trans e1, r.keep k⟩
  | ins c fs => obtain ⟨dx, vs, e1, r⟩ := h; exact ⟨dx, vs, e.trans e1, r.keep k⟩
  | pool => obtain ⟨p, q, r, e1⟩ := h; exact ⟨p, q, r, e.trans e1⟩
/-- an object without a number is written (a list under way, a dict under way) -/
theorem keep_upd {ho : HO} (hp : ∀ o, H p = some o → ¬ isTF o) : ∀ a o, H a = some o → isTF o → upd H p ho a = some o := fun a o h t => by
  by_cases e : a = p
  · subst e; exact absurd t (hp o h)
  · rw [upd_ne e]; exact h
theorem notTF {o : HO} (h : Rf.mob o) : ¬ isTF o := fun z => by cases o <;> first | exact z | exact h
theorem Rep.keep (R : Rep K M ι G H) {ho : HO} (np : p ∉ ι) (hp : ∀ o, H p = some o → Rf.mob o) : Rep K M ι G (upd H p ho) :=
  ⟨R.len, R.nd, fun i b o h1 h2 => (R.obj i b o h1 h2).keep (keep_upd fun o h => notTF (hp o h)) (upd_ne fun z => np (by rw [← z]; exact List.mem_of_getElem? h1)), tabs_upd R.tab hp⟩
/-- it gets a number -/
theorem Rep.adopt (R : Rep K M ι G H) (np : p ∉ ι) (h : OR K M H (ι ++ [p]) p o) (up : ∀ {d : D} {v : V}, DR K H ι d v → DR K H (ι ++ [p]) d v) : Rep K M (ι ++ [p]) (G ++ [o]) H := by
  have x : Ext ι (ι ++ [p]) (fun b => if b = p then none else H b) H := ⟨⟨[p], rfl, fun a ha => nt_none (by rw [List.mem_singleton.mp ha]; simp)⟩, fun b o h _ _ => by
    by_cases e : b = p
    · simp [e] at h
    · simpa [e] using h, fun b hb => by
    by_cases e : b = p
    · exact nt_none (by simp [e])
    · intro o ho
      exact hb o (by simpa [e] using ho)⟩
  refine ⟨by simp [R.len], List.nodup_append.mpr ⟨R.nd, by simp, fun x hx y hy => ?_⟩, fun i b o' h1 h2 => ?_, R.tab⟩
  · have e : y = p := by simpa using hy
    subst e
    intro z; subst z; exact np hx
  · by_cases hi : i < ι.length
    · rw [List.getElem?_append_left hi] at h1
      rw [List.getElem?_append_left (by rw [← R.len]; exact hi)] at h2
      have q := R.obj i b o' h1 h2
      have ups : ∀ {ds : List D} {vs : List V}, DRs K H ι ds vs → DRs K H (ι ++ [p]) ds vs := by
        intro ds
        induction ds with
        | nil => intro vs r; cases vs with
          | nil => trivial
          | cons _ _ => exact r.elim
        | cons d ds ih => intro vs r; cases vs with
          | nil => exact r.elim
          | cons v vs => exact ⟨up r.1, ih r.2⟩
      cases o' with
      | lst ds => obtain ⟨vs, e1, r⟩ := q; exact ⟨vs, e1, ups r⟩
      | dk kvs =>
        obtain ⟨vs, e1, r⟩ := q
        refine ⟨vs, e1, ?_⟩
        clear e1 h2
        induction kvs generalizing vs with
        | nil => cases vs with
          | nil => trivial
          | cons _ _ => exact r.elim
        | cons d ds ih => cases vs with
          | nil => exact r.elim
          | cons v vs => exact ⟨up r.1, up r.2.1, ih _ r.2.2⟩
      | ins c fs =>
        obtain ⟨dx, vs, e1, r⟩ := q
        refine ⟨dx, vs, e1, ?_⟩
        clear e1 h2
        induction fs generalizing vs with
        | nil => cases vs with
          | nil => trivial
          | cons _ _ => exact r.elim
        | cons d ds ih => cases vs with
          | nil => exact r.elim
          | cons v vs => exact ⟨r.1, r.2.1, up r.2.2.1, ih _ r.2.2.2⟩
      | pool => exact q
    · have e : i = ι.length := by
        have := (List.getElem?_eq_some_iff.mp h1).1
        simp at this; omega
      subst e
      rw [List.getElem?_append_right (Nat.le_refl _)] at h1
      rw [R.len, List.getElem?_append_right (Nat.le_refl _)] at h2
      simp at h1 h2
      subst h1 h2
      exact h
mutual
theorem DR.more (τ : List Addr) : ∀ {d : D} {v : V}, DR K H ι d v → DR K H (ι ++ τ) d v
  | .non, _, h => h
  | .bl _, _, h => h
  | .int _, _, h => h
  | .str _, _, h => h
  | .tup _, _, h => by
    obtain ⟨a, vs, e, s, r⟩ := h
    exact ⟨a, vs, e, s, DRs.more τ r⟩
  | .cl _, _, h => by
    obtain ⟨a, vs, e, s, r⟩ := h
    exact ⟨a, vs, e, s, DRs.more τ r⟩
  | .ref _, _, h => by
    obtain ⟨a, e, r⟩ := h
    exact ⟨a, by rw [List.getElem?_append_left (List.getElem?_eq_some_iff.mp e).1]; exact e, r⟩
theorem DRs.more (τ : List Addr) : ∀ {ds : List D} {vs : List V}, DRs K H ι ds vs → DRs K H (ι ++ τ) ds vs
  | [], [], _ => trivial
  | _ :: _, _ :: _, h => ⟨DR.more τ h.1, DRs.more τ h.2⟩
  | [], _ :: _, h => h.elim
  | _ :: _, [], h => h.elim
end
theorem KR.more (τ : List Addr) : ∀ {ds : List (D × D)} {vs : List (Key × V)}, KR K H ι ds vs → KR K H (ι ++ τ) ds vs
  | [], [], _ => trivial
  | (_, _) :: _, (_, _) :: _, h => ⟨h.1.more τ, h.2.1.more τ, KR.more τ h.2.2⟩
  | [], _ :: _, h => h.elim
  | (_, _) :: _, [], h => h.elim
/-- .. and the new object counts as grown from the start -/
theorem Ext.adopt {ι1 : List Addr} {H1 : Hp} (x : Ext ι1 ι H1 H) (hp : H1 p = none) : Ext ι1 (ι ++ [p]) H1 H := by
  obtain ⟨τ, e, f⟩ := x.pre
  refine ⟨⟨τ ++ [p], by rw [e, List.append_assoc], fun a ha => ?_⟩, x.frame, x.mono⟩
  rcases List.mem_append.mp ha with ha | ha
  · exact f a ha
  · have : a = p := by simpa using ha
    subst this; exact nt_none hp
theorem Ext.upd {ι1 : List Addr} {H1 : Hp} {ho : HO} (x : Ext ι1 ι H1 H) (hp : H1 p = none) : Ext ι1 ι H1 (upd H p ho) :=
  ⟨x.pre, fun a o h n t => by rw [upd_ne (ne_of_none h hp)]; exact x.frame a o h n t, fun a h => by
    by_cases e : a = p
    · rw [e]; exact nt_none hp
    · unfold NT at h
      rw [upd_ne e] at h; exact x.mono a h⟩
end

/-! ### targets -/
def gNs : List Nat → TGs
  | [] => gNil
  | i :: r => gCons (gName i) (gNs r)
def gN (K : PySem.W.Frag) : TN → L2.TG
  | .nm i => gName i
  | .tup is => gTup K is.length (gNs is)
def TN.slots : TN → List Nat
  | .nm i => [i]
  | .tup is => is
theorem wipe_set {σ : L2.St} {i : Nat} {w : Option V} : ∀ {vs : List Nat}, wipe (σ.set i w) vs = if i ∈ vs then wipe σ vs else (wipe σ vs).set i w
  | [] => rfl
  | v :: vs => by
    show (wipe (σ.set i w) vs).set v none = _
    rw [wipe_set (vs := vs)]
    by_cases h : i ∈ vs
    · rw [if_pos h, if_pos (List.mem_cons_of_mem _ h)]; rfl
    · rw [if_neg h]
      by_cases e : i = v
      · subst e
        rw [if_pos (List.mem_cons_self ..), List.set_set]; rfl
      · rw [if_neg (by simp [e, h]), List.set_comm _ _ e]; rfl
section
variable {K : PySem.W.Frag} {M : Nm} {ι : List Addr} {H : Hp}
theorem gNs_ok : ∀ {is : List Nat} {ds : List D} {vs : List V} {L : LL} {σ : L2.St} {Q : L2.St → Hp → Prop}, (∀ p ∈ M.fix, p.1 ∉ is) → is.length = ds.length → DRs K H ι ds vs → LR K M H ι L σ →
    (∀ σ', LR K M H ι ((is.zip ds).foldl (fun L p => L.set p.1 (some p.2)) L) σ' → (∀ ws, (∀ i ∈ is, i ∈ ws) → wipe σ' ws = wipe σ ws) → Q σ' H) → gNs is vs σ H Q
  | [], [], [], L, σ, Q, _, _, _, l, h => ⟨rfl, h σ l fun _ _ => rfl⟩
  | i :: is, d :: ds, v :: vs, L, σ, Q, nf, hn, r, l, h => by
    refine ⟨v, vs, rfl, ?_⟩
    refine gNs_ok (ds := ds) (L := L.set i (some d)) (fun p hp z => nf p hp (List.mem_cons_of_mem _ z)) (by simpa using hn) r.2 (l.set i r.1 fun p hp z => nf p hp (by rw [z]; exact List.mem_cons_self ..)) fun σ' l' hw => h σ' l' fun ws hs => ?_
    rw [hw ws fun j hj => hs j (List.mem_cons_of_mem _ hj), wipe_set, if_pos (hs i (List.mem_cons_self ..))]
  | [], _ :: _, _, _, _, _, _, hn, _, _, _ => by simp at hn
  | _ :: _, [], _, _, _, _, _, hn, _, _, _ => by simp at hn
  | [], [], _ :: _, _, _, _, _, _, r, _, _ => r.elim
  | _ :: _, _ :: _, [], _, _, _, _, _, r, _, _ => r.elim
theorem gN_ok {t : TN} {d : D} {x : V} {L L' : LL} {σ : L2.St} {Q : L2.St → Hp → Prop} (nf : ∀ p ∈ M.fix, p.1 ∉ t.slots) (l : LR K M H ι L σ) (r : DR K H ι d x) (hb : bindN t d L = some L')
    (h : ∀ σ', LR K M H ι L' σ' → (∀ ws, (∀ i ∈ t.slots, i ∈ ws) → wipe σ' ws = wipe σ ws) → Q σ' H) : gN K t x σ H Q := by
  cases t with
  | nm i =>
    cases hb
    exact h _ (l.set i r fun p hp z => nf p hp (by rw [z]; exact List.mem_singleton.mpr rfl)) fun ws hs => by rw [wipe_set, if_pos (hs i (List.mem_singleton.mpr rfl))]
  | tup is =>
    cases d with
    | tup ds =>
      simp only [bindN] at hb
      split at hb
      · rename_i hn
        cases hb
        have hn : is.length = ds.length := by simpa using hn
        obtain ⟨a, vs, e, s, rv⟩ := r
        exact ⟨a, vs, e, s, by rw [← rv.length, hn], gNs_ok nf hn rv l h⟩
      · cases hb
    | _ => cases hb
end
section
variable {X : Cx} {sx : Sx}
/-- the text of a target -/
def chkNs (sx : Sx) : List Nat → List Expr → Bool
  | [], [] => true
  | i :: r, .Name x _ :: es => stB sx i x && chkNs sx r es
  | _, _ => false
def chkN (sx : Sx) : TN → Expr → Bool
  | .nm i, .Name x _ => stB sx i x
  | .tup is, .Tuple es _ _ => chkNs sx is es
  | _, _ => false
theorem stB_fix {i : Nat} {x : Str} (h : stB sx i x = true) : i ∉ sx.fix := by
  obtain ⟨_, _, h3⟩ := and3 h
  have := (and2 h3).2
  simpa using this
theorem stor_of (hN : X.N = sx.N) (hsc : X.env.scope = sx.sc) (hf : X.fn = sx.fn) {i : Nat} {x : Str} (h : stB sx i x = true) : X.N[i]? = some x ∧ L2.Loc X.env.scope x ∧ (X.fn x = true ∨ X.env.scope.names.lookup x = some .local) := by
  obtain ⟨h1, h2, h3⟩ := and3 h
  refine ⟨by rw [hN]; exact of_decide_eq_true h1, ?_, ?_⟩
  · rw [hsc]
    unfold locB at h2
    unfold L2.Loc
    split at h2
    · exact .inl (by assumption)
    · exact .inr (by assumption)
    · cases h2
  · rw [hf, hsc]
    have h3 := (and2 h3).1
    rcases (Bool.or_eq_true _ _ ▸ h3 : sx.fn x = true ∨ decide (sx.sc.names.lookup x = some .local) = true) with z | z
    · exact .inl z
    · exact .inr (of_decide_eq_true z)
theorem pgs_ns (hN : X.N = sx.N) (hsc : X.env.scope = sx.sc) (hf : X.fn = sx.fn) (nd : X.N.Nodup) : ∀ {is : List Nat} {es : List Expr}, chkNs sx is es = true → PGs X es (gNs is) ∧ (assignEach es X.env).length = is.length ∧ (assignEach es X.env).findIdx? (·.1) = none
  | [], [], _ => ⟨pgs_nil, rfl, rfl⟩
  | i :: is, .Name x pos :: es, h => by
    obtain ⟨h1, h2⟩ := and2 h
    obtain ⟨a1, a2, a3⟩ := stor_of hN hsc hf h1
    obtain ⟨b1, b2, b3⟩ := pgs_ns hN hsc hf nd h2
    refine ⟨pgs_cons (pg_name nd a1 a2 a3) b1 rfl, congrArg Nat.succ b2, ?_⟩
    show ((false, _) :: assignEach es X.env).findIdx? (·.1) = none
    rw [List.findIdx?_cons]
    simp [b3]
  | [], _ :: _, h => by simp [chkNs] at h
  | _ :: _, [], h => by simp [chkNs] at h
  | _ :: _, .BoolOp _ _ _ :: _, h | _ :: _, .NamedExpr _ _ _ :: _, h | _ :: _, .BinOp _ _ _ _ :: _, h | _ :: _, .UnaryOp _ _ _ :: _, h | _ :: _, .Lambda _ _ _ _ :: _, h | _ :: _, .IfExp _ _ _ _ :: _, h | _ :: _, .Dict _ _ _ :: _, h | _ :: _, .Set _ _ _ :: _, h
  | _ :: _, .ListComp _ _ _ _ :: _, h | _ :: _, .SetComp _ _ _ _ :: _, h | _ :: _, .DictComp _ _ _ _ _ :: _, h | _ :: _, .GeneratorExp _ _ _ _ :: _, h | _ :: _, .Await _ _ :: _, h | _ :: _, .Yield _ _ :: _, h | _ :: _, .YieldFrom _ _ :: _, h | _ :: _, .Compare _ _ _ _ :: _, h
  | _ :: _, .Call _ _ _ _ :: _, h | _ :: _, .FormattedValue _ _ _ _ :: _, h | _ :: _, .JoinedStr _ _ :: _, h | _ :: _, .Constant _ _ _ :: _, h | _ :: _, .Attribute _ _ _ :: _, h | _ :: _, .Subscript _ _ _ :: _, h | _ :: _, .Starred _ _ :: _, h | _ :: _, .List _ _ :: _, h | _ :: _, .Tuple _ _ _ :: _, h
  | _ :: _, .Slice _ _ _ _ :: _, h => by simp [chkNs] at h
theorem pg_n (hN : X.N = sx.N) (hsc : X.env.scope = sx.sc) (hf : X.fn = sx.fn) (nd : X.N.Nodup) (hc : X.calm = true) {t : TN} {e : Expr} (h : chkN sx t e = true) : PG X e (gN X.K t) := by
  cases t with
  | nm i => cases e with
    | Name x pos =>
      obtain ⟨a1, a2, a3⟩ := stor_of hN hsc hf (show stB sx i x = true from h)
      exact pg_name nd a1 a2 a3
    | _ => simp [chkN] at h
  | tup is => cases e with
    | Tuple es n pos =>
      obtain ⟨b1, b2, b3⟩ := pgs_ns hN hsc hf nd (show chkNs sx is es = true from h)
      exact pg_tup hc b1 b2 b3
    | _ => simp [chkN] at h
theorem chkNs_fix : ∀ {is : List Nat} {es : List Expr}, chkNs sx is es = true → ∀ i ∈ is, i ∉ sx.fix
  | [], _, _, i, hi => by cases hi
  | j :: is, .Name x pos :: es, h, i, hi => by
    obtain ⟨h1, h2⟩ := and2 h
    rcases List.mem_cons.mp hi with e | hi
    · rw [e]; exact stB_fix h1
    · exact chkNs_fix h2 i hi
  | _ :: _, [], h, _, _ => by simp [chkNs] at h
  | _ :: _, .BoolOp _ _ _ :: _, h, _, _ | _ :: _, .NamedExpr _ _ _ :: _, h, _, _ | _ :: _, .BinOp _ _ _ _ :: _, h, _, _ | _ :: _, .UnaryOp _ _ _ :: _, h, _, _ | _ :: _, .Lambda _ _ _ _ :: _, h, _, _ | _ :: _, .IfExp _ _ _ _ :: _, h, _, _ | _ :: _, .Dict _ _ _ :: _, h, _, _ | _ :: _, .Set _ _ _ :: _, h, _, _
  | _ :: _, .ListComp _ _ _ _ :: _, h, _, _ | _ :: _, .SetComp _ _ _ _ :: _, h, _, _ | _ :: _, .DictComp _ _ _ _ _ :: _, h, _, _ | _ :: _, .GeneratorExp _ _ _ _ :: _, h, _, _ | _ :: _, .Await _ _ :: _, h, _, _ | _ :: _, .Yield _ _ :: _, h, _, _ | _ :: _, .YieldFrom _ _ :: _, h, _, _ | _ :: _, .Compare _ _ _ _ :: _, h, _, _
  | _ :: _, .Call _ _ _ _ :: _, h, _, _ | _ :: _, .FormattedValue _ _ _ _ :: _, h, _, _ | _ :: _, .JoinedStr _ _ :: _, h, _, _ | _ :: _, .Constant _ _ _ :: _, h, _, _ | _ :: _, .Attribute _ _ _ :: _, h, _, _ | _ :: _, .Subscript _ _ _ :: _, h, _, _ | _ :: _, .Starred _ _ :: _, h, _, _ | _ :: _, .List _ _ :: _, h, _, _ | _ :: _, .Tuple _ _ _ :: _, h, _, _
  | _ :: _, .Slice _ _ _ _ :: _, h, _, _ => by simp [chkNs] at h
theorem chkN_fix {t : TN} {e : Expr} (h : chkN sx t e = true) : ∀ i ∈ t.slots, i ∉ sx.fix := by
  cases t with
  | nm j => cases e with
    | Name x pos =>
      intro i hi
      rw [List.mem_singleton.mp hi]
      exact stB_fix (show stB sx j x = true from h)
    | _ => simp [chkN] at h
  | tup is => cases e with
    | Tuple es n pos => exact chkNs_fix (show chkNs sx is es = true from h)
    | _ => simp [chkN] at h
end
end Rf


set_option Elab.async false
set_option linter.all false
set_option maxRecDepth 100000
set_option maxHeartbeats 2000000
/-! S10: comprehensions. -/
namespace Rf
open PySem PySem.Spec PyProof.Rows L2
abbrev E0' : XK := fun _ _ _ => False
theorem srcOk_wp {α : Type} {src : List (Nat × List D)} {G : GG} {r : Res α} {P : α → GG → Prop} {E : Nat → List (Nat × D) → GG → Prop} (h : (if srcOk src G = true then r else Res.bad).wp P E) : srcOk src G = true ∧ r.wp P E := wp_if h
section
variable {X : Cx} {M : Nm} {C : EC} {O : Ob} {sx : Sx} {E : XK} {k : Nat} {pos : Pos} {elt tg iter : Expr} {ifs : List Expr} {scope : Scope} {own : List (Str × Nat)} {fI : LL → GG → Res IV} {fc fe : LL → GG → Res D}
/-- the tests of a clause: none, or one -/
def chkIf (ifs : List Expr) (yes : Bool) : Bool := match ifs with
  | [] => yes
  | [_] => !yes
  | _ => false
theorem drop_get {α : Type} {l : List α} {i : Nat} {a : α} {r : List α} (h : l.drop i = a :: r) : l[i]? = some a ∧ l.drop (i + 1) = r ∧ i < l.length := by
  have hi : i < l.length := by
    rcases Nat.lt_or_ge i l.length with q | q
    · exact q
    · rw [List.drop_eq_nil_of_le q] at h; cases h
  rw [List.drop_eq_getElem_cons hi] at h
  cases h
  exact ⟨List.getElem?_eq_getElem hi, rfl, hi⟩
theorem drop_nil {α : Type} {l : List α} {i : Nat} (h : l.drop i = []) : l.length ≤ i := by
  rcases Nat.lt_or_ge i l.length with q | q
  · rw [List.drop_eq_getElem_cons q] at h; cases h
  · exact q
/-- what the loop of a list comprehension is at -/
def lcW (X : Cx) (M : Nm) (fb : LL → GG → Res (Option D)) (t : TN) (iv : IV) (vs : List Nat) (ι1 : List Addr) (L : LL) (H1 : Hp) (Q : VK) (Dn : Addr) (i m : Nat) (H : Hp) : Prop :=
  ∃ ι G acc va, Ext ι1 ι H1 H ∧ Rep X.K M ι G H ∧ H Dn = some (.lst va) ∧ DRs X.K H ι acc va ∧ Dn ∉ ι ∧ m = iv.items.length - i ∧ i ≤ iv.items.length ∧
    (lcL fb t iv.src (wipeL L vs) (iv.items.drop i) acc G).wp (fun ds G' => Kt X.K M ι1 H1 Q (.ref G'.length) (G' ++ [.lst ds])) (fun _ _ _ => True)
theorem condK_bad {f : GG → Res D} : ∀ (d : D) (G : GG), (∀ b, d ≠ .bl b) → condK f d G = .bad := fun d G h => by cases d <;> first | rfl | exact absurd rfl (h _)
def lcP (X : Cx) (M : Nm) (fb : LL → GG → Res (Option D)) (t : TN) (iv : IV) (vs : List Nat) (ι1 : List Addr) (L : LL) (H1 : Hp) (Q : VK) (rest acc : List D) (o : Option D) (G4 : GG) : Prop :=
  (match o with
    | some e => if decide (acc.length < small) then lcL fb t iv.src (wipeL L vs) rest (acc ++ [e]) G4 else .bad
    | none => lcL fb t iv.src (wipeL L vs) rest acc G4).wp (fun ds G' => Kt X.K M ι1 H1 Q (D.ref G'.length) (G' ++ [Rf.O.lst ds])) (fun _ _ _ => True)
theorem lc_ok {t : TN} {vs : List Nat} (nfv : ∀ p ∈ M.fix, p.1 ∉ vs) (hv : ∀ i ∈ t.slots, i ∈ vs) {tt : TT} {te : TE} {σ : L2.St} {H : Hp} {Q : VK}
    (htt : ∀ σ H Q, tB X.K M E0' fc σ H Q → tt σ H Q) (hte : ∀ σ H Q, tE X.K M E0' fe σ H Q → te σ H Q)
    (w : tE X.K M E (fun L G => (fI L G).bind fun iv G => (lcL (fun L G => (fc L G).bind fun x G => condK (fe L) x G) t iv.src (wipeL L vs) iv.items [] G).bind fun ds G => .ok (.ref G.length) (G ++ [.lst ds])) σ H Q) :
    tLc (tI X.K M E fI) (gN X.K t) tt te vs σ H Q := by
  obtain ⟨ι, L, G, l, R, w⟩ := w
  refine ⟨ι, L, G, l, R, Res.wp_mono (fun iv G1 w1 ι1 H1 J x1 R1 wk => ?_) (fun _ _ _ h => h) (Res.wp_bind.mp w)⟩
  intro Dn hD
  have l1 := l.ext R x1
  have nD : Dn ∉ ι1 := R1.fresh hD
  have w2 : (lcL (fun L G => (fc L G).bind fun x G => condK (fe L) x G) t iv.src (wipeL L vs) iv.items [] G1).wp (fun ds G' => Kt X.K M ι1 H1 Q (.ref G'.length) (G' ++ [.lst ds])) (fun _ _ _ => True) :=
    Res.wp_mono (fun ds G' h => Kt.go x1 h) (fun _ _ _ _ => trivial) (Res.wp_bind.mp w1)
  refine ⟨lcW X M (fun L G => (fc L G).bind fun x G => condK (fe L) x G) t iv vs ι1 L H1 Q Dn, ⟨iv.items.length, ι1, G1, [], [], (Ext.refl _ _).upd hD, R1.keep nD (fun o h => by rw [hD] at h; cases h), upd_same, trivial, nD, rfl, Nat.zero_le _, w2⟩, ?_⟩
  rintro i m H2 ⟨ι2, G2, acc, va, x2, R2, hDn, ra, n2, hm, hi, w3⟩
  have notTF : ∀ o, H2 Dn = some o → ¬ isTF o := fun o h => by rw [hDn] at h; cases h; exact fun z => z
  cases hd : iv.items.drop i with
  | nil =>
    rw [hd] at w3
    obtain ⟨hs, q⟩ := srcOk_wp w3
    have hle := drop_nil hd
    refine .inl ⟨(wk ι2 H2 G2 x2 R2 hs i).2.1 hle, ?_⟩
    exact q (ι2 ++ [Dn]) H2 (.ref Dn) (x2.adopt hD) (R2.adopt n2 ⟨va, hDn, ra.more _⟩ fun r => r.more _) ⟨Dn, by rw [← R2.len]; simp, rfl⟩
  | cons d rest =>
    obtain ⟨hg, hr, hlt⟩ := drop_get hd
    rw [hd] at w3
    obtain ⟨hs, q⟩ := srcOk_wp w3
    obtain ⟨wg, _, wy⟩ := wk ι2 H2 G2 x2 R2 hs i
    refine .inr ⟨wg hlt, lcW X M (fun L G => (fc L G).bind fun x G => condK (fe L) x G) t iv vs ι1 L H1 Q Dn (i + 1) (m - 1), fun H' h => ⟨m - 1, by omega, h⟩, fun x H3 hy => ?_⟩
    obtain ⟨x3, R3, r3⟩ := wy x H3 hy d hg
    have hDn3 : H3 Dn = some (.lst va) := x3.frame Dn _ hDn n2 (fun _ => nofun)
    have xx3 : Ext ι1 ι2 H1 H3 := x2.trans x3
    have lw : LR X.K M H3 ι2 (wipeL L vs) (wipe σ vs) := (l1.ext R1 xx3).wipe vs nfv
    have ra3 := ra.ext R2 x3
    split at q
    · rename_i L' hb
      refine gN_ok (fun p hp z => nfv p hp (hv _ z)) lw r3 hb fun σ2 l2 hw => ⟨?_, ?_⟩
      · rw [hw vs hv]
        have wipe2 : ∀ {vs ws : List Nat} {σ : L2.St}, (∀ i ∈ vs, i ∈ ws) → wipe (wipe σ vs) ws = wipe σ ws := by
          intro vs
          induction vs with
          | nil => intro ws σ _; rfl
          | cons v vs ih =>
            intro ws σ h
            show wipe ((wipe σ vs).set v none) ws = _
            rw [wipe_set, if_pos (h v (List.mem_cons_self ..)), ih fun i hi => h i (List.mem_cons_of_mem _ hi)]
        exact wipe2 fun _ h => h
      · -- the test, the element
        have q1 := Res.wp_noX (E' := Kx X.K M ι2 H3 E0') (Res.wp_bind.mp q)
        refine htt _ _ _ ?_
        have key : ∀ (ι4 : List Addr) (H4 : Hp) (G4 : GG) (acc' : List D) (va' : List V), Ext ι2 ι4 H3 H4 → Rep X.K M ι4 G4 H4 → H4 Dn = some (.lst va') → DRs X.K H4 ι4 acc' va' → Dn ∉ ι4 →
            (lcL (fun L G => (fc L G).bind fun x G => condK (fe L) x G) t iv.src (wipeL L vs) rest acc' G4).wp (fun ds G' => Kt X.K M ι1 H1 Q (.ref G'.length) (G' ++ [.lst ds])) (fun _ _ _ => True) →
            lcW X M (fun L G => (fc L G).bind fun x G => condK (fe L) x G) t iv vs ι1 L H1 Q Dn (i + 1) (m - 1) H4 := fun ι4 H4 G4 acc' va' x4 R4 e4 r4 n4 w4 =>
          ⟨ι4, G4, acc', va', xx3.trans x4, R4, e4, r4, n4, by omega, hlt, by rw [hr]; exact w4⟩
        refine tB_bind (k := fun x G => condK (fe L') x G) (P := fun _ _ o G4 => lcP X M (fun L G => (fc L G).bind fun x G => condK (fe L) x G) t iv vs ι1 L H1 Q rest acc o G4)
          (fun _ _ _ _ _ _ _ h => h) l2 R3 q1 (fun d G h => condK_bad d G h) fun ι4 H4 b G4 x4 l4 R4 w4 => ?_
        have n4 : Dn ∉ ι4 := x4.notMem hDn3 n2
        have hDn4 : H4 Dn = some (.lst va) := x4.frame Dn _ hDn3 n2 (fun _ => nofun)
        cases b with
        | false => exact key ι4 H4 G4 acc va x4 R4 hDn4 (ra3.ext R3 x4) n4 w4
        | true =>
          simp only [if_true]
          refine hte _ _ _ (tE_bind (P := fun _ _ o G4 => lcP X M (fun L G => (fc L G).bind fun x G => condK (fe L) x G) t iv vs ι1 L H1 Q rest acc o G4)
            (fun _ _ _ _ _ _ _ h => h) l4 R4 w4 fun ι5 H5 v d5 G5 x5 l5 R5 r5 w5 => ?_)
          obtain ⟨hz, w6⟩ := wp_if w5
          have hDn5 : H5 Dn = some (.lst va) := x5.frame Dn _ hDn4 n4 (fun _ => nofun)
          have n5 : Dn ∉ ι5 := x5.notMem hDn4 n4
          have nt5 : ∀ o, H5 Dn = some o → ¬ isTF o := fun o h => by rw [hDn5] at h; cases h; exact fun z => z
          have ra5 := (ra3.ext R3 x4).ext R4 x5
          refine ⟨va, hDn5, ?_, ?_⟩
          · have : acc.length < small := by simpa using hz
            rw [← ra5.length]
            exact Nat.lt_of_lt_of_le this small_le
          · refine ⟨ι5, G5, acc ++ [d5], va ++ [v], (xx3.trans (x4.trans x5)).upd hD, R5.keep n5 (fun o h => by rw [hDn5] at h; cases h; exact trivial), upd_same, ?_, n5, by omega, hlt, by rw [hr]; exact w6⟩
            exact (DRs.keep (keep_upd nt5) ra5).append ⟨r5.keep (keep_upd nt5), trivial⟩
    · exact q.elim
end
end Rf


set_option Elab.async false
set_option linter.all false
set_option maxRecDepth 100000
set_option maxHeartbeats 2000000
/-! S11: stores. -/
namespace Rf
open PySem PySem.Spec PyProof.Rows L2
/-- what is wanted behind a store: of the slots; of nothing -/
def Kl (K : PySem.W.Frag) (M : Nm) (ι : List Addr) (H : Hp) (Q : L2.St → Hp → Prop) : LL → GG → Prop := fun L G' => ∀ ι' H' σ', Ext ι ι' H H' → Rep K M ι' G' H' → LR K M H' ι' L σ' → Q σ' H'
def Ku (K : PySem.W.Frag) (M : Nm) (ι : List Addr) (H : Hp) (Q : Hp → Prop) : Unit → GG → Prop := fun _ G' => ∀ ι' H', Ext ι ι' H H' → Rep K M ι' G' H' → Q H'
section
variable {K : PySem.W.Frag} {M : Nm}
theorem go_l {Q : L2.St → Hp → Prop} : Go (fun ι H => Kl K M ι H Q) := fun _ _ _ _ _ _ x h ι' H' σ' y R l => h ι' H' σ' (x.trans y) R l
theorem go_u {Q : Hp → Prop} : Go (fun ι H => Ku K M ι H Q) := fun _ _ _ _ _ _ x h ι' H' y R => h ι' H' (x.trans y) R
end
section
variable {X : Cx} {M : Nm}
/-- o[i] = v, by values -/
def rSet (K : PySem.W.Frag) (M : Nm) : TSet := fun o i v H Q => ∃ ι G x y d, Rep K M ι G H ∧ DR K H ι x o ∧ DR K H ι y i ∧ DR K H ι d v ∧ (setIxF x y d G).wp (Ku K M ι H Q) NoE
theorem set_ok (hu : X.A.units + 1 < cLine) : PSet X (rSet X.K M) := by
  intro pins s σ H o i v ov iv u Q I ro ri rv ⟨ι, G, x, y, d, R, dx, dy, dd, w⟩
  cases x with
  | ref n =>
    simp only [setIxF] at w
    split at w
    · rename_i ds hd
      obtain ⟨p, vs, e1, hp, hvs, rvs⟩ := R.lst hd dx
      cases y with
      | int j =>
        simp only at w
        split at w
        · rename_i kk hk
          have hl := rvs.length
          refine set_list pins s σ H o i v ov iv u Q I ro ri rv ⟨p, vs, j, kk, e1, dy, hvs, by rw [← hl]; exact hk, ?_⟩
          have e2 : Ext ι ι H (upd H p (.lst (vs.set kk v))) := Ext.set (List.mem_of_getElem? hp)
          exact w ι _ e2 (R.set hp ⟨_, upd_same, (rvs.set kk dd).ext R e2⟩)
        · exact w.elim
      | _ => exact w.elim
    · split at w
      · rename_i kvs hd
        obtain ⟨hk, w⟩ := wp_if w
        obtain ⟨h1, h2⟩ := and2 hk
        obtain ⟨p, vs, e1, hp, hvs, rvs⟩ := R.dk hd dx
        obtain ⟨ky, rfl⟩ := key_of_flat h1 dy
        have hl := rvs.length
        have hz : vs.length < sizeLine := by
          rw [← hl]
          exact Nat.lt_of_lt_of_le (of_decide_eq_true h2) small_le
        have nd : (vs.map (·.1)).Nodup := by
          obtain ⟨_, _, us, kv, o, es, ep, _, _, _, _, _, nd⟩ := dk_of I.hok hvs
          have : ∀ {l : List (Key × V)} {m : List (Key × Value)}, KV l m → l.map (·.1) = m.map (·.1) := by
            intro l m q
            induction q with
            | nil => rfl
            | cons h _ ih => rw [List.map_cons, List.map_cons, h.1, ih]
          rw [this kv]; exact nd
        refine set_dict hu pins s σ H o _ v ov iv u Q I ro ri rv ⟨p, _, e1, DPut.k hvs hz, ?_⟩
        have e2 : Ext ι ι H (upd H p (.dK (putK vs ky v))) := Ext.set (List.mem_of_getElem? hp)
        exact w ι _ e2 (R.set hp ⟨_, upd_same, (KR.put dy dd rvs nd).ext R e2⟩)
      · exact w.elim
  | _ => exact w.elim
/-- o.f = v, by values: what must hold -/
theorem setAt_ok {C : EC} {O : Ob} {sx : Sx} {E : XK} {k : Nat} (c : Cd X M C O sx E k) {ι : List Addr} {G : GG} {H : Hp} {x d : D} {o v : V} {n : Nat} {Q : Hp → Prop} (R : Rep X.K M ι G H) (dx : DR X.K H ι x o) (dd : DR X.K H ι d v) (w : (setAtF C.P n x d G).wp (Ku X.K M ι H Q) NoE) :
    ∃ a Cc dx fs, o = .ref a ∧ H a = some (.ins Cc dx fs) ∧ Cls X.K Cc ∧ NoAttr X.K Cc (M.a n) ∧ fs.length < 1000 ∧ Q (upd H a (.ins Cc dx (putF (M.a n) v fs))) := by
  cases x with
  | ref m =>
    simp only [setAtF] at w
    split at w
    · rename_i cc fs hi
      obtain ⟨hk, w⟩ := wp_if w
      obtain ⟨h1, h2⟩ := and2 hk
      obtain ⟨a, dxx, xs, e1, e2, e3, e4⟩ := R.ins hi dx
      cases hr : C.P.cls[cc]? with
      | none =>
        rw [clsOf_none hr] at h2
        simp at h2
      | some r =>
        rw [clsOf_some hr] at h2
        have hm : n ∈ r.fld := by simpa using h2
        obtain ⟨hx, h3, h4⟩ := c.fx.noat cc r n hr hm
        refine ⟨a, _, dxx, xs, e1, e3, (c.fx.cls cc r hr).2 hx, h4, by rw [← e4.length]; exact of_decide_eq_true h1, ?_⟩
        have e5 : Ext ι ι H (upd H a (.ins (He.ga X.K (M.c cc)) dxx (putF (M.a n) v xs))) := Ext.set (List.mem_of_getElem? e2)
        exact w ι _ e5 (R.set e2 ⟨dxx, _, upd_same, (FR.put c.fx.attN h3 dd e4).ext R e5⟩)
    · exact w.elim
  | _ => exact w.elim
end
section
variable {X : Cx} {M : Nm} {C : EC} {O : Ob} {sx : Sx} {E : XK} {k : Nat} {a b : Expr} {f g : LL → GG → Res D} {pos : Pos}
/-- a target, by the value that it gets -/
def tT (K : PySem.W.Frag) (M : Nm) (E : XK) (f : D → LL → GG → Res LL) : L2.TG := fun v σ H Q => ∃ ι L G d, LR K M H ι L σ ∧ Rep K M ι G H ∧ DR K H ι d v ∧ (f d L G).wp (Kl K M ι H Q) (Kx K M ι H E)
def tTs (K : PySem.W.Frag) (M : Nm) (E : XK) (f : List D → LL → GG → Res LL) : TGs := fun vs σ H Q => ∃ ι L G ds, LR K M H ι L σ ∧ Rep K M ι G H ∧ DRs K H ι ds vs ∧ (f ds L G).wp (Kl K M ι H Q) (Kx K M ι H E)
theorem _root_.L2.PG.imp {e : Expr} {t t' : L2.TG} (h : PG X e t) (i : ∀ v σ H Q, t' v σ H Q → t v σ H Q) : PG X e t' := ⟨fun pins s σ H v u Q I r q => h.run pins s σ H v u Q I r (i v σ H Q q)⟩
theorem g_name (c : Cd X M C O sx E k) {i : Nat} {x : Str} (h : stB sx i x = true) : PG X (.Name x pos) (tT X.K M E fun d L G => asg1 C (.nm i) d L G) := by
  obtain ⟨a1, a2, a3⟩ := stor_of c.N c.sc c.fn h
  exact (pg_name c.nd a1 a2 a3).imp fun v σ H Q ⟨ι, L, G, d, l, R, r, w⟩ => w ι H _ (Ext.refl _ _) R (l.set i r fun p hp z => stB_fix h (by rw [← z]; exact c.fixS p hp))
theorem g_attr (c : Cd X M C O sx E k) {n : Nat} (ha : PE X a (tE X.K M E f)) : PG X (.Attribute a (M.a n) pos) (tT X.K M E fun d L G => (f L G).bind fun x G => (setAtF C.P n x d G).bind fun _ G => .ok L G) := by
  refine ⟨fun pins s σ H v u Q I r ⟨ι, L, G, d, l, R, rd, w⟩ => ?_⟩
  show wpAny _ _ (do
    let ov ← holding [u] (eval a X.env)
    standAt pos.atName
    holding [u, ov] (setAttr ov (M.a n) u)
    release [u, ov] []) _ _ _
  refine wpAny_bind (wpAny_holding (thn (ha.run pins s σ H (fun x H1 => ∃ aa Cc dx fs, x = .ref aa ∧ H1 aa = some (.ins Cc dx fs) ∧ Cls X.K Cc ∧ NoAttr X.K Cc (M.a n) ∧ fs.length < 1000 ∧ Q σ (upd H1 aa (.ins Cc dx (putF (M.a n) v fs)))) I
    (tE_bind go_l l R w fun ι1 H1 o d1 G1 x1 l1 R1 r1 w1 => setAt_ok c R1 r1 (rd.ext R x1) (Q := fun H2 => Q σ H2) ?_)) fun ov s1 ⟨x, H1, I1, r1, aa, Cc, dx, fs, e1, e2, e3, e4, e5, q⟩ => ?_))
  · exact toNoE (Res.wp_mono (fun _ G2 h ι2 H2 x2 R2 => (show Kl X.K M ι1 H1 Q L G2 from h) ι2 H2 σ x2 R2 (l1.ext R1 x2)) (fun _ _ _ h => h) (Res.wp_bind.mp w1))
  · subst e1
    obtain rfl : ov = Value.ref aa := r1
    refine wpAny_bind (wpAny_standAt (wpAny_bind (wpAny_holding (setattr_ok I1 e2 e3 e4 e5 r fun s2 I2 => ?_))))
    exact wpAny_release ⟨σ, _, I2, q⟩
theorem g_idx (hu : X.A.units + 66 < cLine) (ha : PE X a (tE X.K M E f)) (hb : PE X b (tE X.K M E g)) (hs : notSlice b = true) : PG X (.Subscript a b pos) (tT X.K M E fun d L G => (f L G).bind fun x G => (g L G).bind fun y G => (setIxF x y d G).bind fun _ G => .ok L G) := by
  refine (pg_sub ha hb (set_ok (M := M) (by omega)) (fun v => by
    cases b <;> first | rfl | cases hs)).imp fun v σ H Q ⟨ι, L, G, d, l, R, rd, w⟩ => tE_bind go_l l R w fun ι1 H1 o d1 G1 x1 l1 R1 r1 w1 => tE_bind go_l l1 R1 w1 fun ι2 H2 i d2 G2 x2 l2 R2 r2 w2 => ?_
  refine ⟨ι2, G2, d1, d2, d, R2, r1.ext R1 x2, r2, (rd.ext R x1).ext R1 x2, toNoE (Res.wp_mono (fun _ G3 h ι3 H3 x3 R3 => (show Kl X.K M ι2 H2 Q L G3 from h) ι3 H3 σ x3 R3 (l2.ext R2 x3)) (fun _ _ _ h => h) (Res.wp_bind.mp w2))⟩
theorem gs_nil : PGs X [] (tTs X.K M E fun ds L G => asgs C [] ds L G) := by
  refine ⟨fun pins s σ H vs us Q I r ⟨ι, L, G, ds, l, R, rd, w⟩ => pgs_nil.run pins s σ H vs us Q I r ?_⟩
  cases ds with
  | nil =>
    refine ⟨?_, w ι H σ (Ext.refl _ _) R l⟩
    cases vs with
    | nil => rfl
    | cons _ _ => exact rd.elim
  | cons d ds => exact w.elim
theorem gs_cons {t : T1} {ts : List T1} {e : Expr} {es : List Expr} (h1 : PG X e (tT X.K M E fun d L G => asg1 C t d L G)) (h2 : PGs X es (tTs X.K M E fun ds L G => asgs C ts ds L G)) (hs : notStar e = true) : PGs X (e :: es) (tTs X.K M E fun ds L G => asgs C (t :: ts) ds L G) := by
  have q := pgs_cons h1 h2 (by cases e <;> first | rfl | cases hs)
  refine ⟨fun pins s σ H vs us Q I r ⟨ι, L, G, ds, l, R, rd, w⟩ => q.run pins s σ H vs us Q I r ?_⟩
  cases ds with
  | nil => exact w.elim
  | cons d ds =>
    cases vs with
    | nil => exact rd.elim
    | cons v vs =>
      refine ⟨v, vs, rfl, ι, L, G, d, l, R, rd.1, ?_⟩
      refine Res.wp_mono (fun L1 G1 h ι1 H1 σ1 x1 R1 l1 => ?_) (fun _ _ _ h => h) (Res.wp_bind.mp w)
      exact ⟨ι1, L1, G1, ds, l1, R1, rd.2.ext R x1, Res.wp_mono (fun a G2 h => go_l _ _ _ _ _ _ x1 h) (fun _ _ _ h => Kx.go x1 h) h⟩
theorem each_len : ∀ {es : List Expr} {env : Env}, es.all notStar = true → (assignEach es env).length = es.length ∧ (assignEach es env).findIdx? (·.1) = none
  | [], _, _ => ⟨rfl, rfl⟩
  | e :: es, env, h => by
    simp only [List.all_cons, Bool.and_eq_true] at h
    obtain ⟨h1, h2⟩ := each_len (es := es) (env := env) h.2
    have e1 : assignEach (e :: es) env = (false, assign e env) :: assignEach es env := by
      cases e <;> first | rfl | cases h.1
    rw [e1]
    refine ⟨congrArg Nat.succ h1, ?_⟩
    rw [List.findIdx?_cons]
    simp [h2]
theorem g_tup (hc : X.calm = true) {ts : List T1} {es : List Expr} {n : Nat} (h : PGs X es (tTs X.K M E fun ds L G => asgs C ts ds L G)) (hs : es.all notStar = true) (hl : es.length = ts.length) (h0 : ts ≠ []) : PG X (.Tuple es n pos) (tT X.K M E fun d L G => asgT C (.tup ts) d L G) := by
  obtain ⟨h1, h2⟩ := each_len (env := X.env) hs
  refine (pg_tup hc h h1 h2).imp fun v σ H Q ⟨ι, L, G, d, l, R, rd, w⟩ => ?_
  obtain ⟨hd, w⟩ := wp_if w
  cases d with
  | tup ds =>
    obtain ⟨a, vs, e, s, rv⟩ := rd
    have hd : ds.length = ts.length := by simpa [tupOf] using hd
    exact ⟨a, vs, e, s, by rw [← rv.length, hd, hl], ι, L, G, ds, l, R, rv, w⟩
  | _ =>
    cases ts with
    | nil => exact absurd rfl h0
    | cons t ts => cases hd
end
end Rf


set_option Elab.async false
set_option linter.all false
set_option maxRecDepth 100000
set_option maxHeartbeats 2000000
/-! S12: statements. -/
namespace Rf
open PySem PySem.Spec PyProof.Rows L2
def OutR (K : PySem.W.Frag) (M : Nm) (ι' : List Addr) (H' : Hp) (Dn : Ends) : Out → Prop
  | .nx L => ∀ σ', LR K M H' ι' L σ' → Dn.nx σ' H'
  | .rt d => ∀ v, DR K H' ι' d v → Dn.rt v H'
  | .bk L => ∀ σ', LR K M H' ι' L σ' → Dn.bk σ' H'
def Ko (K : PySem.W.Frag) (M : Nm) (ι : List Addr) (H : Hp) (Dn : Ends) : Out → GG → Prop := fun o G' => ∀ ι' H', Ext ι ι' H H' → Rep K M ι' G' H' → OutR K M ι' H' Dn o
theorem go_o {K : PySem.W.Frag} {M : Nm} {Dn : Ends} : Go (fun ι H => Ko K M ι H Dn) := fun _ _ _ _ _ _ x h ι' H' y R => h ι' H' (x.trans y) R
theorem Ko.here {K : PySem.W.Frag} {M : Nm} {ι : List Addr} {H : Hp} {Dn : Ends} {o : Out} {G : GG} (h : Ko K M ι H Dn o G) (R : Rep K M ι G H) : OutR K M ι H Dn o := h ι H (Ext.refl _ _) R
/-- a statement's reading -/
def tS (K : PySem.W.Frag) (M : Nm) (E : XK) (f : LL → GG → Res Out) : TS := fun Dn σ H => ∃ ι L G, LR K M H ι L σ ∧ Rep K M ι G H ∧ (f L G).wp (Ko K M ι H Dn) (Kx K M ι H E)
structure Cs (X : Cx) (M : Nm) (C : EC) (O : Ob) (sx : Sx) (E : XK) (k : Nat) : Prop extends Cd X M C O sx E k where
  po : PassesOwn (model X.prog X.w) X.A X.env X.xe
  tk : Takes X (fun cls d _ H => E cls d H)
  hs : X.stack = X.env :: X.outer
  hf : X.env.frame = some X.env.locals
  kd : X.env.scope.kind = .function
section
variable {X : Cx} {M : Nm} {C : EC} {O : Ob} {sx : Sx} {E : XK} {k : Nat} {a b e tg : Expr} {f g : LL → GG → Res D} {pos : Pos} {fs ft : LL → GG → Res Out} {st st' : List Stmt}
theorem s_nil : L2.PSs X [] (tS X.K M E fun L G => .ok (.nx L) G) := pss_imp pss_nil fun Dn σ H ⟨ι, L, G, l, R, w⟩ => w.here R σ l
theorem s_cons {s : Stmt} (h1 : L2.PS X s (tS X.K M E fs)) (h2 : L2.PSs X st (tS X.K M E ft)) : L2.PSs X (s :: st) (tS X.K M E fun L G => (fs L G).bind fun o G => seqO ft o G) :=
  pss_imp (pss_cons h1 h2) fun Dn σ H ⟨ι, L, G, l, R, w⟩ => ⟨ι, L, G, l, R, Res.wp_mono (fun o G1 w1 ι1 H1 x1 R1 => by
    cases o with
    | nx L1 => exact fun σ1 l1 => ⟨ι1, L1, G1, l1, R1, Res.wp_mono (fun _ _ h => go_o _ _ _ _ _ _ x1 h) (fun _ _ _ h => h.go x1) w1⟩
    | rt d => exact (show Ko X.K M ι H Dn (.rt d) G1 from w1) ι1 H1 x1 R1
    | bk L1 => exact (show Ko X.K M ι H Dn (.bk L1) G1 from w1) ι1 H1 x1 R1) (fun _ _ _ h => h) (Res.wp_bind.mp w)⟩
theorem s_expr (he : PE X e (tE X.K M E f)) (hc : notComp e = true) : L2.PS X (.Expr e pos) (tS X.K M E fun L G => (f L G).bind fun _ G => .ok (.nx L) G) :=
  ps_imp (ps_expr he (swap_of hc)) fun Dn σ H ⟨ι, L, G, l, R, w⟩ => tE_bind go_o l R w fun ι1 H1 v d G1 x1 l1 R1 r1 w1 => (show Ko X.K M ι1 H1 Dn (.nx L) G1 from w1).here R1 σ l1
theorem s_ret (he : PE X e (tE X.K M E f)) : L2.PS X (.Return (some e) pos) (tS X.K M E fun L G => (f L G).bind fun d G => .ok (.rt d) G) :=
  ps_imp (ps_ret he) fun Dn σ H ⟨ι, L, G, l, R, w⟩ => tE_bind go_o l R w fun ι1 H1 v d G1 x1 l1 R1 r1 w1 => (show Ko X.K M ι1 H1 Dn (.rt d) G1 from w1).here R1 v r1
theorem s_retn : L2.PS X (.Return none pos) (tS X.K M E fun _ G => .ok (.rt .non) G) :=
  ps_imp ps_retN fun Dn σ H ⟨ι, L, G, l, R, w⟩ => (show Ko X.K M ι H Dn (.rt .non) G from w).here R _ rfl
theorem s_pass : L2.PS X (.Pass pos) (tS X.K M E fun L G => .ok (.nx L) G) :=
  ps_imp ps_pass fun Dn σ H ⟨ι, L, G, l, R, w⟩ => (show Ko X.K M ι H Dn (.nx L) G from w).here R σ l
theorem s_brk : L2.PS X (.Break pos) (tS X.K M E fun L G => .ok (.bk L) G) :=
  ps_imp ps_break fun Dn σ H ⟨ι, L, G, l, R, w⟩ => (show Ko X.K M ι H Dn (.bk L) G from w).here R σ l
theorem s_asg {ft : D → LL → GG → Res LL} (he : PE X e (tE X.K M E f)) (hg : PG X tg (tT X.K M E ft)) (hc : notComp e = true) (hs : notStar tg = true) (hw : swappedStores [tg] e X.env = pure none) :
    L2.PS X (.Assign [tg] e pos) (tS X.K M E fun L G => (f L G).bind fun d G => (ft d L G).bind fun L G => .ok (.nx L) G) :=
  ps_imp (ps_asg he hg (swap_of hc) hw (by cases tg <;> first | rfl | cases hs)) fun Dn σ H ⟨ι, L, G, l, R, w⟩ => tE_bind go_o l R w fun ι1 H1 v d G1 x1 l1 R1 r1 w1 =>
    ⟨ι1, L, G1, d, l1, R1, r1, Res.wp_mono (fun L2 G2 h ι2 H2 σ2 x2 R2 l2 => (show Ko X.K M ι1 H1 Dn (.nx L2) G2 from h) ι2 H2 x2 R2 σ2 l2) (fun _ _ _ h => h) (Res.wp_bind.mp w1)⟩
theorem s_if {c : Expr} (hc : PT X c (tB X.K M E f)) (ha : L2.PSs X st (tS X.K M E fs)) (hb : L2.PSs X st' (tS X.K M E ft)) : L2.PS X (.If c st st' pos) (tS X.K M E fun L G => (f L G).bind fun x G => iteK x (fs L G) (ft L G)) :=
  ps_imp (ps_if hc ha hb) fun Dn σ H ⟨ι, L, G, l, R, w⟩ => tB_bind go_o l R w (fun _ _ h => iteK_bad h) fun ι1 H1 t G1 x1 l1 R1 w1 => by
    cases t with
    | true => exact ⟨ι1, L, G1, l1, R1, w1⟩
    | false => exact ⟨ι1, L, G1, l1, R1, w1⟩
/-- what a loop's body is to reach -/
theorem s_while {c : Expr} (hp : PassesOwn (model X.prog X.w) X.A X.env X.xe) (hc : PT X c (tB X.K M E f)) (hb : L2.PSs X st (tS X.K M E fs)) : L2.PS X (.While c st [] pos) (tS X.K M E fun L G => whileL f fs whileFuel L G) := by
  refine ps_imp (ps_while hp hc hb) fun Dn σ H ⟨ι, L, G, l, R, w⟩ => ?_
  refine ⟨fun m σ H => ∃ ι L G, LR X.K M H ι L σ ∧ Rep X.K M ι G H ∧ (whileL f fs m L G).wp (Ko X.K M ι H Dn) (Kx X.K M ι H E), ⟨whileFuel, ι, L, G, l, R, w⟩, ?_⟩
  rintro m σ H ⟨ι, L, G, l, R, w⟩
  cases m with
  | zero => exact w.elim
  | succ m =>
    refine tB_bind go_o l R (show ((f L G).bind _).wp (Ko X.K M ι H Dn) (Kx X.K M ι H E) from w) (fun d _ h => by cases d <;> first | rfl | exact absurd rfl (h _)) fun ι1 H1 t G1 x1 l1 R1 w1 => ?_
    cases t with
    | false => exact (show Ko X.K M ι1 H1 Dn (.nx L) G1 from w1).here R1 σ l1
    | true =>
      simp only [if_true]
      refine ⟨fun σ H => ∃ ι L G, LR X.K M H ι L σ ∧ Rep X.K M ι G H ∧ (whileL f fs m L G).wp (Ko X.K M ι H Dn) (Kx X.K M ι H E), fun σ' H' h => ⟨m, Nat.lt_succ_self _, h⟩, ι1, L, G1, l1, R1, ?_⟩
      refine Res.wp_mono (fun o G2 w2 ι2 H2 x2 R2 => ?_) (fun _ _ _ h => h) (Res.wp_bind.mp w1)
      cases o with
      | nx L2 => exact fun σ2 l2 => ⟨ι2, L2, G2, l2, R2, Res.wp_mono (fun _ _ h => go_o _ _ _ _ _ _ x2 h) (fun _ _ _ h => h.go x2) w2⟩
      | rt d => exact (show Ko X.K M ι1 H1 Dn (.rt d) G2 from w2) ι2 H2 x2 R2
      | bk L2 => exact (show Ko X.K M ι1 H1 Dn (.nx L2) G2 from w2) ι2 H2 x2 R2
theorem s_for {iter : Expr} {fI : LL → GG → Res IV} {t : TN} (hp : PassesOwn (model X.prog X.w) X.A X.env X.xe) (hc : X.calm = true) (hi : PI X tg iter (tI X.K M E fI)) (hg : PG X tg (gN X.K t)) (hb : L2.PSs X st (tS X.K M E fs)) (hs : notSet iter = true) (nf : ∀ p ∈ M.fix, p.1 ∉ t.slots) :
    L2.PS X (.For tg iter st [] pos) (tS X.K M E fun L G => (fI L G).bind fun iv G => forL fs t iv.src iv.items L G) := by
  refine ps_imp (ps_for hp hc hi hg hb (fold_of hs)) fun Dn σ H ⟨ι, L, G, l, R, w⟩ => ?_
  refine ⟨ι, L, G, l, R, Res.wp_mono (fun iv G1 w1 ι1 H1 J x1 R1 wk => ?_) (fun _ _ _ h => h) (Res.wp_bind.mp w)⟩
  have w2 := Res.wp_mono (P' := Ko X.K M ι1 H1 Dn) (E' := Kx X.K M ι1 H1 E) (fun _ _ h => go_o _ _ _ _ _ _ x1 h) (fun _ _ _ h => h.go x1) w1
  refine ⟨fun i m σ H => ∃ ι L G, Ext ι1 ι H1 H ∧ LR X.K M H ι L σ ∧ Rep X.K M ι G H ∧ m = iv.items.length - i ∧ i ≤ iv.items.length ∧ (forL fs t iv.src (iv.items.drop i) L G).wp (Ko X.K M ι H Dn) (Kx X.K M ι H E),
    ⟨iv.items.length, ι1, L, G1, Ext.refl _ _, l.ext R x1, R1, rfl, Nat.zero_le _, w2⟩, ?_⟩
  rintro i m σ H2 ⟨ι2, L2, G2, x2, l2, R2, hm, hi, w3⟩
  cases hd : iv.items.drop i with
  | nil =>
    rw [hd] at w3
    obtain ⟨hs, q⟩ := srcOk_wp w3
    exact .inl ⟨(wk ι2 H2 G2 x2 R2 hs i).2.1 (drop_nil hd), (show Ko X.K M ι2 H2 Dn (.nx L2) G2 from q).here R2 σ l2⟩
  | cons d rest =>
    obtain ⟨hg, hr, hlt⟩ := drop_get hd
    rw [hd] at w3
    obtain ⟨hs, q⟩ := srcOk_wp w3
    obtain ⟨wg, _, wy⟩ := wk ι2 H2 G2 x2 R2 hs i
    refine .inr ⟨wg hlt, fun σ H => ∃ ι L G, Ext ι1 ι H1 H ∧ LR X.K M H ι L σ ∧ Rep X.K M ι G H ∧ m - 1 = iv.items.length - (i + 1) ∧ i + 1 ≤ iv.items.length ∧ (forL fs t iv.src (iv.items.drop (i + 1)) L G).wp (Ko X.K M ι H Dn) (Kx X.K M ι H E),
      fun σ' H' h => ⟨m - 1, by omega, h⟩, fun x H3 hy => ?_⟩
    obtain ⟨x3, R3, r3⟩ := wy x H3 hy d hg
    split at q
    · rename_i L' hb
      refine gN_ok nf (l2.ext R2 x3) r3 hb fun σ3 l3 _ => ⟨ι2, L', G2, l3, R3, ?_⟩
      refine Res.wp_mono (fun o G4 w4 ι4 H4 x4 R4 => ?_) (fun _ _ _ h => h.go x3) (Res.wp_bind.mp q)
      have x34 := x3.trans x4
      cases o with
      | nx L4 => exact fun σ4 l4 => ⟨ι4, L4, G4, x2.trans x34, l4, R4, by omega, hlt, by rw [hr]; exact Res.wp_mono (fun _ _ h => go_o _ _ _ _ _ _ x34 h) (fun _ _ _ h => h.go x34) w4⟩
      | rt d => exact (show Ko X.K M ι2 H2 Dn (.rt d) G4 from w4) ι4 H4 x34 R4
      | bk L4 => exact (show Ko X.K M ι2 H2 Dn (.nx L4) G4 from w4) ι4 H4 x34 R4
    · exact q.elim
theorem _root_.Rf.Cg.nfx (c : Cg X M C O sx) {i : Nat} (h : i ∉ sx.fix) : ∀ p ∈ M.fix, p.1 ≠ i := fun p hp z => h (by rw [← z]; exact c.fixS p hp)
/-! ### a, b = x, y -/
variable {es : List Expr} {fa : LL → GG → Res (List D)}
theorem s_par2 (c : Cs X M C O sx E k) {i j : Nat} {x y : Str} {px py pt : Pos} {kt k2 pt2} (hi : sx.N[i]? = some x) (hj : sx.N[j]? = some y) (hij : i ≠ j) (nfi : i ∉ sx.fix) (nfj : j ∉ sx.fix) (hx : sx.sc.names.lookup x = some .local) (hy : sx.sc.names.lookup y = some .local) (ha : PA X [a, b] (tEs X.K M E fa))
    (hw : swappedStores [.Tuple [.Name x px, .Name y py] kt pt] (.Tuple [a, b] k2 pt2) X.env = pure (some [x, y])) :
    L2.PS X (.Assign [.Tuple [.Name x px, .Name y py] kt pt] (.Tuple [a, b] k2 pt2) pos) (tS X.K M E fun L G => ((fa L G).bind fun ds G => tupK ds G).bind fun d G => (asgT C (.tup [.nm i, .nm j]) d L G).bind fun L G => .ok (.nx L) G) := by
  refine ps_imp (ps_par c.calm c.nd (by rw [c.N]; exact hi) (by rw [c.N]; exact hj) hij (by rw [c.sc]; exact hx) (by rw [c.sc]; exact hy) ha hw) fun Dn σ H ⟨ι, L, G, l, R, w⟩ => ?_
  have w := Res.wp_bind.mp w
  refine tEs_bind (P := fun ι H d G => ((asgT C (.tup [.nm i, .nm j]) d L G).bind fun L G => Res.ok (Out.nx L) G).wp (Ko X.K M ι H Dn) (Kx X.K M ι H E)) (fun _ _ _ _ _ _ x h => Res.wp_mono (fun _ _ h => go_o _ _ _ _ _ _ x h) (fun _ _ _ h => Kx.go x h) h) l R w fun ι1 H1 vs ds G1 x1 l1 R1 r1 w1 => ?_
  obtain ⟨_, w1⟩ := wp_if w1
  have w1 := Res.wp_bind.mp (show ((asgT C (.tup [.nm i, .nm j]) (.tup ds) L G1).bind fun L G => .ok (.nx L) G).wp (Ko X.K M ι1 H1 Dn) (Kx X.K M ι1 H1 E) from w1)
  obtain ⟨hl, w1⟩ := wp_if w1
  have hl : ds.length = 2 := by simpa [tupOf] using hl
  match ds, vs, r1, hl, w1 with
  | [d1, d2], [v1, v2], r1, _, w1 =>
    exact ⟨v1, v2, rfl, (show Ko X.K M ι1 H1 Dn (.nx ((L.set i (some d1)).set j (some d2))) G1 from w1).here R1 _ ((l1.set i r1.1 (c.nfx nfi)).set j r1.2.1 (c.nfx nfj))⟩
  | [_, _], [], r1, _, _ => exact r1.elim
  | [_, _], [_], r1, _, _ => exact r1.2.elim
  | [_, _], _ :: _ :: _ :: _, r1, _, _ => exact r1.2.2.elim
theorem s_par3 (c : Cs X M C O sx E k) {i j n : Nat} {x y z : Str} {d : Expr} {px py pz pt : Pos} {kt k2 pt2} (hi : sx.N[i]? = some x) (hj : sx.N[j]? = some y) (hn : sx.N[n]? = some z) (hij : i ≠ j) (hin : i ≠ n) (hjn : j ≠ n) (nfi : i ∉ sx.fix) (nfj : j ∉ sx.fix) (nfn : n ∉ sx.fix) (hx : sx.sc.names.lookup x = some .local) (hy : sx.sc.names.lookup y = some .local) (hz : sx.sc.names.lookup z = some .local)
    (ha : PA X [a, b, d] (tEs X.K M E fa))
    (hw : swappedStores [.Tuple [.Name x px, .Name y py, .Name z pz] kt pt] (.Tuple [a, b, d] k2 pt2) X.env = pure (some [x, y, z])) :
    L2.PS X (.Assign [.Tuple [.Name x px, .Name y py, .Name z pz] kt pt] (.Tuple [a, b, d] k2 pt2) pos) (tS X.K M E fun L G => ((fa L G).bind fun ds G => tupK ds G).bind fun d G => (asgT C (.tup [.nm i, .nm j, .nm n]) d L G).bind fun L G => .ok (.nx L) G) := by
  refine ps_imp (ps_par3 c.calm c.nd (by rw [c.N]; exact hi) (by rw [c.N]; exact hj) (by rw [c.N]; exact hn) hij hin hjn (by rw [c.sc]; exact hx) (by rw [c.sc]; exact hy) (by rw [c.sc]; exact hz) ha hw) fun Dn σ H ⟨ι, L, G, l, R, w⟩ => ?_
  have w := Res.wp_bind.mp w
  refine tEs_bind (P := fun ι H d G => ((asgT C (.tup [.nm i, .nm j, .nm n]) d L G).bind fun L G => Res.ok (Out.nx L) G).wp (Ko X.K M ι H Dn) (Kx X.K M ι H E)) (fun _ _ _ _ _ _ x h => Res.wp_mono (fun _ _ h => go_o _ _ _ _ _ _ x h) (fun _ _ _ h => Kx.go x h) h) l R w fun ι1 H1 vs ds G1 x1 l1 R1 r1 w1 => ?_
  obtain ⟨_, w1⟩ := wp_if w1
  have w1 := Res.wp_bind.mp (show ((asgT C (.tup [.nm i, .nm j, .nm n]) (.tup ds) L G1).bind fun L G => .ok (.nx L) G).wp (Ko X.K M ι1 H1 Dn) (Kx X.K M ι1 H1 E) from w1)
  obtain ⟨hl, w1⟩ := wp_if w1
  have hl : ds.length = 3 := by simpa [tupOf] using hl
  match ds, vs, r1, hl, w1 with
  | [d1, d2, d3], [v1, v2, v3], r1, _, w1 =>
    exact ⟨v1, v2, v3, rfl, (show Ko X.K M ι1 H1 Dn (.nx (((L.set i (some d1)).set j (some d2)).set n (some d3))) G1 from w1).here R1 _ (((l1.set i r1.1 (c.nfx nfi)).set j r1.2.1 (c.nfx nfj)).set n r1.2.2.1 (c.nfx nfn))⟩
  | [_, _, _], [], r1, _, _ => exact r1.elim
  | [_, _, _], [_], r1, _, _ => exact r1.2.elim
  | [_, _, _], [_, _], r1, _, _ => exact r1.2.2.elim
  | [_, _, _], _ :: _ :: _ :: _ :: _, r1, _, _ => exact r1.2.2.2.elim
end
end Rf


set_option Elab.async false
set_option linter.all false
set_option maxRecDepth 100000
set_option maxHeartbeats 2000000
/-! S13: raise. -/
namespace Rf
open PySem PySem.Spec PyProof.Rows L2
section
variable {X : Cx} {C : Addr} {bmB : List Value} {B newId initId : String}
/-- X(), no own __init__ -/
theorem pmk_own0 {x : Str} {p pos : Pos} (F : ExcBaseFacts B newId initId bmB) (q : PySem.W.excIn X.K C bmB newId = true) (gC : X.mg x = some (.ref C)) (kC : PySem.W.keepIn X.K (.ref C) = true) (r : Raises X (.ref C)) (hg : Gl X x)
    (hdb : (x == ("__debug__" : Str)) = false) : PMk X (.Call (.Name x p) [] [] pos) (fun _ H Q => Q (.ref C) none H) := by
  intro pins s σ H Q I h
  refine wpAny_Call_Name_kw (ld_glob I hg gC ?_ hdb)
  refine PySem.W.callWith_K0 I.kIn kC ?_
  obtain ⟨bm, N, nm, qn, bs, hdct, sn, sub, ab, col, dd, k0, k1, k2, k3, k5, mN, hC, hN, hni, T⟩ := exc_obj I.kIn q
  obtain ⟨hp, g, dr, tk, os⟩ := s
  show wpAny _ _ (call (.ref C) []) _ _ _
  refine wpAny_call_exc_subT F T hC hN hni (fun h' e hm => ?_) (by show 0 ≤ sizeLine; exact Nat.zero_le _)
  exact mk_of I hm r h (I.hok.gone hm.new)
end
section
variable {X : Cx} {M : Nm} {C : EC} {O : Ob} {sx : Sx} {E : XK} {k : Nat} {a b e tg : Expr} {f g : LL → GG → Res D} {pos p p2 : Pos} {fs : LL → GG → Res (List D)} {es : List Expr}
theorem noPass : Passes (CX X.prog X.w) X (fun _ _ _ => False) := fun _ _ _ _ _ _ _ z => by
  obtain ⟨_, _, _, _, _, _, _, _, _, _, _, _, z⟩ := z
  exact z.elim
theorem s_raise0 (c : Cs X M C O sx E k) {cc : Nat} {r : ClsR} {x : Str} (hr : C.P.cls[cc]? = some r) (he : r.exc = some []) (hx : x = M.c cc) (hg : glB sx.sc x = true) :
    L2.PS X (.Raise (some (.Call (.Name x p) [] [] p2)) none pos) (tS X.K M E fun L G => (Res.ok [] G : Res (List D)).bind fun ds G => raiseK C.P cc ds G) := by
  obtain ⟨g1, g2, g3⟩ := c.gl hg
  obtain ⟨h1, h2, h3⟩ := c.fx.xx.any cc r [] hr he
  refine ps_imp (ps_raise c.calm c.tk (pmk_own0 PySem.F.excBase_ValueError (c.fx.xx.nul cc r hr he) (by rw [hx]; exact (c.fx.cls cc r hr).1) h3 (raises_own h1 h2) g1 g2)) fun Dn σ H ⟨ι, L, G, l, R, w⟩ => ?_
  have w : (raiseK C.P cc [] G).wp (Ko X.K M ι H Dn) (Kx X.K M ι H E) := w
  unfold raiseK at w
  rw [clsOf_some hr, he] at w
  exact (show Kx X.K M ι H E cc [] G from w) ι H _ none (Ext.refl _ _) R ⟨rfl, .inl ⟨rfl, rfl⟩⟩
theorem xd_end {ι : List Addr} {G : GG} {H1 : Hp} {K : PySem.W.Frag} {aa dx Cc : Addr} {n cc : Nat} {d : D} {v : V} (hC : Cc = He.ga K (M.c cc)) (hn : n < M.att.length) (R : Rep K M ι G H1) (rd : DR K H1 ι d v) (h1 : H1 aa = none) (h2 : H1 dx = none) (h3 : dx ≠ aa)
    (hK : Kx K M ι H1 E cc [(n, d)] G) : E (.ref Cc) (some dx) (upd (del (upd (upd (upd H1 aa (exo aa Cc none)) dx (exd dx [(M.a n, v)])) aa (exo aa Cc (some dx))) aa) dx (.xd [(M.a n, v)])) := by
  have e : upd (del (upd (upd (upd H1 aa (exo aa Cc none)) dx (exd dx [(M.a n, v)])) aa (exo aa Cc (some dx))) aa) dx (.xd [(M.a n, v)]) = upd H1 dx (.xd [(M.a n, v)]) := by
    funext b
    unfold upd del
    by_cases q1 : b = dx
    · simp [q1]
    · by_cases q2 : b = aa
      · simp only [q1, q2, if_true, if_false, Ne.symm h3]
        exact h1.symm
      · simp [q1, q2]
  rw [e]
  have x := Ext.new (ho := .xd [(M.a n, v)]) ι h2
  exact hK ι _ _ _ x (R.new h2) ⟨by rw [hC], .inr ⟨dx, _, rfl, upd_same, rfl, hn, rd.ext R x, trivial⟩⟩
theorem s_raise1 (c : Cs X M C O sx E k) {cc n : Nat} {r : ClsR} {x : Str} (hr : C.P.cls[cc]? = some r) (he : r.exc = some [n]) (hx : x = M.c cc) (hg : glB sx.sc x = true) (ha : PE X a (tE X.K M E f)) (hs : notStar a = true) :
    L2.PS X (.Raise (some (.Call (.Name x p) [a] [] p2)) none pos) (tS X.K M E fun L G => ((f L G).bind fun d G => (Res.ok [] G : Res (List D)).bind fun ds G => .ok (d :: ds) G).bind fun ds G => raiseK C.P cc ds G) := by
  obtain ⟨g1, g2, g3⟩ := c.gl hg
  obtain ⟨hn, T, hno, fi, hfi, hF, hI, tI⟩ := c.fx.xx.one cc r n hr he
  obtain ⟨b1, b2, b3⟩ := c.fx.fn fi hF
  have F1 := c.xns cc r n fi hr he hfi
  refine ps_imp (ps_raise c.calm c.tk (pmk_oex T hI tI F1 c.hr b1 .nil noPass g1 (by rw [hx]; exact (c.fx.cls cc r hr).1) (pa_cons ha pa_nil (star_of hs)) g2 (star_of hs) rfl)) fun Dn σ H ⟨ι, L, G, l, R, w⟩ => ?_
  have w := Res.wp_bind.mp w
  refine tE_bind (P := fun ι H ds G => (raiseK C.P cc ds G).wp (Ko X.K M ι H Dn) (Kx X.K M ι H E)) (fun _ _ _ _ _ _ x h => Res.wp_mono (fun _ _ h => go_o _ _ _ _ _ _ x h) (fun _ _ _ h => Kx.go x h) h) l R w fun ι1 H1 v d G1 x1 l1 R1 r1 w1 => ?_
  have w1 : (raiseK C.P cc [d] G1).wp (Ko X.K M ι1 H1 Dn) (Kx X.K M ι1 H1 E) := w1
  unfold raiseK at w1
  rw [clsOf_some hr, he] at w1
  have hK : Kx X.K M ι1 H1 E cc [(n, d)] G1 := w1
  refine ⟨by show 1 ≤ 1000; decide, fun aa ha0 => ⟨aa, _, v, rfl, T, hno, upd_same, fun dx hdx hne => ⟨rfl, dx, [(M.a n, v)], upd_same, ?_, ?_, ?_⟩⟩⟩
  · rw [upd_ne hne, upd_same]
  · rw [upd_ne hne] at hdx; exact hdx
  · rw [upd_ne hne] at hdx
    exact xd_end rfl hn R1 r1 ha0 hdx hne hK
end
/-- an exception's __init__, self.f = x -/
theorem xinit_ok {P : Program} {w : World} {K : PySem.W.Frag} {mg : Str → Option Value} {base : Heap} {k : Nat} {fa : Addr} {fd : FuncData} {self x f qual nm : Str} {params : Arguments} {scope : Scope} {p1 p2 p3 p4 : Pos}
    (F : FunD K nm qual params [.Assign [.Attribute (.Name self p1) f p2] (.Name x p3) p4] scope [] [] fa fd) (S : FnScope [self, x] [self, x] scope) (hv1 : Vis scope self) (hv2 : Vis scope x) (hd1 : dunB self = true) (hd2 : dunB x = true) :
    FnOk P w K mg base (CX P w) (k + 1) fa fd [self, x] (spXi K f) := by
  obtain ⟨q1, q2, _⟩ := and3 hd1
  obtain ⟨q3, q4, _⟩ := and3 hd2
  refine F.ok S (fun vs H Q E h => ?_) (fun cdv A outer s H vs Q E hr h => ⟨_, pss_one (ps_ost (pe_var (i := 0) rfl hv1 (by simpa using q1) (by simpa using q2)) (pe_var (i := 1) rfl hv2 (by simpa using q3) (by simpa using q4))), ?_⟩)
  · obtain ⟨a, C, v, rfl, _⟩ := h
    rfl
  · obtain ⟨a, C, v, rfl, T, hno, ha, hQ⟩ := h
    exact ⟨v, rfl, .ref a, rfl, a, C, rfl, T, hno, .inl ⟨ha, hQ⟩⟩
end Rf


set_option Elab.async false
set_option linter.all false
set_option maxRecDepth 100000
set_option maxHeartbeats 2000000
/-! S14: try with several except clauses, with a name or without (after HandS.Exc's and HandS.TryMany's rules, which allow one named clause or several without names). -/
namespace Rf
open PySem PySem.Spec PyProof.Rows L2
/-- clauses: with a name the slot holds the exception while the suite runs -/
inductive Hds (X : Cx) : List ExceptHandler → List (Value × (Addr → Value → Option Addr → TS)) → Prop
  | nil : Hds X [] []
  | plain {x : Str} {c : Value} {ts : Addr → Value → Option Addr → TS} {b₀ : Stmt} {suite : List Stmt} {np pos' : Pos} {hds : List ExceptHandler} {l : List (Value × (Addr → Value → Option Addr → TS))} (hc : Names X x c)
      (hsu : ∀ (a : Addr) (oe : Obj) (cls : Value) (d : Option Addr) (pn : List (Addr × Obj)), Zc cls d oe → (∃ vs, oe.data = .fields vs) → L2.PSs (X.suite a ((a, oe) :: pn)) (b₀ :: suite) (ts a cls d)) (r : Hds X hds l) :
      Hds X (.ExceptHandler (some (.Name x np)) none (b₀ :: suite) pos' :: hds) ((c, ts) :: l)
  | named {x n : Str} {i : Nat} {c : Value} {ts : Addr → Value → Option Addr → TS} {b₀ : Stmt} {suite : List Stmt} {np pos' : Pos} {hds : List ExceptHandler} {l : List (Value × (Addr → Value → Option Addr → TS))} (hc : Names X x c)
      (hi : X.N[i]? = some n) (hln : X.env.kindOf n = some .local)
      (hsu : ∀ (a : Addr) (oe : Obj) (cls : Value) (d : Option Addr) (pn : List (Addr × Obj)), Zc cls d oe → (∃ vs, oe.data = .fields vs) → L2.PSs (X.suite a ((a, oe) :: pn)) (b₀ :: suite) (ts a cls d)) (r : Hds X hds l) :
      Hds X (.ExceptHandler (some (.Name x np)) (some n) (b₀ :: suite) pos' :: hds)
        ((c, fun a cls d D σ H => ts a cls d { nx := fun σ' H' => D.nx (σ'.set i none) H', rt := D.rt, bk := fun σ' H' => D.bk (σ'.set i none) H', ct := fun σ' H' => D.ct (σ'.set i none) H' } (σ.set i (some (.ref a))) H) :: l)
section
variable {X : Cx} {body : List Stmt} {h₀ : ExceptHandler} {hds : List ExceptHandler} {l : List (Value × (Addr → Value → Option Addr → TS))} {pos : Pos} {tb : WX → TS} {Wout : WX}
theorem ps_try_any (hs : X.stack = X.env :: X.outer) (hf : X.env.frame = some X.env.locals) (hN : X.N.Nodup) (tk : Takes X Wout)
    (hb : ∀ (W : WX) (pn : List (Addr × Obj)) (xe : Value → Shared → Prop), Takes (X.tr pn xe) W → PassesOwn (model X.prog X.w) X.A X.env xe → L2.PSs (X.tr pn xe) body (tb W))
    (hh : Hds X (h₀ :: hds) l) : L2.PS X (.Try body (h₀ :: hds) [] [] pos) (fun D σ H => tb (wMany X.K Wout D l) D σ H) := by
  refine ⟨fun pins s σ H D I h => ?_⟩
  have ok := I.ok
  have hfr : X.A.frames = some (X.env :: X.outer) := by rw [ok.frames, hs]
  refine wpAny_Try_except ?_
  refine wpAny_mono ((hb (wMany X.K Wout D l) (X.pn ++ pins) (fun e s₁ => wpAny (model X.prog X.w) X.A (noteFrame e X.env) (fun _ s₂ => wpAny (model X.prog X.w) X.A (setFlight e none) (fun _ s₃ =>
    wpAny (model X.prog X.w) X.A (handleBy e X.env (h₀ :: hds)) (SP X pins D) X.xe s₃) X.xe s₂) X.xe s₁) (fun u s' xx => ?_) PassesOwn.looking).run [] s σ H D (I.toTry _) h) (fun f s1 hsp => ?_) (fun e s1 he => he)
  · obtain ⟨a, B, sI, pins', σ', H', cls, d, rfl, J', nb, up, sky, na, os, ag, w⟩ := xx
    have J : Inv X pins σ' H' sI := J'.ofTry ok
    have sky' : Sky B (X.env :: X.outer) a (Zc cls d) X.env.locals s'.heap := by rw [← hs]; exact sky
    show wpAny (model X.prog X.w) X.A (noteFrame (.ref a) X.env) _ _ _
    refine Sky.land Zc.steady hfr hf sky' fun h3 fl3 up3 => ?_
    have J3 : Inv X pins σ' H' { s' with heap := h3 } := J.landed nb fl3.1 (up.trans up3) os ag
    obtain ⟨oe3, vs3, he3, hz3, hd3⟩ := fl3.there
    have notFr : ∀ {h : Heap} {o : Obj} {vs : Array Value}, h.FunFrames B (X.env :: X.outer) → h.get? a = some o → o.data = .fields vs → a ∉ frs (X.env :: X.outer) := fun {h o vs} ff e dd hm => by
      obtain ⟨_, o', e', hnf⟩ := ff.mem hm
      rw [e] at e'; cases e'
      exact hnf _ dd
    have nfr := notFr fl3.2.2.1 he3 hd3
    have nL : a ≠ X.env.locals := fun z => nfr (List.mem_filterMap.mpr ⟨X.env, List.mem_cons_self, by rw [hf, z]⟩)
    have nF : a ∉ X.fs := fun hm => by
      obtain ⟨e, he, q⟩ := List.mem_filterMap.mp hm
      exact nfr (List.mem_filterMap.mpr ⟨e, List.mem_cons_of_mem _ he, q⟩)
    have S3 := J3.suite he3 hd3 na nL nF
    -- the question of a clause
    have ask : ∀ {x : Str} {np : Pos} {c : Value} {Q : Value → Shared → Prop} {E : Value → Shared → Prop}, Names X x c → Q c { s' with heap := h3 } → wpAny (model X.prog X.w) (X.A.mark (some (.ref a))) (eval (.Name x np) X.env) Q E { s' with heap := h3 } := fun {x np c Q E} hc q => by
      obtain ⟨hg, hdbg, hm | ⟨hm, hv, hnn⟩⟩ := hc
      · exact ld_glob (X := X.suite a ((a, oe3) :: (X.pn ++ pins))) S3 hg hm q hdbg
      · exact ld_blt (X := X.suite a ((a, oe3) :: (X.pn ++ pins))) S3 hg hm hv q hnn hdbg
    have LT : PySem.W.Looks (model X.prog X.w) h3 (typeOf (.ref a)) cls := fun A Q E s k q => wpAny_typeOf_ref (k _ _ he3) (by rw [hz3.1]; exact q)
    have go : ∀ {hds' : List ExceptHandler} {l' : List (Value × (Addr → Value → Option Addr → TS))}, Hds X hds' l' → wMany X.K Wout D l' cls d σ' H' →
        wpAny (model X.prog X.w) X.A (handleBy (.ref a) X.env hds') (SP X pins D) X.xe { s' with heap := h3 } := by
      intro hds' l' hk
      induction hk with
      | nil =>
        intro w
        refine wpAny_handleBy_nil ?_
        obtain ⟨k1, k2, k3, oe, vs, T, oT, ts', he, hz, hd, h1, hr⟩ := id fl3
        unfold PySem.passOn
        refine wpAny_bind (wpAny_field he hd h1 ?_)
        rw [if_neg (show ¬ ((Value.ref T == Value.none) = true) from by simp)]
        have fin : wpAny (model X.prog X.w) X.A (setFlight (.ref a) X.env.frame) (fun _ s4 => wpAny (model X.prog X.w) X.A (throw (.ref a) : Sem Flow) (SP X pins D) X.xe s4) X.xe { s' with heap := h3 } := by
          rw [hf]
          refine HandSPX.setFlight_upZ fl3 fun h4 hh4 up4 => wpAny_throw (tk _ _ ?_)
          exact ⟨a, B, sI, pins, σ', H', cls, d, rfl, J, nb, (up.trans up3).trans up4, .inr (.inr (by rw [hs]; exact hh4)), na, os, ag, w⟩
        first
          | exact wpAny_bind (wpAny_pure (wpAny_bind fin))
          | exact wpAny_bind fin
      | @plain x c ts b₀ suite np pos' hds2 l2 hc hsu r ih =>
        intro w
        obtain ⟨b, hb1, hyes, hno⟩ := w
        refine wpAny_handleBy_cons (codeAny_handlers_test ?_) (by intro q; cases q)
        have LM := PySem.W.exm_one (M := model X.prog X.w) (J3.kIn) LT hb1
        refine ask hc (LM.here ?_)
        cases b with
        | true =>
          refine codeAny_handlers_suite ?_
          refine HandSPX.lands_againZ fl3 fun h4 fl4 up4 => ?_
          have J4 : Inv X pins σ' H' { s' with heap := h4 } := J.landed nb fl4.1 ((up.trans up3).trans up4) os ag
          obtain ⟨oe4, vs4, he4, hz4, hd4⟩ := fl4.there
          have S4 := J4.suite he4 hd4 na nL nF
          refine wpAny_mono ((hsu a oe4 cls d (X.pn ++ pins) hz4 ⟨_, hd4⟩).run [] _ _ H' _ S4 (hyes rfl a na)) (fun f s6 hsp => ?_) (fun _ _ z => False.elim z)
          cases f with
          | next =>
            obtain ⟨σ6, H6, S6, q6⟩ := hsp
            exact ⟨_, _, S6.unsuite ok, q6⟩
          | brk =>
            obtain ⟨σ6, H6, S6, q6⟩ := hsp
            exact ⟨_, _, S6.unsuite ok, q6⟩
          | cont =>
            obtain ⟨σ6, H6, S6, q6⟩ := hsp
            exact ⟨_, _, S6.unsuite ok, q6⟩
          | ret u =>
            obtain ⟨v6, σ6, H6, S6, r6, q6⟩ := hsp
            exact ⟨_, _, _, S6.unsuite ok, r6, q6⟩
        | false =>
          show wpAny _ X.A (handleBy (.ref a) X.env hds2) _ _ _
          exact ih (hno rfl)
      | @named x n i c ts b₀ suite np pos' hds2 l2 hc hi hln hsu r ih =>
        intro w
        obtain ⟨b, hb1, hyes, hno⟩ := w
        refine wpAny_handleBy_cons (codeAny_handlers_test ?_) (by intro q; cases q)
        have LM := PySem.W.exm_one (M := model X.prog X.w) (J3.kIn) LT hb1
        refine ask hc (LM.here ?_)
        have hloc : L2.Loc X.env.scope n := .inl hln
        cases b with
        | true =>
          refine codeAny_handlers_suite_as ?_
          refine HandSPX.lands_againZ fl3 fun h4 fl4 up4 => ?_
          have J4 : Inv X pins σ' H' { s' with heap := h4 } := J.landed nb fl4.1 ((up.trans up3).trans up4) os ag
          obtain ⟨oe4, vs4, he4, hz4, hd4⟩ := fl4.there
          have S4 := J4.suite he4 hd4 na nL nF
          refine store_ok (X := X.suite a ((a, oe4) :: (X.pn ++ pins))) (v := .ref a) S4 hN hi hloc rfl (fun s5 S5 => ?_) (.inr hln)
          refine wpAny_mono ((hsu a oe4 cls d (X.pn ++ pins) hz4 ⟨_, hd4⟩).run [] s5 _ H' _ S5 (hyes rfl a na)) (fun f s6 hsp => ?_) (fun _ _ z => False.elim z)
          have end_ : ∀ {σ6 : L2.St} {H6 : Hp} {Q : Shared → Prop}, Inv (X.suite a ((a, oe4) :: (X.pn ++ pins))) [] σ6 H6 s6 → (∀ s7, Inv X pins (σ6.set i none) H6 s7 → Q s7) →
              wpAny (model X.prog X.w) X.A (do bindName X.env n .none; unbindBehindTheSuite X.env n pos') (fun _ s7 => Q s7) X.xe s6 := fun {σ6 H6 Q} S6 hq => gone_ok (S6.unsuite ok) hN hi hln hq
          cases f with
          | next =>
            obtain ⟨σ6, H6, S6, q6⟩ := hsp
            exact end_ S6 fun s7 J7 => ⟨_, _, J7, q6⟩
          | brk =>
            obtain ⟨σ6, H6, S6, q6⟩ := hsp
            exact end_ S6 fun s7 J7 => ⟨_, _, J7, q6⟩
          | cont =>
            obtain ⟨σ6, H6, S6, q6⟩ := hsp
            exact end_ S6 fun s7 J7 => ⟨_, _, J7, q6⟩
          | ret u =>
            obtain ⟨v6, σ6, H6, S6, r6, q6⟩ := hsp
            exact end_ S6 fun s7 J7 => ⟨_, _, _, J7, r6, q6⟩
        | false =>
          show wpAny _ X.A (handleBy (.ref a) X.env hds2) _ _ _
          exact ih (hno rfl)
    exact go hh w
  · cases f with
    | next =>
      obtain ⟨σ', H', J', q⟩ := hsp
      exact wpAny_execs_nil ⟨σ', H', J'.ofTry ok, q⟩
    | brk =>
      obtain ⟨σ', H', J', q⟩ := hsp
      exact ⟨σ', H', J'.ofTry ok, q⟩
    | cont =>
      obtain ⟨σ', H', J', q⟩ := hsp
      exact ⟨σ', H', J'.ofTry ok, q⟩
    | ret u =>
      obtain ⟨v, σ', H', J', r, q⟩ := hsp
      exact ⟨v, σ', H', J'.ofTry ok, r, q⟩
end
end Rf


set_option Elab.async false
set_option linter.all false
set_option maxRecDepth 100000
set_option maxHeartbeats 2000000
/-! S15: methods of built-in types. -/
namespace Rf
open PySem PySem.Spec PyProof.Rows L2
def bmT : Bm → String
  | .append => "list"
  | .extend => "list"
  | .pop => "list"
  | .get => "dict"
  | _ => "str"
/-- what the method's call comes to, by values -/
def rB (K : PySem.W.Frag) (M : Nm) (b : Bm) : V → List V → Hp → VK → Prop := fun x xs H Q => ∃ ι G d ds, Rep K M ι G H ∧ DR K H ι d x ∧ DRs K H ι ds xs ∧ (bmF b d ds G).wp (Kt K M ι H Q) NoE
section
variable {X : Cx} {M : Nm}
theorem mb_append : MtR X "list.append" (rB X.K M .append) := by
  intro pins s σ H x xs v us Q I rx rxs ⟨ι, G, d, ds, R, rd, rds, w⟩
  cases d with
  | ref n =>
    rcases list_cases ds with rfl | ⟨e, rfl⟩ | ⟨a, b, rfl⟩ | ⟨a, b, c, r, rfl⟩
    · exact w.elim
    · obtain ⟨y, rfl, ry⟩ := rds.one
      simp only [bmF] at w
      split at w
      · rename_i l hl
        obtain ⟨hz, w⟩ := wp_if w
        obtain ⟨p, vs, e1, hp, hvs, rvs⟩ := R.lst hl rd
        have hz : l.length < small := of_decide_eq_true hz
        have x2 : Ext ι ι H (upd H p (.lst (vs ++ [y]))) := Ext.set (List.mem_of_getElem? hp)
        refine mt_append pins s σ H x _ v us Q I rx rxs ⟨p, vs, y, e1, rfl, hvs, ?_, ?_⟩
        · rw [← rvs.length]; exact Nat.lt_of_lt_of_le hz small_le
        · exact Kt.set w R hp ⟨_, upd_same, (rvs.append (show DRs X.K H ι [_] [y] from ⟨ry, trivial⟩)).ext R x2⟩ rfl
      · exact w.elim
    · exact w.elim
    · exact w.elim
  | _ => exact w.elim
theorem mb_extend : MtR X "list.extend" (rB X.K M .extend) := by
  intro pins s σ H x xs v us Q I rx rxs ⟨ι, G, d, ds, R, rd, rds, w⟩
  cases d with
  | ref n =>
    rcases list_cases ds with rfl | ⟨e, rfl⟩ | ⟨a, b, rfl⟩ | ⟨a, b, c, r, rfl⟩
    · exact w.elim
    · obtain ⟨y, rfl, ry⟩ := rds.one
      cases e with
      | ref m =>
        simp only [bmF] at w
        split at w
        · rename_i l l2 hl hl2
          obtain ⟨hz, w⟩ := wp_if w
          obtain ⟨p, vs, e1, hp, hvs, rvs⟩ := R.lst hl rd
          obtain ⟨q, us2, e2, hq, hus, rus⟩ := R.lst hl2 ry
          have hz : l.length + l2.length ≤ small := of_decide_eq_true hz
          have x2 : Ext ι ι H (upd H p (.lst (vs ++ us2))) := Ext.set (List.mem_of_getElem? hp)
          refine mt_extend pins s σ H x _ v us Q I rx rxs ⟨p, q, vs, us2, e1, by rw [e2], hvs, hus, ?_, ?_⟩
          · rw [← rvs.length, ← rus.length]; exact le_small hz
          · exact Kt.set w R hp ⟨_, upd_same, (rvs.append rus).ext R x2⟩ rfl
        · exact w.elim
      | _ => exact w.elim
    · cases a <;> exact w.elim
    · cases a <;> exact w.elim
  | _ => exact w.elim
theorem DRs.dropLast {K : PySem.W.Frag} {ι : List Addr} {H : Hp} : ∀ {ds : List D} {vs : List V}, DRs K H ι ds vs → DRs K H ι ds.dropLast vs.dropLast
  | [], [], _ => trivial
  | [_], [_], _ => trivial
  | _ :: d :: ds, _ :: v :: vs, h => ⟨h.1, DRs.dropLast (ds := d :: ds) (vs := v :: vs) h.2⟩
  | [], _ :: _, h => h.elim
  | _ :: _, [], h => h.elim
  | [_], _ :: _ :: _, h => h.2.elim
  | _ :: _ :: _, [_], h => h.2.elim
theorem mb_pop : MtR X "list.pop" (rB X.K M .pop) := by
  intro pins s σ H x xs v us Q I rx rxs ⟨ι, G, d, ds, R, rd, rds, w⟩
  cases d with
  | ref n =>
    cases ds with
    | cons a r => exact w.elim
    | nil =>
      cases xs with
      | cons _ _ => exact rds.elim
      | nil =>
        simp only [bmF] at w
        split at w
        · rename_i l hl
          split at w
          · rename_i d0 hd0
            obtain ⟨p, vs, e1, hp, hvs, rvs⟩ := R.lst hl rd
            rw [List.getLast?_eq_getElem?] at hd0
            obtain ⟨y, hy, ry⟩ := rvs.get hd0
            have x2 : Ext ι ι H (upd H p (.lst vs.dropLast)) := Ext.set (List.mem_of_getElem? hp)
            refine mt_pop pins s σ H x _ v us Q I rx rxs ⟨p, vs, y, e1, rfl, hvs, by rw [← rvs.length]; exact hy, ?_⟩
            exact Kt.set w R hp ⟨_, upd_same, rvs.dropLast.ext R x2⟩ (ry.ext R x2)
          · exact w.elim
        · exact w.elim
  | _ => exact w.elim
theorem mb_get (hu : X.A.units + 1 < cLine) : MtR X "dict.get" (rB X.K M .get) := by
  intro pins s σ H x xs v us Q I rx rxs ⟨ι, G, d, ds, R, rd, rds, w⟩
  cases d with
  | ref n =>
    rcases list_cases ds with rfl | ⟨e, rfl⟩ | ⟨a, b, rfl⟩ | ⟨a, b, c, r, rfl⟩
    · exact w.elim
    · obtain ⟨y, rfl, ry⟩ := rds.one
      obtain ⟨u, rfl, ru⟩ := vals1 rxs
      simp only [bmF] at w
      split at w
      · rename_i l hl
        obtain ⟨hk, w⟩ := wp_if w
        obtain ⟨p, vs, e1, hp, hvs, rvs⟩ := R.dk hl rd
        subst e1
        obtain rfl : v = Value.ref p := rx
        obtain ⟨ky, rfl⟩ := key_of_flat hk ry
        refine d_get1 hu I (.k hvs) ru fun w' s' I' rw' => ?_
        have q := rvs.find ry
        cases hf : dkFind e l with
        | none =>
          rw [hf] at q w
          have q : valV vs ky = none := q
          rw [q] at rw'
          exact ⟨.non, H, I', rw', Kt.here w R rfl⟩
        | some d0 =>
          rw [hf] at q w
          obtain ⟨v0, q1, q2⟩ := q
          rw [q1] at rw'
          exact ⟨v0, H, I', rw', Kt.here w R q2⟩
      · exact w.elim
    · obtain ⟨y, z, rfl, ry, rz⟩ := rds.two
      obtain ⟨u, u2, rfl, ru, ru2⟩ := vals2 rxs
      simp only [bmF] at w
      split at w
      · rename_i l hl
        obtain ⟨hk, w⟩ := wp_if w
        obtain ⟨p, vs, e1, hp, hvs, rvs⟩ := R.dk hl rd
        subst e1
        obtain rfl : v = Value.ref p := rx
        obtain ⟨ky, rfl⟩ := key_of_flat hk ry
        refine d_get2 hu I (.k hvs) ru ru2 fun w' s' I' rw' => ?_
        have q := rvs.find ry
        cases hf : dkFind a l with
        | none =>
          rw [hf] at q w
          have q : valV vs ky = none := q
          rw [q] at rw'
          exact ⟨z, H, I', rw', Kt.here w R rz⟩
        | some d0 =>
          rw [hf] at q w
          obtain ⟨v0, q1, q2⟩ := q
          rw [q1] at rw'
          exact ⟨v0, H, I', rw', Kt.here w R q2⟩
      · exact w.elim
    · exact w.elim
  | _ => exact w.elim
theorem strs_r {K : PySem.W.Frag} {ι : List Addr} {H : Hp} : ∀ ys : List Str, DRs K H ι (ys.map fun s => .str s.cps.toList) (ys.map V.str)
  | [] => trivial
  | _ :: ys => ⟨rfl, strs_r ys⟩
theorem mb_split : MtR X "str.split" (rB X.K M .split) := by
  intro pins s σ H x xs v us Q I rx rxs ⟨ι, G, d, ds, R, rd, rds, w⟩
  cases d with
  | str z =>
    rcases list_cases ds with rfl | ⟨e, rfl⟩ | ⟨a, b, rfl⟩ | ⟨a, b, c, r, rfl⟩
    · exact w.elim
    · obtain ⟨y, rfl, ry⟩ := rds.one
      cases e with
      | str b =>
        obtain ⟨hz, w⟩ := wp_if w
        obtain ⟨h1, h2⟩ := and2 hz
        have h2 : z.length ≤ small := of_decide_eq_true h2
        have h3 : small + 2 ≤ sizeLine := by rw [sizeLine_eq]; decide
        refine mt_split pins s σ H x _ v us Q I rx rxs ⟨_, _, rd, by rw [show y = _ from ry], by simpa [Str.length] using h1, by show z.toArray.size + 2 ≤ sizeLine; simp; omega, fun p hp => ?_⟩
        exact Kt.lst w R (strs_r _) hp
      | _ => exact w.elim
    · cases a <;> exact w.elim
    · cases a <;> exact w.elim
  | _ => exact w.elim
theorem strsOf_ok {K : PySem.W.Frag} {ι : List Addr} {H : Hp} : ∀ {ds : List D} {vs : List V} {bs : List (List Nat)}, strsOf ds = some bs → DRs K H ι ds vs → vs = (bs.map fun c => (⟨c.toArray⟩ : Str)).map V.str
  | [], [], bs, h, _ => by cases h; rfl
  | .str b :: r, v :: vs, bs, h, q => by
    obtain ⟨cs, hc, rfl⟩ := Option.map_eq_some_iff.mp (show (strsOf r).map (b :: ·) = some bs from h)
    rw [strsOf_ok hc q.2, show v = _ from q.1]; rfl
  | [], _ :: _, _, _, q => q.elim
  | _ :: _, [], _, _, q => q.elim
  | .non :: _, _ :: _, _, h, _ | .bl _ :: _, _ :: _, _, h, _ | .int _ :: _, _ :: _, _, h, _ | .tup _ :: _, _ :: _, _, h, _ | .cl _ :: _, _ :: _, _, h, _ | .ref _ :: _, _ :: _, _, h, _ => by cases h
theorem mb_join : MtR X "str.join" (rB X.K M .join) := by
  intro pins s σ H x xs v us Q I rx rxs ⟨ι, G, d, ds, R, rd, rds, w⟩
  cases d with
  | str z =>
    rcases list_cases ds with rfl | ⟨e, rfl⟩ | ⟨a, b, rfl⟩ | ⟨a, b, c, r, rfl⟩
    · exact w.elim
    · obtain ⟨y, rfl, ry⟩ := rds.one
      simp only [bmF] at w
      split at w
      · rename_i ss e
        obtain ⟨l, hl, hs⟩ := Option.bind_eq_some_iff.mp e
        obtain ⟨hz, w⟩ := wp_if w
        obtain ⟨p, vs, e1, sq, rv⟩ := R.seq hl ry
        have hv := strsOf_ok hs rv
        rw [hv] at sq
        have hz : (ss.map List.length).sum + ss.length * z.length ≤ small := of_decide_eq_true hz
        have hsm : small ≤ 16777216 := by decide
        refine mt_join pins s σ H x _ v us Q I rx rxs ⟨_, p, _, rd, by rw [e1], sq, ?_, Kt.here w R ?_⟩
        · have e2 : (List.map (fun x => x.length) (ss.map fun c => (⟨c.toArray⟩ : Str))) = ss.map List.length := by
            rw [List.map_map]; apply List.map_congr_left; intro c _; simp [Str.length]
          rw [e2]
          simp only [List.length_map]
          have e3 : (⟨z.toArray⟩ : Str).length = z.length := by simp [Str.length]
          rw [e3]
          omega
        · show _ = _
          congr 1
          rw [TL.join_eq]
          have e4 := TL.tl_join ⟨z.toArray⟩ (ss.map fun c => (⟨c.toArray⟩ : Str))
          have e5 : (ss.map fun c => (⟨c.toArray⟩ : Str)).map TL.tl = ss := by
            rw [List.map_map]
            conv => rhs; rw [← List.map_id ss]
            apply List.map_congr_left; intro c _; simp [TL.tl]
          rw [e5] at e4
          have e6 : TL.tl (⟨z.toArray⟩ : Str) = z := by simp [TL.tl]
          rw [e6] at e4
          have : ∀ s : Str, (⟨(TL.tl s).toArray⟩ : Str) = s := fun s => by cases s; simp [TL.tl]
          rw [← this (Str.join _ _), e4]
      · exact w.elim
    · exact w.elim
    · exact w.elim
  | _ => exact w.elim
theorem mb_upper : MtR X "str.upper" (rB X.K M .upper) := by
  intro pins s σ H x xs v us Q I rx rxs ⟨ι, G, d, ds, R, rd, rds, w⟩
  cases d with
  | str z =>
    cases ds with
    | cons a r => exact w.elim
    | nil =>
      cases xs with
      | cons _ _ => exact rds.elim
      | nil =>
        obtain ⟨hz, w⟩ := wp_if w
        have hz : z.length ≤ small := of_decide_eq_true hz
        have hsm : small ≤ 5592405 := by decide
        exact mt_upper pins s σ H x _ v us Q I rx rxs ⟨_, rd, rfl, by show z.toArray.size ≤ 5592405; simp; omega, Kt.here w R (by show _ = _; rfl)⟩
  | _ => exact w.elim
end
section
variable {X : Cx} {M : Nm} {C : EC} {O : Ob} {sx : Sx} {E : XK} {k : Nat} {a b c e : Expr} {f g h' : LL → GG → Res D} {pos p p2 apos : Pos} {fs : LL → GG → Res (List D)} {es : List Expr} {x : Str}
theorem tyv_of {ι : List Addr} {G : GG} {H : Hp} {b : Bm} {d : D} {v : V} (R : Rep X.K M ι G H) (rd : DR X.K H ι d v) (h : rcvB b d G = true) : L2.tyV X.K (bmT b) v H := by
  cases d with
  | ref n =>
    have ls : (getL G n).isSome = true → L2.tyV X.K "list" v H := fun h => by
      obtain ⟨l, hl⟩ := Option.isSome_iff_exists.mp h
      obtain ⟨p, vs, e1, hp, hvs, rvs⟩ := R.lst hl rd
      subst e1
      exact .inl ⟨rfl, vs, .of hvs⟩
    cases b with
    | append => exact ls h
    | extend => exact ls h
    | pop => exact ls h
    | get =>
      obtain ⟨l, hl⟩ := Option.isSome_iff_exists.mp (show (getK G n).isSome = true from h)
      obtain ⟨p, vs, e1, hp, hvs, rvs⟩ := R.dk hl rd
      subst e1
      exact .inr (.inr (.inl ⟨rfl, .inl ⟨vs, hvs⟩⟩))
    | _ => cases h
  | str z =>
    cases (show v = _ from rd)
    cases b <;> first | rfl | cases h
  | _ => cases b <;> cases h
theorem i_bm {b : Bm} {σ : L2.St} {H : Hp} {Q : VK} (w : tE X.K M E (fun L G => (f L G).bind fun x G => bmK b (fs L) x G) σ H Q) : tBM X.K (bmT b) (rB X.K M b) (tE X.K M E f) (tEs X.K M E fs) σ H Q := by
  obtain ⟨ι, L, G, l, R, w⟩ := w
  refine tE_bind go_t l R w fun ι1 H1 v d G1 x1 l1 R1 r1 w1 => ?_
  obtain ⟨hr, w1⟩ := wp_if w1
  exact ⟨tyv_of R1 r1 hr, tEs_bind go_t l1 R1 w1 fun ι2 H2 vs ds G2 x2 l2 R2 r2 w2 => ⟨ι2, G2, d, ds, R2, r1.ext R1 x2, r2, toNoE w2⟩⟩
theorem few_of {cpos : Pos} {e : Expr} {es : List Expr} {env : Env} (hs : (e :: es).all notStar = true) (hn : (e :: es).length < 29) : ((backTo cpos (starEach (e :: es) env)).all (fun x => !x.1) && (backToKw cpos (keywordEach [] env)).all (fun x => x.1.isSome)
      && decide ((e :: es).length + ([] : List Keyword).length + (if ([] : List Keyword).isEmpty then 0 else 1) < 30)) = true := by
  rw [allN_of hs]
  simp only [Bool.true_and, Bool.and_eq_true, decide_eq_true_eq]
  exact ⟨rfl, by simp only [List.length_nil, List.isEmpty_nil, if_true]; omega⟩
theorem e_bm {b : Bm} {name : Str} {id : String} (pa : PlainAttrs (bmT b)) (slot : Slot (bmT b) name id) (hty : typeOf (.builtin id) = pure (.type "method_descriptor")) (hm : MtR X id (rB X.K M b)) (ha : PE X a (tE X.K M E f)) (hb : baseB a = true) (hl : (apos.endLine == pos.line) = true)
    (hA : AJ X M E es fs) (hn : es.length < 29) : PE X (.Call (.Attribute a name apos) es [] pos) (tE X.K M E fun L G => (f L G).bind fun x G => bmK b (fs L) x G) := by
  cases es with
  | nil =>
    cases hA.nl rfl
    refine (pe_bm0 pa slot hty hm ha (base_of hb) hl).imp fun σ H Q w => ?_
    obtain ⟨ι, L, G, l, R, w⟩ := i_bm w
    refine ⟨ι, L, G, l, R, Res.wp_mono (fun d G1 w1 ι1 H1 v x1 R1 r1 => ?_) (fun _ _ _ h => h) w⟩
    obtain ⟨t, q⟩ := w1 ι1 H1 v x1 R1 r1
    exact ⟨t, nil_of q⟩
  | cons e es =>
    have hs := hA.st
    have hs2 := hs
    simp only [List.all_cons, Bool.and_eq_true] at hs2
    exact (pe_bm pa slot hty hm ha hA.pa (base_of hb) (few_of hs hn) hl (star_of hs2.1) (plain_of hs2.2)).imp fun _ _ _ => i_bm
end
end Rf


set_option Elab.async false
set_option linter.all false
set_option maxRecDepth 100000
set_option maxHeartbeats 2000000
/-! S16: what except suites return. -/
namespace Rf
open PySem PySem.Spec PyProof.Rows L2
section
variable {K : PySem.W.Frag} {M : Nm} {ι ι' : List Addr} {G : GG} {H H' : Hp}
theorem XD.ext {fs : List (Nat × D)} {dd : Option Addr} (R : Rep K M ι G H) (x : Ext ι ι' H H') (h : XD K M H ι fs dd) : XD K M H' ι' fs dd := by
  rcases h with h | ⟨d, xs, e1, e2, e3⟩
  · exact .inl h
  · exact .inr ⟨d, xs, e1, x.frame d _ e2 (R.not e2 fun z => z) (fun _ => nofun), e3.ext R x⟩
theorem XR.ext {c : Nat} {fs : List (Nat × D)} {cls : Value} {dd : Option Addr} (R : Rep K M ι G H) (x : Ext ι ι' H H') (h : XR K M H ι c fs cls dd) : XR K M H' ι' c fs cls dd := ⟨h.1, h.2.ext R x⟩
/-- an except suite's expression: the exception stands at a (slot ik), its class cls, its dict d -/
def tH (K : PySem.W.Frag) (M : Nm) (ik : Option Nat) (a : Addr) (cls : Value) (d : Option Addr) (f : Nat → List (Nat × D) → GG → Res D) : TE := fun σ H Q => ∃ c fs ι G, (∀ i, ik = some i → σ[i]? = some (some (V.ref a))) ∧ XR K M H ι c fs cls d ∧ Rep K M ι G H ∧
  (f c fs G).wp (Kt K M ι H Q) NoE
def tHs (K : PySem.W.Frag) (M : Nm) (ik : Option Nat) (a : Addr) (cls : Value) (d : Option Addr) (f : Nat → List (Nat × D) → GG → Res (List D)) : TA := fun σ H Q => ∃ c fs ι G, (∀ i, ik = some i → σ[i]? = some (some (V.ref a))) ∧ XR K M H ι c fs cls d ∧ Rep K M ι G H ∧
  (f c fs G).wp (Ks K M ι H Q) NoE
theorem tH_bind {α : Type} {P : List Addr → Hp → α → GG → Prop} {ik : Option Nat} {a : Addr} {cls : Value} {d : Option Addr} {f : Nat → List (Nat × D) → GG → Res D} {k : D → GG → Res α} {Q1 : VK} {σ : L2.St} {c : Nat} {fs : List (Nat × D)} (g : Go P) (hi : ∀ i, ik = some i → σ[i]? = some (some (V.ref a)))
    (X : XR K M H ι c fs cls d) (R : Rep K M ι G H) (h : ((f c fs G).bind k).wp (P ι H) NoE)
    (hk : ∀ ι1 H1 v e G1, Ext ι ι1 H H1 → XR K M H1 ι1 c fs cls d → Rep K M ι1 G1 H1 → DR K H1 ι1 e v → (k e G1).wp (P ι1 H1) NoE → Q1 v H1) : tH K M ik a cls d f σ H Q1 :=
  ⟨c, fs, ι, G, hi, X, R, Res.wp_mono (fun e G1 h ι1 H1 v x R1 r => hk ι1 H1 v e G1 x (X.ext R x) R1 r (Res.wp_mono (fun a G2 h => g _ _ _ _ _ _ x h) (fun _ _ _ h => h) h)) (fun _ _ _ h => h) (Res.wp_bind.mp h)⟩
theorem tHs_bind {α : Type} {P : List Addr → Hp → α → GG → Prop} {ik : Option Nat} {a : Addr} {cls : Value} {d : Option Addr} {f : Nat → List (Nat × D) → GG → Res (List D)} {k : List D → GG → Res α} {Q1 : List V → Hp → Prop} {σ : L2.St} {c : Nat} {fs : List (Nat × D)} (g : Go P) (hi : ∀ i, ik = some i → σ[i]? = some (some (V.ref a)))
    (X : XR K M H ι c fs cls d) (R : Rep K M ι G H) (h : ((f c fs G).bind k).wp (P ι H) NoE)
    (hk : ∀ ι1 H1 v e G1, Ext ι ι1 H H1 → XR K M H1 ι1 c fs cls d → Rep K M ι1 G1 H1 → DRs K H1 ι1 e v → (k e G1).wp (P ι1 H1) NoE → Q1 v H1) : tHs K M ik a cls d f σ H Q1 :=
  ⟨c, fs, ι, G, hi, X, R, Res.wp_mono (fun e G1 h ι1 H1 v x R1 r => hk ι1 H1 v e G1 x (X.ext R x) R1 r (Res.wp_mono (fun a G2 h => g _ _ _ _ _ _ x h) (fun _ _ _ h => h) h)) (fun _ _ _ h => h) (Res.wp_bind.mp h)⟩
end
section
variable {X Y : Cx} {M : Nm} {C : EC} {O : Ob} {sx : Sx} {ik : Option Nat} {aa : Addr} {oe : Obj} {pn : List (Addr × Obj)} {cls : Value} {dd : Option Addr} {a b e : Expr} {pos p p2 p3 : Pos} {f g : Nat → List (Nat × D) → GG → Res D} {fs : Nat → List (Nat × D) → GG → Res (List D)} {es : List Expr} {x : Str}
theorem h_lit {d : D} {v : V} (he : PE Y a (tC v)) (hd : ∀ H ι, DR Y.K H ι d v) : PE Y a (tH Y.K M ik aa cls dd fun _ _ G => .ok d G) :=
  he.imp fun σ H Q ⟨c, fs, ι, G, hi, XX, R, w⟩ => Kt.here w R (hd _ _)
theorem h_glob {n : Nat} {x : Str} (c : Cg Y M C O sx) (h : glB sx.sc x = true) (hx : x = M.g n) : PE Y (.Name x pos) (tH Y.K M ik aa cls dd fun _ _ G => ofO C.P.globs[n]? G) := by
  obtain ⟨h1, h2, h3⟩ := c.gl h
  refine ⟨fun pins s σ H Q I ⟨cc, fs, ι, G, hi, XX, R, w⟩ => ?_⟩
  obtain ⟨d, hd, q⟩ := wp_ofO w
  obtain ⟨u, v, e1, e2, e3⟩ := c.fx.glob n d hd
  exact (pe_glob (pos := pos) h1 (by rw [hx]; exact e1) e2 h2).run pins s σ H Q I (Kt.here q R (e3 _ _))
theorem h_nil : PA Y [] (tHs Y.K M ik aa cls dd fun _ _ G => .ok [] G) := pa_nil.imp fun σ H Q ⟨c, fs, ι, G, hi, XX, R, w⟩ => w ι H [] (Ext.refl _ _) R trivial
theorem h_cons (ha : PE Y a (tH Y.K M ik aa cls dd f)) (hr : PA Y es (tHs Y.K M ik aa cls dd fs)) (hs : notStar a = true) : PA Y (a :: es) (tHs Y.K M ik aa cls dd fun c xs G => (f c xs G).bind fun d G => (fs c xs G).bind fun ds G => .ok (d :: ds) G) :=
  (pa_cons ha hr (star_of hs)).imp fun σ H Q ⟨c, xs, ι, G, hi, XX, R, w⟩ => tH_bind go_s hi XX R w fun ι1 H1 v d G1 x1 X1 R1 r1 w1 => tHs_bind go_s hi X1 R1 w1 fun ι2 H2 vs ds G2 x2 X2 R2 r2 w2 =>
    w2 ι2 H2 (v :: vs) (Ext.refl _ _) R2 ⟨r1.ext R1 x2, r2⟩
theorem h_lst (h : PA Y es (tHs Y.K M ik aa cls dd fs)) : PE Y (.List es pos) (tH Y.K M ik aa cls dd fun c xs G => (fs c xs G).bind fun ds G => newL ds G) :=
  (pe_lst h).imp fun σ H Q ⟨c, xs, ι, G, hi, XX, R, w⟩ => tHs_bind go_t hi XX R w fun ι1 H1 vs ds G1 x1 X1 R1 r1 w1 => by
    obtain ⟨hz, w1⟩ := wp_if w1
    exact ⟨by rw [← r1.length]; exact le_small (by simpa using hz), fun p hp => Kt.lst w1 R1 r1 hp⟩
theorem h_tup {n : Nat} (h : PA Y es (tHs Y.K M ik aa cls dd fs)) : PE Y (.Tuple es n pos) (tH Y.K M ik aa cls dd fun c xs G => (fs c xs G).bind fun ds G => tupK ds G) :=
  (pe_tup h).imp fun σ H Q ⟨c, xs, ι, G, hi, XX, R, w⟩ => tHs_bind go_t hi XX R w fun ι1 H1 vs ds G1 x1 X1 R1 r1 w1 => by
    obtain ⟨hz, w1⟩ := wp_if w1
    exact ⟨by rw [← r1.length]; exact le_small (by simpa using hz), fun p hp => Kt.tup w1 R1 r1 hp⟩
theorem h_repr (c : Cg Y M C O sx) (hg : glB sx.sc "repr" = true) (ha : PE Y a (tH Y.K M ik aa cls dd f)) (hs : notStar a = true) : PE Y (.Call (.Name "repr" p) [a] [] pos) (tH Y.K M ik aa cls dd fun c xs G => ((f c xs G).bind fun d G => (Res.ok [] G : Res (List D)).bind fun ds G => .ok (d :: ds) G).bind fun ds G => bfF .repr ds G) := by
  obtain ⟨g1, g2, g3⟩ := c.gl hg
  refine (pe_callB (bf_repr (M := M) c.gd c.un) g1 (c.fx.blt _ (by decide)) (by rfl) (pa_cons ha pa_nil (star_of hs)) g3 g2 (star_of hs) rfl).imp fun σ H Q ⟨cc, xs, ι, G, hi, XX, R, w⟩ => ?_
  have w := Res.wp_bind.mp w
  exact tH_bind (P := fun ι H ds G => (bfF .repr ds G).wp (Kt Y.K M ι H Q) NoE) (fun _ _ _ _ _ _ x h => Res.wp_mono (fun _ _ h => Kt.go x h) (fun _ _ _ h => h) h) hi XX R w fun ι1 H1 v d G1 x1 X1 R1 r1 w1 => ⟨ι1, G1, [d], R1, ⟨r1, trivial⟩, w1⟩
/-- e.f, e the exception -/
theorem h_attr {n : Nat} {i : Nat} (c : Cg (X.suite aa ((aa, oe) :: pn)) M C O sx) (hz : Zc cls dd oe) (hf : ∃ vs, oe.data = .fields vs) (hx : nmB sx i x = true) (hik : ik = some i) :
    PE (X.suite aa ((aa, oe) :: pn)) (.Attribute (.Name x p) (M.a n) pos) (tH X.K M ik aa cls dd fun c fs G => exaK C.P n c fs G) := by
  obtain ⟨n1, n2, n3, n4⟩ := c.name hx
  refine ⟨fun pins s σ H Q I ⟨cc, fs, ι, G, hi, XX, R, w⟩ => ?_⟩
  obtain ⟨he, w⟩ := wp_if w
  obtain ⟨d, hd, q⟩ := wp_ofO w
  have hs := hi i hik
  refine attr_of (base_of (by rfl)) (thn ((pe_var (pos := p) n1 n2 n3 n4).run pins s σ H (fun v H1 => v = .ref aa ∧ H1 = H) I ⟨_, hs, rfl, rfl⟩) fun u s1 hh => ?_)
  obtain ⟨v, H1, I1, rx, ev, eH⟩ := hh
  subst ev
  rw [eH] at I1
  obtain rfl : u = Value.ref aa := rx
  obtain ⟨ec, xd⟩ := XX
  unfold excHas at he
  split at he
  · rename_i r hr
    split at he
    · rename_i gs hgs
      obtain ⟨T, _, _, _, _, _, hno⟩ := c.fx.xx.xf cc r gs hr hgs
      obtain ⟨hn, hno⟩ := hno n (by simpa using he)
      rcases xd with ⟨e0, _⟩ | ⟨d0, xs, ed, ea, rf⟩
      · rw [e0] at hd; cases hd
      · subst ed
        have l := rf.look c.fx.attN hn
        rw [hd] at l
        obtain ⟨v0, l, rv⟩ := l
        obtain ⟨ha, _⟩ := I1.pin (aa, oe) (List.mem_append_left _ List.mem_cons_self)
        obtain ⟨vs, hdd⟩ := hf
        have hx : ObjOk X.prog X.w H s1.heap d0 (.xd xs) := I1.hok d0 _ ea
        obtain ⟨mA, hns, hr2⟩ := hx
        obtain ⟨od, ho, hl⟩ := lookIn_ns hns
        obtain ⟨u, hu, ru⟩ := RelO.some_of (v := v0) (o := mA (M.a n)) (by rw [← l]; exact hr2 (M.a n))
        have J : PySem.W.InstAt s1.heap aa oe (He.ga X.K (M.c cc)) (some od) := ⟨ha, hz.1.trans ec, by unfold PySem.W.notCls; rw [hdd] <;> rfl, by rw [hz.2]; exact ho⟩
        exact HandSPX.exc_get I1.kIn J T.ga T.gg T.exC (PySem.W.findObj_own T.hdC hno rfl (by rw [hl, hu])) (handed_of ru) ⟨v0, H, I1.tok _, ru, Kt.here q R rv⟩
    · cases he
  · cases he
/-- isinstance(e, D), e the exception -/
theorem h_isa {d : Nat} {i : Nat} {x2 : Str} (c : Cg (X.suite aa ((aa, oe) :: pn)) M C O sx) (hz : Zc cls dd oe) (hf : ∃ vs, oe.data = .fields vs) (hx : nmB sx i x = true) (hik : ik = some i) (hg : glB sx.sc "isinstance" = true) (hgt : glB sx.sc x2 = true) (hx2 : x2 = M.c d) :
    PE (X.suite aa ((aa, oe) :: pn)) (.Call (.Name "isinstance" p) [.Name x p2, .Name x2 p3] [] pos) (tH X.K M ik aa cls dd fun c fs G => exiK C.P d c G) := by
  obtain ⟨n1, n2, n3, n4⟩ := c.name hx
  obtain ⟨g1, g2, g3⟩ := c.gl hg
  obtain ⟨t1, t2, t3⟩ := c.gl hgt
  refine ⟨fun pins s σ H Q I ⟨cc, fs, ι, G, hi, XX, R, w⟩ => ?_⟩
  obtain ⟨he, w⟩ := wp_if w
  obtain ⟨h1, h2⟩ := and2 he
  obtain ⟨r, gs, hr, hgs⟩ : ∃ r gs, C.P.cls[cc]? = some r ∧ r.exc = some gs := by
    unfold isExc at h1
    split at h1
    · rename_i r hr
      obtain ⟨gs, hgs⟩ := Option.isSome_iff_exists.mp h1
      exact ⟨r, gs, hr, hgs⟩
    · cases h1
  obtain ⟨r', gs', hr', hgs'⟩ : ∃ r gs, C.P.cls[d]? = some r ∧ r.exc = some gs := by
    unfold isExc at h2
    split at h2
    · rename_i r hr
      obtain ⟨gs, hgs⟩ := Option.isSome_iff_exists.mp h2
      exact ⟨r, gs, hr, hgs⟩
    · cases h2
  have hs := hi i hik
  have md : X.mg x2 = some (.ref (He.ga X.K (M.c d))) := by rw [hx2]; exact (c.fx.cls d r' hr').1
  obtain ⟨T, k1, k2, k3, k4, k5, _⟩ := c.fx.xx.xf cc r gs hr hgs
  have kit := c.fx.xx.kit cc d r gs hr hgs ⟨r', gs', hr', hgs'⟩
  have key : CallR (X.suite aa ((aa, oe) :: pn)) (.builtin "isinstance") (fun xs H1 Q => xs = [.ref aa, .ref (He.ga X.K (M.c d))] ∧ H1 = H ∧ Q (.bl (r.up.contains d)) H1) := by
    intro pins' s' σ' H1 xs us Q' I' rr ⟨ex, eH, q⟩
    subst ex
    rw [eH] at I' q
    obtain ⟨u1, u2, rfl, r1, r2⟩ := vals2 rr
    cases (show u1 = Value.ref aa from r1)
    cases (show u2 = Value.ref (He.ga X.K (M.c d)) from r2)
    obtain ⟨ha, _⟩ := I'.pin (aa, oe) (List.mem_append_left _ List.mem_cons_self)
    obtain ⟨vs, hdd⟩ := hf
    obtain ⟨ec, xd⟩ := XX
    have hod : ∃ od, (match dd with
      | some d => ∃ o, od = some o ∧ s'.heap.get? d = some o
      | none => od = none) := by
      rcases xd with ⟨_, e0⟩ | ⟨d0, xs, ed, ea, rf⟩
      · exact ⟨none, by rw [e0]⟩
      · subst ed
        obtain ⟨mA, hns, hr2⟩ := (show ObjOk X.prog X.w H s'.heap d0 (.xd xs) from I'.hok d0 _ ea)
        obtain ⟨od, ho, hl⟩ := lookIn_ns hns
        exact ⟨some od, od, rfl, ho⟩
    obtain ⟨od, hod⟩ := hod
    have J : PySem.W.InstAt s'.heap aa oe (He.ga X.K (M.c cc)) od := ⟨ha, hz.1.trans ec, by unfold PySem.W.notCls; rw [hdd] <;> rfl, by
      rw [hz.2]
      cases dd with
      | none =>
        have hod : od = none := hod
        subst hod
        exact trivial
      | some d0 =>
        obtain ⟨o, e1, e2⟩ := hod
        subst e1
        exact e2⟩
    exact PySem.W.kia_one (PySem.W.kitx_exc k1 T.ga T.gg T.exC k2 k3 k4 k5) I'.kIn J kit (fun z => nomatch z) fun tk => ⟨.bl (r.up.contains d), H, I'.tok tk, rfl, q⟩
  refine (pe_callB key g1 (c.fx.blt _ (by decide)) (by rfl) (pa_cons (pe_var n1 n2 n3 n4) (pa_cons (pe_glob (v := .ref (He.ga X.K (M.c d))) t1 md rfl t2) pa_nil)) g3 g2).run pins s σ H Q I ?_
  refine ⟨_, hs, rfl, rfl, ?_⟩
  have := clsOf_some hr
  rw [this] at w
  exact Kt.here w R rfl
end
end Rf


set_option Elab.async false
set_option linter.all false
set_option maxRecDepth 100000
set_option maxHeartbeats 2000000
/-! S17: the try statement. -/
namespace Rf
open PySem PySem.Spec PyProof.Rows L2
theorem wp_catch {α : Type} {P : α → GG → Prop} {E : Nat → List (Nat × D) → GG → Prop} {h : Nat → List (Nat × D) → GG → Res α} : ∀ {r : Res α}, (r.catch h).wp P E → r.wp P (fun c fs G => (h c fs G).wp P E)
  | .ok _ _, w => w
  | .exn _ _ _, w => w
  | .bad, w => w
  | .ask _ k, w => fun i hi => wp_catch (w i hi)
/-- what a clause's suite tells -/
def hf (C : EC) (b : PX) : Nat → List (Nat × D) → GG → Res D := fun c fs G => evX { C with ex := some (c, fs) } b [] G
/-- the clauses of a try and their texts -/
inductive HL (X : Cx) (M : Nm) (C : EC) : List ExceptHandler → List (Nat × Option Nat × PX) → Prop
  | nil : HL X M C [] []
  | plain {x : Str} {np p1 p2 : Pos} {he : Expr} {hc : Nat} {b : PX} {hds : List ExceptHandler} {l : List (Nat × Option Nat × PX)} (hn : Names X x (.ref (He.ga X.K (M.c hc))))
      (hs : ∀ (a : Addr) (oe : Obj) (cls : Value) (d : Option Addr) (pn : List (Addr × Obj)), Zc cls d oe → (∃ vs, oe.data = .fields vs) → PE (X.suite a ((a, oe) :: pn)) he (tH X.K M none a cls d (hf C b))) (r : HL X M C hds l) :
      HL X M C (.ExceptHandler (some (.Name x np)) none [.Return (some he) p1] p2 :: hds) ((hc, none, b) :: l)
  | named {x n : Str} {i : Nat} {np p1 p2 : Pos} {he : Expr} {hc : Nat} {b : PX} {hds : List ExceptHandler} {l : List (Nat × Option Nat × PX)} (hn : Names X x (.ref (He.ga X.K (M.c hc)))) (hi : X.N[i]? = some n) (hln : X.env.kindOf n = some .local)
      (hs : ∀ (a : Addr) (oe : Obj) (cls : Value) (d : Option Addr) (pn : List (Addr × Obj)), Zc cls d oe → (∃ vs, oe.data = .fields vs) → PE (X.suite a ((a, oe) :: pn)) he (tH X.K M (some i) a cls d (hf C b))) (r : HL X M C hds l) :
      HL X M C (.ExceptHandler (some (.Name x np)) (some n) [.Return (some he) p1] p2 :: hds) ((hc, some i, b) :: l)
section
variable {X : Cx} {M : Nm} {C : EC} {O : Ob} {sx : Sx} {E : XK} {k : Nat}
theorem isExc_some {P : Prg} {c : Nat} (h : isExc P c = true) : ∃ r gs, P.cls[c]? = some r ∧ r.exc = some gs := by
  unfold isExc at h
  split at h
  · rename_i r hr
    obtain ⟨gs, hgs⟩ := Option.isSome_iff_exists.mp h
    exact ⟨r, gs, hr, hgs⟩
  · cases h
theorem hl_ok (fx : Fx M C.P O X.K X.mg) {ι : List Addr} {H : Hp} {Dn : Ends} {L : LL} : ∀ {hds : List ExceptHandler} {l : List (Nat × Option Nat × PX)}, HL X M C hds l →
    ∃ q, Hds X hds q ∧ ∀ cls d (σ' : L2.St) H' ι' G' c fs, σ'.length = X.N.length → Ext ι ι' H H' → Rep X.K M ι' G' H' → XR X.K M H' ι' c fs cls d → (handle C L c fs G' l).wp (Ko X.K M ι H Dn) (Kx X.K M ι H E) →
      wMany X.K (fun cls d _ H => E cls d H) Dn q cls d σ' H' := by
  intro hds l h
  induction h with
  | nil =>
    refine ⟨[], .nil, fun cls d σ' H' ι' G' c fs hl x R XX w => ?_⟩
    exact (show Kx X.K M ι H E c fs G' from w) ι' H' cls d x R XX
  | @plain x np p1 p2 he hc b hds l hn hs r ih =>
    obtain ⟨q, h1, h2⟩ := ih
    refine ⟨_, .plain hn (fun a oe cls d pn hz hf => pss_one (ps_ret (hs a oe cls d pn hz hf))) h1, fun cls d σ' H' ι' G' c fs hl x R XX w => ?_⟩
    unfold handle at w
    split at w
    · exact w.elim
    · rename_i he
      have he : isExc C.P c = true ∧ isExc C.P hc = true := by simpa [Bool.and_eq_true] using he
      obtain ⟨r1, g1, e1, e2⟩ := isExc_some he.1
      have hm := fx.xx.exm c hc r1 g1 e1 e2 (isExc_some he.2)
      rw [clsOf_some e1] at w
      refine ⟨r1.up.contains hc, by rw [XX.1]; exact hm, fun hb a na => ?_, fun hb => ?_⟩
      · rw [hb, if_pos rfl] at w
        exact ⟨c, fs, ι', G', (fun i z => by cases z), XX, R, Res.wp_mono (fun d0 G2 w2 ι2 H2 v x2 R2 r2 => (show Ko X.K M ι H Dn (.rt d0) G2 from w2) ι2 H2 (x.trans x2) R2 v r2) (fun _ _ _ _ => trivial) (Res.wp_bind.mp w)⟩
      · rw [hb] at w
        exact h2 cls d σ' H' ι' G' c fs hl x R XX w
  | @named x n i np p1 p2 he hc b hds l hn hi hln hs r ih =>
    obtain ⟨q, h1, h2⟩ := ih
    refine ⟨_, .named hn hi hln (fun a oe cls d pn hz hf => pss_one (ps_ret (hs a oe cls d pn hz hf))) h1, fun cls d σ' H' ι' G' c fs hl x R XX w => ?_⟩
    unfold handle at w
    split at w
    · exact w.elim
    · rename_i he
      have he : isExc C.P c = true ∧ isExc C.P hc = true := by simpa [Bool.and_eq_true] using he
      obtain ⟨r1, g1, e1, e2⟩ := isExc_some he.1
      have hm := fx.xx.exm c hc r1 g1 e1 e2 (isExc_some he.2)
      rw [clsOf_some e1] at w
      refine ⟨r1.up.contains hc, by rw [XX.1]; exact hm, fun hb a na => ?_, fun hb => ?_⟩
      · rw [hb, if_pos rfl] at w
        refine ⟨c, fs, ι', G', (fun j z => ?_), XX, R, Res.wp_mono (fun d0 G2 w2 ι2 H2 v x2 R2 r2 => (show Ko X.K M ι H Dn (.rt d0) G2 from w2) ι2 H2 (x.trans x2) R2 v r2) (fun _ _ _ _ => trivial) (Res.wp_bind.mp w)⟩
        cases z
        have : i < σ'.length := by rw [hl]; exact (List.getElem?_eq_some_iff.mp hi).1
        rw [List.getElem?_set_self this]
      · rw [hb] at w
        exact h2 cls d σ' H' ι' G' c fs hl x R XX w
/-- the context of a try's body -/
theorem Cs.tr (c : Cs X M C O sx E k) {W : WX} {pn : List (Addr × Obj)} {xe : Value → Shared → Prop} {E' : XK} (tk : Takes (X.tr pn xe) W) (hE : ∀ cls d (σ' : L2.St) H', σ'.length = X.N.length → E' cls d H' → W cls d σ' H') : Cd (X.tr pn xe) M C O sx E' k :=
  { fx := c.fx, N := c.N, sc := c.sc, fn := c.fn, nd := c.nd, un := c.un, gd := c.gd, fixS := c.fixS, dkx := c.dkx, clo := fun h i lam L hl pn xe => c.clo h i lam L hl pn xe, mkf := fun h => ⟨(c.mkf h).hM, (c.mkf h).tb⟩, fns := c.fns, xns := c.xns, calm := c.calm, hr := c.hr,
    px := fun _ σ H s e s' I h => tk e s' (XE.of_call I (fun cls d H' q => hE cls d σ H' I.len q) h) }
theorem s_try (c : Cs X M C O sx E k) {st : Stmt} {h₀ : ExceptHandler} {hds : List ExceptHandler} {l : List (Nat × Option Nat × PX)} {pos : Pos} {fb : LL → GG → Res Out}
    (hb : ∀ (pn : List (Addr × Obj)) (xe : Value → Shared → Prop) (E' : XK), Cd (X.tr pn xe) M C O sx E' k → L2.PS (X.tr pn xe) st (tS X.K M E' fb)) (hh : HL X M C (h₀ :: hds) l) :
    L2.PS X (.Try [st] (h₀ :: hds) [] [] pos) (tS X.K M E fun L G => (fb L G).catch fun cc fs G => handle C L cc fs G l) := by
  refine ⟨fun pins s σ H Dn I ⟨ι, L, G, lr, R, w⟩ => ?_⟩
  obtain ⟨q, h1, h2⟩ := hl_ok (E := E) (ι := ι) (H := H) (Dn := Dn) (L := L) c.fx hh
  refine (ps_try_any (tb := fun W Dn σ H => ∃ E' : XK, (∀ cls d (σ' : L2.St) H', σ'.length = X.N.length → E' cls d H' → W cls d σ' H') ∧ tS X.K M E' fb Dn σ H) c.hs c.hf c.nd c.tk (fun W pn xe tk po => ⟨fun pins s σ H Dn I ⟨E', hE, h⟩ => (pss_one (hb pn xe E' (c.tr tk hE))).run pins s σ H Dn I h⟩) h1).run pins s σ H Dn I ?_
  have w := wp_catch w
  exact ⟨fun cls d H' => ∃ ι' G' cc fs, Ext ι ι' H H' ∧ Rep X.K M ι' G' H' ∧ XR X.K M H' ι' cc fs cls d ∧ (handle C L cc fs G' l).wp (Ko X.K M ι H Dn) (Kx X.K M ι H E), fun cls d σ' H' hl ⟨ι', G', cc, fs, x, R', XX, w'⟩ => h2 cls d σ' H' ι' G' cc fs hl x R' XX w',
    ι, L, G, lr, R, Res.wp_mono (fun _ _ h => h) (fun cc fs G' h ι' H' cls d x R' XX => ⟨ι', G', cc, fs, x, R', XX, h⟩) w⟩
end
end Rf


set_option Elab.async false
set_option linter.all false
set_option maxRecDepth 100000
set_option maxHeartbeats 1000000
/-! B1: a def with plain parameters, every one given by place. -/
namespace Rf
open PySem PySem.Spec PyProof.Rows L2
def plainB (p : Arguments) (ps : List Str) : Bool := p.posonlyargs.isEmpty && decide (p.args.map (·.arg) = ps) && p.vararg.isNone && p.kwonlyargs.isEmpty && p.kwarg.isNone
theorem zip_lookup : ∀ {ps : List Str} {us : List Value}, ps.Nodup → us.length = ps.length → (ps.filterMap fun n => ((ps.zip us).lookup n).map fun v => (n, v)) = ps.zip us := by
  have key : ∀ {ps : List Str} {us : List Value} {l : List (Str × Value)}, ps.Nodup → us.length = ps.length → (∀ n ∈ ps, l.lookup n = none) →
      (ps.filterMap fun n => ((l ++ ps.zip us).lookup n).map fun v => (n, v)) = ps.zip us := by
    intro ps
    induction ps with
    | nil => intro us l _ _ _; rfl
    | cons p ps ih =>
      intro us l nd hl hn
      cases us with
      | nil => cases hl
      | cons u us =>
        have nd' := List.nodup_cons.mp nd
        have lk : ∀ {l : List (Str × Value)} {m : List (Str × Value)} {n : Str}, l.lookup n = none → (l ++ m).lookup n = m.lookup n := by
          intro l
          induction l with
          | nil => intro m n _; rfl
          | cons a l ih =>
            obtain ⟨k, v⟩ := a
            intro m n h
            simp only [List.cons_append, List.lookup_cons] at h ⊢
            split
            · rename_i e; rw [e] at h; cases h
            · rename_i e; rw [e] at h; exact ih h
        rw [List.filterMap_cons, lk (hn p (List.mem_cons_self ..))]
        have e1 : ((p :: ps).zip (u :: us)).lookup p = some u := by simp [List.lookup]
        rw [e1]
        simp only [Option.map_some, List.zip_cons_cons]
        congr 1
        have := ih (us := us) (l := l ++ [(p, u)]) nd'.2 (by simpa using hl) (fun n h => by
          rw [lk (hn n (List.mem_cons_of_mem _ h))]
          have ne : (n == p) = false := beq_eq_false_iff_ne.mpr fun e => nd'.1 (by rw [← e]; exact h)
          simp [List.lookup, ne])
        refine Eq.trans ?_ this
        congr 1
        funext n
        rw [List.append_assoc]
        rfl
  intro ps us nd hl
  exact key (l := []) nd hl fun _ _ => rfl
theorem bind_plain {fd : FuncData} {ps : List Str} {us : List Value} (hp : plainB fd.params ps = true) (nd : ps.Nodup) (hd : fd.defaults = .none) (hl : us.length = ps.length) : bindArgs fd ⟨us, []⟩ = pure (ps.zip us) := by
  cases hpar : fd.params with
  | mk posonly args va ko kd ka df =>
  rw [hpar] at hp
  simp only [plainB, Bool.and_eq_true, decide_eq_true_eq, List.isEmpty_iff, Option.isNone_iff_eq_none] at hp
  obtain ⟨⟨⟨⟨h1, h2⟩, h3⟩, h4⟩, h5⟩ := hp
  subst h1 h3 h4 h5
  unfold bindArgs
  rw [hpar, hd]
  have e0 : seqItems? .none = pure none := rfl
  simp only [List.map_nil, List.nil_append, h2, List.forIn_nil, pure_bind, e0, Option.getD_none, List.append_nil]
  have c1 : (decide (us.length > ps.length) && (none : Option Arg).isNone) = false := by simp [hl]
  have hz := zip_lookup nd hl
  have miss : ps.filter (fun n => ((ps.zip us).lookup n).isNone) = [] := by
    have len : (ps.zip us).length = ps.length := by simp [hl]
    have all : ∀ n ∈ ps, ((ps.zip us).lookup n).isSome = true := by
      intro n hn
      have key : ∀ {ps : List Str} {us : List Value}, us.length = ps.length → n ∈ ps → ((ps.zip us).lookup n).isSome = true := by
        intro ps
        induction ps with
        | nil => intro us _ h; cases h
        | cons p ps ih =>
          intro us hl h
          cases us with
          | nil => cases hl
          | cons u us =>
            rw [List.zip_cons_cons, List.lookup_cons]
            split
            · rfl
            · rename_i e
              refine ih (by simpa using hl) ?_
              rcases List.mem_cons.mp h with h | h
              · rw [h] at e; simp at e
              · exact h
      exact key hl hn
    refine List.filter_eq_nil_iff.mpr fun n hn => ?_
    have := all n hn
    cases h : (ps.zip us).lookup n with
    | none => rw [h] at this; cases this
    | some v => simp
  have t1 : ps.take (ps.length - (List.drop (([] : List Value).length - ps.length) ([] : List Value)).length) = ps := by simp
  have t2 : ps.drop (ps.length - (List.drop (([] : List Value).length - ps.length) ([] : List Value)).length) = [] := by simp
  rw [c1, t1, t2, miss]
  simp only [Bool.false_eq_true, if_false, List.isEmpty_nil, Bool.not_true, List.zip_nil_left, List.forIn_nil, pure_bind]
  rw [hz]
theorem binds_plain {K : PySem.W.Frag} {x qual : Str} {params : Arguments} {body : List Stmt} {scope : Scope} {f : Addr} {fd : FuncData} {ps : List Str} (F : FunD K x qual params body scope [] [] f fd) (hp : plainB params ps = true) (nd : ps.Nodup) : Binds K fd ps [] := by
  obtain ⟨oc, od, dV, kV, doc, pm, an, cdv, ct, osl, rfl, lk, hcd, hD, hK⟩ := F.ex
  rcases hD with ⟨_, rfl⟩ | ⟨e, _⟩
  · exact .all fun us hl => bind_plain hp nd rfl hl
  · exact absurd rfl e
end Rf


set_option Elab.async false
set_option linter.all false
set_option maxRecDepth 100000
set_option maxHeartbeats 2000000
/-! S18: behind a call the new objects that nobody holds are forgotten. -/
namespace Rf
open PySem PySem.Spec PyProof.Rows L2
section
variable {K : PySem.W.Frag} {M : Nm} {ι ι' τ : List Addr} {G : GG} {H H' : Hp}
mutual
theorem DR.low : ∀ {d : D} {v : V}, DR K H ι d v → d.low ι.length = true
  | .non, _, _ => rfl
  | .bl _, _, _ => rfl
  | .int _, _, _ => rfl
  | .str _, _, _ => rfl
  | .tup _, _, h => by
    obtain ⟨a, vs, e, s, r⟩ := h
    exact DRs.low r
  | .cl _, _, h => by
    obtain ⟨a, vs, e, s, r⟩ := h
    exact DRs.low r
  | .ref n, _, h => by
    obtain ⟨a, e, r⟩ := h
    exact decide_eq_true (List.getElem?_eq_some_iff.mp e).1
theorem DRs.low : ∀ {ds : List D} {vs : List V}, DRs K H ι ds vs → D.lows ι.length ds = true
  | [], [], _ => rfl
  | d :: ds, _ :: _, h => by
    show (d.low ι.length && D.lows ι.length ds) = true
    rw [DR.low h.1, DRs.low h.2]; rfl
  | [], _ :: _, h => h.elim
  | _ :: _, [], h => h.elim
end
mutual
theorem DR.less : ∀ {d : D} {v : V}, DR K H (ι ++ τ) d v → d.low ι.length = true → DR K H ι d v
  | .non, _, h, _ => h
  | .bl _, _, h, _ => h
  | .int _, _, h, _ => h
  | .str _, _, h, _ => h
  | .tup ds, _, h, l => by
    obtain ⟨a, vs, e, s, r⟩ := h
    exact ⟨a, vs, e, s, DRs.less r (show D.lows ι.length ds = true from l)⟩
  | .cl ds, _, h, l => by
    obtain ⟨a, vs, e, s, r⟩ := h
    exact ⟨a, vs, e, s, DRs.less r (show D.lows ι.length ds = true from l)⟩
  | .ref n, _, h, l => by
    obtain ⟨a, e, r⟩ := h
    have l : n < ι.length := of_decide_eq_true (show decide (n < ι.length) = true from l)
    exact ⟨a, by rw [List.getElem?_append_left l] at e; exact e, r⟩
theorem DRs.less : ∀ {ds : List D} {vs : List V}, DRs K H (ι ++ τ) ds vs → D.lows ι.length ds = true → DRs K H ι ds vs
  | [], [], _, _ => trivial
  | d :: ds, _ :: _, h, l => by
    obtain ⟨l1, l2⟩ := and2 (show (d.low ι.length && D.lows ι.length ds) = true from l)
    exact ⟨DR.less h.1 l1, DRs.less h.2 l2⟩
  | [], _ :: _, h, _ => h.elim
  | _ :: _, [], h, _ => h.elim
end
theorem FR.low : ∀ {fs : List (Nat × D)} {xs : List (Str × V)}, FR K M H ι fs xs → fsLow ι.length fs = true
  | [], [], _ => rfl
  | (_, d) :: fs, (_, _) :: _, h => by
    show (d.low ι.length && fsLow ι.length fs) = true
    rw [h.2.2.1.low, FR.low h.2.2.2]; rfl
  | [], _ :: _, h => h.elim
  | _ :: _, [], h => h.elim
theorem FR.less : ∀ {fs : List (Nat × D)} {xs : List (Str × V)}, FR K M H (ι ++ τ) fs xs → fsLow ι.length fs = true → FR K M H ι fs xs
  | [], [], _, _ => trivial
  | (_, d) :: fs, (_, _) :: _, h, l => by
    obtain ⟨l1, l2⟩ := and2 (show (d.low ι.length && fsLow ι.length fs) = true from l)
    exact ⟨h.1, h.2.1, h.2.2.1.less l1, FR.less h.2.2.2 l2⟩
  | [], _ :: _, h, _ => h.elim
  | _ :: _, [], h, _ => h.elim
theorem KR.two : ∀ {kvs : List (D × D)} {xs : List (Key × V)} {xs' : List (Key × V)}, KR K H ι kvs xs → KR K H' (ι ++ τ) kvs xs' → KR K H' ι kvs xs'
  | [], [], [], _, h => trivial
  | (_, _) :: _, (_, _) :: _, (_, _) :: _, a, h => ⟨h.1.less a.1.low, h.2.1.less a.2.1.low, KR.two a.2.2 h.2.2⟩
  | [], _ :: _, _, a, _ => a.elim
  | _ :: _, [], _, a, _ => a.elim
  | [], [], _ :: _, _, h => h.elim
  | (_, _) :: _, (_, _) :: _, [], _, h => h.elim
/-- the objects that were there, seen by the numbers that were there -/
theorem Rep.back (R : Rep K M ι G H) {υ : GG} (x : Ext ι ι' H H') (R' : Rep K M ι' (G ++ υ) H') : Ext ι ι H H' ∧ Rep K M ι G H' ∧ ∃ τ, ι' = ι ++ τ := by
  obtain ⟨τ, e, f⟩ := x.pre
  subst e
  refine ⟨⟨⟨[], by simp, by simp⟩, x.frame, x.mono⟩, ⟨R.len, R.nd, fun i a o h1 h2 => ?_, R'.tab⟩, τ, rfl⟩
  have hi : i < ι.length := (List.getElem?_eq_some_iff.mp h1).1
  have q := R'.obj i a o (by rw [List.getElem?_append_left hi]; exact h1) (by rw [List.getElem?_append_left (by rw [← R.len]; exact hi)]; exact h2)
  have p := R.obj i a o h1 h2
  cases o with
  | lst ds =>
    obtain ⟨vs, e1, r1⟩ := p
    obtain ⟨vs', e2, r2⟩ := q
    exact ⟨vs', e2, r2.less r1.low⟩
  | dk kvs =>
    obtain ⟨vs, e1, r1⟩ := p
    obtain ⟨vs', e2, r2⟩ := q
    exact ⟨vs', e2, KR.two r1 r2⟩
  | ins c fs =>
    obtain ⟨dx, vs, e1, r1⟩ := p
    obtain ⟨dx', vs', e2, r2⟩ := q
    exact ⟨dx', vs', e2, r2.less r1.low⟩
  | pool => exact q
theorem trim_ok {Q : VK} {E : XK} (R : Rep K M ι G H) : ∀ {r : Res D}, (trim G r).wp (Kt K M ι H Q) (Kx K M ι H E) → r.wp (Kt K M ι H Q) (Kx K M ι H E)
  | .ok d G', w => by
    unfold trim at w
    split at w
    · rename_i h
      obtain ⟨h1, h2⟩ := and2 h
      obtain ⟨υ, e⟩ := headB_ok h2
      subst e
      intro ι' H' v x R' r
      obtain ⟨x2, R2, τ, e⟩ := R.back x R'
      subst e
      exact (show Kt K M ι H Q d G from w) ι H' v x2 R2 (r.less (by rw [R.len]; exact h1))
    · exact w
  | .exn c fs G', w => by
    unfold trim at w
    split at w
    · rename_i h
      obtain ⟨h1, h2⟩ := and2 h
      obtain ⟨υ, e⟩ := headB_ok h2
      subst e
      intro ι' H' cls dd x R' r
      obtain ⟨x2, R2, τ, e⟩ := R.back x R'
      subst e
      refine (show Kx K M ι H E c fs G from w) ι H' cls dd x2 R2 ⟨r.1, ?_⟩
      rcases r.2 with ⟨q1, q2⟩ | ⟨d, xs, q1, q2, q3⟩
      · exact .inl ⟨q1, q2⟩
      · exact .inr ⟨d, xs, q1, q2, q3.less (by rw [R.len]; exact h1)⟩
    · exact w
  | .bad, w => w.elim
  | .ask n k, w => fun i hi => trim_ok R (w i hi)
end
end Rf


set_option Elab.async false
set_option linter.all false
set_option maxRecDepth 100000
set_option maxHeartbeats 2000000
/-! S19: lambdas with parameters (after HandS.Lambda's rules, which allow none). -/
namespace Rf
open PySem PySem.Spec PyProof.Rows L2 LamX
structure LamP (sc scope : Scope) (ps : List Str) : Prop where
  kind : scope.kind = .function
  co : scope.isCoroutine = false
  gen : scope.isGenerator = false
  own : ∀ y ∈ scope.names, y.2 ≠ .cell ∧ (y.2 = .local → y.1 ∈ ps)
  par : ∀ x ∈ ps, scope.names.lookup x = some .local
  free : ∀ y ∈ scope.names, y.2 = .free → sc.names.lookup y.1 = some .cell ∨ sc.names.lookup y.1 = some .free
def lamPB (sc scope : Scope) (ps : List Str) : Bool :=
  decide (scope.kind = .function) && !scope.isCoroutine && !scope.isGenerator && (scope.names.all fun y => !decide (y.2 = .cell) && (!decide (y.2 = .local) || decide (y.1 ∈ ps)) && (!decide (y.2 = .free) || decide (sc.names.lookup y.1 = some .cell) || decide (sc.names.lookup y.1 = some .free))) &&
    ps.all fun x => decide (scope.names.lookup x = some .local)
theorem lamP_by {sc scope : Scope} {ps : List Str} (h : lamPB sc scope ps = true) : LamP sc scope ps := by
  unfold lamPB at h
  simp only [Bool.and_eq_true, Bool.or_eq_true, Bool.not_eq_true', decide_eq_true_eq, decide_eq_false_iff_not, List.all_eq_true] at h
  obtain ⟨⟨⟨⟨h1, h2⟩, h3⟩, h4⟩, h5⟩ := h
  refine ⟨h1, h2, h3, fun y hy => ⟨(h4 y hy).1.1, fun e => ?_⟩, h5, fun y hy e => ?_⟩
  · rcases (h4 y hy).1.2 with z | z
    · exact absurd e z
    · exact z
  · rcases (h4 y hy).2 with (z | z) | z
    · exact absurd e z
    · exact .inl z
    · exact .inr z
theorem LamP.has {X : Cx} {scope : Scope} {ps : List Str} (L : LamP X.env.scope scope ps) (ok : X.Ok) : ∀ y ∈ scope.names, y.2 = .free → ∃ c, X.env.cells.lookup y.1 = some c := fun y hy e => by
  rcases L.free y hy e with k | k
  · exact ok.has _ (.inl k)
  · exact ok.has _ (.inr k)
/-- the context of the lambda's body: its names are the parameters, then the maker's -/
def lamCxP (X : Cx) (ps : List Str) (A : Around) (outer : List Env) (s : Shared) (H : Hp) (E : XK) (scope : Scope) (f c' : Addr) : Cx := { lamCx X A outer s H E scope f c' with N := ps ++ X.N }
section
variable {X : Cx} {pins : List (Addr × Obj)} {σ : L2.St} {H HZ : Hp} {s s1 : Shared} {ps : List Str} {us : List Value} {vs : List V}
theorem lam_startP {A : Around} {outer : List Env} {E : XK} {scope : Scope} {f c' : Addr} {h₁ : Heap} {tk : Nat} (I : Inv X pins σ H s) (L : LamP X.env.scope scope ps) (nd : (ps ++ X.N).Nodup) (r : Vals vs us) (hl : us.length = ps.length) (e0 : Env0 X.prog X.w X.K X.mg X.base A outer s1 HZ) (hd : A.handled = none)
    (un : Un (frs X.stack) [] H HZ s.heap s1.heap) (hns : h₁.Ns s1.heap.objs.size fun y => (ps.zip us).reverse.lookup y) (kp : ∀ b o, s1.heap.get? b = some o → h₁.get? b = some o) :
    Inv (lamCxP X ps A outer s1 HZ E scope f c') [] (vs.map some ++ σ) HZ { s1 with heap := h₁, toks := tk } := by
  have hfree := L.has I.ok
  have cm : ∀ {y c}, (cloFrom X.env.cells scope.names []).lookup y = some c → X.env.cells.lookup y = some c := fun {y c} e => by
    rcases cloFrom_mem (PySem.mem_of_lookup e) with hm | ⟨h1, h2⟩
    · cases hm
    · obtain ⟨c1, hc⟩ := hfree _ h1 rfl
      have hc : X.env.cells.lookup y = some c1 := hc
      have e2 : c = c1 := by
        rw [h2, hc] <;> rfl
      rw [e2]
      exact hc
  have look : ∀ {y}, scope.names.lookup y = some .free → ∃ c, (cloFrom X.env.cells scope.names []).lookup y = some c := fun {y} hl => by
    have hy : (y, NameKind.free) ∈ scope.names := PySem.mem_of_lookup hl
    exact mem_lookup (cloFrom_has (cells := X.env.cells) (acc := []) hy)
  have cellK : ∀ {c : Addr} {v : Option Value}, H c = none → s.heap.IsCell c v → h₁.IsCell c v := fun {c v} n ⟨o, ho, hd⟩ => by
    obtain ⟨sl, q⟩ := un.any ho n (by simp)
    exact ⟨_, kp _ _ q, hd⟩
  have noA : ∀ b : Addr, b ∉ (lamCxP X ps A outer s1 HZ E scope f c').ex := fun b z => absurd (show b ∈ ([] : List Addr) from z) (by simp)
  have lv : vs.length = ps.length := r.length.trans hl
  refine ⟨⟨e0.mod, L.kind, rfl, rfl, Nat.le_refl _, fun y z c e1 e2 => I.ok.inj y z c (cm e1) (cm e2), fun y hy => ?_, fun y c z _ => ?_, fun _ => hd, Around.frames_deeper e0.frames, .inr ⟨rfl, rfl⟩, fun b z => absurd z (noA b), e0.bs, e0.bsz, fun b _ _ => noA b,
      fun b z => absurd z (noA b), e0.funs, e0.frf⟩,
    rfl, e0.bare, Un.kept kp, ⟨_, hns, fun i y v e1 e2 e3 => ?_⟩, fun y c e => ?_, e0.hok.fresh (Nat.le_refl _), fun y c e => ?_, fun q hq => absurd (show q ∈ ([] : List (Addr × Obj)) ++ [] from hq) (by simp), e0.hok.kept kp, by
      show (vs.map some ++ σ).length = (ps ++ X.N).length
      rw [List.length_append, List.length_append, List.length_map, lv, I.len]⟩
  · have hy : scope.names.lookup y = some .cell ∨ scope.names.lookup y = some .free := hy
    rcases hy with hy | hy
    · exact absurd rfl (L.own _ (PySem.mem_of_lookup hy)).1
    · exact look hy
  · have z : false = true := z
    cases z
  · have e3 : Vis scope y := e3
    have e1 : (ps ++ X.N)[i]? = some y := e1
    by_cases hi : i < ps.length
    · rw [List.getElem?_append_left hi] at e1
      rw [List.getElem?_append_left (by rw [List.length_map, lv]; exact hi)] at e2
      rw [List.getElem?_map] at e2
      cases hv : vs[i]? with
      | none => rw [hv] at e2; cases e2
      | some v0 =>
        rw [hv] at e2
        cases e2
        obtain ⟨u, hu, ru⟩ := r.get hv
        have hk := L.par y (List.mem_of_getElem? e1)
        exact ⟨u, ru, .inl ⟨hk, NdefX.zip_look (List.nodup_append.mp nd).1 e1 hu⟩⟩
    · have hi : ps.length ≤ i := Nat.le_of_not_lt hi
      rw [List.getElem?_append_right hi] at e1
      rw [List.getElem?_append_right (by rw [List.length_map, lv]; exact hi), List.length_map, lv] at e2
      have nps : y ∉ ps := fun hm => (List.nodup_append.mp nd).2.2 y hm y (List.mem_of_getElem? e1) rfl
      rcases e3 with k | k | k
      · exact absurd ((L.own _ (PySem.mem_of_lookup k)).2 rfl) nps
      · exact absurd rfl (L.own _ (PySem.mem_of_lookup k)).1
      · obtain ⟨m, hn, hl⟩ := I.loc
        have hvis : Vis X.env.scope y := (L.free _ (PySem.mem_of_lookup k) rfl).elim (fun k => .inr (.inl k)) (fun k => .inr (.inr k))
        obtain ⟨w', r, q⟩ := hl _ y v e1 e2 hvis
        obtain ⟨c2, h2⟩ := look k
        refine ⟨w', r, .inr ⟨.inr k, c2, h2, ?_⟩⟩
        have c1 := cm h2
        rcases q with ⟨k', _⟩ | ⟨_, c3, e', z⟩
        · have k' : X.env.scope.names.lookup y = some .local := k'
          rcases L.free _ (PySem.mem_of_lookup k) rfl with k2 | k2 <;> rw [show X.env.scope.names.lookup y = _ from k2] at k' <;> cases k'
        · rw [c1] at e'
          cases e'
          exact cellK (I.freeC y _ c1) z
  · obtain ⟨w', z⟩ := I.cell y c (cm e)
    exact ⟨w', cellK (I.freeC y c (cm e)) z⟩
  · obtain ⟨v, o, ho, hd⟩ := I.cell y c (cm e)
    exact un.free c o ho (I.freeC y c (cm e)) (by simp)
end
end Rf


set_option Elab.async false
set_option linter.all false
set_option maxRecDepth 100000
set_option maxHeartbeats 2000000
/-! S20: a def that is handed a lambda calls it. -/
namespace Rf
open PySem PySem.Spec PyProof.Rows L2 LamX
/-- the static names, with what a def holds that was handed a function object -/
abbrev Nm.hold (M : Nm) (i : Nat) (f c' : Addr) (q : Str) (L : LL) (σ : L2.St) : Nm := { M with fix := [(i, f)], capL := L, capS := σ, cod := [(c', q)] }
abbrev Nm.free (M : Nm) : Nm := { M with fix := [], capL := [], capS := [], cod := [] }
section
variable {K : PySem.W.Frag} {M : Nm} {ι : List Addr} {G : GG} {H : Hp} {f c' : Addr} {i : Nat} {q : Str} {L : LL} {σ : L2.St}
theorem FR.cast {M M' : Nm} (e : M'.att = M.att) : ∀ {fs : List (Nat × D)} {xs : List (Str × V)}, FR K M H ι fs xs → FR K M' H ι fs xs
  | [], [], _ => trivial
  | (n, d) :: fs, (x, v) :: xs, h => ⟨by rw [h.1]; unfold Nm.a; rw [e], by rw [e]; exact h.2.1, h.2.2.1, FR.cast e h.2.2.2⟩
  | [], _ :: _, h => h.elim
  | _ :: _, [], h => h.elim
theorem Rep.cast {M M' : Nm} (ea : M'.att = M.att) (ec : M'.cls = M.cls) (et : M'.tb = M.tb) (R : Rep K M ι G H) : Rep K M' ι G H :=
  ⟨R.len, R.nd, fun i a o h1 h2 => by
    have p := R.obj i a o h1 h2
    cases o with
    | lst ds => exact p
    | dk kvs => exact p
    | ins c fs =>
      obtain ⟨dx, vs, e1, r1⟩ := p
      refine ⟨dx, vs, ?_, r1.cast ea⟩
      rw [e1]; unfold Nm.c; rw [ec]
    | pool => exact p, by rw [et]; exact R.tab⟩
theorem XR.cast {M M' : Nm} (ea : M'.att = M.att) (ec : M'.cls = M.cls) {c : Nat} {fs : List (Nat × D)} {cls : Value} {dd : Option Addr} (h : XR K M H ι c fs cls dd) : XR K M' H ι c fs cls dd := by
  refine ⟨by rw [h.1]; unfold Nm.c; rw [ec], ?_⟩
  rcases h.2 with h | ⟨d, xs, e1, e2, e3⟩
  · exact .inl h
  · exact .inr ⟨d, xs, e1, e2, e3.cast ea⟩
theorem wp_cast {M M' : Nm} (ea : M'.att = M.att) (ec : M'.cls = M.cls) (et : M'.tb = M.tb) {r : Res D} {Q : VK} {E : XK} (w : r.wp (Kt K M' ι H Q) (Kx K M' ι H E)) : r.wp (Kt K M ι H Q) (Kx K M ι H E) :=
  Res.wp_mono (fun d G h ι' H' v x R r => h ι' H' v x (R.cast ea ec et) r) (fun c fs G h ι' H' cls dd x R r => h ι' H' cls dd x (R.cast ea ec et) (r.cast ea ec)) w
end
section
variable {X : Cx} {M : Nm} {pins : List (Addr × Obj)} {σ : L2.St} {H : Hp} {s : Shared} {ps Ng : List Str} {L : LL}
/-- a(..), in the def that got the lambda: its context is entered at s -/
theorem e_act {qg : Str} {sg : Scope} {g f c' : Addr} {cdg pm ctv : Value} {params : Arguments} {body : Expr} {scope : Scope} {k i lam : Nat} {a : Str} {pn : List (Addr × Obj)} {xe : Value → Shared → Prop} {E Eg : XK} {p1 p2 : Pos} {call : CallT} {es : List Expr} {fs : LL → GG → Res (List D)} {fb : LL → GG → Res D}
    (I : Inv X pins σ H s) (Lp : LamP X.env.scope scope ps) (nd : (ps ++ X.N).Nodup) (hM : M.fix = [] ∧ M.capL = [] ∧ M.capS = [] ∧ M.cod = [])
    (hf : s.heap.get? f = some (PySem.W.kla_obj "<lambda>" (X.env.qual ++ "<lambda>") params body scope (cloFrom X.env.cells scope.names []) pm c' ctv)) (hfn : H f = none) (hfr : f ∉ frs X.stack)
    (hbind : ∀ us : List Value, us.length = ps.length → bindArgs (PySem.W.kla_fn "<lambda>" (X.env.qual ++ "<lambda>") params body scope (cloFrom X.env.cells scope.names []) pm (.ref c') ctv) ⟨us, []⟩ = pure (ps.zip us))
    (px : Passes (CX X.prog X.w) ((cxOf (CX X.prog X.w) X.prog X.w X.K X.mg X.base Ng qg sg g cdg X.A X.stack s H Eg).tr pn xe) E) (hr : Room (k + 1) (X.A.deeper (envOfC qg sg s.heap.objs.size g cdg)))
    (hbody : ∀ (A : Around) (outer : List Env) (s : Shared) (H : Hp), Room k (A.deeper (lamEnv X scope s.heap.objs.size f c')) → A.guards = X.A.guards → PE (lamCxP X ps A outer s H E scope f c') body (tE X.K M E fb))
    (hspec : ∀ (ι : List Addr) (H : Hp) (ds : List D) (G : GG) (Q : VK) (E : XK), Rep X.K M ι G H → (call (.clo lam L) ds G).wp (Kt X.K M ι H Q) (Kx X.K M ι H E) → ds.length = ps.length ∧ (fb (ds.map some ++ L) G).wp (Kt X.K M ι H Q) (Kx X.K M ι H E))
    (hN : Ng[i]? = some a) (hv : Vis sg a) (hd : (a == ("__debug__" : Str)) = false) (hcd : (a == ("__classdict__" : Str)) = false)
    (hA : AJ ((cxOf (CX X.prog X.w) X.prog X.w X.K X.mg X.base Ng qg sg g cdg X.A X.stack s H Eg).tr pn xe) (M.hold i f c' (X.env.qual ++ "<lambda>") L σ) E es fs) :
    PE ((cxOf (CX X.prog X.w) X.prog X.w X.K X.mg X.base Ng qg sg g cdg X.A X.stack s H Eg).tr pn xe) (.Call (.Name a p1) es [] p2)
      (tE X.K (M.hold i f c' (X.env.qual ++ "<lambda>") L σ) E fun L' G => (fs L' G).bind fun ds G => call (.clo lam L) ds G) := by
  refine ⟨fun pinsZ sZ σZ HZ Q IZ h => ?_⟩
  obtain ⟨ι, L', G, l, R, w⟩ := h
  have hs : σZ[i]? = some (some (V.ref f)) := l.fx (i, f) (List.mem_singleton.mpr rfl)
  refine wpAny_Call_Name_kw (thn ((pe_var (pos := p1) (i := i) hN hv hd hcd).run pinsZ sZ σZ HZ (fun v H1 => v = .ref f ∧ H1 = HZ) IZ ⟨.ref f, hs, rfl, rfl⟩) fun u s1 ⟨v, H1, I1, r1, q1⟩ => ?_)
  obtain ⟨ev, eH⟩ := q1
  subst ev
  rw [eH] at I1
  obtain rfl : u = Value.ref f := r1
  have of1 : ∀ {σ1 : L2.St} {H1 : Hp} {s1 : Shared}, Inv ((cxOf (CX X.prog X.w) X.prog X.w X.K X.mg X.base Ng qg sg g cdg X.A X.stack s H Eg).tr pn xe) pinsZ σ1 H1 s1 → s1.heap.get? f = some (PySem.W.kla_obj "<lambda>" (X.env.qual ++ "<lambda>") params body scope (cloFrom X.env.cells scope.names []) pm c' ctv) :=
    fun I1 => I1.base.keep f _ hf hfn hfr (fun z => nomatch (show f ∈ ([] : List Addr) from z))
  -- the call itself
  have go : ∀ (s2 : Shared) (H2 : Hp) (us : List Value) (vs : List V), Inv ((cxOf (CX X.prog X.w) X.prog X.w X.K X.mg X.base Ng qg sg g cdg X.A X.stack s H Eg).tr pn xe) pinsZ σZ H2 s2 → Vals vs us →
      (∃ ι2 ds G2, capB X.K (M.hold i f c' (X.env.qual ++ "<lambda>") L σ) H2 ι2 ∧ Rep X.K (M.hold i f c' (X.env.qual ++ "<lambda>") L σ) ι2 G2 H2 ∧ DRs X.K H2 ι2 ds vs ∧
        (call (.clo lam L) ds G2).wp (Kt X.K (M.hold i f c' (X.env.qual ++ "<lambda>") L σ) ι2 H2 Q) (Kx X.K (M.hold i f c' (X.env.qual ++ "<lambda>") L σ) ι2 H2 E)) →
      wpAny (model X.prog X.w) (X.A.deeper (envOfC qg sg s.heap.objs.size g cdg)) (PySem.call (.ref f) us) (EP ((cxOf (CX X.prog X.w) X.prog X.w X.K X.mg X.base Ng qg sg g cdg X.A X.stack s H Eg).tr pn xe) pinsZ σZ Q) xe s2 := by
    intro s2 H2 us vs I2 rv ⟨ι2, ds, G2, cp, R2, rd, w2⟩
    have R2' : Rep X.K M ι2 G2 H2 := Rep.cast (M := M.hold i f c' (X.env.qual ++ "<lambda>") L σ) (M' := M) rfl rfl rfl R2
    obtain ⟨hl, w3⟩ := hspec ι2 H2 ds G2 Q E R2' (wp_cast (M := M) (M' := M.hold i f c' (X.env.qual ++ "<lambda>") L σ) rfl rfl rfl w2)
    have hlu : us.length = ps.length := by rw [← rv.length, ← rd.length]; exact hl
    have un : Un (frs X.stack) [] H H2 s.heap s2.heap := I2.base
    have hc : H2 c' = some (CodeO c' (X.env.qual ++ "<lambda>")) := cp.2 (c', _) (List.mem_singleton.mpr rfl)
    obtain ⟨⟨oc, vsc, t, hoc, hdc, hvc⟩, _, _⟩ := I2.hok c' _ hc
    have rc : codeAny (model X.prog X.w) (X.A.deeper (envOfC qg sg s.heap.objs.size g cdg)) (.call (.ref f) ⟨us, []⟩) (CR (L2.CX X.prog X.w) (envOfC qg sg s.heap.objs.size g cdg :: X.stack) X.prog X.w H2 s2 Q E) s2 := by
      refine PySem.W.kla_callFunE hr.depth (of1 I2) rfl Lp.co Lp.gen rfl ⟨c', oc, vsc, t, rfl, hoc, hdc, hvc⟩ ?_
      rw [hbind us hlu]
      refine wpAny_pure (wpAny_newFunctionEnv (fun y hy => (Lp.own y hy).1) (fun y hy => Lp.par y.1 (List.of_mem_zip (show (y.1, y.2) ∈ ps.zip us from hy)).1) (fun h₁ hns hsb => ⟨I2.nolimit.fresh _ hsb, ?_⟩) Lp.kind)
      show codeAny _ _ (.expr body (lamEnv X scope s2.heap.objs.size f c')) _ _
      have kp : ∀ b o, s2.heap.get? b = some o → h₁.get? b = some o := fun b o e => hsb.extBut b o (Nat.ne_of_lt (Heap.lt_size e)) (Heap.get?_push_of_some _ e)
      have J : Inv (lamCxP X ps (X.A.deeper (envOfC qg sg s.heap.objs.size g cdg)) (envOfC qg sg s.heap.objs.size g cdg :: X.stack) s2 H2 E scope f c') [] (vs.map some ++ σ) H2 { s2 with heap := h₁, toks := s2.toks + (ps.zip us).length } :=
        lam_startP I Lp nd rv hlu I2.env0 hr.hd un hns kp
      have ht : tE X.K M E fb (vs.map some ++ σ) H2 Q := by
        refine ⟨ι2, ds.map some ++ L, G2, ⟨?_, (fun p hp => by rw [hM.1] at hp; cases hp), ⟨(by rw [hM.2.1, hM.2.2.1]; trivial), fun p hp => by rw [hM.2.2.2] at hp; cases hp⟩⟩, R2', w3⟩
        have app : ∀ {ds : List D} {vs : List V}, DRs X.K H2 ι2 ds vs → LR0 X.K H2 ι2 (ds.map some ++ L) (vs.map some ++ σ) := by
          intro ds
          induction ds with
          | nil => intro vs r; cases vs with
            | nil => exact cp.1
            | cons _ _ => exact r.elim
          | cons d ds ih => intro vs r; cases vs with
            | nil => exact r.elim
            | cons v vs => exact ⟨⟨v, rfl, r.1⟩, ih r.2⟩
        exact app rd
      refine PySem.W.kla_codeExpr (wpAny_mono ((hbody _ _ s2 H2 (hr.deeper _) rfl).run [] _ _ H2 Q J ht) (fun v s' hq => ?_) fun e s' hq => hq)
      obtain ⟨w', H', J', rv, q⟩ := hq
      exact ⟨w', H', J'.os, J'.bare, J'.base, J'.hok, rv, q⟩
    refine wpAny_call (codeAny_mono rc fun r s' hq => ?_)
    cases r with
    | error e => exact px pinsZ σZ H2 s2 e s' I2 hq
    | ok fl =>
      cases fl with
      | ret u => exact I2.after hq
      | next => exact False.elim hq
      | brk => exact False.elim hq
      | cont => exact False.elim hq
  have key : tEs X.K (M.hold i f c' (X.env.qual ++ "<lambda>") L σ) E fs σZ HZ fun vs H2 => ∃ ι2 ds G2, capB X.K (M.hold i f c' (X.env.qual ++ "<lambda>") L σ) H2 ι2 ∧ Rep X.K (M.hold i f c' (X.env.qual ++ "<lambda>") L σ) ι2 G2 H2 ∧ DRs X.K H2 ι2 ds vs ∧
        (call (.clo lam L) ds G2).wp (Kt X.K (M.hold i f c' (X.env.qual ++ "<lambda>") L σ) ι2 H2 Q) (Kx X.K (M.hold i f c' (X.env.qual ++ "<lambda>") L σ) ι2 H2 E) :=
    tEs_bind go_t l R w fun ι1 H1 vs ds G1 x1 l1 R1 r1 w1 => ⟨ι1, ds, G1, l1.cp, R1, r1, w1⟩
  cases es with
  | nil =>
    cases hA.nl rfl
    exact PySem.W.callWith_F0 ⟨_, _, _, _, of1 I1⟩ (go s1 HZ [] [] I1 .nil (nil_of key))
  | cons e es =>
    have hst := hA.st
    simp only [List.all_cons, Bool.and_eq_true] at hst
    refine PySem.W.callWith_F ⟨_, _, _, _, of1 I1⟩ (thn (hA.pa.run p2 pinsZ s1 σZ HZ _ I1 key) fun us s2 ⟨vs, H2, I2, r, q2⟩ => ⟨⟨_, _, _, _, of1 I2⟩, ?_⟩) (star_of hst.1) (plain_of hst.2)
    exact go s2 H2 us vs I2 r q2
end
end Rf


set_option Elab.async false
set_option linter.all false
set_option maxRecDepth 100000
set_option maxHeartbeats 2000000
/-! S21: comprehensions, written dicts, displays with a star, which order stores are done in. -/
namespace Rf
open PySem PySem.Spec PyProof.Rows L2
abbrev noE : XK := E0'
/-- what all places of a run share -/
structure Glob where
  prog : Program
  w : World
  K : PySem.W.Frag
  mg : Str → Option Value
  base : Heap
def gl (X : Cx) : Glob := ⟨X.prog, X.w, X.K, X.mg, X.base⟩
section
variable {X : Cx} {M : Nm} {C : EC} {O : Ob} {sx : Sx} {E : XK} {k : Nat} {a b c : Expr} {f g h' : LL → GG → Res D} {pos p p1 p2 : Pos} {fs : LL → GG → Res (List D)} {es : List Expr}
theorem Cd.blk (c : Cd X M C O sx E k) (s : Shared) (H : Hp) (scope : Scope) (Cc : Addr) (cl : List (Str × Addr)) (fp : List Addr) : Cd (X.blk s H scope (compEnvC scope cl Cc X.env) fp) M C O (sx.blk scope) noE k :=
  { fx := c.fx
    N := c.N
    sc := (show relS scope X.env.scope = relS scope sx.sc by rw [c.sc])
    fn := rfl
    nd := c.nd
    un := c.un
    gd := c.gd
    fixS := c.fixS
    dkx := c.dkx
    fns := c.fns
    xns := c.xns
    calm := c.calm
    hr := c.hr
    px := noPass
    clo := (fun h => nomatch h)
    mkf := (fun h => nomatch h) }
def ownOf (N : List Str) (vs : List Nat) : List (Str × Nat) := vs.map fun i => (N.getD i Str.empty, i)
theorem ownOf_snd {N : List Str} {vs : List Nat} : (ownOf N vs).map (·.2) = vs := by
  unfold ownOf
  rw [List.map_map]
  exact List.map_id _
/-- the tests of a clause -/
def IfJ (X : Cx) (M : Nm) (ifs : List Expr) (fc : LL → GG → Res D) : Prop := PTs X ifs (tB X.K M noE fc)
theorem _root_.L2.PTs.imp {e : List Expr} {t t' : TT} (h : PTs X e t) (i : ∀ σ H Q, t' σ H Q → t σ H Q) : PTs X e t' := ⟨fun pins s σ H Q I q => h.run pins s σ H Q I (i σ H Q q)⟩
theorem ifj_nil : IfJ X M [] fun _ G => .ok (.bl true) G := PTs.imp pts_nil fun σ H Q ⟨ι, L, G, l, R, w⟩ => Kb.here w R
theorem ifj_one (h : PT X c (tB X.K M noE f)) : IfJ X M [c] f := pts_one h
def vsB (sx : Sx) (t : TN) (vs : List Nat) : Bool := t.slots.all (vs.contains ·) && vs.all (!sx.fix.contains ·)
theorem e_lc (c : Cd X M C O sx E k) {elt tg iter : Expr} {ifs : List Expr} {scope : Scope} {t : TN} {vs : List Nat} {fI : LL → GG → Res IV} {fc fe : LL → GG → Res D} (hi : PI X tg iter (tI X.K M E fI)) (ok : blkC sx.N sx.sc scope (ownOf sx.N vs) = true) (hv : vsB sx t vs = true) (ht : chkN (sx.blk scope) t tg = true)
    (hc : ∀ Y : Cx, gl Y = gl X → Cd Y M C O (sx.blk scope) noE k → IfJ Y M ifs fc) (he : ∀ Y : Cx, gl Y = gl X → Cd Y M C O (sx.blk scope) noE k → PE Y elt (tE Y.K M noE fe)) (hs : notSet iter = true) :
    PE X (.ListComp elt [⟨tg, iter, ifs, 0⟩] scope pos) (tE X.K M E fun L G => (fI L G).bind fun iv G => (lcL (fun L G => (fc L G).bind fun x G => condK (fe L) x G) t iv.src (wipeL L vs) iv.items [] G).bind fun ds G => .ok (.ref G.length) (G ++ [.lst ds])) := by
  obtain ⟨v1, v2⟩ := and2 hv
  refine (pe_lc (own := ownOf sx.N vs) (g := gN X.K t) (tt := tB X.K M noE fc) (te := tE X.K M noE fe) c.calm c.nd hi (blkOk_by (by rw [c.N, c.sc]; exact ok)) (fun s H Cc cl fp => pg_n (c.blk s H scope Cc cl fp).N (c.blk s H scope Cc cl fp).sc (c.blk s H scope Cc cl fp).fn c.nd c.calm ht)
    (fun s H Cc cl fp => hc (X.blk s H scope (compEnvC scope cl Cc X.env) fp) rfl (c.blk s H scope Cc cl fp)) (fun s H Cc cl fp => he (X.blk s H scope (compEnvC scope cl Cc X.env) fp) rfl (c.blk s H scope Cc cl fp)) (fold_of hs)).imp fun σ H Q w => ?_
  rw [ownOf_snd]
  refine lc_ok (fun p hp z => ?_) (fun i hi => ?_) (fun _ _ _ h => h) (fun _ _ _ h => h) w
  · have := List.all_eq_true.mp v2 p.1 z
    have hf := c.fixS p hp
    simp at this
    exact this hf
  · have := List.all_eq_true.mp v1 i hi
    simpa using this
theorem s_setLc (c : Cs X M C O sx E k) {i : Nat} {y : Str} {py spos : Pos} {elt tg iter : Expr} {ifs : List Expr} {scope : Scope} {t : TN} {vs : List Nat} {fI : LL → GG → Res IV} {fc fe : LL → GG → Res D} (hy : stB sx i y = true) (hyl : sx.sc.names.lookup y = some .local)
    (hsw : swapsWith (.ListComp elt [⟨tg, iter, ifs, 0⟩] scope pos) (some (.Name y py)) spos.line X.env = pure true) (hi : PI X tg iter (tI X.K M E fI)) (ok : blkC sx.N sx.sc scope (ownOf sx.N vs) = true) (hv : vsB sx t vs = true) (ht : chkN (sx.blk scope) t tg = true)
    (hc : ∀ Y : Cx, gl Y = gl X → Cd Y M C O (sx.blk scope) noE k → IfJ Y M ifs fc) (he : ∀ Y : Cx, gl Y = gl X → Cd Y M C O (sx.blk scope) noE k → PE Y elt (tE Y.K M noE fe)) (hs : notSet iter = true) :
    L2.PS X (.Assign [.Name y py] (.ListComp elt [⟨tg, iter, ifs, 0⟩] scope pos) spos)
      (tS X.K M E fun L G => ((fI L G).bind fun iv G => (lcL (fun L G => (fc L G).bind fun x G => condK (fe L) x G) t iv.src (wipeL L vs) iv.items [] G).bind fun ds G => .ok (.ref G.length) (G ++ [.lst ds])).bind fun d G => (asg1 C (.nm i) d L G).bind fun L G => .ok (.nx L) G) := by
  obtain ⟨v1, v2⟩ := and2 hv
  obtain ⟨a1, a2, a3⟩ := stor_of c.N c.sc c.fn hy
  refine ps_imp (ps_setLc (own := ownOf sx.N vs) (g := gN X.K t) (tt := tB X.K M noE fc) (te := tE X.K M noE fe) c.calm c.nd a1 (by rw [c.sc]; exact hyl) hsw hi (blkOk_by (by rw [c.N, c.sc]; exact ok)) (fun s H Cc cl fp => pg_n (c.toCd.blk s H scope Cc cl fp).N (c.toCd.blk s H scope Cc cl fp).sc (c.toCd.blk s H scope Cc cl fp).fn c.nd c.calm ht)
    (fun s H Cc cl fp => hc (X.blk s H scope (compEnvC scope cl Cc X.env) fp) rfl (c.toCd.blk s H scope Cc cl fp)) (fun s H Cc cl fp => he (X.blk s H scope (compEnvC scope cl Cc X.env) fp) rfl (c.toCd.blk s H scope Cc cl fp)) (fold_of hs)) fun Dn σ H ⟨ι, L, G, l, R, w⟩ => ?_
  rw [ownOf_snd]
  refine lc_ok (fun p hp z => ?_) (fun i hi => ?_) (fun _ _ _ h => h) (fun _ _ _ h => h) (tE_bind go_o l R w fun ι1 H1 v d G1 x1 l1 R1 r1 w1 => ?_)
  · have := List.all_eq_true.mp v2 p.1 z
    have hf := c.fixS p hp
    simp at this
    exact this hf
  · have := List.all_eq_true.mp v1 i hi
    simpa using this
  · exact (show Ko X.K M ι1 H1 Dn (.nx (L.set i (some d))) G1 from w1).here R1 _ (l1.set i r1 fun p hp z => stB_fix hy (by rw [← z]; exact c.fixS p hp))
/-! ### written dicts -/
theorem e_dnew : PE X (.Dict [] [] pos) (tE X.K M E fun _ G => .ok (.ref G.length) (G ++ [.dk []])) :=
  pe_dnewK.imp fun σ H Q ⟨ι, L, G, l, R, w⟩ p hp => by
    have R1 := R.newN (o := .dk []) (ho := .dK []) hp ⟨[], upd_same, trivial⟩
    exact w (ι ++ [p]) _ _ (Ext.newN ι hp) R1 ⟨p, by rw [← R.len]; simp, rfl⟩
theorem dk_at (c : Cg X M C O sx) {n : Nat} {x : Str} (hg : glB sx.sc x = true) (hx : x = M.d n) {kvs : List (List Nat × D)} (h : C.P.dks[n]? = some kvs) : ∃ d es m, PE X (.Name x p) (tC (.ref d)) ∧ KDict X.K X.w d es m ∧ ∀ z : List Nat, match kvs.lookup z with
    | some e => ∃ u v, PySem.W.nsIn X.K d ⟨z.toArray⟩ = some (some u) ∧ RelV v u ∧ ∀ H ι, DR X.K H ι e v
    | none => PySem.W.nsIn X.K d ⟨z.toArray⟩ = some none := by
  obtain ⟨g1, g2, g3⟩ := c.gl hg
  obtain ⟨d, es, m, h1, h2, h3⟩ := c.dkx n kvs h
  exact ⟨d, es, m, pe_glob g1 (by rw [hx]; exact h1) rfl g2, h2, h3⟩
theorem dknK_ok {ι : List Addr} {G : GG} {H : Hp} {K : PySem.W.Frag} {o : Option (List (List Nat × D))} {d : D} {v : V} {P : D → GG → Prop} {E : Nat → List (Nat × D) → GG → Prop} (r : DR K H ι d v) (w : (dknK o d G).wp P E) : ∃ z kvs, v = .str ⟨z.toArray⟩ ∧ o = some kvs ∧ P (.bl (kvs.lookup z).isSome) G := by
  unfold dknK at w
  split at w
  · exact ⟨_, _, r, rfl, w⟩
  · exact w.elim
theorem dkgK_ok {ι : List Addr} {G : GG} {H : Hp} {K : PySem.W.Frag} {o : Option (List (List Nat × D))} {d : D} {v : V} {P : D → GG → Prop} {E : Nat → List (Nat × D) → GG → Prop} (r : DR K H ι d v) (w : (dkgK o d G).wp P E) : ∃ z kvs e, v = .str ⟨z.toArray⟩ ∧ o = some kvs ∧ kvs.lookup z = some e ∧ P e G := by
  unfold dkgK at w
  split at w
  · obtain ⟨e, he, q⟩ := wp_ofO w
    exact ⟨_, _, e, r, rfl, he, q⟩
  · exact w.elim
theorem i_dkn {n : Nat} {kvs : List (List Nat × D)} {d : Addr} (hn : C.P.dks[n]? = some kvs) (hz : ∀ z : List Nat, match kvs.lookup z with
    | some e => ∃ u v, PySem.W.nsIn X.K d ⟨z.toArray⟩ = some (some u) ∧ RelV v u ∧ ∀ H ι, DR X.K H ι e v
    | none => PySem.W.nsIn X.K d ⟨z.toArray⟩ = some none) {σ : L2.St} {H : Hp} {Q : VK} (w : tE X.K M E (fun L G => (f L G).bind fun x G => dknK C.P.dks[n]? x G) σ H Q) :
    tOp (fun x y H Q => ∃ (z : Str) (r : Option Value), x = .str z ∧ y = .ref d ∧ PySem.W.nsIn X.K d z = some r ∧ Q (.bl r.isSome) H) (tE X.K M E f) (tC (.ref d)) σ H Q := by
  obtain ⟨ι, L, G, l, R, w⟩ := w
  refine tE_bind go_t l R w fun ι1 H1 v d1 G1 x1 l1 R1 r1 w1 => ?_
  obtain ⟨z, kvs', e1, e2, q⟩ := dknK_ok r1 w1
  rw [hn] at e2
  cases e2
  have hq := hz z
  split at hq
  · rename_i e he
    obtain ⟨u, v', h1, _, _⟩ := hq
    rw [he] at q
    exact ⟨_, some u, e1, rfl, h1, Kt.here q R1 rfl⟩
  · rename_i he
    rw [he] at q
    exact ⟨_, none, e1, rfl, hq, Kt.here q R1 rfl⟩
theorem e_dkn (c : Cg X M C O sx) {n : Nat} {x : Str} (hg : glB sx.sc x = true) (hx : x = M.d n) (hn : C.P.dks[n]?.isSome = true) (ha : PE X a (tE X.K M E f)) : PE X (.Compare a [.In] [.Name x p] pos) (tE X.K M E fun L G => (f L G).bind fun x G => dknK C.P.dks[n]? x G) := by
  obtain ⟨kvs, hk⟩ := Option.isSome_iff_exists.mp hn
  obtain ⟨d, es, m, h1, h2, h3⟩ := dk_at (p := p) c hg hx hk
  exact (pe_cmpR (op_in_kd h2) ha h1 rfl).imp fun _ _ _ => i_dkn hk h3
theorem t_dkn (c : Cg X M C O sx) {n : Nat} {x : Str} (hg : glB sx.sc x = true) (hx : x = M.d n) (hn : C.P.dks[n]?.isSome = true) (ha : PE X a (tE X.K M E f)) : PT X (.Compare a [.In] [.Name x p] pos) (tB X.K M E fun L G => (f L G).bind fun x G => dknK C.P.dks[n]? x G) := by
  obtain ⟨kvs, hk⟩ := Option.isSome_iff_exists.mp hn
  obtain ⟨d, es, m, h1, h2, h3⟩ := dk_at (p := p) c hg hx hk
  exact (pt_cmpR (op_in_kd h2) ha h1 rfl).imp fun _ _ _ w => i_dkn hk h3 (tB_test w)
theorem e_dkg (c : Cg X M C O sx) {n : Nat} {x : Str} (hg : glB sx.sc x = true) (hx : x = M.d n) (hn : C.P.dks[n]?.isSome = true) (ha : PE X a (tE X.K M E f)) (hs : notSlice a = true) : PE X (.Subscript (.Name x p) a pos) (tE X.K M E fun L G => (f L G).bind fun x G => dkgK C.P.dks[n]? x G) := by
  obtain ⟨kvs, hk⟩ := Option.isSome_iff_exists.mp hn
  obtain ⟨d, es, m, h1, h2, h3⟩ := dk_at (p := p) c hg hx hk
  refine (pe_ix ix_kdict h1 ha (ix_of hs)).imp fun σ H Q ⟨ι, L, G, l, R, w⟩ => ?_
  refine tE_bind go_t l R w fun ι1 H1 v d1 G1 x1 l1 R1 r1 w1 => ?_
  obtain ⟨z, kvs', e, e1, e2, e3, q⟩ := dkgK_ok r1 w1
  rw [hk] at e2
  cases e2
  have hq := h3 z
  rw [e3] at hq
  obtain ⟨u, v', q1, q2, q3⟩ := hq
  exact ⟨d, _, v', rfl, e1, ⟨es, m, u, h2.at_, h2.lit, q1, q2⟩, Kt.here q R1 (q3 _ _)⟩
/-! ### [*a, ..] -/
theorem e_stars {sp_ : Pos} (ha : PE X a (tE X.K M E f)) (hr : PA X es (tEs X.K M E fs)) : PE X (.List (.Starred a sp_ :: es) pos) (tE X.K M E fun L G => (f L G).bind fun x G => starsK (fs L) x G) := by
  refine (pe_lst (StX.pa_star ha hr)).imp fun σ H Q ⟨ι, L, G, l, R, w⟩ => ?_
  refine tE_bind go_t l R w fun ι1 H1 v d G1 x1 l1 R1 r1 w1 => ?_
  unfold starsK at w1
  split at w1
  · rename_i xs hx
    have hs : ∃ a vs, v = .ref a ∧ (SqT X.K H1 a vs ∨ SqL X.K H1 a vs) ∧ DRs X.K H1 ι1 xs vs := by
      cases d with
      | tup ds => cases hx; obtain ⟨p, vs, e, s, r⟩ := r1; exact ⟨p, vs, e, .inl s, r⟩
      | cl ds => cases hx; obtain ⟨p, vs, e, s, r⟩ := r1; exact ⟨p, vs, e, .inr s.sq, r⟩
      | ref n =>
        obtain ⟨p, hp, e⟩ := r1
        obtain ⟨p', hp', vs, e1, e2⟩ := R1.obj' (getL_ok hx)
        rw [hp] at hp'
        cases hp'
        exact ⟨p, vs, e, .inr (.inl (.inl e1)), e2⟩
      | _ => cases hx
    obtain ⟨p, vs, e, s, r⟩ := hs
    refine ⟨p, vs, e, s, tEs_bind go_t l1 R1 w1 fun ι2 H2 us ds G2 x2 l2 R2 r2 w2 => ?_⟩
    obtain ⟨hz, w2⟩ := wp_if w2
    have r3 := (r.ext R1 x2).append r2
    exact ⟨by rw [← r3.length]; exact le_small (by simpa using hz), fun p hp => Kt.lst w2 R2 r3 hp⟩
  · exact w1.elim
/-! ### which order stores are done in -/
def compSc : Expr → Option Scope
  | .ListComp _ _ s _ => some s
  | .SetComp _ _ s _ => some s
  | .DictComp _ _ _ s _ => some s
  | _ => none
def swB (sc : Scope) (v t : Expr) : Bool := match compSc v, t with
  | some s, .Name x p => (sc.names.lookup x == some .local) && p.line == v.pos.line && !(s.names.any fun (n, k) => n == x && (k == .local || k == .cell))
  | _, _ => false
theorem swB_ok {v t : Expr} {l : Nat} {env : Env} (hk : env.scope.kind = .function) : swapsWith v (some t) l env = pure (swB env.scope v t) := by
  have bk : env.blockKind = .function := by
    unfold Env.blockKind
    rw [hk]; rfl
  cases v <;> first | rfl | (
    cases t <;> first | rfl | (
      unfold swapsWith swB compSc
      simp only [bk]
      rfl))
/-- the stores' names, where they are done from the last: none: not told -/
def stF (sc : Scope) (t v : Expr) : Option (Option (List Str)) := match t, v with
  | .Tuple ts _ _, .Tuple vs _ _ =>
    if !(ts.length == 2 || ts.length == 3) || vs.length != ts.length then some none else
    if vs.any (fun e => !notStar e) then some none else
    let names := ts.filterMap fun
      | .Name id pos => if (sc.names.lookup id == some .local) && pos.line == (ts.head?.map (·.pos.line)).getD 0 then some id else none
      | _ => none
    if names.length != ts.length || names.eraseDups.length != names.length then some none else
    if vs.all (foldedForSure 8) then some none else
    if vs.all (constantsAlone 8) then none else
    some (some names)
  | .List _ _, .Tuple _ _ _ => none
  | _, _ => some none
end
end Rf


set_option Elab.async false
set_option linter.all false
set_option maxRecDepth 100000
set_option maxHeartbeats 2000000
/-! S22: the order of the stores. -/
namespace Rf
open PySem PySem.Spec PyProof.Rows L2
theorem bk_of {env : Env} (hk : env.scope.kind = .function) : env.blockKind = .function := by
  unfold Env.blockKind
  rw [hk]; rfl
theorem stF_ok {t v : Expr} {env : Env} {r : Option (List Str)} (hk : env.scope.kind = .function) (h : stF env.scope t v = some r) : swappedStores [t] v env = pure r := by
  have bk := bk_of hk
  cases t with
  | Tuple ts n p => cases v with
    | Tuple vs n2 q =>
      unfold swappedStores
      unfold stF at h
      have ek : ∀ id, env.kindOf id = env.scope.names.lookup id := fun _ => rfl
      have e1 : (ScopeKind.function != ScopeKind.function) = false := rfl
      have e2 : (fun e : Expr => match e with
        | .Starred value pos => true
        | x => false) = fun e => !notStar e := by
        funext e
        cases e <;> rfl
      have e3 := congrArg (fun g : Expr → Bool => vs.any g) e2
      simp only [bk, pure_bind, ek, e1, Bool.or_false] at h ⊢
      by_cases c1 : (!(ts.length == 2 || ts.length == 3) || vs.length != ts.length) = true
      · rw [if_pos c1] at h ⊢
        cases h; rfl
      · rw [if_neg c1] at h ⊢
        by_cases c2 : (vs.any fun e => !notStar e) = true
        · rw [if_pos c2] at h
          cases h
          exact if_pos (e3.trans c2)
        · rw [if_neg c2] at h
          refine Eq.trans (if_neg (fun z => c2 (e3.symm.trans z))) ?_
          split at h
          · rename_i c3
            cases h
            exact if_pos c3
          · rename_i c3
            refine Eq.trans (if_neg c3) ?_
            split at h
            · rename_i c4
              cases h
              exact if_pos c4
            · rename_i c4
              refine Eq.trans (if_neg c4) ?_
              split at h
              · cases h
              · rename_i c5
                cases h
                exact if_neg c5
    | _ => cases h; rfl
  | List ts p => cases v with
    | Tuple vs n2 q => cases h
    | _ => cases h; rfl
  | _ => cases h; rfl
end Rf


set_option Elab.async false
set_option linter.all false
set_option maxRecDepth 100000
set_option maxHeartbeats 2000000
/-! W1: a loop that forgets behind each turn. -/
namespace Rf
open PySem PySem.Spec PyProof.Rows L2
section
variable {K : PySem.W.Frag} {M : Nm} {ι ι' τ : List Addr} {G : GG} {H H' : Hp} {a : Addr}
theorem KR.less : ∀ {kvs : List (D × D)} {xs : List (Key × V)}, KR K H (ι ++ τ) kvs xs → kvLow ι.length kvs = true → KR K H ι kvs xs
  | [], [], _, _ => trivial
  | (k, v) :: r, (_, _) :: _, h, l => by
    obtain ⟨l1, l⟩ := and2 (show (k.low ι.length && (v.low ι.length && kvLow ι.length r)) = true from l)
    obtain ⟨l2, l3⟩ := and2 l
    exact ⟨h.1.less l1, h.2.1.less l2, KR.less h.2.2 l3⟩
  | [], _ :: _, h, _ => h.elim
  | _ :: _, [], h, _ => h.elim
theorem OR.less {o : Rf.O} (h : OR K M H (ι ++ τ) a o) (l : lowO ι.length o = true) : OR K M H ι a o := by
  cases o with
  | lst ds => exact h.imp fun vs q => ⟨q.1, q.2.less l⟩
  | dk kvs => exact h.imp fun vs q => ⟨q.1, KR.less q.2 l⟩
  | ins c fs => exact h.imp fun dx q => q.imp fun xs q => ⟨q.1, q.2.less l⟩
  | pool => exact h
theorem LR0.less : ∀ {L : LL} {σ : L2.St}, LR0 K H (ι ++ τ) L σ → lowLL ι.length L = true → LR0 K H ι L σ
  | [], [], _, _ => trivial
  | none :: L, _ :: σ, h, l => LR0.less (L := L) (σ := σ) h l
  | some d :: L, _ :: σ, h, l => by
    obtain ⟨l1, l2⟩ := and2 (show (d.low ι.length && lowLL ι.length L) = true from l)
    exact ⟨h.1.imp fun _ q => ⟨q.1, q.2.less l1⟩, LR0.less (L := L) (σ := σ) h.2 l2⟩
  | [], _ :: _, h, _ => h.elim
  | none :: _, [], h, _ => h.elim
  | some _ :: _, [], h, _ => h.elim
theorem LR0.drop1 : ∀ {L : LL} {σ : L2.St} (i : Nat), LR0 K H ι L σ → LR0 K H ι (L.set i none) σ
  | [], [], _, _ => trivial
  | none :: L, _ :: σ, 0, h => h
  | some d :: L, _ :: σ, 0, h => h.2
  | none :: L, _ :: σ, i + 1, h => LR0.drop1 (L := L) (σ := σ) i h
  | some d :: L, _ :: σ, i + 1, h => ⟨h.1, LR0.drop1 (L := L) (σ := σ) i h.2⟩
  | [], _ :: _, _, h => h.elim
  | none :: _, [], _, h => h.elim
  | some _ :: _, [], _, h => h.elim
theorem LR0.forget {L : LL} {σ : L2.St} (h : LR0 K H ι L σ) : ∀ vs : List Nat, LR0 K H ι (wipeL L vs) σ
  | [] => h
  | v :: vs => LR0.drop1 v (LR0.forget h vs)
theorem trimL_ok {w : List Nat} {n : Nat} {ι1 ι4 : List Addr} {G1 G4 : GG} {H1 H4 : Hp} {L1 L4 : LL} {σ1 σ4 : L2.St} (hn : n = ι1.length) (R1 : Rep K M ι1 G1 H1) (l1 : LR K M H1 ι1 L1 σ1) (x : Ext ι1 ι4 H1 H4) (R4 : Rep K M ι4 G4 H4) (l4 : LR K M H4 ι4 L4 σ4) :
    ∃ ι5, Ext ι1 ι5 H1 H4 ∧ Rep K M ι5 (trimL w n L4 G4).2 H4 ∧ LR K M H4 ι5 (trimL w n L4 G4).1 σ4 := by
  subst hn
  unfold trimL
  split
  · rename_i h
    obtain ⟨h1, h2⟩ := and2 h
    obtain ⟨τ, e, f⟩ := x.pre
    subst e
    have x' : Ext ι1 ι1 H1 H4 := ⟨⟨[], by simp, by simp⟩, x.frame, x.mono⟩
    have hl : ι1.length ≤ G4.length := by rw [← R4.len, List.length_append]; omega
    refine ⟨ι1, x', ⟨by rw [List.length_take]; omega, R1.nd, fun i a o e1 e2 => ?_, R4.tab⟩, ⟨(l4.lr.forget w).less h1, l4.fx, l1.cp.ext R1 x'⟩⟩
    have hi : i < ι1.length := (List.getElem?_eq_some_iff.mp e1).1
    have e3 : G4[i]? = some o := by
      rw [List.getElem?_take_of_lt hi] at e2
      exact e2
    exact (R4.obj i a o (by rw [List.getElem?_append_left hi]; exact e1) e3).less (List.all_eq_true.mp h2 o (List.mem_of_getElem? e2))
  · exact ⟨ι4, x, R4, l4⟩
end
section
variable {X : Cx} {M : Nm} {C : EC} {O : Ob} {sx : Sx} {E : XK} {k : Nat} {a b e tg : Expr} {f g : LL → GG → Res D} {pos : Pos} {fs ft : LL → GG → Res Out} {st st' : List Stmt}
theorem s_forw {wp : List Nat} {iter : Expr} {fI : LL → GG → Res IV} {t : TN} (hp : PassesOwn (model X.prog X.w) X.A X.env X.xe) (hc : X.calm = true) (hi : PI X tg iter (tI X.K M E fI)) (hg : PG X tg (gN X.K t)) (hb : L2.PSs X st (tS X.K M E fs)) (hs : notSet iter = true) (nf : ∀ p ∈ M.fix, p.1 ∉ t.slots) :
    L2.PS X (.For tg iter st [] pos) (tS X.K M E fun L G => (fI L G).bind fun iv G => forW fs t iv.src wp G.length iv.items L G) := by
  refine ps_imp (ps_for hp hc hi hg hb (fold_of hs)) fun Dn σ H ⟨ι, L, G, l, R, w⟩ => ?_
  refine ⟨ι, L, G, l, R, Res.wp_mono (fun iv G1 w1 ι1 H1 J x1 R1 wk => ?_) (fun _ _ _ h => h) (Res.wp_bind.mp w)⟩
  have w2 := Res.wp_mono (P' := Ko X.K M ι1 H1 Dn) (E' := Kx X.K M ι1 H1 E) (fun _ _ h => go_o _ _ _ _ _ _ x1 h) (fun _ _ _ h => h.go x1) w1
  refine ⟨fun i m σ H => ∃ ι L G, Ext ι1 ι H1 H ∧ LR X.K M H ι L σ ∧ Rep X.K M ι G H ∧ m = iv.items.length - i ∧ i ≤ iv.items.length ∧ (forW fs t iv.src wp G1.length (iv.items.drop i) L G).wp (Ko X.K M ι1 H1 Dn) (Kx X.K M ι1 H1 E),
    ⟨iv.items.length, ι1, L, G1, Ext.refl _ _, l.ext R x1, R1, rfl, Nat.zero_le _, w2⟩, ?_⟩
  rintro i m σ H2 ⟨ι2, L2, G2, x2, l2, R2, hm, hi, w3⟩
  cases hd : iv.items.drop i with
  | nil =>
    rw [hd] at w3
    obtain ⟨hs, q⟩ := srcOk_wp w3
    exact .inl ⟨(wk ι2 H2 G2 x2 R2 hs i).2.1 (drop_nil hd), (show Ko X.K M ι1 H1 Dn (.nx L2) G2 from q) ι2 H2 x2 R2 σ l2⟩
  | cons d rest =>
    obtain ⟨hg, hr, hlt⟩ := drop_get hd
    rw [hd] at w3
    obtain ⟨hs, q⟩ := srcOk_wp w3
    obtain ⟨wg, _, wy⟩ := wk ι2 H2 G2 x2 R2 hs i
    refine .inr ⟨wg hlt, fun σ H => ∃ ι L G, Ext ι1 ι H1 H ∧ LR X.K M H ι L σ ∧ Rep X.K M ι G H ∧ m - 1 = iv.items.length - (i + 1) ∧ i + 1 ≤ iv.items.length ∧ (forW fs t iv.src wp G1.length (iv.items.drop (i + 1)) L G).wp (Ko X.K M ι1 H1 Dn) (Kx X.K M ι1 H1 E),
      fun σ' H' h => ⟨m - 1, by omega, h⟩, fun x H3 hy => ?_⟩
    obtain ⟨x3, R3, r3⟩ := wy x H3 hy d hg
    split at q
    · rename_i L' hb
      refine gN_ok nf (l2.ext R2 x3) r3 hb fun σ3 l3 _ => ⟨ι2, L', G2, l3, R3, ?_⟩
      refine Res.wp_mono (fun o G4 w4 ι4 H4 x4 R4 => ?_) (fun _ _ _ h => h.go (x2.trans x3)) (Res.wp_bind.mp q)
      have x34 := x3.trans x4
      cases o with
      | nx L4 =>
        intro σ4 l4
        obtain ⟨ι5, x5, R5, l5⟩ := trimL_ok (w := wp) R1.len.symm R1 (l.ext R x1) (x2.trans x34) R4 l4
        exact ⟨ι5, _, _, x5, l5, R5, by omega, hlt, by rw [hr]; exact w4⟩
      | rt d => exact (show Ko X.K M ι1 H1 Dn (.rt d) G4 from w4) ι4 H4 (x2.trans x34) R4
      | bk L4 => exact (show Ko X.K M ι1 H1 Dn (.nx L4) G4 from w4) ι4 H4 (x2.trans x34) R4
    · exact q.elim
end
end Rf


set_option Elab.async false
set_option linter.all false
set_option maxRecDepth 100000
set_option maxHeartbeats 2000000
/-! S23: the checker of expressions. -/
namespace Rf
open PySem PySem.Spec PyProof.Rows L2
/-- the static names -/
structure Nt where
  cls : List Str
  att : List Str
  fn : List Str
  gl : List Str
  dk : List Str
  kw : List (List Str)
def Nm.nt (M : Nm) : Nt := ⟨M.cls, M.att, M.fn, M.gl, M.dk, M.kw⟩
structure Ln (T : Nt) (P : Prg) (call : CallT) (M : Nm) (C : EC) : Prop where
  t : M.nt = T
  p : C.P = P
  c : C.call = call
abbrev RX := PX → Expr → Bool
def nameAt (l : List Str) (n : Nat) : Str := l.getD n Str.empty
def litB : D → Const → Bool
  | .non, .none => true
  | .bl b, .bool c => b == c
  | .int i, .int j => decide (i = j)
  | .str cs, .str s => s.cps.toList == cs
  | _, _ => false
def chkAs (rx : RX) : PXs → List Expr → Bool
  | .nil, [] => true
  | .cons p r, e :: es => rx p e && notStar e && chkAs rx r es
  | _, _ => false
def chkKs (rx : RX) : PXs → List Keyword → Bool
  | .nil, [] => true
  | .cons p r, ⟨some _, e, _⟩ :: es => rx p e && chkKs rx r es
  | _, _ => false
def chkA (rx : RX) : PX → List Expr → Bool
  | p, [e] => rx p e
  | .and a b, e :: es => rx a e && chkA rx b es
  | _, _ => false
def chkO (rx : RX) : PX → List Expr → Bool
  | p, [e] => rx p e
  | .or a b, e :: es => rx a e && chkO rx b es
  | _, _ => false
def chkPart (rx : RX) : PX → Option Expr → Bool
  | .nopart, none => true
  | p, some e => !p.isNop && rx p e
  | _, _ => false
def chkIfs (rx : RX) : PX → List Expr → Bool
  | .yes, [] => true
  | p, [e] => rx p e
  | _, _ => false
def isTupE : Expr → Bool
  | .Tuple _ _ _ => true
  | _ => false
def chkI (rx : RX) (sx : Sx) (tg : Expr) (i : IT) (e : Expr) : Bool := match i with
  | .seq a => rx a e
  | .rng1 a => match e with
    | .Call (.Name x _) [e1] [] _ => decide (x = "range") && glB sx.sc "range" && rx a e1 && notStar e1
    | _ => false
  | .rng2 a b => match e with
    | .Call (.Name x _) [e1, e2] [] _ => decide (x = "range") && glB sx.sc "range" && rx a e1 && notStar e1 && rx b e2 && notStar e2
    | _ => false
  | .enum a => match e with
    | .Call (.Name x _) [e1] [] _ => decide (x = "enumerate") && glB sx.sc "enumerate" && rx a e1 && notStar e1 && isTupE tg
    | _ => false
  | .zip a b => match e with
    | .Call (.Name x _) [e1, e2] [] _ => decide (x = "zip") && glB sx.sc "zip" && rx a e1 && notStar e1 && rx b e2 && notStar e2 && isTupE tg
    | _ => false
  | .comb _ _ => false
def bfN : Bf → Str
  | .len => "len" | .tuple => "tuple" | .list => "list" | .sorted => "sorted" | .min => "min" | .max => "max" | .sum => "sum" | .any => "any" | .all => "all" | .int => "int" | .abs => "abs" | .divmod => "divmod" | .repr => "repr" | .str => "str"
def bfOk : Bf → Bool
  | .sorted => false
  | _ => true
def bmN : Bm → Str
  | .append => "append" | .extend => "extend" | .pop => "pop" | .get => "get" | .split => "split" | .join => "join" | .upper => "upper" | .replace => "replace" | .bitlen => "bit_length"
def bmOk : Bm → Bool
  | .replace => false
  | .bitlen => false
  | _ => true
def kVar (sx : Sx) (i : Nat) (e : Expr) : Bool := match e with
  | .Name x _ => nmB sx i x
  | _ => false
def kLit (d : D) (e : Expr) : Bool := match e with
  | .Constant c _ _ => litB d c
  | _ => false
def kGlob (T : Nt) (sx : Sx) (g : Nat) (e : Expr) : Bool := match e with
  | .Name x _ => glB sx.sc x && decide (x = nameAt T.gl g)
  | _ => false
def kBin (rx : RX) (o : Bop) (a b : PX) (e : Expr) : Bool := match e with
  | .BinOp l op r _ => decide (op = bopO o) && rx a l && rx b r
  | _ => false
def kUn (rx : RX) (o : Uop) (a : PX) (e : Expr) : Bool := match o with
  | .neg => match e with
    | .UnaryOp .USub l _ => rx a l
    | _ => false
  | .inv => match e with
    | .UnaryOp .Invert l _ => rx a l
    | _ => false
def kNot (rx : RX) (a : PX) (e : Expr) : Bool := match e with
  | .UnaryOp .Not l _ => rx a l
  | _ => false
def kAnd (rx : RX) (p : PX) (e : Expr) : Bool := match e with
  | .BoolOp .And es _ => chkA rx p es
  | _ => false
def kOr (rx : RX) (p : PX) (e : Expr) : Bool := match e with
  | .BoolOp .Or es _ => chkO rx p es
  | _ => false
def kCmp (rx : RX) (o : Cop) (a b : PX) (e : Expr) : Bool := match e with
  | .Compare l [op] [r] _ => decide (op = copO o) && rx a l && rx b r && notSet r
  | _ => false
def kChain (rx : RX) (o p : Cop) (a b c : PX) (e : Expr) : Bool := match e with
  | .Compare l [op, oq] [m, r] _ => decide (op = copO o) && decide (oq = copO p) && rx a l && rx b m && rx c r && notSet m && notSet r
  | _ => false
def kIte (rx : RX) (c a b : PX) (e : Expr) : Bool := match e with
  | .IfExp t x y _ => rx c t && rx a x && rx b y
  | _ => false
def kTup (rx : RX) (ps : PXs) (e : Expr) : Bool := match e with
  | .Tuple es _ _ => chkAs rx ps es
  | _ => false
def kLst (rx : RX) (ps : PXs) (e : Expr) : Bool := match e with
  | .List es _ => chkAs rx ps es
  | _ => false
def kStars (rx : RX) (a : PX) (ps : PXs) (e : Expr) : Bool := match e with
  | .List (.Starred x _ :: es) _ => rx a x && chkAs rx ps es
  | _ => false
def kIdx (rx : RX) (a b : PX) (e : Expr) : Bool := match e with
  | .Subscript x y _ => rx a x && rx b y && notSlice y
  | _ => false
def kSl (rx : RX) (a lo hi : PX) (e : Expr) : Bool := match e with
  | .Subscript x (.Slice l h none _) _ => rx a x && chkPart rx lo l && chkPart rx hi h
  | _ => false
def kAttr (T : Nt) (rx : RX) (a : PX) (f : Nat) (e : Expr) : Bool := match e with
  | .Attribute x f' _ => rx a x && decide (f' = nameAt T.att f) && baseB x
  | _ => false
def kCall (T : Nt) (sx : Sx) (rx : RX) (f : Nat) (ps : PXs) (e : Expr) : Bool := match e with
  | .Call (.Name x _) es [] _ => decide (f < T.fn.length) && decide (x = nameAt T.fn f) && !decide (nameAt T.fn f = Str.empty) && glB sx.sc x && chkAs rx ps es
  | _ => false
def kMk (T : Nt) (P : Prg) (sx : Sx) (rx : RX) (c : Nat) (ps : PXs) (e : Expr) : Bool := match e with
  | .Call (.Name x _) es [] _ => (clsOf P c).init.isSome && decide (x = nameAt T.cls c) && glB sx.sc x && chkAs rx ps es
  | _ => false
def kMeth (T : Nt) (rx : RX) (a : PX) (m : Nat) (ps : PXs) (e : Expr) : Bool := match e with
  | .Call (.Attribute x m' apos) es [] pos => rx a x && decide (m' = nameAt T.att m) && baseB x && (apos.endLine == pos.line) && decide (es.length < 29) && chkAs rx ps es
  | _ => false
def kCloc (sx : Sx) (rx : RX) (i : Nat) (ps : PXs) (e : Expr) : Bool := match e with
  | .Call (.Name x _) es [] _ => sx.top && nmB sx i x && chkAs rx ps es
  | _ => false
def kCallk (T : Nt) (P : Prg) (sx : Sx) (rx : RX) (n : Nat) (ps : PXs) (e : Expr) : Bool := match e with
  | .Call (.Name x _) [] kws _ => (match P.kws[n]?, T.kw[n]? with
    | some r, some ks => decide (x = nameAt T.fn r.f) && !decide (nameAt T.fn r.f = Str.empty) && glB sx.sc x && chkKs rx ps kws && decide (kws.filterMap (·.arg) = ks)
    | _, _ => false)
  | _ => false
def kMkk (T : Nt) (P : Prg) (sx : Sx) (rx : RX) (c n : Nat) (ps : PXs) (e : Expr) : Bool := match e with
  | .Call (.Name x _) [] kws _ => (match P.kws[n]?, T.kw[n]? with
    | some r, some ks => decide ((clsOf P c).init = some r.f) && decide (r.ahead = 1) && decide (x = nameAt T.cls c) && glB sx.sc x && chkKs rx ps kws && decide (kws.filterMap (·.arg) = ks)
    | _, _ => false)
  | _ => false
def kMethk (T : Nt) (P : Prg) (rx : RX) (a : PX) (m n : Nat) (ps : PXs) (e : Expr) : Bool := match e with
  | .Call (.Attribute x m' apos) [] kws pos => (match P.kws[n]?, T.kw[n]? with
    | some r, some ks => rx a x && decide (m' = nameAt T.att m) && baseB x && (apos.endLine == pos.line) && decide (kws.length < 29) && chkKs rx ps kws && decide (kws.filterMap (·.arg) = ks)
    | _, _ => false)
  | _ => false
def kBlt (sx : Sx) (rx : RX) (b : Bf) (ps : PXs) (e : Expr) : Bool := match e with
  | .Call (.Name x _) (e1 :: es) [] _ => decide (x = bfN b) && bfOk b && glB sx.sc x && chkAs rx ps (e1 :: es)
  | _ => false
def kBmeth (rx : RX) (b : Bm) (a : PX) (ps : PXs) (e : Expr) : Bool := match e with
  | .Call (.Attribute x m' apos) es [] pos => bmOk b && rx a x && decide (m' = bmN b) && baseB x && (apos.endLine == pos.line) && decide (es.length < 29) && chkAs rx ps es
  | _ => false
def tyNm (T : Nt) : Ty → Str
  | .cls c => nameAt T.cls c
  | t => tyN t
def kIsa (T : Nt) (P : Prg) (sx : Sx) (rx : RX) (a : PX) (t : Ty) (e : Expr) : Bool := match e with
  | .Call (.Name x _) [e1, .Name x2 _] [] _ => decide (x = "isinstance") && glB sx.sc "isinstance" && glB sx.sc x2 && decide (x2 = tyNm T t) && tyOk P t && rx a e1 && notStar e1
  | _ => false
def kLc (rec : Sx → RX) (sx : Sx) (elt : PX) (vs : List Nat) (t : TN) (it : IT) (cond : PX) (e : Expr) : Bool := match e with
  | .ListComp e1 [⟨tg, iter, ifs, z⟩] scope _ => decide (z = 0) && chkI (rec sx) sx tg it iter && blkC sx.N sx.sc scope (ownOf sx.N vs) && vsB sx t vs && chkN (sx.blk scope) t tg && chkIfs (rec (sx.blk scope)) cond ifs && rec (sx.blk scope) elt e1 && notSet iter
  | _ => false
def kDnew (e : Expr) : Bool := match e with
  | .Dict [] [] _ => true
  | _ => false
def kDkn (T : Nt) (P : Prg) (sx : Sx) (rx : RX) (g : Nat) (a : PX) (e : Expr) : Bool := match e with
  | .Compare l [.In] [.Name x _] _ => glB sx.sc x && decide (x = nameAt T.dk g) && (P.dks[g]?).isSome && rx a l
  | _ => false
def kDkg (T : Nt) (P : Prg) (sx : Sx) (rx : RX) (g : Nat) (a : PX) (e : Expr) : Bool := match e with
  | .Subscript (.Name x _) y _ => glB sx.sc x && decide (x = nameAt T.dk g) && (P.dks[g]?).isSome && rx a y && notSlice y
  | _ => false
def stepX (T : Nt) (P : Prg) (kl : Sx → Nat → PXs → Nat → Expr → Bool) (rec : Sx → RX) (sx : Sx) (p : PX) (e : Expr) : Bool := match p with
  | .var i => kVar sx i e
  | .lit d => kLit d e
  | .glob g => kGlob T sx g e
  | .bin o a b => kBin (rec sx) o a b e
  | .un o a => kUn (rec sx) o a e
  | .not a => kNot (rec sx) a e
  | .and a b => kAnd (rec sx) (.and a b) e
  | .or a b => kOr (rec sx) (.or a b) e
  | .cmp o a b => kCmp (rec sx) o a b e
  | .chain o q a b c => kChain (rec sx) o q a b c e
  | .ite c a b => kIte (rec sx) c a b e
  | .tup ps => kTup (rec sx) ps e
  | .lst ps => kLst (rec sx) ps e
  | .idx a b => kIdx (rec sx) a b e
  | .sl a lo hi => kSl (rec sx) a lo hi e
  | .nopart => false
  | .attr a f => kAttr T (rec sx) a f e
  | .call f ps => kCall T sx (rec sx) f ps e
  | .calll f ps lam => kl sx f ps lam e
  | .mk c ps => kMk T P sx (rec sx) c ps e
  | .meth a m ps => kMeth T (rec sx) a m ps e
  | .cloc i ps => kCloc sx (rec sx) i ps e
  | .callk n ps => kCallk T P sx (rec sx) n ps e
  | .mkk c n ps => kMkk T P sx (rec sx) c n ps e
  | .methk a m n ps => kMethk T P (rec sx) a m n ps e
  | .blt b ps => kBlt sx (rec sx) b ps e
  | .bmeth b a ps => kBmeth (rec sx) b a ps e
  | .isa a t => kIsa T P sx (rec sx) a t e
  | .exattr _ => false
  | .exisa _ => false
  | .lc elt vs t it cond => kLc rec sx elt vs t it cond e
  | .yes => false
  | .dnew => kDnew e
  | .dknown g a => kDkn T P sx (rec sx) g a e
  | .dkget g a => kDkg T P sx (rec sx) g a e
  | .dcomp _ _ _ _ _ => false
  | .stars a ps => kStars (rec sx) a ps e
end Rf


set_option Elab.async false
set_option linter.all false
set_option maxRecDepth 100000
set_option maxHeartbeats 2000000
/-! S24: the checker of expressions is right, construct by construct. -/
namespace Rf
open PySem PySem.Spec PyProof.Rows L2
/-- as a value, as a test -/
def SX (X : Cx) (M : Nm) (C : EC) (E : XK) (p : PX) (e : Expr) : Prop := PE X e (tE X.K M E (evX C p)) ∧ PT X e (tB X.K M E (evX C p))
theorem and4 {a b c d : Bool} (h : (a && b && c && d) = true) : a = true ∧ b = true ∧ c = true ∧ d = true := by
  simpa [Bool.and_eq_true, and_assoc] using h
section
variable {X : Cx} {M : Nm} {C : EC} {O : Ob} {sx : Sx} {E : XK} {k : Nat} {rx : RX} {e : Expr}
theorem SX.v {p : PX} (h : PE X e (tE X.K M E (evX C p))) (he : ∀ whole, isTrue e X.env whole = (do let v ← whole; standAt e.pos; holding [v] (truthy v))) : SX X M C E p e := ⟨h, t_val h he⟩
theorem chkAs_ok (hr : ∀ p e, rx p e = true → SX X M C E p e) : ∀ {ps : PXs} {es : List Expr}, chkAs rx ps es = true → AJ X M E es (evXs C ps)
  | .nil, [], _ => AJ.nil
  | .cons p r, e :: es, h => by
    obtain ⟨h1, h2, h3⟩ := and3 (show (rx p e && notStar e && chkAs rx r es) = true from h)
    exact AJ.cons (hr p e h1).1 h2 (chkAs_ok hr h3)
  | .nil, _ :: _, h => by cases h
  | .cons _ _, [], h => by cases h
theorem chkKs_ok (hr : ∀ p e, rx p e = true → SX X M C E p e) : ∀ {ps : PXs} {es : List Keyword}, chkKs rx ps es = true → KJ X M E es (evXs C ps)
  | .nil, [], _ => KJ.nil
  | .cons p r, ⟨some _, e, _⟩ :: es, h => by
    obtain ⟨h1, h2⟩ := and2 (show (rx p e && chkKs rx r es) = true from h)
    exact KJ.cons (hr p e h1).1 (chkKs_ok hr h2)
  | .nil, _ :: _, h => by cases h
  | .cons _ _, [], h => by cases h
  | .cons _ _, ⟨none, _, _⟩ :: _, h => by cases h
theorem chkA_ok {pos : Pos} (hr : ∀ p e, rx p e = true → SX X M C E p e) : ∀ {es : List Expr} {p : PX}, chkA rx p es = true → PE X (.BoolOp .And es pos) (tE X.K M E (evX C p)) ∧ PW X (.BoolOp .And es pos) (tB X.K M E (evX C p))
  | [], p, h => by cases p <;> cases h
  | [e], p, h => by
    have h : rx p e = true := by cases p <;> exact h
    exact ⟨pe_one (hr p e h).1, pw_and1 (hr p e h).2⟩
  | e :: e2 :: es, p, h => by
    cases p with
    | and a b =>
      obtain ⟨h1, h2⟩ := and2 (show (rx a e && chkA rx b (e2 :: es)) = true from h)
      obtain ⟨i1, i2⟩ := chkA_ok (pos := pos) hr h2
      exact ⟨e_and (hr a e h1).1 i1, w_and (hr a e h1).2 i2⟩
    | _ => cases h
theorem chkO_ok {pos : Pos} (hr : ∀ p e, rx p e = true → SX X M C E p e) : ∀ {es : List Expr} {p : PX}, chkO rx p es = true → PE X (.BoolOp .Or es pos) (tE X.K M E (evX C p)) ∧ PW X (.BoolOp .Or es pos) (tB X.K M E (evX C p))
  | [], p, h => by cases p <;> cases h
  | [e], p, h => by
    have h : rx p e = true := by cases p <;> exact h
    exact ⟨pe_one (hr p e h).1, pw_or1 (hr p e h).2⟩
  | e :: e2 :: es, p, h => by
    cases p with
    | or a b =>
      obtain ⟨h1, h2⟩ := and2 (show (rx a e && chkO rx b (e2 :: es)) = true from h)
      obtain ⟨i1, i2⟩ := chkO_ok (pos := pos) hr h2
      exact ⟨e_or (hr a e h1).1 i1, w_or (hr a e h1).2 i2⟩
    | _ => cases h
theorem chkPart_ok (hr : ∀ p e, rx p e = true → SX X M C E p e) {p : PX} {o : Option Expr} (h : chkPart rx p o = true) : PO X o (tO X.K M E p.isNop (evX C p)) := by
  cases o with
  | none => cases p <;> first | exact o_none | cases h
  | some e =>
    have h : (!p.isNop && rx p e) = true := by cases p <;> exact h
    obtain ⟨h1, h2⟩ := and2 h
    rw [show p.isNop = false from by simpa using h1]
    exact o_some (hr p e h2).1
theorem chkI_ok (c : Cd X M C O sx E k) (hr : ∀ p e, rx p e = true → SX X M C E p e) {tg : Expr} {i : IT} (h : chkI rx sx tg i e = true) : PI X tg e (tI X.K M E (evI C i)) := by
  cases i with
  | seq a => exact i_seq (hr a e h).1
  | rng1 a =>
    simp only [chkI] at h
    split at h
    · rename_i x p e1 p2
      obtain ⟨h1, h2, h3, h4⟩ := and4 h
      obtain rfl := of_decide_eq_true h1
      exact i_rng1 c h2 (hr a e1 h3).1 h4
    · cases h
  | rng2 a b =>
    simp only [chkI] at h
    split at h
    · rename_i x p e1 e2 p2
      simp only [Bool.and_eq_true] at h
      obtain ⟨⟨⟨⟨⟨h1, h2⟩, h3⟩, h4⟩, h5⟩, h6⟩ := h
      obtain rfl := of_decide_eq_true h1
      exact i_rng2 c h2 (hr a e1 h3).1 (hr b e2 h5).1 h4 h6
    · cases h
  | enum a =>
    simp only [chkI] at h
    split at h
    · rename_i x p e1 p2
      simp only [Bool.and_eq_true] at h
      obtain ⟨⟨⟨⟨h1, h2⟩, h3⟩, h4⟩, h5⟩ := h
      obtain rfl := of_decide_eq_true h1
      cases tg <;> first | exact i_enum c h2 (hr a e1 h3).1 h4 | cases h5
    · cases h
  | zip a b =>
    simp only [chkI] at h
    split at h
    · rename_i x p e1 e2 p2
      simp only [Bool.and_eq_true] at h
      obtain ⟨⟨⟨⟨⟨⟨h1, h2⟩, h3⟩, h4⟩, h5⟩, h6⟩, h7⟩ := h
      obtain rfl := of_decide_eq_true h1
      cases tg <;> first | exact i_zip c h2 (hr a e1 h3).1 (hr b e2 h5).1 h4 h6 | cases h7
    · cases h
  | comb a b => cases h
theorem kVar_ok (c : Cg X M C O sx) {i : Nat} (h : kVar sx i e = true) : SX X M C E (.var i) e := by
  unfold kVar at h
  split at h
  · exact .v (e_var c h) fun _ => rfl
  · cases h
theorem litB_ok {d : D} {c : Const} {n : Nat} {pos : Pos} (h : litB d c = true) : PE X (.Constant c n pos) (tE X.K M E (evX C (.lit d))) := by
  cases d with
  | non => cases c <;> first | exact e_lit pe_non fun _ _ => rfl | cases h
  | bl b => cases c <;> first | cases h | skip
            rename_i b2
            obtain rfl : b = b2 := by simpa [litB] using h
            exact e_lit pe_bl fun _ _ => rfl
  | int b => cases c <;> first | cases h | skip
             rename_i b2
             obtain rfl : b = b2 := by simpa [litB] using h
             exact e_lit pe_int fun _ _ => rfl
  | str b => cases c <;> first | cases h | skip
             rename_i b2
             obtain rfl : b2.cps.toList = b := by simpa [litB] using h
             exact e_lit pe_str fun _ _ => rfl
  | _ => cases c <;> cases h
theorem kLit_ok {d : D} (h : kLit d e = true) : SX X M C E (.lit d) e := by
  unfold kLit at h
  split at h
  · exact .v (litB_ok h) fun _ => rfl
  · cases h
theorem kBin_ok (hr : ∀ p e, rx p e = true → SX X M C E p e) {o : Bop} {a b : PX} (h : kBin rx o a b e = true) : SX X M C E (.bin o a b) e := by
  unfold kBin at h
  split at h
  · obtain ⟨h1, h2, h3⟩ := and3 h
    obtain rfl := of_decide_eq_true h1
    exact .v (e_bin (hr _ _ h2).1 (hr _ _ h3).1) fun _ => rfl
  · cases h
theorem kUn_ok (hr : ∀ p e, rx p e = true → SX X M C E p e) {o : Uop} {a : PX} (h : kUn rx o a e = true) : SX X M C E (.un o a) e := by
  cases o with
  | neg =>
    unfold kUn at h
    simp only at h
    split at h
    · exact .v (e_neg (hr _ _ h).1) fun _ => rfl
    · cases h
  | inv =>
    unfold kUn at h
    simp only at h
    split at h
    · exact .v (e_inv (hr _ _ h).1) fun _ => rfl
    · cases h
theorem kNot_ok (hr : ∀ p e, rx p e = true → SX X M C E p e) {a : PX} (h : kNot rx a e = true) : SX X M C E (.not a) e := by
  unfold kNot at h
  split at h
  · exact ⟨e_not (hr _ _ h).1, t_not (hr _ _ h).2⟩
  · cases h
theorem kAnd_ok (hr : ∀ p e, rx p e = true → SX X M C E p e) {p : PX} (h : kAnd rx p e = true) : SX X M C E p e := by
  unfold kAnd at h
  split at h
  · obtain ⟨h1, h2⟩ := chkA_ok hr h
    exact ⟨h1, h2.pt⟩
  · cases h
theorem kOr_ok (hr : ∀ p e, rx p e = true → SX X M C E p e) {p : PX} (h : kOr rx p e = true) : SX X M C E p e := by
  unfold kOr at h
  split at h
  · obtain ⟨h1, h2⟩ := chkO_ok hr h
    exact ⟨h1, h2.pt⟩
  · cases h
theorem kCmp_ok (c : Cg X M C O sx) (hr : ∀ p e, rx p e = true → SX X M C E p e) {o : Cop} {a b : PX} (h : kCmp rx o a b e = true) : SX X M C E (.cmp o a b) e := by
  unfold kCmp at h
  split at h
  · obtain ⟨h1, h2, h3, h4⟩ := and4 h
    obtain rfl := of_decide_eq_true h1
    exact ⟨e_cmp c.un (hr _ _ h2).1 (hr _ _ h3).1 h4, t_cmp c.un (hr _ _ h2).1 (hr _ _ h3).1 h4⟩
  · cases h
theorem kChain_ok (c : Cg X M C O sx) (hr : ∀ p e, rx p e = true → SX X M C E p e) {o q : Cop} {a b d : PX} (h : kChain rx o q a b d e = true) : SX X M C E (.chain o q a b d) e := by
  unfold kChain at h
  split at h
  · simp only [Bool.and_eq_true] at h
    obtain ⟨⟨⟨⟨⟨⟨h1, h2⟩, h3⟩, h4⟩, h5⟩, h6⟩, h7⟩ := h
    obtain rfl := of_decide_eq_true h1
    obtain rfl := of_decide_eq_true h2
    exact ⟨e_chain c.un (hr _ _ h3).1 (hr _ _ h4).1 (hr _ _ h5).1 h6 h7, t_chain c.un (hr _ _ h3).1 (hr _ _ h4).1 (hr _ _ h5).1 h6 h7⟩
  · cases h
theorem kIte_ok (hr : ∀ p e, rx p e = true → SX X M C E p e) {a b d : PX} (h : kIte rx d a b e = true) : SX X M C E (.ite d a b) e := by
  unfold kIte at h
  split at h
  · obtain ⟨h1, h2, h3⟩ := and3 h
    exact ⟨e_ite (hr _ _ h1).2 (hr _ _ h2).1 (hr _ _ h3).1, t_ite (hr _ _ h1).2 (hr _ _ h2).2 (hr _ _ h3).2⟩
  · cases h
theorem kTup_ok (hr : ∀ p e, rx p e = true → SX X M C E p e) {ps : PXs} (h : kTup rx ps e = true) : SX X M C E (.tup ps) e := by
  unfold kTup at h
  split at h
  · exact .v (e_tup (chkAs_ok hr h).pa) fun _ => rfl
  · cases h
theorem kLst_ok (hr : ∀ p e, rx p e = true → SX X M C E p e) {ps : PXs} (h : kLst rx ps e = true) : SX X M C E (.lst ps) e := by
  unfold kLst at h
  split at h
  · exact .v (e_lst (chkAs_ok hr h).pa) fun _ => rfl
  · cases h
theorem kStars_ok (hr : ∀ p e, rx p e = true → SX X M C E p e) {a : PX} {ps : PXs} (h : kStars rx a ps e = true) : SX X M C E (.stars a ps) e := by
  unfold kStars at h
  split at h
  · obtain ⟨h1, h2⟩ := and2 h
    exact .v (e_stars (hr _ _ h1).1 (chkAs_ok hr h2).pa) fun _ => rfl
  · cases h
theorem kIdx_ok (c : Cg X M C O sx) (hr : ∀ p e, rx p e = true → SX X M C E p e) {a b : PX} (h : kIdx rx a b e = true) : SX X M C E (.idx a b) e := by
  unfold kIdx at h
  split at h
  · obtain ⟨h1, h2, h3⟩ := and3 h
    exact .v (e_idx c.un (hr _ _ h1).1 (hr _ _ h2).1 h3) fun _ => rfl
  · cases h
theorem kSl_ok (hr : ∀ p e, rx p e = true → SX X M C E p e) {a lo hi : PX} (h : kSl rx a lo hi e = true) : SX X M C E (.sl a lo hi) e := by
  unfold kSl at h
  split at h
  · obtain ⟨h1, h2, h3⟩ := and3 h
    exact .v (e_sl (hr _ _ h1).1 (chkPart_ok hr h2) (chkPart_ok hr h3)) fun _ => rfl
  · cases h
end
end Rf


set_option Elab.async false
set_option linter.all false
set_option maxRecDepth 100000
set_option maxHeartbeats 2000000
/-! S25: the checker of expressions is right: names, calls, comprehensions. -/
namespace Rf
open PySem PySem.Spec PyProof.Rows L2
section
variable {X : Cx} {M : Nm} {C : EC} {O : Ob} {sx : Sx} {E : XK} {k : Nat} {rx : RX} {e : Expr} {call : CallT}
theorem kGlob_ok (c : Cg X M C O sx) {g : Nat} (h : kGlob M.nt sx g e = true) : SX X M C E (.glob g) e := by
  unfold kGlob at h
  split at h
  · obtain ⟨h1, h2⟩ := and2 h
    exact .v (e_glob c h1 (of_decide_eq_true h2)) fun _ => rfl
  · cases h
theorem kAttr_ok (c : Cd X M C O sx E k) (hr : ∀ p e, rx p e = true → SX X M C E p e) {a : PX} {f : Nat} (h : kAttr M.nt rx a f e = true) : SX X M C E (.attr a f) e := by
  unfold kAttr at h
  split at h
  · obtain ⟨h1, h2, h3⟩ := and3 h
    obtain rfl := of_decide_eq_true h2
    exact .v (e_attr c (hr _ _ h1).1 h3) fun _ => rfl
  · cases h
theorem kCall_ok (c : Cd X M C O sx E k) (hr : ∀ p e, rx p e = true → SX X M C E p e) {f : Nat} {ps : PXs} (h : kCall M.nt sx rx f ps e = true) : SX X M C E (.call f ps) e := by
  unfold kCall at h
  split at h
  · simp only [Bool.and_eq_true] at h
    obtain ⟨⟨⟨⟨h1, h2⟩, h3⟩, h4⟩, h5⟩ := h
    exact .v (e_call c (of_decide_eq_true h1) (of_decide_eq_true h2) (by have := h3; simpa [nameAt, Nm.f, Nm.nt] using this) h4 (chkAs_ok hr h5)) fun _ => rfl
  · cases h
theorem kMk_ok (c : Cd X M C O sx E k) (hr : ∀ p e, rx p e = true → SX X M C E p e) {q : Nat} {ps : PXs} (h : kMk M.nt C.P sx rx q ps e = true) : SX X M C E (.mk q ps) e := by
  unfold kMk at h
  split at h
  · obtain ⟨h1, h2, h3, h4⟩ := and4 h
    obtain ⟨F, hF⟩ := Option.isSome_iff_exists.mp h1
    obtain ⟨r, hr1, hr2⟩ := init_some hF
    exact .v (e_mk c hr1 hr2 (of_decide_eq_true h2) h3 (chkAs_ok hr h4)) fun _ => rfl
  · cases h
theorem kMeth_ok (c : Cd X M C O sx E k) (hr : ∀ p e, rx p e = true → SX X M C E p e) {a : PX} {m : Nat} {ps : PXs} (h : kMeth M.nt rx a m ps e = true) : SX X M C E (.meth a m ps) e := by
  unfold kMeth at h
  split at h
  · simp only [Bool.and_eq_true] at h
    obtain ⟨⟨⟨⟨⟨h1, h2⟩, h3⟩, h4⟩, h5⟩, h6⟩ := h
    obtain rfl := of_decide_eq_true h2
    exact .v (e_meth c (hr _ _ h1).1 h3 h4 (of_decide_eq_true h5) (chkAs_ok hr h6)) fun _ => rfl
  · cases h
theorem tr_self (X : Cx) : X.tr X.pn X.xe = X := rfl
theorem e_cloc (c : Cd X M C O sx E k) {i : Nat} {x : Str} {p1 p2 : Pos} {es : List Expr} {fs : LL → GG → Res (List D)} (ht : sx.top = true) (hn : nmB sx i x = true) (hA : AJ X M E es fs) :
    PE X (.Call (.Name x p1) es [] p2) (tE X.K M E fun L G => clocK C i (fs L) G) := by
  obtain ⟨n1, n2, n3, n4⟩ := c.name hn
  cases hl : C.lam.lookup i with
  | none =>
    refine ⟨fun pins s σ H Q I ⟨ι, L, G, l, R, w⟩ => ?_⟩
    unfold clocK at w
    rw [hl] at w
    exact w.elim
  | some p =>
    obtain ⟨lam, L⟩ := p
    refine (c.clo ht i lam L hl X.pn X.xe E es fs x p1 p2 n1 n2 n3 n4 c.px hA).imp fun σ H Q ⟨ι, L', G, l, R, w⟩ => ⟨ι, L', G, l, R, ?_⟩
    unfold clocK at w
    rw [hl] at w
    exact w
theorem kCloc_ok (c : Cd X M C O sx E k) (hr : ∀ p e, rx p e = true → SX X M C E p e) {i : Nat} {ps : PXs} (h : kCloc sx rx i ps e = true) : SX X M C E (.cloc i ps) e := by
  unfold kCloc at h
  split at h
  · obtain ⟨h1, h2, h3⟩ := and3 h
    exact .v (e_cloc c h1 h2 (chkAs_ok hr h3)) fun _ => rfl
  · cases h
theorem kCallk_ok (c : Cd X M C O sx E k) (hr : ∀ p e, rx p e = true → SX X M C E p e) {n : Nat} {ps : PXs} (h : kCallk M.nt C.P sx rx n ps e = true) : SX X M C E (.callk n ps) e := by
  unfold kCallk at h
  split at h
  · split at h
    · rename_i r ks e1 e2
      simp only [Bool.and_eq_true] at h
      obtain ⟨⟨⟨⟨h1, h2⟩, h3⟩, h4⟩, h5⟩ := h
      exact .v (e_callk c e1 e2 (of_decide_eq_true h1) (by have := h2; simpa [nameAt, Nm.f, Nm.nt] using this) h3 (chkKs_ok hr h4) (of_decide_eq_true h5)) fun _ => rfl
    · cases h
  · cases h
theorem kMkk_ok (c : Cd X M C O sx E k) (hr : ∀ p e, rx p e = true → SX X M C E p e) {q n : Nat} {ps : PXs} (h : kMkk M.nt C.P sx rx q n ps e = true) : SX X M C E (.mkk q n ps) e := by
  unfold kMkk at h
  split at h
  · split at h
    · rename_i r ks e1 e2
      simp only [Bool.and_eq_true] at h
      obtain ⟨⟨⟨⟨⟨h1, h2⟩, h3⟩, h4⟩, h5⟩, h6⟩ := h
      exact .v (e_mkk c e1 e2 (of_decide_eq_true h1) (of_decide_eq_true h2) (of_decide_eq_true h3) h4 (chkKs_ok hr h5) (of_decide_eq_true h6)) fun _ => rfl
    · cases h
  · cases h
theorem kMethk_ok (c : Cd X M C O sx E k) (hr : ∀ p e, rx p e = true → SX X M C E p e) {a : PX} {m n : Nat} {ps : PXs} (h : kMethk M.nt C.P rx a m n ps e = true) : SX X M C E (.methk a m n ps) e := by
  unfold kMethk at h
  split at h
  · split at h
    · rename_i r ks e1 e2
      simp only [Bool.and_eq_true] at h
      obtain ⟨⟨⟨⟨⟨⟨h1, h2⟩, h3⟩, h4⟩, h5⟩, h6⟩, h7⟩ := h
      obtain rfl := of_decide_eq_true h2
      exact .v (e_methk c e1 e2 (hr _ _ h1).1 h3 h4 (of_decide_eq_true h5) (chkKs_ok hr h6) (of_decide_eq_true h7)) fun _ => rfl
    · cases h
  · cases h
theorem kBlt_ok (c : Cd X M C O sx E k) (hr : ∀ p e, rx p e = true → SX X M C E p e) {b : Bf} {ps : PXs} (h : kBlt sx rx b ps e = true) : SX X M C E (.blt b ps) e := by
  unfold kBlt at h
  split at h
  · obtain ⟨h1, h2, h3, h4⟩ := and4 h
    obtain rfl := of_decide_eq_true h1
    have hA := chkAs_ok hr h4
    refine .v ?_ fun _ => rfl
    cases b with
    | len => exact e_bltB c.toCg bf_len (by rfl) (by decide) h3 hA
    | tuple => exact e_bltT c.toCg bf_tuple (by rfl) (by decide) h3 hA
    | list => exact e_bltT c.toCg bf_list (by rfl) (by decide) h3 hA
    | sorted => cases h2
    | min => exact e_bltB c.toCg (bf_min c.calm) (by rfl) (by decide) h3 hA
    | max => exact e_bltB c.toCg (bf_max c.calm) (by rfl) (by decide) h3 hA
    | sum => exact e_bltB c.toCg (bf_sum c.calm) (by rfl) (by decide) h3 hA
    | any => exact e_bltB c.toCg (bf_any c.calm) (by rfl) (by decide) h3 hA
    | all => exact e_bltB c.toCg (bf_all c.calm) (by rfl) (by decide) h3 hA
    | int => exact e_bltT c.toCg bf_int (by rfl) (by decide) h3 hA
    | abs => exact e_bltB c.toCg bf_abs (by rfl) (by decide) h3 hA
    | divmod => exact e_bltB c.toCg bf_divmod (by rfl) (by decide) h3 hA
    | repr => exact e_bltB c.toCg (bf_repr c.gd c.un) (by rfl) (by decide) h3 hA
    | str => exact e_bltT c.toCg bf_str (by rfl) (by decide) h3 hA
  · cases h
theorem kBmeth_ok (c : Cd X M C O sx E k) (hr : ∀ p e, rx p e = true → SX X M C E p e) {b : Bm} {a : PX} {ps : PXs} (h : kBmeth rx b a ps e = true) : SX X M C E (.bmeth b a ps) e := by
  unfold kBmeth at h
  split at h
  · simp only [Bool.and_eq_true] at h
    obtain ⟨⟨⟨⟨⟨⟨h1, h2⟩, h3⟩, h4⟩, h5⟩, h6⟩, h7⟩ := h
    obtain rfl := of_decide_eq_true h3
    have hA := chkAs_ok hr h7
    have h6 := of_decide_eq_true h6
    refine .v ?_ fun _ => rfl
    cases b with
    | append => exact e_bm PySem.F.plainAttrs_list PySem.F.slot_list_append PySem.F.type_list_append mb_append (hr _ _ h2).1 h4 h5 hA h6
    | extend => exact e_bm PySem.F.plainAttrs_list PySem.F.slot_list_extend PySem.F.type_list_extend mb_extend (hr _ _ h2).1 h4 h5 hA h6
    | pop => exact e_bm PySem.F.plainAttrs_list PySem.F.slot_list_pop PySem.F.type_list_pop mb_pop (hr _ _ h2).1 h4 h5 hA h6
    | get => exact e_bm PySem.F.plainAttrs_dict PySem.F.slot_dict_get PySem.F.type_dict_get (mb_get (by have := c.un; omega)) (hr _ _ h2).1 h4 h5 hA h6
    | split => exact e_bm PySem.F.plainAttrs_str PySem.F.slot_str_split PySem.F.type_str_split mb_split (hr _ _ h2).1 h4 h5 hA h6
    | join => exact e_bm PySem.F.plainAttrs_str PySem.F.slot_str_join PySem.F.type_str_join mb_join (hr _ _ h2).1 h4 h5 hA h6
    | upper => exact e_bm PySem.F.plainAttrs_str PySem.F.slot_str_upper PySem.F.type_str_upper mb_upper (hr _ _ h2).1 h4 h5 hA h6
    | replace => cases h1
    | bitlen => cases h1
  · cases h
theorem tyNm_eq {t : Ty} : tyNm M.nt t = tyX M t := by cases t <;> rfl
theorem kIsa_ok (c : Cd X M C O sx E k) (hr : ∀ p e, rx p e = true → SX X M C E p e) {a : PX} {t : Ty} (h : kIsa M.nt C.P sx rx a t e = true) : SX X M C E (.isa a t) e := by
  unfold kIsa at h
  split at h
  · simp only [Bool.and_eq_true] at h
    obtain ⟨⟨⟨⟨⟨⟨h1, h2⟩, h3⟩, h4⟩, h5⟩, h6⟩, h7⟩ := h
    obtain rfl := of_decide_eq_true h1
    exact .v (e_isa c h2 h3 ((of_decide_eq_true h4).trans tyNm_eq) h5 (hr _ _ h6).1 h7) fun _ => rfl
  · cases h
theorem kDnew_ok (h : kDnew e = true) : SX X M C E .dnew e := by
  unfold kDnew at h
  split at h
  · exact .v e_dnew fun _ => rfl
  · cases h
theorem kDkn_ok (c : Cg X M C O sx) (hr : ∀ p e, rx p e = true → SX X M C E p e) {g : Nat} {a : PX} (h : kDkn M.nt C.P sx rx g a e = true) : SX X M C E (.dknown g a) e := by
  unfold kDkn at h
  split at h
  · obtain ⟨h1, h2, h3, h4⟩ := and4 h
    exact ⟨e_dkn c h1 (of_decide_eq_true h2) h3 (hr _ _ h4).1, t_dkn c h1 (of_decide_eq_true h2) h3 (hr _ _ h4).1⟩
  · cases h
theorem kDkg_ok (c : Cg X M C O sx) (hr : ∀ p e, rx p e = true → SX X M C E p e) {g : Nat} {a : PX} (h : kDkg M.nt C.P sx rx g a e = true) : SX X M C E (.dkget g a) e := by
  unfold kDkg at h
  split at h
  · simp only [Bool.and_eq_true] at h
    obtain ⟨⟨⟨⟨h1, h2⟩, h3⟩, h4⟩, h5⟩ := h
    exact .v (e_dkg c h1 (of_decide_eq_true h2) h3 (hr _ _ h4).1 h5) fun _ => rfl
  · cases h
theorem chkIfs_ok (hr : ∀ p e, rx p e = true → SX X M C noE p e) {p : PX} {es : List Expr} (h : chkIfs rx p es = true) : IfJ X M es (evX C p) := by
  match es, h with
  | [], h => cases p <;> first | exact ifj_nil | cases h
  | [e], h =>
    have h : rx p e = true := by cases p <;> exact h
    exact ifj_one (hr _ _ h).2
  | _ :: _ :: _, h => cases p <;> cases h
theorem kLc_ok {rec : Sx → RX} (c : Cd X M C O sx E k) (hr : ∀ p e, rec sx p e = true → SX X M C E p e) (hb : ∀ (Y : Cx) (scope : Scope), gl Y = gl X → Cd Y M C O (sx.blk scope) noE k → ∀ p e, rec (sx.blk scope) p e = true → SX Y M C noE p e) {elt cond : PX} {vs : List Nat} {t : TN} {it : IT}
    (h : kLc rec sx elt vs t it cond e = true) : SX X M C E (.lc elt vs t it cond) e := by
  unfold kLc at h
  split at h
  · simp only [Bool.and_eq_true] at h
    obtain ⟨⟨⟨⟨⟨⟨⟨h1, h2⟩, h3⟩, h4⟩, h5⟩, h6⟩, h7⟩, h8⟩ := h
    obtain rfl := of_decide_eq_true h1
    exact .v (e_lc c (chkI_ok c hr h2) h3 h4 h5 (fun Y hk cy => chkIfs_ok (hb Y _ hk cy) h6) (fun Y hk cy => (hb Y _ hk cy _ _ h7).1) h8) fun _ => rfl
  · cases h
end
end Rf


set_option Elab.async false
set_option linter.all false
set_option maxRecDepth 100000
set_option maxHeartbeats 2000000
/-! S26: a def is handed a lambda. -/
namespace Rf
open PySem PySem.Spec PyProof.Rows L2 LamX
/-- what is known of a def's text -/
structure DefS where
  nm : Str
  qual : Str
  params : Arguments
  body : List Stmt
  scope : Scope
  N : List Str
  ps : List Str
  fix : List Nat
  mkr : Bool
def DefS.sx (S : DefS) : Sx := ⟨S.N, S.scope, fun _ => true, S.fix, true, S.mkr⟩
def DefS.eq (S : DefS) : Str := (envOfC S.qual S.scope 0 0 Value.none).qual
/-- what is known of a def's object -/
structure DfO (O : Ob) (K : PySem.W.Frag) (base : Heap) (mg : Str → Option Value) (tb : List (Addr × Str)) (f : Nat) (S : DefS) (d : DefR) : Prop where
  fd : ∃ dvs kws, FunD K S.nm S.qual S.params S.body S.scope dvs kws (O.fa f) (O.fd f)
  ps : O.ps f = S.ps
  sc : FnScope S.N S.ps S.scope
  par : S.ps.length = d.par
  slots : S.N.length = d.slots
  mkx : S.mkr = true → ∃ c P, (O.fd f).code = .ref c ∧ TabB base mg c P ∧ (P, S.eq ++ "<lambda>") ∈ tb ∧ ∀ p ∈ tb, p.1 = P → p.2 = S.eq ++ "<lambda>"
section
variable {P : Program} {w : World} {K : PySem.W.Frag} {mg : Str → Option Value} {base : Heap} {M : Nm} {C : EC} {O : Ob} {k f : Nat} {S : DefS} {d : DefR}
/-- the context of a def's body -/
theorem cs_of (fx : Fx M C.P O K mg) (dkx : FxD M C.P K w mg) (fns : Fns M O C.call k P w K mg base) (xns : Xns M C.P O k P w K mg base) (D : DfO O K base mg (M.tb K) f S d) (hfix : ∀ p ∈ M.fix, p.1 ∈ S.fix) (hM : S.mkr = true → M.fix = [] ∧ M.capL = [] ∧ M.capS = [] ∧ M.cod = [])
    {A : Around} {outer : List Env} {s : Shared} {H : Hp} {E : XK} (hr : Room (k + 1) (A.deeper (envOfC S.qual S.scope s.heap.objs.size (O.fa f) (O.fd f).code))) (hg : A.guards = some [])
    (hc : ∀ i lam L, C.lam.lookup i = some (lam, L) → ClOk (cxOf (CX P w) P w K mg base S.N S.qual S.scope (O.fa f) (O.fd f).code A outer s H E) M C i lam L) :
    Cs (cxOf (CX P w) P w K mg base S.N S.qual S.scope (O.fa f) (O.fd f).code A outer s H E) M C O S.sx E k := by
  have tk : Takes (cxOf (CX P w) P w K mg base S.N S.qual S.scope (O.fa f) (O.fd f).code A outer s H E) (fun cls d _ H => E cls d H) := takes_of rfl rfl rfl rfl
  exact
  { fx := fx
    N := rfl
    sc := rfl
    fn := rfl
    nd := D.sc.nd
    un := (by have := hr.un; show (A.deeper _).units + 66 < cLine; omega)
    gd := hg
    fixS := hfix
    dkx := dkx
    fns := fns
    xns := xns
    calm := rfl
    hr := hr
    px := passes_call tk (fun _ _ _ _ h => h)
    clo := (fun _ => hc)
    mkf := (fun h => ⟨hM h, D.mkx h |>.imp fun c ⟨Pt, e, T, m, u⟩ => ⟨Pt, T, e, m, u⟩⟩)
    po := passes_of rfl
    tk := tk
    hs := rfl
    hf := rfl
    kd := D.sc.kind }
end
section
variable {X : Cx} {M : Nm} {C : EC} {O : Ob} {sx : Sx} {E : XK} {k : Nat} {rx : RX}
def Kz (X : Cx) (M : Nm) (pins : List (Addr × Obj)) (σ : L2.St) (L : LL) (W : List Value → Shared → Prop) (ι : List Addr) (H : Hp) : List D → GG → Prop := fun ds G1 => ∀ ι1 H1 s1 vs us, Ext ι ι1 H H1 → LR X.K M H1 ι1 L σ → Rep X.K M ι1 G1 H1 → DRs X.K H1 ι1 ds vs → Vals vs us → Inv X pins σ H1 s1 → W us s1
theorem go_z {pins : List (Addr × Obj)} {σ : L2.St} {L : LL} {W : List Value → Shared → Prop} : Go (Kz X M pins σ L W) := fun _ _ _ _ _ _ x h ι' H' s1 vs us y l R r rv I => h ι' H' s1 vs us (x.trans y) l R r rv I
/-- written arguments, the last one a lambda -/
theorem args_lam (hr : ∀ p e, rx p e = true → SX X M C E p e) {z : Expr} (hz : notStar z = true) {pos : Pos} : ∀ {ps : PXs} {es : List Expr}, chkAs rx ps es = true → ∀ {pins : List (Addr × Obj)} {s : Shared} {σ : L2.St} {H : Hp} {ι : List Addr} {L : LL} {G : GG} {Z : List Value → Shared → Prop},
    Inv X pins σ H s → LR X.K M H ι L σ → Rep X.K M ι G H → (evXs C ps L G).wp (Kz X M pins σ L (fun us s1 => wpAny (model X.prog X.w) X.A (eval z X.env) (fun u s2 => Z (us ++ [u]) s2) X.xe s1) ι H) (Kx X.K M ι H E) →
    wpAny (model X.prog X.w) X.A (spliced (backTo pos (starEach (es ++ [z]) X.env))) Z X.xe s
  | .nil, [], _, pins, s, σ, H, ι, L, G, Z, I, l, R, w => by
    rw [List.nil_append, star_of hz]
    show wpAny _ _ (spliced ((false, eval z X.env) :: backTo pos (starEach [] X.env))) _ _ s
    refine Calls.spliced_cons (wpAny_mono ((show Kz X M pins σ L _ ι H [] G from w) ι H s [] [] (Ext.refl _ _) l R trivial .nil I) (fun u s1 h => Calls.spliced_nil h) fun _ _ h => h)
  | .cons p r, e :: es, h, pins, s, σ, H, ι, L, G, Z, I, l, R, w => by
    obtain ⟨h1, h2, h3⟩ := and3 (show (rx p e && notStar e && chkAs rx r es) = true from h)
    rw [List.cons_append, star_of h2]
    show wpAny _ _ (spliced ((false, eval e X.env) :: backTo pos (starEach (es ++ [z]) X.env))) _ _ s
    refine Calls.spliced_cons (thn ((hr p e h1).1.run pins s σ H (fun v H1 => ∃ ι1 d G1, LR X.K M H1 ι1 L σ ∧ Rep X.K M ι1 G1 H1 ∧ DR X.K H1 ι1 d v ∧
      ((evXs C r L G1).bind fun ds G => Res.ok (d :: ds) G).wp (Kz X M pins σ L (fun us s1 => wpAny (model X.prog X.w) X.A (eval z X.env) (fun u s2 => Z (us ++ [u]) s2) X.xe s1) ι1 H1) (Kx X.K M ι1 H1 E)) I
      (tE_bind (f := evX C p) (k := fun d G => (evXs C r L G).bind fun ds G => Res.ok (d :: ds) G) go_z l R w fun ι1 H1 v d G1 x1 l1 R1 r1 w1 => ⟨ι1, d, G1, l1, R1, r1, w1⟩)) fun u s1 ⟨v, H1, I1, ru, ι1, d, G1, l1, R1, r1, w1⟩ => ?_)
    refine args_lam hr hz h3 (Z := fun us s2 => Z (u :: us) s2) I1 l1 R1 (Res.wp_mono (fun ds G2 w2 ι2 H2 s2 vs us x2 l2 R2 r2 rv I2 => ?_) (fun _ _ _ h => h) (Res.wp_bind.mp w1))
    exact (show Kz X M pins σ L _ ι1 H1 (d :: ds) G2 from w2) ι2 H2 s2 (v :: vs) (u :: us) x2 l2 R2 ⟨r1.ext R1 x2, r2⟩ (.cons ru rv) I2
  | .nil, _ :: _, h, _, _, _, _, _, _, _, _, _, _, _, _ => by cases h
  | .cons _ _, [], h, _, _, _, _, _, _, _, _, _, _, _, _ => by cases h
theorem extN_ext {ι : List Addr} {H H' : Hp} (e : ExtN H H') : Ext ι ι H H' := by
  refine ⟨⟨[], by simp, by simp⟩, fun a o h _ t => e a o h t, fun a h o ho => ?_⟩
  by_cases t : ∃ ps, o = HO.tbl ps
  · exact t
  · exact h o (e a o ho fun ps z => t ⟨ps, z⟩)
theorem Rep.tabs {K : PySem.W.Frag} {ι : List Addr} {G : GG} {H H' : Hp} (R : Rep K M ι G H) (e : ExtN H H') (t : Tabs (M.tb K) H') : Rep K M ι G H' :=
  R.later (extN_ext e) (fun a ha => by
    obtain ⟨o, ho, m⟩ := R.mob ha
    rw [ho]
    exact e a o ho fun ps z => by rw [z] at m; exact m) t
end
end Rf


set_option Elab.async false
set_option linter.all false
set_option maxRecDepth 100000
set_option maxHeartbeats 2000000
/-! S27: a def is handed a lambda: the rule. -/
namespace Rf
open PySem PySem.Spec PyProof.Rows L2 LamX
section
variable {P : Program} {w : World} {K : PySem.W.Frag} {mg : Str → Option Value} {base : Heap} {M M' : Nm} {Pr : Prg} {O : Ob} {k : Nat} {call : CallT}
theorem Fx.hold {i : Nat} {f c' : Addr} {q : Str} {L : LL} {σ : L2.St} (fx : Fx M Pr O K mg) : Fx (M.hold i f c' q L σ) Pr O K mg :=
  ⟨fx.attN, fx.glob, fx.blt, fx.cls, fx.noat, fx.meth, fx.mkr, ⟨fx.isi.kit, fx.isi.own⟩, ⟨fx.xx.any, fx.xx.nul, fx.xx.one, fx.xx.xf, fx.xx.kit, fx.xx.exm⟩, fx.kw, fx.fn⟩
theorem FnG.imp {CX : CXT} {f : Addr} {fd : FuncData} {ps : List Str} {sp sp' : Sp} (F : FnG P w K mg base CX k f fd ps sp) (h : ∀ vs H Q E, sp' vs H Q E → sp vs H Q E) : FnG P w K mg base CX k f fd ps sp' :=
  ⟨fun vs H Q E q => F.len vs H Q E (h _ _ _ _ q), fun A outer s H args us vs Q E hr hg e0 hb r q => F.run A outer s H args us vs Q E hr hg e0 hb r (h _ _ _ _ q)⟩
theorem Fns.cast (ea : M'.att = M.att) (ec : M'.cls = M.cls) (et : M'.tb = M.tb) (ef : M'.fn = M.fn) (F : Fns M O call k P w K mg base) : Fns M' O call k P w K mg base := fun f hf =>
  (F f (by rw [← ef]; exact hf)).imp fun vs H Q E ⟨ι, G, ds, R, r, w⟩ => ⟨ι, G, ds, R.cast ea.symm ec.symm et.symm, r, wp_cast ea ec et w⟩
theorem FnG.mono {CX : CXT} {j : Nat} {f : Addr} {fd : FuncData} {ps : List Str} {sp : Sp} (F : FnG P w K mg base CX k f fd ps sp) (h : k ≤ j) : FnG P w K mg base CX j f fd ps sp :=
  ⟨F.len, fun A outer s H args us vs Q E hr hg e0 hb r q => F.run A outer s H args us vs Q E (hr.mono h) hg e0 hb r q⟩
theorem out_ok {ι : List Addr} {H : Hp} {Q : VK} {E : XK} {r : Res Out} (w : (outR r).wp (Kt K M ι H Q) (Kx K M ι H E)) : r.wp (Ko K M ι H { nx := fun _ H' => Q .non H', rt := Q }) (Kx K M ι H E) :=
  Res.wp_mono (fun o G h ι' H' x R => by
    cases o with
    | nx L => exact fun σ' _ => (show Kt K M ι H Q .non G from h) ι' H' .non x R rfl
    | rt d => exact fun v r => (show Kt K M ι H Q d G from h) ι' H' v x R r
    | bk L => exact False.elim h) (fun _ _ _ h => h) (Res.wp_bind.mp w)
/-- the slots at the start, a function object behind the arguments -/
theorem start_lam {ι : List Addr} {H : Hp} {fo : Addr} {n : Nat} : ∀ {ds : List D} {vs : List V}, DRs K H ι ds vs → LR0 K H ι (ds.map some ++ List.replicate (n + 1) none) ((vs ++ [V.ref fo]).map some ++ List.replicate n none)
  | [], [], _ => by
    show LR0 K H ι (List.replicate n none) (List.replicate n none)
    exact LR0.start (ds := []) (vs := []) trivial n
  | d :: ds, v :: vs, h => ⟨⟨v, rfl, h.1⟩, start_lam h.2⟩
  | [], _ :: _, h => h.elim
  | _ :: _, [], h => h.elim
end
def splitL : List Expr → Option (List Expr × Expr)
  | [] => none
  | [e] => some ([], e)
  | e :: r => match splitL r with
    | some p => some (e :: p.1, p.2)
    | none => none
theorem splitL_ok : ∀ {l es : List Expr} {z : Expr}, splitL l = some (es, z) → l = es ++ [z]
  | [], _, _, h => by cases h
  | [e], _, _, h => by cases h; rfl
  | e :: e2 :: r, es, z, h => by
    unfold splitL at h
    split at h
    · rename_i p hp
      cases h
      rw [splitL_ok (es := p.1) (z := p.2) hp]; rfl
    · cases h
section
variable {X : Cx} {M : Nm} {C : EC} {O : Ob} {sx : Sx} {E : XK} {k : Nat} {rx : RX}
theorem clo_run {P : Prg} {m lam : Nat} {L : LL} {ι : List Addr} {H : Hp} {K : PySem.W.Frag} {Q : VK} {E : XK} {ds : List D} {G : GG} (R : Rep K M ι G H) (w : (run P m (.clo lam L) ds G).wp (Kt K M ι H Q) (Kx K M ι H E)) :
    ∃ j l, m = j + 1 ∧ P.lams[lam]? = some l ∧ l.par = ds.length ∧ (evX ⟨P, run P j, [], none⟩ l.body (ds.map some ++ L) G).wp (Kt K M ι H Q) (Kx K M ι H E) := by
  cases m with
  | zero => exact w.elim
  | succ j =>
    unfold run at w
    split at w
    · rename_i l hl
      obtain ⟨h1, w⟩ := wp_if w
      exact ⟨j, l, rfl, hl, by simpa using h1, trim_ok R w⟩
    · exact w.elim
theorem fnl_run {P : Prg} {n f lam : Nat} {L : LL} {ι : List Addr} {H : Hp} {K : PySem.W.Frag} {Q : VK} {E : XK} {ds : List D} {G : GG} (R : Rep K M ι G H) (w : (run P n (.fnl f lam L) ds G).wp (Kt K M ι H Q) (Kx K M ι H E)) :
    ∃ m d, n = m + 1 ∧ P.defs[f]? = some (some d) ∧ d.par = ds.length + 1 ∧ (bodyF P (run P m) d [(ds.length, lam, L)] ds G).wp (Kt K M ι H Q) (Kx K M ι H E) := by
  cases n with
  | zero => exact w.elim
  | succ m =>
    unfold run at w
    split at w
    · exact w.elim
    · split at w
      · rename_i d hd
        obtain ⟨h1, w⟩ := wp_if w
        exact ⟨m, d, rfl, hd, by simpa using h1, trim_ok R w⟩
      · exact w.elim
end
end Rf


set_option Elab.async false
set_option linter.all false
set_option maxRecDepth 100000
set_option maxHeartbeats 4000000
/-! S28: the rule of a call by a lambda. -/
namespace Rf
open PySem PySem.Spec PyProof.Rows L2 LamX
section
variable {X : Cx} {M : Nm} {C : EC} {O : Ob} {sx : Sx} {E : XK} {n : Nat} {rx : RX}
/-- the place of a lambda's body -/
def lamSx (sx : Sx) (psn : List Str) (scope : Scope) : Sx := ⟨psn ++ sx.N, scope, fun _ => false, [], false, false⟩
/-- what the body tells -/
def lamF (P : Prg) (m : Nat) (lam : Nat) : LL → GG → Res D := match m, P.lams[lam]? with
  | j + 1, some l => evX ⟨P, run P j, [], none⟩ l.body
  | _, _ => fun _ _ => .bad
theorem pe_bad {e : Expr} : PE X e (tE X.K M E fun _ _ => .bad) := ⟨fun pins s σ H Q I ⟨ι, L, G, l, R, w⟩ => w.elim⟩
/-- the context of the lambda's body -/
theorem cd_lam {k j : Nat} (c : Cd X M C O sx E k) (hM : M.fix = []) {psn : List Str} {scope : Scope} (hk : scope.kind = .function) (nd : (psn ++ sx.N).Nodup) {call : CallT} (fns : Fns M O call j X.prog X.w X.K X.mg X.base) (xns : Xns M C.P O j X.prog X.w X.K X.mg X.base)
    {A : Around} {outer : List Env} {s : Shared} {H : Hp} {E' : XK} {fo c' : Addr} (hr : Room (j + 1) (A.deeper (lamEnv X scope s.heap.objs.size fo c'))) (hg : A.guards = some []) :
    Cd (lamCxP X psn A outer s H E' scope fo c') M ⟨C.P, call, [], none⟩ O (lamSx sx psn scope) E' j := by
  have tk : Takes (lamCxP X psn A outer s H E' scope fo c') (fun cls d _ H => E' cls d H) := takes_of rfl rfl rfl rfl
  exact
  { fx := c.fx
    N := (show psn ++ X.N = psn ++ sx.N by rw [c.N])
    sc := rfl
    fn := rfl
    nd := (show (psn ++ X.N).Nodup by rw [c.N]; exact nd)
    un := (by have := hr.un; show (A.deeper _).units + 66 < cLine; omega)
    gd := hg
    fixS := (fun p hp => by rw [hM] at hp; cases hp)
    dkx := c.dkx
    fns := fns
    xns := xns
    calm := rfl
    hr := hr
    px := passes_call tk (fun _ _ _ _ h => h)
    clo := (fun h => nomatch h)
    mkf := (fun h => nomatch h) }
theorem e_calll (c : Cd X M C O sx E (2 * n + 1)) (hC : C.call = run C.P n) (hmk : sx.mkr = true) (hr : ∀ p e, rx p e = true → SX X M C E p e) {f lam : Nat} {ps : PXs} {es : List Expr} (ha : chkAs rx ps es = true) {x : Str} (hF : f < M.fn.length) (hx : x = M.f f) (hne : M.f f ≠ Str.empty) (hg : glB sx.sc x = true)
    {S : DefS} (hD : ∀ d, C.P.defs[f]? = some (some d) → DfO O X.K X.base X.mg (M.tb X.K) f S d) (hfix : S.fix = [es.length]) (hSl : S.ps.length = es.length + 1) (hSm : S.mkr = false)
    {params : Arguments} {body : Expr} {scope : Scope} {lpos pos p1 : Pos} {psn : List Str} (hp : plainB params psn = true) (hdf : params.defaults = []) (hkd : params.kw_defaults = []) (nd : (psn ++ sx.N).Nodup) (hlp : lamPB sx.sc scope psn = true) (hlen : ∀ l, C.P.lams[lam]? = some l → l.par = psn.length)
    (hFns : ∀ m, m ≤ n → Fns M O (run C.P m) (2 * m + 1) X.prog X.w X.K X.mg X.base) (hX : ∀ m, Xns M C.P O (2 * m + 1) X.prog X.w X.K X.mg X.base)
    (hB : ∀ m d, n = m + 1 → C.P.defs[f]? = some (some d) → ∀ (X' : Cx) (M' : Nm) (C' : EC) (E' : XK), gl X' = gl X → C'.P = C.P → C'.call = run C.P m → M'.nt = M.nt → M'.tb = M.tb → Cs X' M' C' O S.sx E' (2 * m + 1) → L2.PSs X' S.body (tS X'.K M' E' (evSs C' d.body)))
    (hL : ∀ j l, n = j + 2 → C.P.lams[lam]? = some l → ∀ (X' : Cx) (E' : XK), gl X' = gl X → Cd X' M ⟨C.P, run C.P j, [], none⟩ O (lamSx sx psn scope) E' (2 * j + 1) → PE X' body (tE X'.K M E' (evX ⟨C.P, run C.P j, [], none⟩ l.body))) :
    PE X (.Call (.Name x p1) (es ++ [.Lambda params body scope lpos]) [] pos) (tE X.K M E (evX C (.calll f ps lam))) := by
  obtain ⟨g1, g2, g3⟩ := c.gl hg
  obtain ⟨b1, b2, b3⟩ := c.fx.fn f hF
  have mgf : X.mg x = some (.ref (O.fa f)) := by rw [hx]; exact b3 hne
  obtain ⟨hM, cc, Pt, TB, hcode, hmT, hu⟩ := c.mkf hmk
  have Lp : LamP X.env.scope scope psn := lamP_by (by rw [c.sc]; exact hlp)
  have ndX : (psn ++ X.N).Nodup := by rw [c.N]; exact nd
  have hdef : defaultsOf params X.env = ([], []) := by
    obtain ⟨a1, a2, a3, a4, a5, a6, a7⟩ := params
    cases hdf
    cases hkd
    rfl
  refine ⟨fun pins s σ H Q I ⟨ι, L, G, l, R, w⟩ => ?_⟩
  have w : ((evXs C ps L G).bind fun ds G => laK C.call f lam L ds G).wp (Kt X.K M ι H Q) (Kx X.K M ι H E) := w
  refine wpAny_Call_Name_kw (ld_glob I g1 mgf ?_ g2)
  have hst : (es ++ [Expr.Lambda params body scope lpos]).all notStar = true := by
    rw [List.all_append, (chkAs_ok hr ha).st]; rfl
  obtain ⟨e0, rest, he⟩ : ∃ e0 rest, es ++ [Expr.Lambda params body scope lpos] = e0 :: rest := by
    cases es with
    | nil => exact ⟨_, _, rfl⟩
    | cons a b => exact ⟨_, _, rfl⟩
  have hst2 := hst
  rw [he] at hst2
  simp only [List.all_cons, Bool.and_eq_true] at hst2
  rw [he]
  refine PySem.W.callWith_K (h₀ := X.base) I.ok.mod.kin b2 ?_ (star_of hst2.1) (plain_of hst2.2)
  rw [← he]
  refine args_lam hr rfl ha I l R (Res.wp_mono (fun ds G1 w1 ι1 H1 s1 vs us x1 l1 R1 r1 rv I1 => ?_) (fun _ _ _ h => h) (Res.wp_bind.mp w))
  have w1 : (run C.P n (.fnl f lam L) ds G1).wp (Kt X.K M ι1 H1 Q) (Kx X.K M ι1 H1 E) := by
    rw [← hC]
    exact Res.wp_mono (fun _ _ h => Kt.go x1 h) (fun _ _ _ h => Kx.go x1 h) w1
  refine lam_make2 (T := M.tb X.K) I1 TB hcode hmT hu R1.tab hdef (Lp.has I1.ok) fun fo c' pm ctv H2 s2 I2 eN T2 hf hfn hfr hco => ⟨I2.kIn, ?_⟩
  have x2 : Ext ι1 ι1 H1 H2 := extN_ext eN
  have R2 := R1.tabs eN T2
  have l2 := l1.ext R1 x2
  have r2 := r1.ext R1 x2
  obtain ⟨m, d, hn, hd, hpar, w3⟩ := fnl_run R2 (Res.wp_mono (fun _ _ h => Kt.go x2 h) (fun _ _ _ h => Kx.go x2 h) w1)
  have D := hD d hd
  obtain ⟨dvs, kws, hFD⟩ := D.fd
  obtain ⟨oc, od, dV, kV, doc, pm0, an, cdv, ct, osl, hfd, lk, hcd, _, _⟩ := hFD.ex
  have ecd : (O.fd f).code = cdv := by rw [hfd]
  have lv : ds.length = vs.length := r2.length
  have hlps : (O.ps f).length = ds.length + 1 := by rw [D.ps, D.par, hpar]
  have hle : es.length = ds.length := by
    have := D.par
    omega
  have hvl : (vs ++ [V.ref fo]).length = S.ps.length := by rw [D.par, hpar, List.length_append, ← lv]; rfl
  have rvf : Vals (vs ++ [V.ref fo]) (us ++ [Value.ref fo]) := rv.append (.cons rfl .nil)
  have hpl : S.ps.length ≤ S.N.length := by
    have := congrArg List.length D.sc.pre
    rw [List.length_take] at this
    omega
  have hlu : (us ++ [Value.ref fo]).length = (O.ps f).length := by rw [← rvf.length, hvl, D.ps]
  have hb := b1 s2 (us ++ [Value.ref fo]) I2.kIn (by rw [List.append_nil]; exact hlu)
  rw [List.append_nil, D.ps] at hb
  rw [hfd] at lk hb
  have rc : codeAny (model X.prog X.w) X.A (.call (.ref (O.fa f)) ⟨us ++ [Value.ref fo], []⟩) (CR (CX X.prog X.w) X.stack X.prog X.w H2 s2 Q E) s2 := by
    refine run_ofS (CX := CX X.prog X.w) (k := 2 * m + 3) lk hcd D.sc (c.hr.mono (by omega)) I2.env0 hb rvf hvl fun hr' => ?_
    have cap : capB X.K (M.hold ds.length fo c' (X.env.qual ++ "<lambda>") L σ) H2 ι1 := ⟨l2.lr, fun p hp => by rw [List.mem_singleton.mp hp]; exact hco⟩
    have cs : Cs (cxOf (CX X.prog X.w) X.prog X.w X.K X.mg X.base S.N S.qual S.scope (O.fa f) (O.fd f).code X.A X.stack s2 H2 E) (M.hold ds.length fo c' (X.env.qual ++ "<lambda>") L σ) ⟨C.P, run C.P m, [(ds.length, lam, L)], none⟩ O S.sx E (2 * m + 1) := by
      refine cs_of (C := ⟨C.P, run C.P m, [(ds.length, lam, L)], none⟩) c.fx.hold c.dkx (Fns.cast (M := M) (M' := M.hold ds.length fo c' (X.env.qual ++ "<lambda>") L σ) rfl rfl rfl rfl (hFns m (by omega))) (hX m) D (fun p hp => by rw [List.mem_singleton.mp hp, hfix, hle]; exact List.mem_singleton.mpr rfl) (fun z => by rw [hSm] at z; cases z) (by rw [ecd]; exact hr'.mono (by omega)) c.gd ?_
      intro i lam' L' hl' pn xe E2 es2 fs2 a p3 p4 hN hv h3 h4 px hA
      obtain ⟨e1, e2, e3⟩ : ds.length = i ∧ lam = lam' ∧ L = L' := by
        simp only [List.lookup] at hl'
        split at hl'
        · rename_i q
          cases hl'
          exact ⟨(by simpa using q : i = ds.length).symm, rfl, rfl⟩
        · cases hl'
      subst e1 e2 e3
      refine e_act (k := 2 * m + 2) (fb := lamF C.P m lam) (call := run C.P m) I2 Lp ndX hM hf hfn hfr (fun us hl => bind_plain hp (List.nodup_append.mp ndX).1 rfl hl) px (by rw [ecd]; exact hr') (fun A outer s H hrm hgm => ?_) (fun ι H ds G Q E R w => ?_) hN hv h3 h4 hA
      · unfold lamF
        cases m with
        | zero => exact pe_bad
        | succ j =>
          cases hl : C.P.lams[lam]? with
          | none => exact pe_bad
          | some l => exact hL j l hn hl _ E2 rfl (cd_lam c hM.1 Lp.kind nd (hFns j (by omega)) (hX j) (hrm.mono (by omega)) (hgm.trans c.gd))
      · obtain ⟨j, l, rfl, hl, hpr, w⟩ := clo_run R w
        refine ⟨hpr.symm.trans (hlen l hl), ?_⟩
        unfold lamF
        simp only [hl]
        exact w
    rw [ecd] at cs
    refine ⟨_, hB m d hn hd _ (M.hold ds.length fo c' (X.env.qual ++ "<lambda>") L σ) ⟨C.P, run C.P m, [(ds.length, lam, L)], none⟩ E rfl rfl rfl rfl rfl cs, ι1, startL d.slots ds, G1, ⟨?_, fun p hp => ?_, cap⟩, Rep.cast (M := M) rfl rfl rfl R2, ?_⟩
    · unfold startL L2.start
      have e1 : d.slots - ds.length = (S.N.length - (vs ++ [V.ref fo]).length) + 1 := by
        rw [← D.slots, List.length_append, ← lv]
        simp only [List.length_cons, List.length_nil]
        rw [D.par, hpar] at hpl
        omega
      rw [e1]
      exact start_lam r2
    · rw [List.mem_singleton.mp hp]
      unfold L2.start
      rw [lv]
      simp
    · exact out_ok (wp_cast (M := M.hold ds.length fo c' (X.env.qual ++ "<lambda>") L σ) (M' := M) rfl rfl rfl w3)
  refine wpAny_call (codeAny_mono rc fun r s' hq => ?_)
  cases r with
  | error e => exact c.px pins σ H2 s2 e s' I2 hq
  | ok fl =>
    cases fl with
    | ret u => exact I2.after hq
    | next => exact False.elim hq
    | brk => exact False.elim hq
    | cont => exact False.elim hq
end
end Rf


set_option Elab.async false
set_option linter.all false
set_option maxRecDepth 100000
set_option maxHeartbeats 4000000
/-! S29: the checker of expressions, by fuel; it is right. -/
namespace Rf
open PySem PySem.Spec PyProof.Rows L2 LamX
abbrev DSt := Nat → Option DefS
def klB (T : Nt) (P : Prg) (DS : DSt) (rec : Sx → RX) (sx : Sx) (f : Nat) (ps : PXs) (lam : Nat) (e : Expr) : Bool := match e with
  | .Call (.Name x _) args [] _ => (match splitL args with
    | some (es, .Lambda params body scope _) => (match P.lams[lam]?, DS f with
      | some l, some S => sx.mkr && decide (f < T.fn.length) && decide (x = nameAt T.fn f) && !decide (nameAt T.fn f = Str.empty) && glB sx.sc x && chkAs (rec sx) ps es &&
          decide (S.fix = [es.length]) && decide (S.ps.length = es.length + 1) && !S.mkr && plainB params (params.args.map (·.arg)) && params.defaults.isEmpty && params.kw_defaults.isEmpty && decide ((params.args.map (·.arg) ++ sx.N).Nodup) && lamPB sx.sc scope (params.args.map (·.arg)) &&
          decide (l.par = (params.args.map (·.arg)).length) && rec (lamSx sx (params.args.map (·.arg)) scope) l.body body
      | _, _ => false)
    | _ => false)
  | _ => false
def chkX (T : Nt) (P : Prg) (DS : DSt) : Nat → Sx → PX → Expr → Bool
  | 0, _, _, _ => false
  | n + 1, sx, p, e => stepX T P (klB T P DS (chkX T P DS n)) (chkX T P DS n) sx p e
/-- what holds of the program up to calls n deep -/
structure Gd (g : Glob) (M0 : Nm) (P : Prg) (O : Ob) (DS : DSt) (n : Nat) : Prop where
  hD : ∀ f S d, DS f = some S → P.defs[f]? = some (some d) → DfO O g.K g.base g.mg (M0.tb g.K) f S d
  fns : ∀ m, m ≤ n → Fns M0 O (run P m) (2 * m + 1) g.prog g.w g.K g.mg g.base
  xns : ∀ m, Xns M0 P O (2 * m + 1) g.prog g.w g.K g.mg g.base
/-- a level -/
structure Lv (M0 : Nm) (P : Prg) (n : Nat) (M : Nm) (C : EC) : Prop where
  t : M.nt = M0.nt
  tb : M.tb = M0.tb
  p : C.P = P
  c : C.call = run P n
def SdX (g : Glob) (M0 : Nm) (P : Prg) (O : Ob) (n : Nat) (ck : Sx → RX) : Prop :=
  ∀ (X : Cx) (M : Nm) (C : EC) (sx : Sx) (E : XK), gl X = g → Lv M0 P n M C → Cd X M C O sx E (2 * n + 1) → ∀ p e, ck sx p e = true → SX X M C E p e
/-- the defs that are called, n deep -/
def BdS (g : Glob) (M0 : Nm) (P : Prg) (O : Ob) (DS : DSt) (m : Nat) : Prop :=
  ∀ (f : Nat) (S : DefS) (d : DefR), DS f = some S → P.defs[f]? = some (some d) → ∀ (X : Cx) (M : Nm) (C : EC) (E : XK), gl X = g → Lv M0 P m M C → Cs X M C O S.sx E (2 * m + 1) → L2.PSs X S.body (tS X.K M E (evSs C d.body))
section
variable {g : Glob} {M0 : Nm} {P : Prg} {O : Ob} {DS : DSt} {n : Nat}
theorem Xns.cast {M M' : Nm} {k : Nat} {prog : Program} {w : World} {K : PySem.W.Frag} {mg : Str → Option Value} {base : Heap} (ea : M'.att = M.att) (F : Xns M P O k prog w K mg base) : Xns M' P O k prog w K mg base := fun c r f fi h1 h2 h3 => by
  have q := F c r f fi h1 h2 h3
  unfold Nm.a at q ⊢
  rw [ea]
  exact q
theorem kl_ok {X : Cx} {M : Nm} {C : EC} {sx : Sx} {E : XK} {rec : Sx → RX} (hg : gl X = g) (lv : Lv M0 P n M C) (c : Cd X M C O sx E (2 * n + 1)) (hr : ∀ p e, rec sx p e = true → SX X M C E p e) (G : Gd g M0 P O DS n) (hB : ∀ m, n = m + 1 → BdS g M0 P O DS m) (hL : ∀ j, n = j + 2 → SdX g M0 P O j rec)
    {f lam : Nat} {ps : PXs} {e : Expr} (h : klB M0.nt P DS rec sx f ps lam e = true) : SX X M C E (.calll f ps lam) e := by
  obtain ⟨ht, htb, rfl, hc⟩ := lv
  subst hg
  have ea : M.att = M0.att := congrArg Nt.att ht
  have ec : M.cls = M0.cls := congrArg Nt.cls ht
  have ef : M.fn = M0.fn := congrArg Nt.fn ht
  rw [← ht] at h
  unfold klB at h
  split at h
  · rename_i x p1 args pos
    split at h
    · rename_i es params body scope lpos hs
      split at h
      · rename_i l S hl hS
        simp only [Bool.and_eq_true] at h
        obtain ⟨⟨⟨⟨⟨⟨⟨⟨⟨⟨⟨⟨⟨⟨⟨h1, h2⟩, h3⟩, h4⟩, h5⟩, h6⟩, h7⟩, h8⟩, h9⟩, h10⟩, h11⟩, h12⟩, h13⟩, h14⟩, h15⟩, h16⟩ := h
        rw [splitL_ok hs]
        refine .v ?_ fun _ => rfl
        refine e_calll (psn := params.args.map (·.arg)) (S := S) c hc h1 hr h6 (of_decide_eq_true h2) (of_decide_eq_true h3) (by have := h4; simpa [nameAt, Nm.f, Nm.nt] using this) h5 (fun d hd => ?_) (of_decide_eq_true h7) (of_decide_eq_true h8) (by simpa using h9) h10
          (List.isEmpty_iff.mp h11) (List.isEmpty_iff.mp h12) (of_decide_eq_true h13) h14 (fun l' hl' => ?_) (fun m hm => Fns.cast ea ec htb ef (G.fns m hm)) (fun m => Xns.cast ea (G.xns m)) (fun m d hn hd X' M' C' E' a1 a2 a3 a4 a5 cs => ?_) (fun j l' hn hl' X' E' a1 cd => ?_)
        · rw [htb]
          exact G.hD f S d hS hd
        · rw [hl] at hl'
          cases hl'
          exact of_decide_eq_true h15
        · exact hB m hn f S d hS hd X' M' C' E' a1 ⟨a4.trans ht, a5.trans htb, a2, by rw [a3]⟩ cs
        · rw [hl] at hl'
          cases hl'
          exact (hL j hn X' M ⟨C.P, run C.P j, [], none⟩ _ E' a1 ⟨ht, htb, rfl, rfl⟩ cd _ _ h16).1
      · cases h
    · cases h
  · cases h
theorem soundX (G : Gd g M0 P O DS n) (hB : ∀ m, n = m + 1 → BdS g M0 P O DS m) (hL : ∀ j, n = j + 2 → ∀ fu, SdX g M0 P O j (chkX M0.nt P DS fu)) : ∀ fu, SdX g M0 P O n (chkX M0.nt P DS fu)
  | 0 => fun X M C sx E hg lv c p e h => by cases h
  | fu + 1 => fun X M C sx E hg lv c p e h => by
    have ih := soundX G hB hL fu
    have hr : ∀ p e, chkX M0.nt P DS fu sx p e = true → SX X M C E p e := fun p e => ih X M C sx E hg lv c p e
    have h : stepX M0.nt P (klB M0.nt P DS (chkX M0.nt P DS fu)) (chkX M0.nt P DS fu) sx p e = true := h
    have kl : ∀ {f lam ps e}, klB M0.nt P DS (chkX M0.nt P DS fu) sx f ps lam e = true → SX X M C E (.calll f ps lam) e := fun h => kl_ok hg lv c hr G hB (fun j hj => hL j hj fu) h
    have hb : ∀ (Y : Cx) (scope : Scope), gl Y = gl X → Cd Y M C O (sx.blk scope) noE (2 * n + 1) → ∀ p e, chkX M0.nt P DS fu (sx.blk scope) p e = true → SX Y M C noE p e := fun Y scope hy cy p e => ih Y M C _ noE (hy.trans hg) lv cy p e
    obtain ⟨ht, htb, hp, hc⟩ := lv
    rw [← ht, ← hp] at h
    rw [← ht, ← hp] at hr kl hb
    cases p with
    | var i => exact kVar_ok c.toCg h
    | lit d => exact kLit_ok h
    | glob q => exact kGlob_ok c.toCg h
    | bin o a b => exact kBin_ok hr h
    | un o a => exact kUn_ok hr h
    | not a => exact kNot_ok hr h
    | and a b => exact kAnd_ok hr h
    | or a b => exact kOr_ok hr h
    | cmp o a b => exact kCmp_ok c.toCg hr h
    | chain o q a b d => exact kChain_ok c.toCg hr h
    | ite d a b => exact kIte_ok hr h
    | tup ps => exact kTup_ok hr h
    | lst ps => exact kLst_ok hr h
    | idx a b => exact kIdx_ok c.toCg hr h
    | sl a lo hi => exact kSl_ok hr h
    | nopart => cases h
    | attr a f => exact kAttr_ok c hr h
    | call f ps => exact kCall_ok c hr h
    | calll f ps lam => exact kl h
    | mk q ps => exact kMk_ok c hr h
    | meth a m ps => exact kMeth_ok c hr h
    | cloc i ps => exact kCloc_ok c hr h
    | callk m ps => exact kCallk_ok c hr h
    | mkk q m ps => exact kMkk_ok c hr h
    | methk a m q ps => exact kMethk_ok c hr h
    | blt b ps => exact kBlt_ok c hr h
    | bmeth b a ps => exact kBmeth_ok c hr h
    | isa a t => exact kIsa_ok c hr h
    | exattr _ => cases h
    | exisa _ => cases h
    | lc elt vs t it cond => exact kLc_ok c hr hb h
    | yes => cases h
    | dnew => exact kDnew_ok h
    | dknown q a => exact kDkn_ok c.toCg hr h
    | dkget q a => exact kDkg_ok c.toCg hr h
    | dcomp _ _ _ _ _ => cases h
    | stars a ps => exact kStars_ok hr h
end
end Rf


set_option Elab.async false
set_option linter.all false
set_option maxRecDepth 100000
set_option maxHeartbeats 4000000
/-! S30: the checker of targets, of except suites. -/
namespace Rf
open PySem PySem.Spec PyProof.Rows L2 LamX
def chkT1 (T : Nt) (rx : RX) (sx : Sx) (t : T1) (e : Expr) : Bool := match t with
  | .nm i => (match e with
    | .Name x _ => stB sx i x
    | _ => false)
  | .attr a f => (match e with
    | .Attribute x f' _ => rx a x && decide (f' = nameAt T.att f)
    | _ => false)
  | .idx a b => (match e with
    | .Subscript x y _ => rx a x && rx b y && notSlice y
    | _ => false)
def chkTs (T : Nt) (rx : RX) (sx : Sx) : List T1 → List Expr → Bool
  | [], [] => true
  | t :: ts, e :: es => chkT1 T rx sx t e && notStar e && chkTs T rx sx ts es
  | _, _ => false
def chkTG (T : Nt) (rx : RX) (sx : Sx) (t : TG) (e : Expr) : Bool := match t with
  | .one t => chkT1 T rx sx t e
  | .tup ts => (match e with
    | .Tuple es _ _ => chkTs T rx sx ts es && !ts.isEmpty
    | _ => false)
section
variable {X : Cx} {M : Nm} {C : EC} {O : Ob} {sx : Sx} {E : XK} {k : Nat} {rx : RX} {e : Expr}
theorem chkT1_ok (c : Cd X M C O sx E k) (hr : ∀ p e, rx p e = true → SX X M C E p e) {t : T1} (h : chkT1 M.nt rx sx t e = true) : PG X e (tT X.K M E fun d L G => asg1 C t d L G) := by
  cases t with
  | nm i =>
    simp only [chkT1] at h
    split at h
    · exact g_name c h
    · cases h
  | attr a f =>
    simp only [chkT1] at h
    split at h
    · obtain ⟨h1, h2⟩ := and2 h
      obtain rfl := of_decide_eq_true h2
      exact g_attr c (hr _ _ h1).1
    · cases h
  | idx a b =>
    simp only [chkT1] at h
    split at h
    · obtain ⟨h1, h2, h3⟩ := and3 h
      exact g_idx c.un (hr _ _ h1).1 (hr _ _ h2).1 h3
    · cases h
theorem chkTs_ok (c : Cd X M C O sx E k) (hr : ∀ p e, rx p e = true → SX X M C E p e) : ∀ {ts : List T1} {es : List Expr}, chkTs M.nt rx sx ts es = true → PGs X es (tTs X.K M E fun ds L G => asgs C ts ds L G) ∧ es.all notStar = true ∧ es.length = ts.length
  | [], [], _ => ⟨gs_nil, rfl, rfl⟩
  | t :: ts, e :: es, h => by
    obtain ⟨h1, h2, h3⟩ := and3 (show (chkT1 M.nt rx sx t e && notStar e && chkTs M.nt rx sx ts es) = true from h)
    obtain ⟨i1, i2, i3⟩ := chkTs_ok c hr h3
    exact ⟨gs_cons (chkT1_ok c hr h1) i1 h2, by rw [List.all_cons, h2, i2]; rfl, by rw [List.length_cons, List.length_cons, i3]⟩
  | [], _ :: _, h => by cases h
  | _ :: _, [], h => by cases h
theorem chkTG_ok (c : Cd X M C O sx E k) (hr : ∀ p e, rx p e = true → SX X M C E p e) {t : TG} (h : chkTG M.nt rx sx t e = true) : PG X e (tT X.K M E fun d L G => asgT C t d L G) := by
  cases t with
  | one t => exact chkT1_ok c hr h
  | tup ts =>
    simp only [chkTG] at h
    split at h
    · obtain ⟨h1, h2⟩ := and2 h
      obtain ⟨i1, i2, i3⟩ := chkTs_ok c hr h1
      exact g_tup c.calm i1 i2 i3 (by simpa using h2)
    · cases h
end
/-! ### except suites -/
def stepH (T : Nt) (sx : Sx) (ik : Option Nat) (rx : RX) (p : PX) (e : Expr) : Bool := match p with
  | .lit d => kLit d e
  | .glob g => kGlob T sx g e
  | .lst ps => kLst rx ps e
  | .tup ps => kTup rx ps e
  | .blt .repr (.cons a .nil) => (match e with
    | .Call (.Name x _) [e1] [] _ => decide (x = "repr") && glB sx.sc "repr" && rx a e1 && notStar e1
    | _ => false)
  | .exattr f => (match e, ik with
    | .Attribute (.Name x _) f' _, some i => decide (f' = nameAt T.att f) && nmB sx i x
    | _, _ => false)
  | .exisa d => (match e, ik with
    | .Call (.Name y _) [.Name x _, .Name x2 _] [] _, some i => decide (y = "isinstance") && glB sx.sc "isinstance" && nmB sx i x && glB sx.sc x2 && decide (x2 = nameAt T.cls d)
    | _, _ => false)
  | _ => false
def chkH (T : Nt) (sx : Sx) (ik : Option Nat) : Nat → RX
  | 0, _, _ => false
  | n + 1, p, e => stepH T sx ik (chkH T sx ik n) p e
section
variable {X : Cx} {M : Nm} {C : EC} {O : Ob} {sx : Sx} {ik : Option Nat} {aa : Addr} {oe : Obj} {pn : List (Addr × Obj)} {cls : Value} {dd : Option Addr} {e : Expr} {rx : RX}
def SH (X : Cx) (M : Nm) (C : EC) (ik : Option Nat) (aa : Addr) (oe : Obj) (pn : List (Addr × Obj)) (cls : Value) (dd : Option Addr) (p : PX) (e : Expr) : Prop := PE (X.suite aa ((aa, oe) :: pn)) e (tH X.K M ik aa cls dd (hf C p))
def hfs (C : EC) (b : PXs) : Nat → List (Nat × D) → GG → Res (List D) := fun c fs G => evXs { C with ex := some (c, fs) } b [] G
theorem chkAsH (hr : ∀ p e, rx p e = true → SH X M C ik aa oe pn cls dd p e) : ∀ {ps : PXs} {es : List Expr}, chkAs rx ps es = true → PA (X.suite aa ((aa, oe) :: pn)) es (tHs X.K M ik aa cls dd (hfs C ps))
  | .nil, [], _ => h_nil
  | .cons p r, e :: es, h => by
    obtain ⟨h1, h2, h3⟩ := and3 (show (rx p e && notStar e && chkAs rx r es) = true from h)
    exact h_cons (hr p e h1) (chkAsH hr h3) h2
  | .nil, _ :: _, h => by cases h
  | .cons _ _, [], h => by cases h
theorem Cg.suite (c : Cg X M C O sx) : Cg (X.suite aa ((aa, oe) :: pn)) M C O sx :=
  { fx := c.fx
    N := c.N
    sc := c.sc
    fn := c.fn
    nd := c.nd
    un := c.un
    gd := c.gd
    fixS := c.fixS
    dkx := c.dkx }
theorem stepH_ok (c : Cg X M C O sx) (hz : Zc cls dd oe) (hfd : ∃ vs, oe.data = .fields vs) (hr : ∀ p e, rx p e = true → SH X M C ik aa oe pn cls dd p e) {p : PX} (h : stepH M.nt sx ik rx p e = true) : SH X M C ik aa oe pn cls dd p e := by
  have cy : Cg (X.suite aa ((aa, oe) :: pn)) M C O sx := c.suite
  unfold stepH at h
  split at h
  · rename_i d
    unfold kLit at h
    split at h
    · rename_i cc _ _
      show PE _ _ (tH X.K M ik aa cls dd fun _ _ G => .ok d G)
      cases d with
      | non => cases cc <;> first | exact h_lit pe_non fun _ _ => rfl | cases h
      | bl b => cases cc <;> first | cases h | skip
                rename_i b2
                obtain rfl : b = b2 := by simpa [litB] using h
                exact h_lit pe_bl fun _ _ => rfl
      | int b => cases cc <;> first | cases h | skip
                 rename_i b2
                 obtain rfl : b = b2 := by simpa [litB] using h
                 exact h_lit pe_int fun _ _ => rfl
      | str b => cases cc <;> first | cases h | skip
                 rename_i b2
                 obtain rfl : b2.cps.toList = b := by simpa [litB] using h
                 exact h_lit pe_str fun _ _ => rfl
      | _ => cases cc <;> cases h
    · cases h
  · unfold kGlob at h
    split at h
    · obtain ⟨h1, h2⟩ := and2 h
      exact h_glob cy h1 (of_decide_eq_true h2)
    · cases h
  · unfold kLst at h
    split at h
    · exact h_lst (chkAsH hr h)
    · cases h
  · unfold kTup at h
    split at h
    · exact h_tup (chkAsH hr h)
    · cases h
  · split at h
    · obtain ⟨h1, h2, h3, h4⟩ := and4 h
      obtain rfl := of_decide_eq_true h1
      exact h_repr cy h2 (hr _ _ h3) h4
    · cases h
  · split at h
    · obtain ⟨h1, h2⟩ := and2 h
      obtain rfl := of_decide_eq_true h1
      exact h_attr cy hz hfd h2 rfl
    · cases h
  · split at h
    · simp only [Bool.and_eq_true] at h
      obtain ⟨⟨⟨⟨h1, h2⟩, h3⟩, h4⟩, h5⟩ := h
      obtain rfl := of_decide_eq_true h1
      exact h_isa cy hz hfd h3 rfl h2 h4 (of_decide_eq_true h5)
    · cases h
  · cases h
theorem chkH_ok (c : Cg X M C O sx) (hz : Zc cls dd oe) (hfd : ∃ vs, oe.data = .fields vs) : ∀ {n : Nat} {p : PX} {e : Expr}, chkH M.nt sx ik n p e = true → SH X M C ik aa oe pn cls dd p e
  | 0, _, _, h => by cases h
  | n + 1, p, e, h => stepH_ok c hz hfd (fun p e => chkH_ok c hz hfd) h
end
end Rf


set_option Elab.async false
set_option linter.all false
set_option maxRecDepth 100000
set_option maxHeartbeats 4000000
/-! S31: the checker of statements; it is right. -/
namespace Rf
open PySem PySem.Spec PyProof.Rows L2 LamX
def asgS (T : Nt) (rec : Sx → RX) (sx : Sx) (t : TG) (p : PX) (tg v : Expr) : Bool := match swB sx.sc v tg with
  | true => (match t, p, tg with
    | .one (.nm i), .lc elt vs tn it cond, .Name y _ => stB sx i y && decide (sx.sc.names.lookup y = some .local) && kLc rec sx elt vs tn it cond v
    | _, _, _ => false)
  | false => (match stF sx.sc tg v with
    | some none => rec sx p v && chkTG T (rec sx) sx t tg && notStar tg
    | some (some ns) => (match t, p, tg, v with
      | .tup [.nm i, .nm j], .tup ps, .Tuple [.Name x _, .Name y _] _ _, .Tuple [a, b] _ _ =>
        decide (ns = [x, y]) && decide (sx.N[i]? = some x) && decide (sx.N[j]? = some y) && !decide (i = j) && !decide (i ∈ sx.fix) && !decide (j ∈ sx.fix) && decide (sx.sc.names.lookup x = some .local) && decide (sx.sc.names.lookup y = some .local) && chkAs (rec sx) ps [a, b]
      | .tup [.nm i, .nm j, .nm m], .tup ps, .Tuple [.Name x _, .Name y _, .Name z _] _ _, .Tuple [a, b, d] _ _ =>
        decide (ns = [x, y, z]) && decide (sx.N[i]? = some x) && decide (sx.N[j]? = some y) && decide (sx.N[m]? = some z) && !decide (i = j) && !decide (i = m) && !decide (j = m) && !decide (i ∈ sx.fix) && !decide (j ∈ sx.fix) && !decide (m ∈ sx.fix) &&
          decide (sx.sc.names.lookup x = some .local) && decide (sx.sc.names.lookup y = some .local) && decide (sx.sc.names.lookup z = some .local) && chkAs (rec sx) ps [a, b, d]
      | _, _, _, _ => false)
    | none => false)
def chkHs (T : Nt) (P : Prg) (fu : Nat) (sx : Sx) : List (Nat × Option Nat × PX) → List ExceptHandler → Bool
  | [], [] => true
  | (hc, none, b) :: l, .ExceptHandler (some (.Name x _)) none [.Return (some he) _] _ :: hs => decide (x = nameAt T.cls hc) && (P.cls[hc]?).isSome && glB sx.sc x && chkH T sx none fu b he && chkHs T P fu sx l hs
  | (hc, some i, b) :: l, .ExceptHandler (some (.Name x _)) (some n) [.Return (some he) _] _ :: hs => decide (x = nameAt T.cls hc) && (P.cls[hc]?).isSome && glB sx.sc x && decide (sx.N[i]? = some n) && decide (sx.sc.names.lookup n = some .local) && chkH T sx (some i) fu b he && chkHs T P fu sx l hs
  | _, _ => false
def chkSs (rs : PS → Stmt → Bool) : PSs → List Stmt → Bool
  | .nil, [] => true
  | .cons p r, s :: ss => rs p s && chkSs rs r ss
  | _, _ => false
def excFs (P : Prg) (c : Nat) : Option (List Nat) := match P.cls[c]? with
  | some r => r.exc
  | none => none
def tryB (rx : RX) (isret : Bool) (p : PX) (st : Stmt) : Bool := match isret, st with
  | true, .Return (some e) _ => rx p e
  | false, .Expr e _ => rx p e && notComp e
  | _, _ => false
def stepS (T : Nt) (P : Prg) (fu : Nat) (rec : Sx → RX) (sx : Sx) (rs : PS → Stmt → Bool) (p : PS) (s : Stmt) : Bool := match p with
  | .expr a => (match s with
    | .Expr e _ => rec sx a e && notComp e
    | _ => false)
  | .ret a => (match s with
    | .Return (some e) _ => rec sx a e
    | _ => false)
  | .retn => (match s with
    | .Return none _ => true
    | _ => false)
  | .asg t a => (match s with
    | .Assign [tg] v _ => asgS T rec sx t a tg v
    | _ => false)
  | .aug _ _ _ _ => false
  | .ite c a b => (match s with
    | .If e x y _ => rec sx c e && chkSs rs a x && chkSs rs b y
    | _ => false)
  | .for t it b => (match s with
    | .For tg iter body [] _ => chkI (rec sx) sx tg it iter && chkN sx t tg && notSet iter && chkSs rs b body
    | _ => false)
  | .forw _ t it b => (match s with
    | .For tg iter body [] _ => chkI (rec sx) sx tg it iter && chkN sx t tg && notSet iter && chkSs rs b body
    | _ => false)
  | .while c b => (match s with
    | .While e body [] _ => rec sx c e && chkSs rs b body
    | _ => false)
  | .raise c ps => (match s with
    | .Raise (some (.Call (.Name x _) args [] _)) none _ => decide (x = nameAt T.cls c) && glB sx.sc x && (match ps, args, excFs P c with
      | .nil, [], some [] => true
      | .cons a .nil, [e], some [_] => rec sx a e && notStar e
      | _, _, _ => false)
    | _ => false)
  | .try1 isret a hs => (match s with
    | .Try [st] (h0 :: hds) [] [] _ => tryB (rec sx) isret a st && chkHs T P fu sx hs (h0 :: hds)
    | _ => false)
  | .pass => (match s with
    | .Pass _ => true
    | _ => false)
  | .brk => (match s with
    | .Break _ => true
    | _ => false)
def chkS (T : Nt) (P : Prg) (DS : DSt) (fx : Nat) : Nat → Sx → PS → Stmt → Bool
  | 0, _, _, _ => false
  | n + 1, sx, p, s => stepS T P fx (chkX T P DS fx) sx (chkS T P DS fx n sx) p s
section
variable {X : Cx} {M : Nm} {C : EC} {O : Ob} {sx : Sx} {E : XK} {k : Nat} {rec : Sx → RX}
def SS (X : Cx) (M : Nm) (C : EC) (E : XK) (p : PS) (s : Stmt) : Prop := L2.PS X s (tS X.K M E (evS C p))
theorem chkSs_ok {rs : PS → Stmt → Bool} (hr : ∀ p s, rs p s = true → SS X M C E p s) : ∀ {ps : PSs} {ss : List Stmt}, chkSs rs ps ss = true → L2.PSs X ss (tS X.K M E (evSs C ps))
  | .nil, [], _ => s_nil
  | .cons p r, s :: ss, h => by
    obtain ⟨h1, h2⟩ := and2 (show (rs p s && chkSs rs r ss) = true from h)
    exact s_cons (hr p s h1) (chkSs_ok hr h2)
  | .nil, _ :: _, h => by cases h
  | .cons _ _, [], h => by cases h
theorem s_asgG {e tg : Expr} {pos : Pos} {f : LL → GG → Res D} {ft : D → LL → GG → Res LL} (he : PE X e (tE X.K M E f)) (hg : PG X tg (tT X.K M E ft)) (hc : swapsWith e (some tg) pos.line X.env = pure false) (hs : notStar tg = true) (hw : swappedStores [tg] e X.env = pure none) :
    L2.PS X (.Assign [tg] e pos) (tS X.K M E fun L G => (f L G).bind fun d G => (ft d L G).bind fun L G => .ok (.nx L) G) :=
  ps_imp (ps_asg he hg hc hw (by cases tg <;> first | rfl | cases hs)) fun Dn σ H ⟨ι, L, G, l, R, w⟩ => tE_bind go_o l R w fun ι1 H1 v d G1 x1 l1 R1 r1 w1 =>
    ⟨ι1, L, G1, d, l1, R1, r1, Res.wp_mono (fun L2 G2 h ι2 H2 σ2 x2 R2 l2 => (show Ko X.K M ι1 H1 Dn (.nx L2) G2 from h) ι2 H2 x2 R2 σ2 l2) (fun _ _ _ h => h) (Res.wp_bind.mp w1)⟩
theorem asgS_ok (c : Cs X M C O sx E k) (hr : ∀ p e, rec sx p e = true → SX X M C E p e) (hb : ∀ (Y : Cx) (scope : Scope), gl Y = gl X → Cd Y M C O (sx.blk scope) noE k → ∀ p e, rec (sx.blk scope) p e = true → SX Y M C noE p e) {t : TG} {p : PX} {tg v : Expr} {pos : Pos}
    (h : asgS M.nt rec sx t p tg v = true) : SS X M C E (.asg t p) (.Assign [tg] v pos) := by
  have hsw : swapsWith v (some tg) pos.line X.env = pure (swB sx.sc v tg) := by rw [← c.sc]; exact swB_ok c.kd
  unfold asgS at h
  split at h
  · rename_i hq
    rw [hq] at hsw
    split at h
    · rename_i i elt vs tn it cond y py
      obtain ⟨h1, h2, h3⟩ := and3 h
      unfold kLc at h3
      split at h3
      · simp only [Bool.and_eq_true] at h3
        obtain ⟨⟨⟨⟨⟨⟨⟨a1, a2⟩, a3⟩, a4⟩, a5⟩, a6⟩, a7⟩, a8⟩ := h3
        obtain rfl := of_decide_eq_true a1
        exact s_setLc c h1 (of_decide_eq_true h2) hsw (chkI_ok c.toCd hr a2) a3 a4 a5 (fun Y hk cy => chkIfs_ok (hb Y _ hk cy) a6) (fun Y hk cy => (hb Y _ hk cy _ _ a7).1) a8
      · cases h3
    · cases h
  · rename_i hq
    rw [hq] at hsw
    split at h
    · rename_i hs
      obtain ⟨h1, h2, h3⟩ := and3 h
      exact s_asgG (hr _ _ h1).1 (chkTG_ok c.toCd hr h2) hsw h3 (stF_ok c.kd (by rw [c.sc]; exact hs))
    · rename_i ns hs
      have hw := stF_ok (env := X.env) c.kd (by rw [c.sc]; exact hs)
      split at h
      · simp only [Bool.and_eq_true] at h
        obtain ⟨⟨⟨⟨⟨⟨⟨⟨h1, h2⟩, h3⟩, h4⟩, h5⟩, h6⟩, h7⟩, h8⟩, h9⟩ := h
        obtain rfl := of_decide_eq_true h1
        exact s_par2 c (of_decide_eq_true h2) (of_decide_eq_true h3) (by simpa using h4) (by simpa using h5) (by simpa using h6) (of_decide_eq_true h7) (of_decide_eq_true h8) (chkAs_ok hr h9).pa hw
      · simp only [Bool.and_eq_true] at h
        obtain ⟨⟨⟨⟨⟨⟨⟨⟨⟨⟨⟨⟨⟨h1, h2⟩, h3⟩, h4⟩, h5⟩, h6⟩, h7⟩, h8⟩, h9⟩, h10⟩, h11⟩, h12⟩, h13⟩, h14⟩ := h
        obtain rfl := of_decide_eq_true h1
        exact s_par3 c (of_decide_eq_true h2) (of_decide_eq_true h3) (of_decide_eq_true h4) (by simpa using h5) (by simpa using h6) (by simpa using h7) (by simpa using h8) (by simpa using h9) (by simpa using h10) (of_decide_eq_true h11) (of_decide_eq_true h12) (of_decide_eq_true h13) (chkAs_ok hr h14).pa hw
      · cases h
    · cases h
theorem chkHs_ok (c : Cs X M C O sx E k) {fu : Nat} : ∀ {l : List (Nat × Option Nat × PX)} {hs : List ExceptHandler}, chkHs M.nt C.P fu sx l hs = true → HL X M C hs l := by
  have names : ∀ {x : Str} {hc : Nat}, decide (x = nameAt M.nt.cls hc) = true → (C.P.cls[hc]?).isSome = true → glB sx.sc x = true → Names X x (.ref (He.ga X.K (M.c hc))) := fun {x hc} h1 h2 h3 => by
    obtain ⟨g1, g2, g3⟩ := c.gl h3
    obtain ⟨r, hr⟩ := Option.isSome_iff_exists.mp h2
    exact ⟨g1, g2, .inl (by rw [of_decide_eq_true h1]; exact (c.fx.cls hc r hr).1)⟩
  intro l
  induction l with
  | nil =>
    intro hs h
    cases hs with
    | nil => exact .nil
    | cons _ _ => cases h
  | cons q l ih =>
    intro hs h
    unfold chkHs at h
    split at h
    · cases ‹_ :: _ = []›
    · rename_i hc b l' x np he p1 p2 hs' e1
      cases e1
      simp only [Bool.and_eq_true] at h
      obtain ⟨⟨⟨⟨h1, h2⟩, h3⟩, h4⟩, h5⟩ := h
      exact .plain (names h1 h2 h3) (fun a oe cls d pn hz hfd => chkH_ok c.toCg hz hfd h4) (ih h5)
    · rename_i hc i b l' x np n he p1 p2 hs' e1
      cases e1
      simp only [Bool.and_eq_true] at h
      obtain ⟨⟨⟨⟨⟨⟨h1, h2⟩, h3⟩, h4⟩, h5⟩, h6⟩, h7⟩ := h
      exact .named (names h1 h2 h3) (by rw [c.N]; exact of_decide_eq_true h4) (show X.env.scope.names.lookup n = some .local by rw [c.sc]; exact of_decide_eq_true h5) (fun a oe cls d pn hz hfd => chkH_ok c.toCg hz hfd h6) (ih h7)
    · cases h
theorem tryB_ok {rx : RX} (hr : ∀ p e, rx p e = true → SX X M C E p e) {isret : Bool} {p : PX} {st : Stmt} (h : tryB rx isret p st = true) : L2.PS X st (tS X.K M E fun L G => (evX C p L G).bind fun d G => if isret then .ok (.rt d) G else .ok (.nx L) G) := by
  unfold tryB at h
  split at h
  · exact s_ret (hr _ _ h).1
  · obtain ⟨h1, h2⟩ := and2 h
    exact s_expr (hr _ _ h1).1 h2
  · cases h
end
end Rf


set_option Elab.async false
set_option linter.all false
set_option maxRecDepth 100000
set_option maxHeartbeats 4000000
/-! S32: the checker of statements is right. -/
namespace Rf
open PySem PySem.Spec PyProof.Rows L2 LamX
section
variable {g : Glob} {M0 : Nm} {P : Prg} {O : Ob} {DS : DSt} {n : Nat}
theorem soundS {fx : Nat} (hx : SdX g M0 P O n (chkX M0.nt P DS fx)) {X : Cx} {M : Nm} {C : EC} {sx : Sx} {E : XK} (hg : gl X = g) (lv : Lv M0 P n M C) (c : Cs X M C O sx E (2 * n + 1)) : ∀ {fu : Nat} {p : PS} {s : Stmt}, chkS M0.nt P DS fx fu sx p s = true → SS X M C E p s
  | 0, _, _, h => by cases h
  | fu + 1, p, s, h0 => by
    have ih : ∀ p s, chkS M0.nt P DS fx fu sx p s = true → SS X M C E p s := fun p s => soundS hx hg lv c
    have hr : ∀ p e, chkX M0.nt P DS fx sx p e = true → SX X M C E p e := hx X M C sx E hg lv c.toCd
    have hb : ∀ (Y : Cx) (scope : Scope), gl Y = gl X → Cd Y M C O (sx.blk scope) noE (2 * n + 1) → ∀ p e, chkX M0.nt P DS fx (sx.blk scope) p e = true → SX Y M C noE p e := fun Y scope hy cy => hx Y M C _ noE (hy.trans hg) lv cy
    have hs : ∀ {isret p st}, tryB (chkX M0.nt P DS fx sx) isret p st = true → ∀ (pn : List (Addr × Obj)) (xe : Value → Shared → Prop) (E' : XK), Cd (X.tr pn xe) M C O sx E' (2 * n + 1) → L2.PS (X.tr pn xe) st (tS X.K M E' fun L G => (evX C p L G).bind fun d G => if isret then .ok (.rt d) G else .ok (.nx L) G) :=
      fun h pn xe E' cd => tryB_ok (X := X.tr pn xe) (hx (X.tr pn xe) M C sx E' hg lv cd) h
    have h : stepS M0.nt P fx (chkX M0.nt P DS fx) sx (chkS M0.nt P DS fx fu sx) p s = true := h0
    clear h0
    obtain ⟨ht, htb, hp, hc⟩ := lv
    rw [← ht, ← hp] at h ih hr hb hs
    cases p with
    | expr a =>
      simp only [stepS] at h
      split at h
      · obtain ⟨h1, h2⟩ := and2 h
        exact s_expr (hr _ _ h1).1 h2
      · cases h
    | ret a =>
      simp only [stepS] at h
      split at h
      · exact s_ret (hr _ _ h).1
      · cases h
    | retn =>
      simp only [stepS] at h
      split at h
      · exact s_retn
      · cases h
    | asg t a =>
      simp only [stepS] at h
      split at h
      · exact asgS_ok c hr hb h
      · cases h
    | aug _ _ _ _ => cases h
    | ite d a b =>
      simp only [stepS] at h
      split at h
      · obtain ⟨h1, h2, h3⟩ := and3 h
        exact s_if (hr _ _ h1).2 (chkSs_ok ih h2) (chkSs_ok ih h3)
      · cases h
    | «for» t it b =>
      simp only [stepS] at h
      split at h
      · obtain ⟨h1, h2, h3, h4⟩ := and4 h
        exact s_for c.po c.calm (chkI_ok c.toCd hr h1) (pg_n c.N c.sc c.fn c.nd c.calm h2) (chkSs_ok ih h4) h3 fun p hp z => chkN_fix h2 _ z (c.fixS p hp)
      · cases h
    | forw w t it b =>
      simp only [stepS] at h
      split at h
      · obtain ⟨h1, h2, h3, h4⟩ := and4 h
        exact s_forw c.po c.calm (chkI_ok c.toCd hr h1) (pg_n c.N c.sc c.fn c.nd c.calm h2) (chkSs_ok ih h4) h3 fun p hp z => chkN_fix h2 _ z (c.fixS p hp)
      · cases h
    | «while» d b =>
      simp only [stepS] at h
      split at h
      · obtain ⟨h1, h2⟩ := and2 h
        exact s_while c.po (hr _ _ h1).2 (chkSs_ok ih h2)
      · cases h
    | raise q ps =>
      simp only [stepS] at h
      split at h
      · obtain ⟨h1, h2, h3⟩ := and3 h
        have ex : ∀ {fs}, excFs C.P q = some fs → ∃ r, C.P.cls[q]? = some r ∧ r.exc = some fs := fun {fs} e => by
          unfold excFs at e
          split at e
          · exact ⟨_, by assumption, e⟩
          · cases e
        split at h3
        · rename_i he
          obtain ⟨r, e1, e2⟩ := ex he
          exact s_raise0 c e1 e2 (of_decide_eq_true h1) h2
        · rename_i he
          obtain ⟨r, e1, e2⟩ := ex he
          obtain ⟨h4, h5⟩ := and2 h3
          exact s_raise1 c e1 e2 (of_decide_eq_true h1) h2 (hr _ _ h4).1 h5
        · cases h3
      · cases h
    | try1 isret a hds =>
      simp only [stepS] at h
      split at h
      · obtain ⟨h1, h2⟩ := and2 h
        exact s_try c (fun pn xe E' cd => hs h1 pn xe E' cd) (chkHs_ok c h2)
      · cases h
    | pass =>
      simp only [stepS] at h
      split at h
      · exact s_pass
      · cases h
    | brk =>
      simp only [stepS] at h
      split at h
      · exact s_brk
      · cases h
end
end Rf


set_option Elab.async false
set_option linter.all false
set_option maxRecDepth 100000
set_option maxHeartbeats 4000000
/-! S33: the defs do what the evaluator says, however deep the calls. -/
namespace Rf
open PySem PySem.Spec PyProof.Rows L2 LamX
section
variable {g : Glob} {M0 : Nm} {P : Prg} {O : Ob} {DS : DSt}
theorem bds {n fx fu : Nat} (hx : SdX g M0 P O n (chkX M0.nt P DS fx)) (hchk : ∀ f S d, DS f = some S → P.defs[f]? = some (some d) → chkSs (chkS M0.nt P DS fx fu S.sx) d.body S.body = true) : BdS g M0 P O DS n :=
  fun f S d hS hd X M C E hg lv c => chkSs_ok (fun p s h => soundS hx hg lv c h) (hchk f S d hS hd)
theorem fn_run {n : Nat} (hM : M0.fix = [] ∧ M0.capL = [] ∧ M0.capS = [] ∧ M0.cod = []) (fx : Fx M0 P O g.K g.mg) (dkx : FxD M0 P g.K g.w g.mg) (G : Gd g M0 P O DS n) (hB : BdS g M0 P O DS n) {f : Nat} {S : DefS} {d : DefR} (hS : DS f = some S) (hd : P.defs[f]? = some (some d)) (nd : (f == P.draw) = false) (np : (f == P.pool) = false) :
    FnG g.prog g.w g.K g.mg g.base (CX g.prog g.w) (2 * (n + 1) + 1) (O.fa f) (O.fd f) (O.ps f) (spF g.K M0 (run P (n + 1)) f) := by
  have D := G.hD f S d hS hd
  have R : ∀ {ι H ds G Q E}, Rep g.K M0 ι G H → (run P (n + 1) (.fn f) ds G).wp (Kt g.K M0 ι H Q) (Kx g.K M0 ι H E) → d.par = ds.length ∧ (bodyF P (run P n) d [] ds G).wp (Kt g.K M0 ι H Q) (Kx g.K M0 ι H E) := by
    intro ι H ds G Q E R w
    unfold run at w
    rw [nd, np] at w
    simp only [Bool.false_eq_true, if_false, hd] at w
    obtain ⟨h1, w⟩ := wp_if w
    exact ⟨by simpa using h1, trim_ok R w⟩
  have len : ∀ vs H Q E, spF g.K M0 (run P (n + 1)) f vs H Q E → vs.length = (O.ps f).length := fun vs H Q E ⟨ι, G, ds, R1, r, w⟩ => by
    rw [D.ps, D.par, (R R1 w).1, r.length]
  refine ⟨len, fun A outer s H args us vs Q E hr hgd e0 hb rv q => ?_⟩
  have hl := len _ _ _ _ q
  obtain ⟨ι, G1, ds, R1, r, w⟩ := q
  obtain ⟨hpar, w⟩ := R R1 w
  obtain ⟨dvs, kws, hFD⟩ := D.fd
  obtain ⟨oc, od, dV, kV, doc, pm0, an, cdv, ct, osl, hfd, lk, hcd, _, _⟩ := hFD.ex
  have ecd : (O.fd f).code = cdv := by rw [hfd]
  rw [D.ps] at hb hl
  rw [hfd] at lk hb
  refine run_ofS (CX := CX g.prog g.w) (k := 2 * n + 2) lk hcd D.sc hr e0 hb rv hl fun hr' => ?_
  have cs : Cs (cxOf (CX g.prog g.w) g.prog g.w g.K g.mg g.base S.N S.qual S.scope (O.fa f) (O.fd f).code A outer s H E) M0 ⟨P, run P n, [], none⟩ O S.sx E (2 * n + 1) :=
    cs_of (C := ⟨P, run P n, [], none⟩) fx dkx (G.fns n (Nat.le_refl _)) (G.xns n) D (fun p hp => by rw [hM.1] at hp; cases hp) (fun _ => hM) (by rw [ecd]; exact hr') hgd (fun i lam L h => by cases h)
  rw [ecd] at cs
  refine ⟨_, hB f S d hS hd _ M0 ⟨P, run P n, [], none⟩ E rfl ⟨rfl, rfl, rfl, rfl⟩ cs, ι, startL d.slots ds, G1, ⟨?_, fun p hp => (by rw [hM.1] at hp; cases hp), ⟨(by rw [hM.2.1, hM.2.2.1]; trivial), fun p hp => by rw [hM.2.2.2] at hp; cases hp⟩⟩, R1, out_ok w⟩
  unfold startL L2.start
  rw [← D.slots, r.length]
  exact LR0.start r _
theorem all_fns {fx0 fu : Nat} (hM : M0.fix = [] ∧ M0.capL = [] ∧ M0.capS = [] ∧ M0.cod = []) (fx : Fx M0 P O g.K g.mg) (dkx : FxD M0 P g.K g.w g.mg)
    (hD : ∀ f S d, DS f = some S → P.defs[f]? = some (some d) → DfO O g.K g.base g.mg (M0.tb g.K) f S d) (hDS : ∀ f d, P.defs[f]? = some (some d) → ∃ S, DS f = some S)
    (xns : ∀ m, Xns M0 P O (2 * m + 1) g.prog g.w g.K g.mg g.base) (hchk : ∀ f S d, DS f = some S → P.defs[f]? = some (some d) → chkSs (chkS M0.nt P DS fx0 fu S.sx) d.body S.body = true)
    (hDraw : ∀ n, Gd g M0 P O DS n → BdS g M0 P O DS n → FnG g.prog g.w g.K g.mg g.base (CX g.prog g.w) (2 * (n + 1) + 1) (O.fa P.draw) (O.fd P.draw) (O.ps P.draw) (spF g.K M0 (run P (n + 1)) P.draw))
    (hPool : ∀ n, Gd g M0 P O DS n → BdS g M0 P O DS n → FnG g.prog g.w g.K g.mg g.base (CX g.prog g.w) (2 * (n + 1) + 1) (O.fa P.pool) (O.fd P.pool) (O.ps P.pool) (spF g.K M0 (run P (n + 1)) P.pool)) :
    ∀ n, (∀ m, m ≤ n → Fns M0 O (run P m) (2 * m + 1) g.prog g.w g.K g.mg g.base) ∧ ∀ m, m ≤ n → ∀ fu, SdX g M0 P O m (chkX M0.nt P DS fu) := by
  have bad : ∀ {call : CallT} {f k : Nat}, (∀ ds G, call (.fn f) ds G = .bad) → FnG g.prog g.w g.K g.mg g.base (CX g.prog g.w) k (O.fa f) (O.fd f) (O.ps f) (spF g.K M0 call f) := fun {call f k} h =>
    ⟨fun vs H Q E ⟨ι, G, ds, R, r, w⟩ => by rw [h] at w; exact w.elim, fun A outer s H args us vs Q E _ _ _ _ _ ⟨ι, G, ds, R, r, w⟩ => by rw [h] at w; exact w.elim⟩
  intro n
  induction n with
  | zero =>
    have f0 : ∀ m, m ≤ 0 → Fns M0 O (run P m) (2 * m + 1) g.prog g.w g.K g.mg g.base := fun m hm f hf => by
      obtain rfl : m = 0 := by omega
      exact bad fun _ _ => rfl
    refine ⟨f0, fun m hm fu => ?_⟩
    obtain rfl : m = 0 := by omega
    exact soundX ⟨hD, f0, xns⟩ (fun m h => by omega) (fun j h => by omega) fu
  | succ n ih =>
    obtain ⟨i1, i2⟩ := ih
    have G : Gd g M0 P O DS n := ⟨hD, i1, xns⟩
    have B : ∀ m, m ≤ n → BdS g M0 P O DS m := fun m hm => bds (i2 m hm fx0) hchk
    have f1 : ∀ m, m ≤ n + 1 → Fns M0 O (run P m) (2 * m + 1) g.prog g.w g.K g.mg g.base := fun m hm => by
      by_cases h : m ≤ n
      · exact i1 m h
      · obtain rfl : m = n + 1 := by omega
        intro f hf
        by_cases e1 : f = P.draw
        · subst e1; exact hDraw n G (B n (Nat.le_refl _))
        · by_cases e2 : f = P.pool
          · subst e2; exact hPool n G (B n (Nat.le_refl _))
          · have n1 : (f == P.draw) = false := by simpa using e1
            have n2 : (f == P.pool) = false := by simpa using e2
            cases hd : P.defs[f]? with
            | none =>
              have hb : ∀ ds G, run P (n + 1) (.fn f) ds G = .bad := by
                intro ds G
                unfold run
                rw [n1, n2]
                simp [hd]
              exact bad hb
            | some o =>
              cases o with
              | none =>
                have hb : ∀ ds G, run P (n + 1) (.fn f) ds G = .bad := by
                  intro ds G
                  unfold run
                  rw [n1, n2]
                  simp [hd]
                exact bad hb
              | some d =>
                obtain ⟨S, hS⟩ := hDS f d hd
                exact fn_run hM fx dkx G (B n (Nat.le_refl _)) hS hd n1 n2
    refine ⟨f1, fun m hm fu => ?_⟩
    by_cases h : m ≤ n
    · exact i2 m h fu
    · obtain rfl : m = n + 1 := by omega
      exact soundX ⟨hD, f1, xns⟩ (fun m h => B m (by omega)) (fun j h fu => i2 j (by omega) fu) fu
end
end Rf


set_option Elab.async false
set_option linter.all false
set_option maxRecDepth 100000
set_option maxHeartbeats 4000000
/-! S34: the draws: what the bodies of _law_draw and _law_pool tell. -/
namespace Rf
open PySem PySem.Spec PyProof.Rows L2 LamX
abbrev vx (i : Nat) : PX := .var i
abbrev ix (i : Int) : PX := .lit (.int i)
abbrev p1 (a : PX) : PXs := .cons a .nil
abbrev p2 (a b : PX) : PXs := .cons a (.cons b .nil)
def drawB : PSs :=
  .cons (.ite (.cmp .gt (.idx (vx 0) (ix 1)) (ix 0)) (.cons (.asg (.tup [.idx (vx 0) (ix 1), .nm 2]) (.blt .divmod (p2 (.idx (vx 0) (ix 1)) (vx 1)))) (.cons (.ret (vx 2)) .nil)) .nil)
  (.cons (.asg (.one (.idx (vx 0) (ix 2))) (.bin .add (.idx (vx 0) (ix 2)) (ix 1)))
  (.cons (.asg (.one (.nm 3)) (.blt .int (p1 (.idx (vx 0) (ix 0)))))
  (.cons (.asg (.one (.idx (vx 0) (ix 0))) (.bin .mod (.blt .int (p1 (.bin .add (.bin .add (.bin .mul (vx 3) (.bin .add (.bin .mod (vx 3) (ix 20011)) (ix 30011))) (.bin .mul (ix 70001) (.idx (vx 0) (ix 2)))) (ix 9)))) (ix 2147482937)))
  (.cons (.ret (.bin .mod (.blt .int (p1 (.bin .fdiv (.idx (vx 0) (ix 0)) (ix 128)))) (vx 1))) .nil))))
theorem getL_set {G : GG} {p : Nat} {ds es : List D} (h : getL G p = some ds) : getL (G.set p (.lst es)) p = some es := by
  have hl : p < G.length := (List.getElem?_eq_some_iff.mp (getL_ok h)).1
  unfold getL
  rw [List.getElem?_set_self hl]
theorem set_set {G : GG} {p : Nat} {a b : Rf.O} : (G.set p a).set p b = G.set p b := by simp
theorem wide_mod (h : Int) : wide64 (h % 20011 + 30011) = true := by
  have h1 := Int.emod_nonneg h (show (20011 : Int) ≠ 0 by decide)
  have h2 := Int.emod_lt_of_pos h (show (0 : Int) < 20011 by decide)
  simp only [wide64, Bool.and_eq_true, decide_eq_true_eq]
  constructor <;> omega
theorem draw_ev {P : Prg} {call : CallT} {G : GG} {p : Nat} {a b c m : Int} (g : getL G p = some [.int a, .int b, .int c]) (hm : 0 < m) (hm2 : m < 1073741824) :
    ∃ v a' b' c' : Int, 0 ≤ v ∧ v < m ∧ outR (evSs ⟨P, call, [], none⟩ drawB [some (.ref p), some (.int m), none, none] G) = .ok (.int v) (G.set p (.lst [.int a', .int b', .int c'])) := by
  by_cases hb : 0 < b
  · refine ⟨b % m, a, b / m, c, Int.emod_nonneg _ (by omega), Int.emod_lt_of_pos _ hm, ?_⟩
    simp [drawB, evSs, evS, evX, evXs, varK, Res.bind, ofO, ofB, cmpV, cmpF, idxF, g, atI, iteK, hb, hm, hm2, outR, seqO, asgT, asgs, asg1, tupOf, bfF, setIxF, ixN, getL_set g]
  · refine ⟨(a * (a % 20011 + 30011) + 70001 * (c + 1) + 9) % 2147482937 / 128 % m, (a * (a % 20011 + 30011) + 70001 * (c + 1) + 9) % 2147482937, b, c + 1, Int.emod_nonneg _ (by omega), Int.emod_lt_of_pos _ hm, ?_⟩
    have w1 : wide64 70001 = true := by decide
    have gs : ∀ es : List D, getL (G.set p (.lst es)) p = some es := fun es => getL_set g
    simp [drawB, evSs, evS, evX, evXs, varK, Res.bind, ofO, ofB, cmpV, cmpF, idxF, g, gs, atI, iteK, hb, hm, hm2, outR, seqO, asgT, asgs, asg1, tupOf, bfF, setIxF, ixN, binF, wide_mod, w1]
end Rf


set_option Elab.async false
set_option linter.all false
set_option maxRecDepth 100000
set_option maxHeartbeats 4000000
/-! S35: the body of _law_pool. -/
namespace Rf
open PySem PySem.Spec PyProof.Rows L2 LamX
def poolFor : PSs := .cons (.asg (.one (.nm 3)) (.bin .mod (.blt .int (p1 (.bin .add (.bin .add (.bin .mul (vx 3) (ix 48271)) (.bin .mod (.blt .int (p1 (vx 4))) (ix 2147482937))) (ix 43)))) (ix 2147482937))) .nil
def poolB (c1 c2 : Int) : PSs :=
  .cons (.asg (.tup [.nm 2, .nm 3]) (.tup (p2 (.ite (.cmp .lt (vx 1) (.blt .len (p1 (vx 0)))) (.blt .int (p1 (.idx (vx 0) (vx 1)))) (.bin .add (.bin .mul (ix 70001) (vx 1)) (ix 89))) (.bin .add (ix c1) (.bin .mul (ix c2) (vx 1))))))
  (.cons (.for (.nm 4) (.seq (.sl (vx 0) .nopart (ix 6))) poolFor)
  (.cons (.ret (.lst (.cons (.bin .mod (.blt .int (p1 (.bin .add (vx 3) (.bin .mul (vx 2) (ix 1033))))) (ix 2147482937)) (.cons (.ite (.or (.cmp .lt (vx 2) (ix 0)) (.cmp .ge (vx 2) (.bin .pow (ix 10) (ix 18)))) (.blt .abs (p1 (vx 2))) (ix 0)) (p1 (ix 0)))))) .nil))
theorem pool_for {P : Prg} {call : CallT} {x0 x1 x2 : Option D} {src : List (Nat × List D)} {G : GG} (hs : srcOk src G = true) : ∀ (is : List Int) (s : Int) (v : Option D), ∃ (s' : Int) (v' : Option D),
    forL (evSs ⟨P, call, [], none⟩ poolFor) (.nm 4) src (is.map .int) [x0, x1, x2, some (.int s), v] G = .ok (.nx [x0, x1, x2, some (.int s'), v']) G
  | [], s, v => ⟨s, v, by simp [forL, hs]⟩
  | i :: is, s, v => by
    have w1 : wide64 48271 = true := by decide
    obtain ⟨s', v', e⟩ := pool_for (P := P) (call := call) (x0 := x0) (x1 := x1) (x2 := x2) hs is ((s * 48271 + i % 2147482937 + 43) % 2147482937) (some (.int i))
    refine ⟨s', v', ?_⟩
    rw [List.map_cons]
    simp only [forL, hs, if_true, bindN]
    rw [← e]
    simp [poolFor, evSs, evS, evX, evXs, varK, Res.bind, bfF, binF, w1, seqO, asgT, asg1]
theorem ints_map : ∀ {xs : List D} {is : List Int}, intsOf xs = some is → xs = is.map .int
  | [], is, h => by cases h; rfl
  | .int i :: r, is, h => by
    obtain ⟨js, hj, rfl⟩ := Option.map_eq_some_iff.mp (show (intsOf r).map (i :: ·) = some is from h)
    rw [ints_map hj]; rfl
  | .non :: _, _, h | .bl _ :: _, _, h | .str _ :: _, _, h | .tup _ :: _, _, h | .cl _ :: _, _, h | .ref _ :: _, _, h => by cases h
theorem cut_map {α β : Type} (f : α → β) (l : List α) (a b : Option Int) : cut (l.map f) a b = (cut l a b).map f := by
  unfold cut
  rw [List.length_map, List.map_take, List.map_drop]
theorem pool_ev {P : Prg} {call : CallT} {G : GG} {is : List Int} {t c1 c2 : Int} (h1 : wide64 c2 = true) (ht : 0 ≤ t) (hl : is.length ≤ 63) :
    ∃ (cs : List D) (A B : Int), outR (evSs ⟨P, call, [], none⟩ (poolB c1 c2) [some (.cl (is.map .int)), some (.int t), none, none, none] G) = .ok (.ref (G.length + 1)) ((G ++ [.lst cs]) ++ [.lst [.int A, .int B, .int 0]]) := by
  have w1 : wide64 70001 = true := by decide
  have w2 : wide64 1033 = true := by decide
  have w3 : wide64 10 = true := by decide
  have hsrc : srcOk [(G.length, (cut is none (some 6)).map D.int)] (G ++ [.lst ((cut is none (some 6)).map D.int)]) = true := by
    simp [srcOk, getL, D.beqs_self]
  obtain ⟨own, ho⟩ : ∃ own : Int, evX ⟨P, call, [], none⟩ (.ite (.cmp .lt (vx 1) (.blt .len (p1 (vx 0)))) (.blt .int (p1 (.idx (vx 0) (vx 1)))) (.bin .add (.bin .mul (ix 70001) (vx 1)) (ix 89))) [some (.cl (is.map .int)), some (.int t), none, none, none] G = .ok (.int own) G := by
    by_cases hc : t < is.length
    · have hk : t.toNat < is.length := by omega
      refine ⟨is[t.toNat], ?_⟩
      simp [evX, evXs, varK, Res.bind, bfF, seqOf, cmpV, ofB, cmpF, ltF, iteK, hc, ofO, idxF, atI, ixN, ht, hk]
    · refine ⟨70001 * t + 89, ?_⟩
      simp [evX, evXs, varK, Res.bind, bfF, seqOf, cmpV, ofB, cmpF, ltF, iteK, hc, binF, w1]
  obtain ⟨s', v', e⟩ := pool_for (P := P) (call := call) (x0 := some (.cl (is.map .int))) (x1 := some (.int t)) (x2 := some (.int own)) hsrc (cut is none (some 6)) (c1 + c2 * t) none
  obtain ⟨B, hB⟩ : ∃ B : Int, ∀ G', evX ⟨P, call, [], none⟩ (.ite (.or (.cmp .lt (vx 2) (ix 0)) (.cmp .ge (vx 2) (.bin .pow (ix 10) (ix 18)))) (.blt .abs (p1 (vx 2))) (ix 0)) [some (.cl (is.map .int)), some (.int t), some (.int own), some (.int s'), v'] G' = .ok (.int B) G' := by
    by_cases c1 : own < 0
    · exact ⟨if own < 0 then -own else own, fun G' => by simp [evX, evXs, varK, Res.bind, bfF, cmpV, ofB, cmpF, ltF, iteK, orK, c1]⟩
    · by_cases c2 : 1000000000000000000 ≤ own
      · exact ⟨if own < 0 then -own else own, fun G' => by simp [evX, evXs, varK, Res.bind, bfF, cmpV, ofB, cmpF, ltF, iteK, orK, c1, c2, binF, w3]⟩
      · exact ⟨0, fun G' => by simp [evX, evXs, varK, Res.bind, bfF, cmpV, ofB, cmpF, ltF, iteK, orK, c1, c2, binF, w3]⟩
  have t2 : evX ⟨P, call, [], none⟩ (.bin .add (ix c1) (.bin .mul (ix c2) (vx 1))) [some (.cl (is.map .int)), some (.int t), none, none, none] G = .ok (.int (c1 + c2 * t)) G := by
    simp [evX, varK, Res.bind, binF, h1]
  have s1 : evS ⟨P, call, [], none⟩ (.asg (.tup [.nm 2, .nm 3]) (.tup (p2 (.ite (.cmp .lt (vx 1) (.blt .len (p1 (vx 0)))) (.blt .int (p1 (.idx (vx 0) (vx 1)))) (.bin .add (.bin .mul (ix 70001) (vx 1)) (ix 89))) (.bin .add (ix c1) (.bin .mul (ix c2) (vx 1)))))) [some (.cl (is.map .int)), some (.int t), none, none, none] G =
      .ok (.nx [some (.cl (is.map .int)), some (.int t), some (.int own), some (.int (c1 + c2 * t)), none]) G := by
    rw [evS, evX, evXs, ho]
    simp only [Res.bind]
    rw [evXs, t2]
    simp [evXs, Res.bind, tupK, small, asgT, tupOf, asgs, asg1]
  have s2 : evS ⟨P, call, [], none⟩ (.for (.nm 4) (.seq (.sl (vx 0) .nopart (ix 6))) poolFor) [some (.cl (is.map .int)), some (.int t), some (.int own), some (.int (c1 + c2 * t)), none] G =
      .ok (.nx [some (.cl (is.map .int)), some (.int t), some (.int own), some (.int s'), v']) (G ++ [.lst ((cut is none (some 6)).map D.int)]) := by
    rw [evS]
    simp only [evI, evX, varK, Res.bind, List.getElem?_cons_zero, partK, partB, PX.isNop, if_true, slF, cut_map, seqK, seqOf, srcOf, getL]
    simp only [Bool.false_eq_true, if_false]
    simp [slF, cut_map, Res.bind, seqK, seqOf, srcOf, getL]
    exact e
  have s3 : evX ⟨P, call, [], none⟩ (.bin .mod (.blt .int (p1 (.bin .add (vx 3) (.bin .mul (vx 2) (ix 1033))))) (ix 2147482937)) [some (.cl (is.map .int)), some (.int t), some (.int own), some (.int s'), v'] (G ++ [.lst ((cut is none (some 6)).map D.int)]) = .ok (.int ((s' + own * 1033) % 2147482937)) (G ++ [.lst ((cut is none (some 6)).map D.int)]) := by
    simp [evX, evXs, varK, Res.bind, binF, bfF, w2]
  refine ⟨(cut is none (some 6)).map D.int, (s' + own * 1033) % 2147482937, B, ?_⟩
  rw [poolB, evSs, s1]
  simp only [Res.bind, seqO]
  rw [evSs, s2]
  simp only [Res.bind, seqO]
  rw [evSs, evS, evX, evXs, s3]
  simp only [Res.bind]
  rw [evXs, hB]
  simp [evXs, Res.bind, evX, newL, small, seqO, outR]
end Rf


set_option Elab.async false
set_option linter.all false
set_option maxRecDepth 100000
set_option maxHeartbeats 4000000
/-! S36: the draws' promises. -/
namespace Rf
open PySem PySem.Spec PyProof.Rows L2 LamX
section
variable {g : Glob} {M0 : Nm} {P : Prg} {O : Ob} {DS : DSt}
/-- a def's promise, from what its body's evaluation gives -/
theorem fn_gen {n : Nat} (hM : M0.fix = [] ∧ M0.capL = [] ∧ M0.capS = [] ∧ M0.cod = []) (fx : Fx M0 P O g.K g.mg) (dkx : FxD M0 P g.K g.w g.mg) (G : Gd g M0 P O DS n) (hB : BdS g M0 P O DS n) {f : Nat} {S : DefS} {d : DefR} (hS : DS f = some S) (hd : P.defs[f]? = some (some d)) {sp : Sp}
    (R : ∀ vs H Q E, sp vs H Q E → ∃ ι G ds, Rep g.K M0 ι G H ∧ DRs g.K H ι ds vs ∧ d.par = ds.length ∧ (bodyF P (run P n) d [] ds G).wp (Kt g.K M0 ι H Q) (Kx g.K M0 ι H E)) :
    FnG g.prog g.w g.K g.mg g.base (CX g.prog g.w) (2 * (n + 1) + 1) (O.fa f) (O.fd f) (O.ps f) sp := by
  have D := G.hD f S d hS hd
  have len : ∀ vs H Q E, sp vs H Q E → vs.length = (O.ps f).length := fun vs H Q E q => by
    obtain ⟨ι, G, ds, R1, r, hp, w⟩ := R _ _ _ _ q
    rw [D.ps, D.par, hp, r.length]
  refine ⟨len, fun A outer s H args us vs Q E hr hgd e0 hb rv q => ?_⟩
  have hl := len _ _ _ _ q
  obtain ⟨ι, G1, ds, R1, r, hpar, w⟩ := R _ _ _ _ q
  obtain ⟨dvs, kws, hFD⟩ := D.fd
  obtain ⟨oc, od, dV, kV, doc, pm0, an, cdv, ct, osl, hfd, lk, hcd, _, _⟩ := hFD.ex
  have ecd : (O.fd f).code = cdv := by rw [hfd]
  rw [D.ps] at hb hl
  rw [hfd] at lk hb
  refine run_ofS (CX := CX g.prog g.w) (k := 2 * n + 2) lk hcd D.sc hr e0 hb rv hl fun hr' => ?_
  have cs : Cs (cxOf (CX g.prog g.w) g.prog g.w g.K g.mg g.base S.N S.qual S.scope (O.fa f) (O.fd f).code A outer s H E) M0 ⟨P, run P n, [], none⟩ O S.sx E (2 * n + 1) :=
    cs_of (C := ⟨P, run P n, [], none⟩) fx dkx (G.fns n (Nat.le_refl _)) (G.xns n) D (fun p hp => by rw [hM.1] at hp; cases hp) (fun _ => hM) (by rw [ecd]; exact hr') hgd (fun i lam L h => by cases h)
  rw [ecd] at cs
  refine ⟨_, hB f S d hS hd _ M0 ⟨P, run P n, [], none⟩ E rfl ⟨rfl, rfl, rfl, rfl⟩ cs, ι, startL d.slots ds, G1, ⟨?_, fun p hp => (by rw [hM.1] at hp; cases hp), ⟨(by rw [hM.2.1, hM.2.2.1]; trivial), fun p hp => by rw [hM.2.2.2] at hp; cases hp⟩⟩, R1, out_ok w⟩
  unfold startL L2.start
  rw [← D.slots, r.length]
  exact LR0.start r _
end
end Rf


set_option Elab.async false
set_option linter.all false
set_option maxRecDepth 100000
set_option maxHeartbeats 4000000
/-! S37: _law_draw's promise. -/
namespace Rf
open PySem PySem.Spec PyProof.Rows L2 LamX
theorem Rep.swap {K : PySem.W.Frag} {M : Nm} {ι : List Addr} {G : GG} {H : Hp} {p : Nat} {o : Rf.O} (R : Rep K M ι G H) (h : ∀ a, ι[p]? = some a → OR K M H ι a o) : Rep K M ι (G.set p o) H :=
  ⟨by rw [R.len, List.length_set], R.nd, fun i a o' h1 h2 => by
    by_cases e : i = p
    · subst e
      have hl : i < G.length := by
        have := (List.getElem?_eq_some_iff.mp h2).1
        simpa using this
      rw [List.getElem?_set_self hl] at h2
      cases h2
      exact h a h1
    · rw [List.getElem?_set_ne (Ne.symm e)] at h2
      exact R.obj i a o' h1 h2, R.tab⟩
theorem set_back {G : GG} {p : Nat} {o x : Rf.O} (h : G[p]? = some o) : (G.set p x).set p o = G := by
  rw [set_set]
  obtain ⟨hl, e⟩ := List.getElem?_eq_some_iff.mp h
  rw [← e]
  exact List.set_getElem_self hl
section
variable {g : Glob} {M0 : Nm} {P : Prg} {O : Ob} {DS : DSt}
theorem draw_fn {n : Nat} (hM : M0.fix = [] ∧ M0.capL = [] ∧ M0.capS = [] ∧ M0.cod = []) (fx : Fx M0 P O g.K g.mg) (dkx : FxD M0 P g.K g.w g.mg) {S : DefS} {d : DefR} (hS : DS P.draw = some S) (hd : P.defs[P.draw]? = some (some d)) (hb : d.body = drawB) (hp : d.par = 2) (hs : d.slots = 4)
    (G : Gd g M0 P O DS n) (hB : BdS g M0 P O DS n) : FnG g.prog g.w g.K g.mg g.base (CX g.prog g.w) (2 * (n + 1) + 1) (O.fa P.draw) (O.fd P.draw) (O.ps P.draw) (spF g.K M0 (run P (n + 1)) P.draw) := by
  refine fn_gen hM fx dkx G hB hS hd fun vs H Q E ⟨ι, G1, ds, R, r, w⟩ => ?_
  unfold run at w
  simp only [beq_self_eq_true, if_true] at w
  unfold drawF at w
  split at w
  · rename_i p m
    obtain ⟨hc, w⟩ := wp_if w
    obtain ⟨hc1, hc2, hc3⟩ := and3 hc
    have hm := of_decide_eq_true hc2
    have hm2 := of_decide_eq_true hc3
    have hg := isPool_ok hc1
    obtain ⟨a, ha, x, y, z, hH⟩ := R.obj' hg
    have R2 : Rep g.K M0 ι (G1.set p (.lst [.int x, .int y, .int z])) H := R.swap fun a' ha' => by
      rw [ha] at ha'
      cases ha'
      exact ⟨_, hH, rfl, rfl, rfl, trivial⟩
    have hl : p < G1.length := (List.getElem?_eq_some_iff.mp hg).1
    obtain ⟨v, a', b', c', h0, h1, e⟩ := draw_ev (P := P) (call := run P n) (G := G1.set p (.lst [.int x, .int y, .int z])) (p := p) (a := x) (b := y) (c := z) (m := m) (by unfold getL; rw [List.getElem?_set_self hl]) hm hm2
    refine ⟨ι, _, [.ref p, .int m], R2, r, hp, ?_⟩
    unfold bodyF
    rw [hb, hs]
    show (outR (evSs ⟨P, run P n, [], none⟩ drawB [some (.ref p), some (.int m), none, none] _)).wp _ _
    rw [e]
    intro ι' H' v' x' R' r'
    have R3 : Rep g.K M0 ι' G1 H' := by
      have q := R'.swap (p := p) (o := .pool) fun a2 h2 => by
        have ob := R'.obj p a2 (.lst [.int a', .int b', .int c']) h2 (by rw [set_set, List.getElem?_set_self hl])
        obtain ⟨vs, e1, e2⟩ := ob
        match vs, e2 with
        | [v1, v2, v3], e2 =>
          refine ⟨a', b', c', ?_⟩
          rw [e1, show v1 = V.int a' from e2.1, show v2 = V.int b' from e2.2.1, show v3 = V.int c' from e2.2.2.1]
        | [], e2 => exact e2.elim
        | [_], e2 => exact e2.2.elim
        | [_, _], e2 => exact e2.2.2.elim
        | _ :: _ :: _ :: _ :: _, e2 => exact e2.2.2.2.elim
      rw [set_set] at q
      rw [set_back hg] at q
      exact q
    have hv : v.toNat < m.toNat := by omega
    have wv := w v.toNat hv
    refine (show Kt g.K M0 ι H Q (.int (v.toNat : Int)) G1 from wv) ι' H' v' x' R3 ?_
    rw [Int.toNat_of_nonneg h0]
    exact r'
  · exact w.elim
end
end Rf


set_option Elab.async false
set_option linter.all false
set_option maxRecDepth 100000
set_option maxHeartbeats 4000000
/-! S38: _law_pool's promise. -/
namespace Rf
open PySem PySem.Spec PyProof.Rows L2 LamX
section
variable {g : Glob} {M0 : Nm} {P : Prg} {O : Ob} {DS : DSt}
theorem pool_fn {n : Nat} {c1 c2 : Int} (hM : M0.fix = [] ∧ M0.capL = [] ∧ M0.capS = [] ∧ M0.cod = []) (fx : Fx M0 P O g.K g.mg) (dkx : FxD M0 P g.K g.w g.mg) {S : DefS} {d : DefR} (hS : DS P.pool = some S) (hd : P.defs[P.pool]? = some (some d)) (hb : d.body = poolB c1 c2) (hp : d.par = 2) (hs : d.slots = 5) (hw : wide64 c2 = true) (hdp : (P.pool == P.draw) = false)
    (G : Gd g M0 P O DS n) (hB : BdS g M0 P O DS n) : FnG g.prog g.w g.K g.mg g.base (CX g.prog g.w) (2 * (n + 1) + 1) (O.fa P.pool) (O.fd P.pool) (O.ps P.pool) (spF g.K M0 (run P (n + 1)) P.pool) := by
  refine fn_gen hM fx dkx G hB hS hd fun vs H Q E ⟨ι, G1, ds, R, r, w⟩ => ?_
  unfold run at w
  rw [hdp] at w
  simp only [beq_self_eq_true, if_true, Bool.false_eq_true, if_false] at w
  unfold poolF at w
  split at w
  · rename_i xs t
    split at w
    · rename_i is hi
      obtain ⟨hc, w5⟩ := wp_if w
      clear w
      obtain ⟨h1, h2, h3⟩ := and3 hc
      have hx := ints_map hi
      subst hx
      obtain ⟨cs, A, B, e⟩ := pool_ev (P := P) (call := run P n) (G := G1) (is := is) (t := t) (c1 := c1) (c2 := c2) hw (of_decide_eq_true h1) (by simpa using h3)
      refine ⟨ι, G1, _, R, r, hp, ?_⟩
      unfold bodyF
      rw [hb, hs]
      show (outR (evSs ⟨P, run P n, [], none⟩ (poolB c1 c2) [some (.cl (is.map .int)), some (.int t), none, none, none] G1)).wp _ _
      rw [e]
      intro ι' H' v' x' R' r'
      rw [List.append_assoc] at R'
      obtain ⟨xb, Rb, _⟩ := R.back x' R'
      obtain ⟨τ, et, hτ⟩ := x'.pre
      obtain ⟨a, ha, ev⟩ := r'
      have la : ι.length ≤ G1.length + 1 := by rw [R.len]; omega
      have hat : a ∈ τ := by
        rw [et, List.getElem?_append_right la] at ha
        exact List.mem_of_getElem? ha
      have np : a ∉ ι := fun z => by
        have nd := R'.nd
        rw [et] at nd
        exact (List.nodup_append.mp nd).2.2 a z a hat rfl
      have hob := R'.obj (G1.length + 1) a (.lst [.int A, .int B, .int 0]) ha (by rw [List.getElem?_append_right (by omega)]; simp)
      obtain ⟨vs3, e1, e2⟩ := hob
      have hpool : H' a = some (.lst [.int A, .int B, .int 0]) := by
        match vs3, e2 with
        | [v1, v2, v3], e2 => rw [e1, show v1 = V.int A from e2.1, show v2 = V.int B from e2.2.1, show v3 = V.int 0 from e2.2.2.1]
        | [], e2 => exact e2.elim
        | [_], e2 => exact e2.2.elim
        | [_, _], e2 => exact e2.2.2.elim
        | _ :: _ :: _ :: _ :: _, e2 => exact e2.2.2.2.elim
      have Ra : Rep g.K M0 (ι ++ [a]) (G1 ++ [.pool]) H' := Rb.adopt np ⟨A, B, 0, hpool⟩ fun r => r.more _
      have xa : Ext ι (ι ++ [a]) H H' := ⟨⟨[a], rfl, fun b hb => by rw [List.mem_singleton.mp hb]; exact hτ a hat⟩, x'.frame, x'.mono⟩
      exact (show Kt g.K M0 ι H Q (.ref G1.length) (G1 ++ [.pool]) from w5) (ι ++ [a]) H' v' xa Ra ⟨a, by rw [← R.len]; simp, ev⟩
    · exact w.elim
  · exact w.elim
end
end Rf


set_option maxRecDepth 100000
set_option maxHeartbeats 1000000
namespace Rf
open PySem PySem.Spec PyProof.Rows L2
theorem kw_loop {α : Type} {f : Str × Value → List (Str × Value) × α → Sem (ForInStep (List (Str × Value) × α))} {Cc : Str → Prop} (hf : ∀ k v sl ex, Cc k → sl.lookup k = none → f (k, v) (sl, ex) = pure (.yield (sl ++ [(k, v)], ex))) :
    ∀ (kws sl : List (Str × Value)) (ex : α), (∀ p ∈ kws, Cc p.1) → (kws.map (·.1)).Nodup → (∀ p ∈ kws, sl.lookup p.1 = none) → forIn kws (sl, ex) f = pure (sl ++ kws, ex)
  | [], sl, ex, _, _, _ => by simp
  | (k, v) :: r, sl, ex, h1, h2, h3 => by
    rw [List.forIn_cons, hf k v sl ex (h1 (k, v) (List.mem_cons_self ..)) (h3 (k, v) (List.mem_cons_self ..)), pure_bind]
    simp only [List.map_cons, List.nodup_cons] at h2
    have := kw_loop hf r (sl ++ [(k, v)]) ex (fun p hp => h1 p (List.mem_cons_of_mem _ hp)) h2.2 (fun p hp => by
      rw [List.lookup_append, h3 p (List.mem_cons_of_mem _ hp)]
      have ne : (p.1 == k) = false := beq_eq_false_iff_ne.mpr fun e => h2.1 (by rw [← e]; exact List.mem_map_of_mem hp)
      simp [List.lookup, ne])
    show forIn r (sl ++ [(k, v)], ex) f = _
    rw [this]
    simp
theorem df_loop {f : Str × Value → List (Str × Value) → Sem (ForInStep (List (Str × Value)))} (hf : ∀ x sl, (sl.lookup x.1).isSome = true → f x sl = pure (.yield sl)) :
    ∀ (l : List (Str × Value)) (sl : List (Str × Value)), (∀ p ∈ l, (sl.lookup p.1).isSome = true) → forIn l sl f = pure sl
  | [], sl, _ => by simp
  | x :: r, sl, h => by
    rw [List.forIn_cons, hf x sl (h x (List.mem_cons_self ..)), pure_bind]
    exact df_loop hf r sl fun p hp => h p (List.mem_cons_of_mem _ hp)
theorem bind_gen {fd : FuncData} {ps : List Str} {us : List Value} {kws : List (Str × Value)} (hp : plainB fd.params ps = true) (hl : us.length ≤ ps.length) (h1 : ∀ p ∈ kws, ps.contains p.1 = true) (h2 : (kws.map (·.1)).Nodup) (h3 : ∀ p ∈ kws, (ps.zip us).lookup p.1 = none)
    (h4 : ∀ n ∈ ps, ((ps.zip us ++ kws).lookup n).isSome = true) : ∃ k : Option (Array Value) → Sem (List (Str × Value)), bindArgs fd ⟨us, kws⟩ = seqItems? fd.defaults >>= k ∧ ∀ o, k o = pure (ps.filterMap fun n => ((ps.zip us ++ kws).lookup n).map fun v => (n, v)) := by
  cases hpar : fd.params with
  | mk posonly args va ko kd ka df =>
  rw [hpar] at hp
  simp only [plainB, Bool.and_eq_true, decide_eq_true_eq, List.isEmpty_iff, Option.isNone_iff_eq_none] at hp
  obtain ⟨⟨⟨⟨a1, a2⟩, a3⟩, a4⟩, a5⟩ := hp
  subst a1 a3 a4 a5
  unfold bindArgs
  rw [hpar]
  simp only [List.map_nil, List.nil_append, a2, List.append_nil, List.contains_nil, Bool.or_false, Option.isSome_none, Bool.false_eq_true, if_false, List.forIn_nil, pure_bind, Option.isNone_none, Bool.and_true]
  rw [kw_loop (Cc := fun k => ps.contains k = true) (fun k v sl ex c1 c2 => by simp only [c1, if_true, c2, Option.isSome_none, Bool.false_eq_true, if_false]) kws (ps.zip us) [] h1 h2 h3]
  simp only [pure_bind]
  refine ⟨_, rfl, fun o => ?_⟩
  have c1 : decide (us.length > ps.length) = false := by simpa using hl
  have miss : ∀ m, (ps.take m).filter (fun n => ((ps.zip us ++ kws).lookup n).isNone) = [] := fun m => List.filter_eq_nil_iff.mpr fun n hn => by
    have := h4 n (List.mem_of_mem_take hn)
    cases h : (ps.zip us ++ kws).lookup n with
    | none => rw [h] at this; cases this
    | some v => simp
  simp only [c1, Bool.false_eq_true, if_false, miss, List.isEmpty_nil, Bool.not_true]
  rw [df_loop (fun x sl hx => by
    have : (sl.lookup x.1).isNone = false := by
      cases h : sl.lookup x.1 with
      | none => rw [h] at hx; cases hx
      | some _ => rfl
    simp only [this, Bool.false_eq_true, if_false]) _ _ (fun p hp => h4 p.1 (List.mem_of_mem_drop (List.of_mem_zip hp).1))]
  simp
end Rf


set_option Elab.async false
set_option linter.all false
set_option maxRecDepth 100000
set_option maxHeartbeats 2000000
/-! H1: the facts of the module, by Booleans over what is known of the heap. -/
namespace Rf
open PySem PySem.Spec PyProof.Rows L2

/-! ### written values -/
mutual
def relD (K : PySem.W.Frag) : D → Value → Bool
  | .non, .none => true
  | .bl b, .bool c => b == c
  | .int i, .int j _ => decide (i = j)
  | .str cs, .str s _ => s.cps.toList == cs
  | .tup ds, .ref a => (match K.lookup a with
    | some ⟨.type c, _, .seq its _, _⟩ => decide (c = "tuple") && (decide (its.size ≤ sizeLine) && relDs K ds its.toList)
    | _ => false)
  | _, _ => false
def relDs (K : PySem.W.Frag) : List D → List Value → Bool
  | [], [] => true
  | d :: ds, u :: us => relD K d u && relDs K ds us
  | _, _ => false
end
section
variable {K : PySem.W.Frag}
mutual
theorem relD_ok : ∀ {d : D} {u : Value}, relD K d u = true → ∃ v, RelV v u ∧ ∀ H ι, DR K H ι d v
  | .non, u, h => by
    cases u <;> first | (exact ⟨.non, rfl, fun _ _ => rfl⟩) | (simp [relD] at h)
  | .bl b, u, h => by
    cases u with
    | bool c =>
      have e : b = c := by simpa [relD] using h
      exact ⟨.bl c, rfl, fun _ _ => by rw [e]; rfl⟩
    | _ => simp [relD] at h
  | .int i, u, h => by
    cases u with
    | int j t =>
      have e : i = j := by simpa [relD] using h
      exact ⟨.int j, ⟨t, rfl⟩, fun _ _ => by rw [e]; rfl⟩
    | _ => simp [relD] at h
  | .str cs, u, h => by
    cases u with
    | str s t =>
      have e : s.cps.toList = cs := by simpa [relD] using h
      obtain ⟨a⟩ := s
      exact ⟨.str ⟨a⟩, ⟨t, rfl⟩, fun _ _ => by show V.str ⟨a⟩ = V.str ⟨cs.toArray⟩; rw [← e]⟩
    | _ => simp [relD] at h
  | .tup ds, u, h => by
    cases u with
    | ref a =>
      unfold relD at h
      split at h
      · rename_i c od its n osl lk
        obtain ⟨h1, h2⟩ := and2 h
        obtain ⟨h2, h3⟩ := and2 h2
        obtain ⟨vs, r, q⟩ := relDs_ok h3
        exact ⟨.ref a, rfl, fun H ι => ⟨a, vs, rfl, .inr ⟨_, its, n, lk, congrArg Value.type (of_decide_eq_true h1), rfl, of_decide_eq_true h2, r⟩, q H ι⟩⟩
      · cases h
    | _ => simp [relD] at h
  | .cl _, u, h => by cases u <;> simp [relD] at h
  | .ref _, u, h => by cases u <;> simp [relD] at h
theorem relDs_ok : ∀ {ds : List D} {us : List Value}, relDs K ds us = true → ∃ vs, Vals vs us ∧ ∀ H ι, DRs K H ι ds vs
  | [], [], _ => ⟨[], .nil, fun _ _ => trivial⟩
  | d :: ds, u :: us, h => by
    obtain ⟨h1, h2⟩ := and2 (show (relD K d u && relDs K ds us) = true from h)
    obtain ⟨v, r, q⟩ := relD_ok h1
    obtain ⟨vs, rs, qs⟩ := relDs_ok h2
    exact ⟨v :: vs, .cons r rs, fun H ι => ⟨q H ι, qs H ι⟩⟩
  | [], _ :: _, h => by simp [relDs] at h
  | _ :: _, [], h => by simp [relDs] at h
end
end
/-! ### all of so many -/
def allI (n : Nat) (p : Nat → Bool) : Bool := (List.range n).all p
theorem allI_at {n i : Nat} {p : Nat → Bool} (h : allI n p = true) (hi : i < n) : p i = true := List.all_eq_true.mp h i (List.mem_range.mpr hi)
theorem get_lt {α : Type} {l : List α} {i : Nat} {a : α} (h : l[i]? = some a) : i < l.length := (List.getElem?_eq_some_iff.mp h).1
def allL {α : Type} (l : List α) (p : Nat → α → Bool) : Bool := allI l.length fun i => match l[i]? with
  | some a => p i a
  | none => true
theorem allL_at {α : Type} {l : List α} {i : Nat} {a : α} {p : Nat → α → Bool} (h : allL l p = true) (ha : l[i]? = some a) : p i a = true := by
  have q := allI_at h (get_lt ha)
  rw [ha] at q
  exact q
theorem assoc_mem {α β : Type} [BEq α] [LawfulBEq α] {a : α} {b : β} : ∀ {l : List (α × β)}, l.lookup a = some b → (a, b) ∈ l
  | [], h => by cases h
  | (x, y) :: r, h => by
    rw [List.lookup_cons] at h
    split at h
    · rename_i q
      cases h
      rw [eq_of_beq q]
      exact List.mem_cons_self ..
    · exact List.mem_cons_of_mem _ (assoc_mem h)
/-! ### the objects of the defs -/
def fdAt (K : PySem.W.Frag) (a : Addr) : FuncData := match K.lookup a with
  | some ⟨_, _, .func fd, _⟩ => fd
  | _ => default
def obK (L : List He.DefD) (K : PySem.W.Frag) : Ob where
  fa f := match L[f]? with
    | some d => He.fAd K d.at_
    | none => 0
  fd f := match L[f]? with
    | some d => fdAt K (He.fAd K d.at_)
    | none => default
  ps f := match L[f]? with
    | some d => d.params.args.map (·.arg)
    | none => []
theorem funD_at {fa : List He.Fa} {L : List He.DefD} {K : PySem.W.Frag} (c : He.SaysD fa L K) {f : Nat} {d : He.DefD} (h : L[f]? = some d) : FunD K d.name d.qual d.params d.body d.scope (d.dvs K) (d.kws K) ((obK L K).fa f) ((obK L K).fd f) := by
  obtain ⟨fd, F⟩ := c.def_ f h
  have F2 := F
  obtain ⟨oc, od, dV, kV, doc, pm, an, cdv, ct, osl, e, lk, _⟩ := F2.ex
  have e1 : (obK L K).fa f = He.fAd K d.at_ := by unfold obK; simp only [h]
  have e2 : (obK L K).fd f = fd := by
    unfold obK
    simp only [h]
    unfold fdAt
    rw [lk]
  rw [e1, e2]
  exact F
/-! ### binding -/
theorem binds_gen {K : PySem.W.Frag} {x qual : Str} {params : Arguments} {body : List Stmt} {scope : Scope} {dvs : List V} {kws : List (Str × V)} {f : Addr} {fd : FuncData} {ps : List Str}
    (F : FunD K x qual params body scope dvs kws f fd) (hp : plainB params ps = true) (nd : ps.Nodup) : Binds K fd ps [] := by
  obtain ⟨oc, od, dV, kV, doc, pm, an, cdv, ct, osl, rfl, lk, hcd, hD, hK⟩ := F.ex
  intro s us X hl
  rw [List.append_nil] at hl ⊢
  have all : ∀ n ∈ ps, ((ps.zip us ++ []).lookup n).isSome = true := fun n hn => by
    rw [List.append_nil]
    have z := zip_lookup nd hl
    cases q : (ps.zip us).lookup n with
    | some v => rfl
    | none =>
      have hm : n ∈ (ps.zip us).map (·.1) := by rw [List.map_fst_zip (by omega)]; exact hn
      obtain ⟨p, hp, e⟩ := List.mem_map.mp hm
      have := List.lookup_eq_none_iff.mp q p hp
      rw [e] at this
      simp at this
  obtain ⟨k, e1, e2⟩ := bind_gen (fd := PySem.W.fnOf x qual params body scope dV kV doc pm an cdv ct) (us := us) (kws := []) hp (by omega) (fun _ h => by cases h) List.nodup_nil (fun _ h => by cases h) all
  have e3 : ∀ o, k o = pure (ps.zip us) := fun o => by rw [e2 o, List.append_nil, zip_lookup nd hl]
  rcases hD with ⟨_, rfl⟩ | ⟨_, T, o, its, n, rfl, lT, oT, rT⟩
  · refine .of_eq ?_
    rw [e1]
    show pure none >>= k = _
    rw [pure_bind, e3]
  · refine BindsTo.of_looks fun Mo => ?_
    rw [e1]
    exact looks_items X lT oT (.of_pure (e3 _))
theorem zip_at {α β : Type} [BEq α] [LawfulBEq α] {b : β} : ∀ {l : List α} {m : List β} {i : Nat} {a : α}, l.Nodup → l.length = m.length → l[i]? = some a → m[i]? = some b → (l.zip m).lookup a = some b
  | [], _, i, a, _, _, h, _ => by cases h
  | x :: l, [], i, a, _, h, _, _ => by cases h
  | x :: l, y :: m, 0, a, nd, hl, h1, h2 => by
    cases h1
    cases h2
    simp [List.lookup]
  | x :: l, y :: m, i + 1, a, nd, hl, h1, h2 => by
    have nd' := List.nodup_cons.mp nd
    have h1 : l[i]? = some a := by simpa using h1
    have ne : (a == x) = false := beq_eq_false_iff_ne.mpr fun e => nd'.1 (by rw [← e]; exact List.mem_of_getElem? h1)
    rw [List.zip_cons_cons, List.lookup_cons, ne]
    exact zip_at nd'.2 (by simpa using hl) h1 (by simpa using h2)
theorem zip_none {α β : Type} [BEq α] [LawfulBEq α] {l : List α} {m : List β} {a : α} (h : a ∉ l) : (l.zip m).lookup a = none := by
  refine List.lookup_eq_none_iff.mpr fun p hp => ?_
  have := (List.of_mem_zip (show (p.1, p.2) ∈ l.zip m from hp)).1
  have ne : a ≠ p.1 := fun e => h (by rw [e]; exact this)
  simpa using ne
def kwRB (ps : List Str) (r : KwR) (ks : List Str) : Bool := decide ks.Nodup && (decide (ps.drop r.ahead = r.perm.filterMap (ks[·]?)) && (r.perm.all (fun i => decide (i < ks.length)) && (decide (r.ahead ≤ ps.length) && (ks.all fun k => (ps.drop r.ahead).contains k))))
theorem pick_at {α : Type} {l : List α} : ∀ {perm : List Nat}, (∀ i ∈ perm, i < l.length) → ∀ j : Nat, (pick perm l)[j]? = (perm[j]?).bind fun i : Nat => l[i]?
  | [], _, j => by simp [pick]
  | i :: r, h, j => by
    have hi := h i (List.mem_cons_self ..)
    have ih := pick_at (l := l) (perm := r) fun k hk => h k (List.mem_cons_of_mem _ hk)
    unfold pick at ih ⊢
    rw [List.filterMap_cons, List.getElem?_eq_getElem hi]
    cases j with
    | zero => simp [List.getElem?_eq_getElem hi]
    | succ j => simpa using ih j
theorem pick_len {α : Type} {l : List α} : ∀ {perm : List Nat}, (∀ i ∈ perm, i < l.length) → (pick perm l).length = perm.length
  | [], _ => rfl
  | i :: r, h => by
    have hi := h i (List.mem_cons_self ..)
    have ih := pick_len (l := l) (perm := r) fun k hk => h k (List.mem_cons_of_mem _ hk)
    unfold pick at ih ⊢
    rw [List.filterMap_cons, List.getElem?_eq_getElem hi]
    simp [ih]
theorem vals_pick : ∀ {perm : List Nat} {vs : List V} {us : List Value}, Vals vs us → Vals (pick perm vs) (pick perm us)
  | [], _, _, _ => .nil
  | i :: r, vs, us, h => by
    have ih := vals_pick (perm := r) h
    have hl := h.length
    unfold pick at ih ⊢
    rw [List.filterMap_cons, List.filterMap_cons]
    by_cases hi : i < vs.length
    · have hv : RelV vs[i] us[i] := by
        clear ih
        induction h generalizing i with
        | nil => exact absurd hi (by simp)
        | cons r1 r2 ih =>
          cases i with
          | zero => exact r1
          | succ i => exact ih i (by simpa using hl) (by simpa using hi)
      rw [List.getElem?_eq_getElem hi, List.getElem?_eq_getElem (by omega : i < us.length)]
      exact .cons hv ih
    · rw [List.getElem?_eq_none (by omega), List.getElem?_eq_none (by omega)]
      exact ih
theorem kbn_gen {K : PySem.W.Frag} {x qual : Str} {params : Arguments} {body : List Stmt} {scope : Scope} {dvs : List V} {kws : List (Str × V)} {f : Addr} {fd : FuncData} {ps ks : List Str} {r : KwR}
    (F : FunD K x qual params body scope dvs kws f fd) (hp : plainB params ps = true) (nd : ps.Nodup) (hk : kwRB ps r ks = true) : KBn K fd ps r.ahead ks (fun us ws => us ++ pick r.perm ws) (fun us ws => us ++ pick r.perm ws) := by
  unfold kwRB at hk
  obtain ⟨k1, hk⟩ := and2 hk
  obtain ⟨k2, hk⟩ := and2 hk
  obtain ⟨k3, hk⟩ := and2 hk
  obtain ⟨k4, k5⟩ := and2 hk
  have ndk : ks.Nodup := of_decide_eq_true k1
  have hdrop : ps.drop r.ahead = pick r.perm ks := of_decide_eq_true k2
  have hlt : ∀ i ∈ r.perm, i < ks.length := fun i hi => by simpa using List.all_eq_true.mp k3 i hi
  have hah : r.ahead ≤ ps.length := of_decide_eq_true k4
  obtain ⟨oc, od, dV, kV, doc, pm, an, cdv, ct, osl, rfl, lk, hcd, hD, hK⟩ := F.ex
  refine ⟨fun s us ws X hu hw => ?_, fun h1 h2 => h1.append (vals_pick h2)⟩
  have hps : ps = ps.take r.ahead ++ pick r.perm ks := by rw [← hdrop, List.take_append_drop]
  have l1 : (ps.take r.ahead).length = us.length := by rw [List.length_take, hu]; omega
  have hlw : ∀ i ∈ r.perm, i < ws.length := fun i hi => by rw [hw]; exact hlt i hi
  have l2 : (pick r.perm ks).length = (pick r.perm ws).length := by rw [pick_len hlt, pick_len hlw]
  have hl : (us ++ pick r.perm ws).length = ps.length := by
    have e := congrArg List.length hps
    rw [List.length_append, l1, l2] at e
    rw [List.length_append, e]
  have z1 : ps.zip us = (ps.take r.ahead).zip us := by
    have : (ps.take r.ahead ++ pick r.perm ks).zip (us ++ []) = (ps.take r.ahead).zip us ++ (pick r.perm ks).zip [] := List.zip_append l1
    rw [List.append_nil, List.zip_nil_right, List.append_nil, ← hps] at this
    exact this
  have z2 : ps.zip (us ++ pick r.perm ws) = (ps.take r.ahead).zip us ++ (pick r.perm ks).zip (pick r.perm ws) := by
    rw (occs := .pos [1]) [hps]
    exact List.zip_append l1
  have nd2 : (ps.take r.ahead ++ pick r.perm ks).Nodup := by rw [← hps]; exact nd
  have ndp := (List.nodup_append.mp nd2).2.1
  have dis : ∀ n ∈ pick r.perm ks, n ∉ ps.take r.ahead := fun n hn hz => (List.nodup_append.mp nd2).2.2 n hz n hn rfl
  have look : ∀ n ∈ ps, (ps.zip us ++ ks.zip ws).lookup n = (ps.zip (us ++ pick r.perm ws)).lookup n := fun n hn => by
    rw [z1, z2, List.lookup_append, List.lookup_append]
    rw [hps] at hn
    rcases List.mem_append.mp hn with hn | hn
    · obtain ⟨i, hi, e⟩ := List.getElem_of_mem hn
      have hi2 : i < us.length := by rw [← l1]; exact hi
      rw [zip_at (b := us[i]) (List.nodup_append.mp nd2).1 l1 (List.getElem?_eq_some_iff.mpr ⟨hi, e⟩) (List.getElem?_eq_getElem hi2)]
      rfl
    · rw [zip_none (dis n hn)]
      obtain ⟨j, hj, e⟩ := List.getElem_of_mem hn
      have hj2 : (pick r.perm ks)[j]? = some n := List.getElem?_eq_some_iff.mpr ⟨hj, e⟩
      have hj3 := hj2
      rw [pick_at hlt] at hj3
      obtain ⟨i, hi, e2⟩ := Option.bind_eq_some_iff.mp hj3
      have hiw := hlw i (List.mem_of_getElem? hi)
      have e3 : (pick r.perm ws)[j]? = some ws[i] := by
        rw [pick_at hlw, hi]
        exact List.getElem?_eq_getElem hiw
      rw [zip_at ndk hw.symm e2 (List.getElem?_eq_getElem hiw), zip_at ndp l2 hj2 e3]
  have hz := zip_lookup nd hl
  have some_ : ∀ n ∈ ps, ((ps.zip (us ++ pick r.perm ws)).lookup n).isSome = true := fun n hn => by
    obtain ⟨i, hi, e⟩ := List.getElem_of_mem hn
    rw [zip_at (b := (us ++ pick r.perm ws)[i]'(by rw [hl]; exact hi)) nd hl.symm (List.getElem?_eq_some_iff.mpr ⟨hi, e⟩) (List.getElem?_eq_getElem _)]
    rfl
  obtain ⟨k, e1, e2⟩ := bind_gen (fd := PySem.W.fnOf x qual params body scope dV kV doc pm an cdv ct) (us := us) (kws := ks.zip ws) hp (by omega)
    (fun p hp => by
      have := (List.of_mem_zip (show (p.1, p.2) ∈ ks.zip ws from hp)).1
      have q := List.all_eq_true.mp k5 p.1 this
      have q2 : p.1 ∈ ps.drop r.ahead := by simpa using q
      simpa using List.mem_of_mem_drop q2)
    (by rw [List.map_fst_zip (by omega)]; exact ndk)
    (fun p hp => by
      have := (List.of_mem_zip (show (p.1, p.2) ∈ ks.zip ws from hp)).1
      have q := List.all_eq_true.mp k5 p.1 this
      have q2 : p.1 ∈ pick r.perm ks := by rw [← hdrop]; simpa using q
      rw [z1]
      exact zip_none (dis _ q2))
    (fun n hn => by rw [look n hn]; exact some_ n hn)
  have e3 : ∀ o, k o = pure (ps.zip (us ++ pick r.perm ws)) := fun o => by
    rw [e2 o]
    congr 1
    refine Eq.trans ?_ hz
    have go : ∀ l : List Str, (∀ n ∈ l, (ps.zip us ++ ks.zip ws).lookup n = (ps.zip (us ++ pick r.perm ws)).lookup n) →
        (l.filterMap fun n => ((ps.zip us ++ ks.zip ws).lookup n).map fun v => (n, v)) = l.filterMap fun n => ((ps.zip (us ++ pick r.perm ws)).lookup n).map fun v => (n, v) := by
      intro l
      induction l with
      | nil => intro _; rfl
      | cons a l ih =>
        intro h
        rw [List.filterMap_cons, List.filterMap_cons, h a (List.mem_cons_self ..), ih fun n hn => h n (List.mem_cons_of_mem _ hn)]
    exact go ps look
  rcases hD with ⟨_, rfl⟩ | ⟨_, T, o, its, n, rfl, lT, oT, rT⟩
  · refine .of_eq ?_
    rw [e1]
    show pure none >>= k = _
    rw [pure_bind, e3]
  · refine BindsTo.of_looks fun Mo => ?_
    rw [e1]
    exact looks_items X lT oT (.of_pure (e3 _))
end Rf


set_option Elab.async false
set_option linter.all false
set_option maxRecDepth 100000
set_option maxHeartbeats 2000000
/-! H2: the facts of the module (Fx, FxD, the inits of exceptions), from one Boolean. -/
namespace Rf
open PySem PySem.Spec PyProof.Rows L2

def globsB (M : Nm) (P : Prg) (K : PySem.W.Frag) : Bool := allL P.globs fun g d => match PySem.W.nsIn K mainGlobals (M.g g) with
  | some (some u) => relD K d u
  | _ => false
def clsB (M : Nm) (P : Prg) (K : PySem.W.Frag) : Bool := allL P.cls fun c r => (He.Fa.glo (M.c c)).ok K && (r.exc.isSome || (He.Fa.cls (M.c c)).ok K)
def noatB (M : Nm) (P : Prg) (K : PySem.W.Frag) : Bool := allL P.cls fun c r => r.fld.all fun f => r.exc.isNone && (decide (f < M.att.length) && (He.Fa.noat (M.c c) (M.a f)).ok K)
def methB (M : Nm) (P : Prg) (O : Ob) (K : PySem.W.Frag) : Bool := allL P.cls fun c r => r.ms.all fun p =>
  r.exc.isNone && (decide (p.2 < M.fn.length) && (decide (p.1 < M.att.length) && ((He.Fa.meth (M.c c) (M.a p.1)).ok K && decide (He.ma K (He.ga K (M.c c)) (M.a p.1) = O.fa p.2))))
def mkrB (M : Nm) (P : Prg) (O : Ob) (K : PySem.W.Frag) : Bool := allL P.cls fun c r => match r.init with
  | some f => r.exc.isNone && (decide (f < M.fn.length) && ((He.Fa.mkr (M.c c)).ok K && decide (He.ma K (He.ga K (M.c c)) "__init__" = O.fa f)))
  | none => true
def clsIx (P : Prg) : List Nat := (List.range P.cls.length).filter P.ord
def rts (P : Prg) : List Rt := [.ty 0, .ty 1, .ty 2, .ty 3, .ty 4, .ty 5, .ty 6] ++ (clsIx P).map .cls
def tys (P : Prg) : List Ty := [.int, .bool, .str, .tuple, .list] ++ (clsIx P).map .cls
def ownB (K : PySem.W.Frag) (C : Addr) : Bool := decide (PySem.W.findIn K (.ref C) "__class__" = some (some (.builtin "object.__class__"))) && (decide (PySem.W.specialIn K (.builtin "object.__class__") "__get__" = some (some (.builtin "getset_descriptor.__get__"))) &&
  (decide (PySem.W.takesIn K (.builtin "object.__class__") = some true) && decide (PySem.W.mroIn K C (.type "object") = some true)))
def isiB (M : Nm) (P : Prg) (K : PySem.W.Frag) : Bool := ((rts P).all fun r => (tys P).all fun t => decide (PySem.W.kitOne K (rtV M K r) (tyV M K t) = some (rtIs r t))) && ((clsIx P).all fun c => ownB K (He.ga K (M.c c)))
def oexB (K : PySem.W.Frag) (C : Addr) : Bool := (match K.lookup C with
  | some ⟨.type "type", _, .cls cd, sl⟩ => (match cd.mro, sl.toList with
    | .ref C' :: bm, [_, _, _, _, some (.builtin n), _] => C' == C && (n == "ValueError.__new__" && (!cd.hasDel && (cd.hasDict && PySem.HandSPX.refsVE bm)))
    | _, _ => false)
  | _ => false) && (decide (PySem.W.findIn K (.ref C) "__setattr__" = some (some (.builtin "object.__setattr__"))) && (decide (PySem.W.subIn K (.ref C) (.type "BaseException") = some true) &&
    (decide (PySem.W.typeIn K (.ref C) = some (.type "type")) && PySem.W.keepIn K (.ref C))))
def excAnyB (M : Nm) (P : Prg) (K : PySem.W.Frag) : Bool := allL P.cls fun c r => r.exc.isNone || (decide (PySem.W.subIn K (.ref (He.ga K (M.c c))) (.type "BaseException") = some true) && (decide (PySem.W.typeIn K (.ref (He.ga K (M.c c))) = some (.type "type")) && PySem.W.keepIn K (.ref (He.ga K (M.c c)))))
def excNulB (M : Nm) (P : Prg) (K : PySem.W.Frag) : Bool := allL P.cls fun c r => match r.exc with
  | some [] => PySem.W.excIn K (He.ga K (M.c c)) [.type "ValueError", .type "Exception", .type "BaseException", .type "object"] "ValueError.__new__"
  | _ => true
def excOneB (M : Nm) (P : Prg) (O : Ob) (K : PySem.W.Frag) : Bool := allL P.cls fun c r => match r.exc with
  | some [f] => decide (f < M.att.length) && (oexB K (He.ga K (M.c c)) && (decide (PySem.W.findIn K (.ref (He.ga K (M.c c))) (M.a f) = some none) && (match r.xinit with
    | some fi => decide (fi < M.fn.length) && (decide (PySem.W.findIn K (.ref (He.ga K (M.c c))) "__init__" = some (some (.ref (O.fa fi)))) && decide (PySem.W.typeIn K (.ref (O.fa fi)) = some (.type "function")))
    | none => false)))
  | _ => true
def excFldB (M : Nm) (P : Prg) (K : PySem.W.Frag) : Bool := allL P.cls fun c r => match r.exc with
  | some fs => xfB K (He.ga K (M.c c)) && ((PySem.W.clsIn K (He.ga K (M.c c))).isSome && (ownB K (He.ga K (M.c c)) && (fs.all fun f => decide (f < M.att.length) && decide (PySem.W.findIn K (.ref (He.ga K (M.c c))) (M.a f) = some none))))
  | none => true
def excKitB (M : Nm) (P : Prg) (K : PySem.W.Frag) : Bool := allL P.cls fun c r => r.exc.isNone || allL P.cls fun d r' => r'.exc.isNone ||
  (decide (PySem.W.kitOne K (.ref (He.ga K (M.c c))) (.ref (He.ga K (M.c d))) = some (r.up.contains d)) && decide (PySem.W.exmOne K (.ref (He.ga K (M.c c))) (.ref (He.ga K (M.c d))) = some (r.up.contains d)))
def kwsB (M : Nm) (P : Prg) (O : Ob) : Bool := allL P.kws fun e r => match M.kw[e]? with
  | some ks => decide (r.f < M.fn.length) && (decide (ks.length = r.n) && kwRB (O.ps r.f) r ks)
  | none => true
def fnsB (M : Nm) (O : Ob) (K : PySem.W.Frag) : Bool := allI M.fn.length fun f => PySem.W.keepIn K (.ref (O.fa f)) && (decide (M.f f = Str.empty) || He.eqO (PySem.W.nsIn K mainGlobals (M.f f)) (some (some (.ref (O.fa f)))))
/-- the defs' parameters are plain -/
def plnB (L : List He.DefD) : Bool := L.all fun d => plainB d.params (d.params.args.map (·.arg)) && decide ((d.params.args.map (·.arg)).Nodup)
def entB (K : PySem.W.Frag) : List (List Nat × D) → List DictEntry → Bool
  | [], [] => true
  | (k, d) :: r, e :: es => (match e.key with
    | .str s _ => s.cps.toList == k
    | _ => false) && (relD K d e.val && entB K r es)
  | _, _ => false
def dksB (M : Nm) (P : Prg) (K : PySem.W.Frag) : Bool := allL P.dks fun g kvs => (He.Fa.glo (M.d g)).ok K && (match K.lookup (He.ga K (M.d g)) with
  | some ⟨_, _, .dict es _, _⟩ => entB K kvs es.toList
  | _ => false)
/-- all of it -/
def factsB (M : Nm) (P : Prg) (O : Ob) (K : PySem.W.Frag) : Bool := globsB M P K && (bltNames.all (fun x => (He.Fa.free x).ok K) && (clsB M P K && (noatB M P K && (methB M P O K && (mkrB M P O K && (isiB M P K &&
  (excAnyB M P K && (excNulB M P K && (excOneB M P O K && (excFldB M P K && (excKitB M P K && (kwsB M P O && (fnsB M O K && dksB M P K)))))))))))))
section
variable {M : Nm} {P : Prg} {O : Ob} {K : PySem.W.Frag} {h : Heap} {mg : Str → Option Value}
theorem oexB_ok {C : Addr} (h : oexB K C = true) : OexC K C := by
  unfold oexB at h
  obtain ⟨h1, h⟩ := and2 h
  obtain ⟨h2, h⟩ := and2 h
  obtain ⟨h3, h⟩ := and2 h
  obtain ⟨h4, h5⟩ := and2 h
  refine ⟨?_, of_decide_eq_true h2, of_decide_eq_true h3, of_decide_eq_true h4, h5⟩
  split at h1
  · rename_i dd cd sl ho
    split at h1
    · rename_i C' bm k0 k1 k2 k3 n k5 hm hs
      simp only [Bool.and_eq_true, beq_iff_eq, Bool.not_eq_true'] at h1
      obtain ⟨rfl, rfl, hdel, hdc, hbm⟩ := h1
      obtain ⟨nm, bs, mro, ns, qn, hd, sn, sub, ab, col, del⟩ := cd
      dsimp only at hm hdel hdc
      subst hm hdel hdc
      have hsl : sl = #[k0, k1, k2, k3, some (.builtin "ValueError.__new__"), k5] := by
        obtain ⟨l⟩ := sl
        simp only at hs
        rw [hs]
      subst hsl
      exact ⟨nm, qn, ns, bs, bm, sn, sub, ab, col, dd, k0, k1, k2, k3, k5, ho, hbm⟩
    · cases h1
  · cases h1
theorem own_ok {C : Addr} (h : ownB K C = true) : PySem.W.findIn K (.ref C) "__class__" = some (some (.builtin "object.__class__")) ∧ PySem.W.specialIn K (.builtin "object.__class__") "__get__" = some (some (.builtin "getset_descriptor.__get__")) ∧
    PySem.W.takesIn K (.builtin "object.__class__") = some true ∧ PySem.W.mroIn K C (.type "object") = some true := by
  obtain ⟨h1, h⟩ := and2 h
  obtain ⟨h2, h⟩ := and2 h
  obtain ⟨h3, h4⟩ := and2 h
  exact ⟨of_decide_eq_true h1, of_decide_eq_true h2, of_decide_eq_true h3, of_decide_eq_true h4⟩
theorem ord_mem {c : Nat} (h : P.ord c = true) : c ∈ clsIx P := by
  unfold clsIx
  refine List.mem_filter.mpr ⟨List.mem_range.mpr ?_, h⟩
  unfold Prg.ord at h
  split at h
  · rename_i r e
    exact get_lt e
  · cases h
theorem rts_mem {r : Rt} (h : rtOk P r = true) : r ∈ rts P := by
  unfold rts
  cases r with
  | cls c => exact List.mem_append_right _ (List.mem_map_of_mem (ord_mem h))
  | ty n =>
    have : n < 7 := by simpa [rtOk] using h
    refine List.mem_append_left _ ?_
    match n, this with
    | 0, _ | 1, _ | 2, _ | 3, _ | 4, _ | 5, _ | 6, _ => simp
    | n + 7, h => omega
theorem tys_mem {t : Ty} (h : tyOk P t = true) : t ∈ tys P := by
  unfold tys
  cases t with
  | cls c => exact List.mem_append_right _ (List.mem_map_of_mem (ord_mem h))
  | _ => exact List.mem_append_left _ (by simp)
theorem ent_find {kvs : List (List Nat × D)} : ∀ {es : List DictEntry}, entB K kvs es = true → ∀ z : List Nat, match kvs.lookup z with
    | some d => ∃ e, es.find? (·.key.isStr ⟨z.toArray⟩) = some e ∧ relD K d e.val = true
    | none => es.find? (·.key.isStr ⟨z.toArray⟩) = none := by
  induction kvs with
  | nil =>
    intro es h z
    cases es with
    | nil => rfl
    | cons _ _ => cases h
  | cons p r ih =>
    obtain ⟨k, d⟩ := p
    intro es h z
    cases es with
    | nil => cases h
    | cons e es =>
      obtain ⟨h1, h⟩ := and2 (show ((match e.key with
        | .str s _ => s.cps.toList == k
        | _ => false) && (relD K d e.val && entB K r es)) = true from h)
      obtain ⟨h2, h3⟩ := and2 h
      have iz := ih h3 z
      split at h1
      · rename_i s t ek
        obtain ⟨a⟩ := s
        have ea : a.toList = k := by simpa using h1
        rw [List.lookup_cons]
        have isS : e.key.isStr ⟨z.toArray⟩ = (z == k) := by
          rw [ek]
          show ((⟨a⟩ : Str) == ⟨z.toArray⟩) = _
          by_cases q : z = k
          · subst q
            rw [← ea]
            simp
          · have n1 : (z == k) = false := beq_eq_false_iff_ne.mpr q
            rw [n1]
            refine beq_eq_false_iff_ne.mpr fun e => q ?_
            injection e with e
            rw [← ea, e]
        by_cases q : (z == k) = true
        · rw [q]
          exact ⟨e, by rw [List.find?_cons, isS, q], h2⟩
        · have q' : (z == k) = false := by simpa using q
          rw [q', List.find?_cons, isS, q']
          exact iz
      · cases h1
theorem ent_ref {kvs : List (List Nat × D)} : ∀ {es : List DictEntry}, entB K kvs es = true → es.any (·.refKey) = false := by
  induction kvs with
  | nil =>
    intro es h
    cases es with
    | nil => rfl
    | cons _ _ => cases h
  | cons p r ih =>
    obtain ⟨k, d⟩ := p
    intro es h
    cases es with
    | nil => cases h
    | cons e es =>
      obtain ⟨h1, h⟩ := and2 (show ((match e.key with
        | .str s _ => s.cps.toList == k
        | _ => false) && (relD K d e.val && entB K r es)) = true from h)
      obtain ⟨h2, h3⟩ := and2 h
      rw [List.any_cons, ih h3, Bool.or_false]
      split at h1
      · rename_i s t ek
        unfold DictEntry.refKey
        rw [ek]
      · cases h1
theorem fx_of {fa : List He.Fa} {L : List He.DefD} (X : K.In h) (G : h.Ns mainGlobals mg) (c : He.SaysD fa L K) (hl : M.fn.length = L.length) (ha : M.att.Nodup) (hp : plnB L = true) (hb : factsB M P (obK L K) K = true) : Fx M P (obK L K) K mg := by
  unfold factsB at hb
  obtain ⟨b1, hb⟩ := and2 hb
  obtain ⟨b2, hb⟩ := and2 hb
  obtain ⟨b3, hb⟩ := and2 hb
  obtain ⟨b4, hb⟩ := and2 hb
  obtain ⟨b5, hb⟩ := and2 hb
  obtain ⟨b6, hb⟩ := and2 hb
  obtain ⟨b7, hb⟩ := and2 hb
  obtain ⟨b8, hb⟩ := and2 hb
  obtain ⟨b9, hb⟩ := and2 hb
  obtain ⟨b10, hb⟩ := and2 hb
  obtain ⟨b11, hb⟩ := and2 hb
  obtain ⟨b12, hb⟩ := and2 hb
  obtain ⟨b13, hb⟩ := and2 hb
  obtain ⟨b14, b15⟩ := and2 hb
  have pl : ∀ {f : Nat} {d : He.DefD}, L[f]? = some d → plainB d.params ((obK L K).ps f) = true ∧ ((obK L K).ps f).Nodup := fun {f d} hd => by
    obtain ⟨p1, p2⟩ := and2 (List.all_eq_true.mp hp d (List.mem_of_getElem? hd))
    have e : (obK L K).ps f = d.params.args.map (·.arg) := by unfold obK; simp only [hd]
    rw [e]
    exact ⟨p1, of_decide_eq_true p2⟩
  have dd : ∀ {f : Nat}, f < M.fn.length → ∃ d, L[f]? = some d := fun {f} hf => ⟨_, List.getElem?_eq_getElem (by rw [← hl]; exact hf)⟩
  obtain ⟨i1, i2⟩ := and2 b7
  refine { attN := ha, glob := ?_, blt := ?_, cls := ?_, noat := ?_, meth := ?_, mkr := ?_, isi := ⟨?_, ?_⟩, xx := ⟨?_, ?_, ?_, ?_, ?_, ?_⟩, kw := ?_, fn := ?_ }
  · intro g d hd
    have q := allL_at b1 hd
    split at q
    · rename_i u e
      obtain ⟨v, r, s⟩ := relD_ok q
      exact ⟨u, v, PySem.W.mg_of X G e, r, s⟩
    · cases q
  · intro x hx
    exact He.free_ok X G (List.all_eq_true.mp b2 x hx)
  · intro c r hc
    obtain ⟨q1, q2⟩ := and2 (allL_at b3 hc)
    refine ⟨He.glo_ok X G q1, fun he => He.cls_ok ?_⟩
    rw [he] at q2
    exact q2
  · intro c r f hc hf
    obtain ⟨q1, q⟩ := and2 (List.all_eq_true.mp (allL_at b4 hc) f hf)
    obtain ⟨q2, q3⟩ := and2 q
    exact ⟨Option.isNone_iff_eq_none.mp q1, of_decide_eq_true q2, He.noat_ok q3⟩
  · intro c r m f hc hm
    obtain ⟨q1, q⟩ := and2 (List.all_eq_true.mp (allL_at b5 hc) (m, f) (assoc_mem hm))
    obtain ⟨q2, q⟩ := and2 q
    obtain ⟨q3, q⟩ := and2 q
    obtain ⟨q4, q5⟩ := and2 q
    have e := of_decide_eq_true q5
    refine ⟨Option.isNone_iff_eq_none.mp q1, of_decide_eq_true q2, of_decide_eq_true q3, ?_⟩
    rw [← e]
    exact He.meth_ok q4
  · intro c r f hc hi
    have q := allL_at b6 hc
    rw [hi] at q
    obtain ⟨q1, q⟩ := and2 q
    obtain ⟨q2, q⟩ := and2 q
    obtain ⟨q3, q4⟩ := and2 q
    refine ⟨Option.isNone_iff_eq_none.mp q1, of_decide_eq_true q2, ?_⟩
    rw [← of_decide_eq_true q4]
    exact He.mkr_ok q3
  · intro r t hr ht
    exact of_decide_eq_true (List.all_eq_true.mp (List.all_eq_true.mp i1 r (rts_mem hr)) t (tys_mem ht))
  · intro c hc
    exact own_ok (List.all_eq_true.mp i2 c (ord_mem hc))
  · intro c r fs hc he
    have q := allL_at b8 hc
    rw [he] at q
    obtain ⟨q1, q⟩ := and2 q
    obtain ⟨q2, q3⟩ := and2 q
    exact ⟨of_decide_eq_true q1, of_decide_eq_true q2, q3⟩
  · intro c r hc he
    have q := allL_at b9 hc
    rw [he] at q
    exact q
  · intro c r f hc he
    have q := allL_at b10 hc
    rw [he] at q
    obtain ⟨q1, q⟩ := and2 q
    obtain ⟨q2, q⟩ := and2 q
    obtain ⟨q3, q⟩ := and2 q
    split at q
    · rename_i fi ei
      obtain ⟨q4, q⟩ := and2 q
      obtain ⟨q5, q6⟩ := and2 q
      exact ⟨of_decide_eq_true q1, oexB_ok q2, of_decide_eq_true q3, fi, ei, of_decide_eq_true q4, of_decide_eq_true q5, of_decide_eq_true q6⟩
    · cases q
  · intro c r fs hc he
    have q := allL_at b11 hc
    rw [he] at q
    obtain ⟨q1, q⟩ := and2 q
    obtain ⟨q2, q⟩ := and2 q
    obtain ⟨q3, q4⟩ := and2 q
    obtain ⟨o1, o2, o3, o4⟩ := own_ok q3
    exact ⟨xfB_ok q1, q2, o1, o2, o3, o4, fun f hf => by
      obtain ⟨z1, z2⟩ := and2 (List.all_eq_true.mp q4 f hf)
      exact ⟨of_decide_eq_true z1, of_decide_eq_true z2⟩⟩
  · intro c d r fs hc he ⟨r', fs', hd, he'⟩
    have q := allL_at b12 hc
    rw [he] at q
    have q := allL_at q hd
    rw [he'] at q
    exact of_decide_eq_true (and2 q).1
  · intro c d r fs hc he ⟨r', fs', hd, he'⟩
    have q := allL_at b12 hc
    rw [he] at q
    have q := allL_at q hd
    rw [he'] at q
    exact of_decide_eq_true (and2 q).2
  · intro e r ks hr hk
    have q := allL_at b13 hr
    rw [hk] at q
    obtain ⟨q1, q⟩ := and2 q
    obtain ⟨q2, q3⟩ := and2 q
    have hf := of_decide_eq_true q1
    obtain ⟨d, hd⟩ := dd hf
    obtain ⟨p1, p2⟩ := pl hd
    exact ⟨hf, of_decide_eq_true q2, kbn_gen (funD_at c hd) p1 p2 q3⟩
  · intro f hf
    obtain ⟨d, hd⟩ := dd hf
    obtain ⟨p1, p2⟩ := pl hd
    obtain ⟨q1, q2⟩ := and2 (allI_at b14 hf)
    refine ⟨binds_gen (funD_at c hd) p1 p2, q1, fun ne => ?_⟩
    have q3 : He.eqO (PySem.W.nsIn K mainGlobals (M.f f)) (some (some (.ref ((obK L K).fa f)))) = true := by
      rcases Bool.or_eq_true_iff.mp q2 with z | z
      · exact absurd (of_decide_eq_true z) ne
      · exact z
    exact PySem.W.mg_of X G (He.eqO_ok q3)
theorem fxd_of {fa : List He.Fa} {L : List He.DefD} {ts : List He.Tab} {w : World} (X : K.In h) (G : h.Ns mainGlobals mg) (c : He.SaysT fa L ts w K) (ht : ∀ g kvs, P.dks[g]? = some kvs → ∃ t, ts[g]? = some t ∧ t.1 = fun K => He.ga K (M.d g)) (hb : dksB M P K = true) : FxD M P K w mg := by
  intro g kvs hg
  obtain ⟨t, h1, h2⟩ := ht g kvs hg
  obtain ⟨es, n, D⟩ := c.tab g h1
  rw [h2] at D
  obtain ⟨q1, q2⟩ := and2 (allL_at hb hg)
  have lk : K.lookup (He.ga K (M.d g)) = some ⟨.type "dict", none, .dict es n, #[]⟩ := D.at_
  rw [lk] at q2
  refine ⟨_, es, n, He.glo_ok X G q1, D, fun z => ?_⟩
  have f := ent_find (show entB K kvs es.toList = true from q2) z
  split
  · rename_i e he
    rw [he] at f
    obtain ⟨en, f1, f2⟩ := f
    obtain ⟨v, r, s⟩ := relD_ok f2
    refine ⟨en.val, v, ?_, r, s⟩
    unfold PySem.W.nsIn
    rw [lk]
    simp only [f1]
  · rename_i he
    rw [he] at f
    unfold PySem.W.nsIn
    rw [lk]
    simp only [f, ent_ref (show entB K kvs es.toList = true from q2)]
    rfl
end
end Rf


set_option Elab.async false
set_option linter.all false
set_option maxRecDepth 100000
set_option maxHeartbeats 2000000
/-! H3: the defs' texts, the checks, the law's end. -/
namespace Rf
open PySem PySem.Spec PyProof.Rows L2 LamX
abbrev XRow : Type := Option (List Str × List Nat × Bool)
def mkS (d : He.DefD) (N : List Str) (fix : List Nat) (mk : Bool) : DefS := ⟨d.name, d.qual, d.params, d.body, d.scope, N, d.params.args.map (·.arg), fix, mk⟩
def dsOf (L : List He.DefD) (Xs : List XRow) : DSt := fun f => match L[f]?, Xs[f]? with
  | some d, some (some (N, fix, mk)) => some (mkS d N fix mk)
  | _, _ => none
/-- the def's place -/
def atOf (L : List He.DefD) (f : Nat) : He.Defn := match L[f]? with
  | some d => d.at_
  | none => (Str.empty, none)
def tbAt (L : List He.DefD) (K : PySem.W.Frag) (f : Nat) : Addr := (He.cT K (atOf L f)).2
def lamNm (L : List He.DefD) (f : Nat) : Str := match L[f]? with
  | some d => (envOfC d.qual d.scope 0 0 Value.none).qual ++ "<lambda>"
  | none => Str.empty
def tbOf (L : List He.DefD) (mks : List Nat) (K : PySem.W.Frag) : List (Addr × Str) := mks.map fun f => (tbAt L K f, lamNm L f)
def csOf (L : List He.DefD) (mks : List Nat) (K : PySem.W.Frag) : List (Addr × Addr) := mks.map fun f => He.cT K (atOf L f)
def fsB (N ps : List Str) (sc : Scope) : Bool := (match sc.kind with
  | .function => true
  | _ => false) && (!sc.isCoroutine && (!sc.isGenerator && (decide N.Nodup && (decide (N.take ps.length = ps) && ((ps.all fun x => locB sc x) && sc.names.all fun y => match y.2 with
  | .free => false
  | _ => true)))))
theorem fsB_ok {N ps : List Str} {sc : Scope} (h : fsB N ps sc = true) : FnScope N ps sc := by
  unfold fsB at h
  obtain ⟨h1, h⟩ := and2 h
  obtain ⟨h2, h⟩ := and2 h
  obtain ⟨h3, h⟩ := and2 h
  obtain ⟨h4, h⟩ := and2 h
  obtain ⟨h5, h⟩ := and2 h
  obtain ⟨h6, h7⟩ := and2 h
  refine ⟨?_, by simpa using h2, by simpa using h3, of_decide_eq_true h4, of_decide_eq_true h5, fun x hx => ?_, fun y hy e => ?_⟩
  · split at h1
    · assumption
    · cases h1
  · have q := List.all_eq_true.mp h6 x hx
    unfold locB at q
    split at q
    · exact .inl (by assumption)
    · exact .inr (by assumption)
    · cases q
  · have q := List.all_eq_true.mp h7 y hy
    rw [e] at q
    cases q
def statB (L : List He.DefD) (Xs : List XRow) (mks : List Nat) (P : Prg) : Bool := decide (P.defs.length = L.length) && allL P.defs fun f o => match o, dsOf L Xs f with
  | some d, some S => fsB S.N S.ps S.scope && (decide (S.ps.length = d.par) && (decide (S.N.length = d.slots) && (!S.mkr || mks.contains f)))
  | none, _ => true
  | _, none => false
def chkB (L : List He.DefD) (Xs : List XRow) (P : Prg) (T : Nt) (fx fu : Nat) : Bool := allL P.defs fun f o => match o, dsOf L Xs f with
  | some d, some S => chkSs (chkS T P (dsOf L Xs) fx fu S.sx) d.body S.body
  | _, _ => true
def xiB (M : Nm) (P : Prg) (L : List He.DefD) : Bool := allL P.cls fun _ r => match r.exc, r.xinit with
  | some [f], some fi => (match L[fi]? with
    | some d => d.dfl.isEmpty && (d.kwd.isEmpty && (match d.body, d.params.args.map (·.arg) with
      | [.Assign [.Attribute (.Name self _) f' _] (.Name x _) _], [p1, p2] => decide (f' = M.a f) && (decide (p1 = self) && (decide (p2 = x) && (fsB [self, x] [self, x] d.scope && (visB d.scope self && (visB d.scope x && (dunB self && dunB x))))))
      | _, _ => false))
    | none => false)
  | _, _ => true
theorem vis_of {sc : Scope} {x : Str} (h : visB sc x = true) : Vis sc x := by
  unfold visB at h
  unfold Vis
  split at h
  · exact .inl (by assumption)
  · exact .inr (.inl (by assumption))
  · exact .inr (.inr (by assumption))
  · cases h
theorem map_inj {α β : Type} {g : α → β} {a b : α} : ∀ {l : List α}, (l.map g).Nodup → a ∈ l → b ∈ l → g a = g b → a = b
  | [], _, h, _, _ => by cases h
  | c :: r, nd, ha, hb, e => by
    obtain ⟨n1, n2⟩ := List.nodup_cons.mp (show (g c :: r.map g).Nodup from nd)
    rcases List.mem_cons.mp ha with ha | ha
    · rcases List.mem_cons.mp hb with hb | hb
      · rw [ha, hb]
      · exact absurd (by rw [← ha, e]; exact List.mem_map_of_mem hb) n1
    · rcases List.mem_cons.mp hb with hb | hb
      · exact absurd (by rw [← hb, ← e]; exact List.mem_map_of_mem ha) n1
      · exact map_inj n2 ha hb e
section
variable {prog : Program} {w : World} {M : Nm} {P : Prg} {K : PySem.W.Frag} {h base : Heap} {mg : Str → Option Value} {fa : List He.Fa} {L : List He.DefD} {Xs : List XRow} {mks : List Nat}
theorem ds_row {f : Nat} {S : DefS} (e : dsOf L Xs f = some S) : ∃ d N fix mk, L[f]? = some d ∧ S = mkS d N fix mk := by
  unfold dsOf at e
  split at e
  · rename_i d N fix mk h1 h2
    cases e
    exact ⟨d, N, fix, mk, h1, rfl⟩
  · cases e
theorem dfo_of (c : He.SaysD fa L K) (hs : statB L Xs mks P = true) (TB : ∀ p ∈ csOf L mks K, TabB base mg p.1 p.2) (nd : (mks.map (tbAt L K)).Nodup) :
    ∀ f S d, dsOf L Xs f = some S → P.defs[f]? = some (some d) → DfO (obK L K) K base mg (tbOf L mks K) f S d := by
  intro f S d hS hd
  obtain ⟨_, hs⟩ := and2 hs
  have q := allL_at hs hd
  rw [hS] at q
  obtain ⟨q1, q⟩ := and2 (show (fsB S.N S.ps S.scope && (decide (S.ps.length = d.par) && (decide (S.N.length = d.slots) && (!S.mkr || mks.contains f)))) = true from q)
  obtain ⟨q2, q⟩ := and2 q
  obtain ⟨q3, q4⟩ := and2 q
  obtain ⟨e, N, fix, mk, hL, rfl⟩ := ds_row hS
  have F := funD_at c hL
  refine ⟨⟨_, _, F⟩, ?_, fsB_ok q1, of_decide_eq_true q2, of_decide_eq_true q3, fun hm => ?_⟩
  · show (obK L K).ps f = e.params.args.map (·.arg)
    unfold obK
    simp only [hL]
  · have hf : f ∈ mks := by
      rcases Bool.or_eq_true_iff.mp q4 with z | z
      · rw [hm] at z; cases z
      · simpa using z
    obtain ⟨oc, od, dV, kV, doc, pm, an, cdv, ct, osl, efd, lk, hcd, _, _⟩ := F.ex
    obtain ⟨c0, ec⟩ := He.codeIn_ref hcd
    have efa : (obK L K).fa f = He.fAd K e.at_ := by unfold obK; simp only [hL]
    have eat : atOf L f = e.at_ := by unfold atOf; simp only [hL]
    have ecode : ((obK L K).fd f).code = .ref c0 := by rw [efd]; exact ec
    have eco : He.codeOf K e.at_ = c0 := He.codeOf_eq (by rw [← efa]; exact lk) ecode
    have eln : lamNm L f = (mkS e N fix mk).eq ++ "<lambda>" := by
      unfold lamNm
      simp only [hL]
      rfl
    refine ⟨c0, tbAt L K f, ecode, ?_, ?_, fun p hp hp1 => ?_⟩
    · have z := TB _ (List.mem_map_of_mem (f := fun f => He.cT K (atOf L f)) hf)
      have e1 : (He.cT K (atOf L f)).1 = c0 := by rw [eat]; exact eco
      rw [e1] at z
      exact z
    · rw [← eln]
      exact List.mem_map_of_mem (f := fun f => (tbAt L K f, lamNm L f)) hf
    · obtain ⟨f2, h2, e2⟩ := List.mem_map.mp hp
      rw [← e2] at hp1 ⊢
      have : f2 = f := map_inj nd h2 hf hp1
      rw [this]
      exact eln
theorem xns_of (c : He.SaysD fa L K) (hx : xiB M P L = true) (m : Nat) : Xns M P (obK L K) (2 * m + 1) prog w K mg base := by
  intro cc r f fi hc he hi
  have q := allL_at hx hc
  rw [he, hi] at q
  have q : (match L[fi]? with
    | some d => d.dfl.isEmpty && (d.kwd.isEmpty && (match d.body, d.params.args.map (·.arg) with
      | [.Assign [.Attribute (.Name self _) f' _] (.Name x _) _], [p1, p2] => decide (f' = M.a f) && (decide (p1 = self) && (decide (p2 = x) && (fsB [self, x] [self, x] d.scope && (visB d.scope self && (visB d.scope x && (dunB self && dunB x))))))
      | _, _ => false))
    | none => false) = true := q
  split at q
  · rename_i d hL
    obtain ⟨q1, q⟩ := and2 q
    obtain ⟨q2, q⟩ := and2 q
    split at q
    · rename_i self p1 f' p2 x p3 p4 a1 a2 eb ea
      obtain ⟨z1, q⟩ := and2 q
      obtain ⟨z2, q⟩ := and2 q
      obtain ⟨z3, q⟩ := and2 q
      obtain ⟨z4, q⟩ := and2 q
      obtain ⟨z5, q⟩ := and2 q
      obtain ⟨z6, q⟩ := and2 q
      obtain ⟨z7, z8⟩ := and2 q
      obtain rfl := of_decide_eq_true z1
      obtain rfl := of_decide_eq_true z2
      obtain rfl := of_decide_eq_true z3
      have F := funD_at c hL
      have e1 : d.dvs K = [] := by unfold He.DefD.dvs; rw [List.isEmpty_iff.mp q1]; rfl
      have e2 : d.kws K = [] := by unfold He.DefD.kws; rw [List.isEmpty_iff.mp q2]; rfl
      rw [e1, e2, eb] at F
      have eps : (obK L K).ps fi = [a1, a2] := by
        unfold obK
        simp only [hL]
        exact ea
      rw [eps]
      exact xinit_ok F (fsB_ok z4) (vis_of z5) (vis_of z6) z7 z8
    · cases q
  · cases q
/-- every def does what the evaluator says -/
theorem fns_of {ts : List He.Tab} {fx fu law : Nat} {c1 c2 : Int} {dD dP dL : DefR} (X : K.In base) (G : base.Ns mainGlobals mg) (c : He.SaysT fa L ts w K) (hf : factsB M P (obK L K) K = true) (hln : M.fn.length = L.length) (ha : M.att.Nodup) (hp : plnB L = true)
    (hts : ∀ g kvs, P.dks[g]? = some kvs → ∃ t, ts[g]? = some t ∧ t.1 = fun K => He.ga K (M.d g)) (hM : M.fix = [] ∧ M.capL = [] ∧ M.capS = [] ∧ M.cod = []) (htb : M.tb K = tbOf L mks K) (hs : statB L Xs mks P = true) (nd : (mks.map (tbAt L K)).Nodup) (hx : xiB M P L = true) (hc : chkB L Xs P M.nt fx fu = true)
    (TB : ∀ p ∈ csOf L mks K, TabB base mg p.1 p.2) (h1 : P.defs[P.draw]? = some (some dD)) (h2 : dD.body = drawB ∧ dD.par = 2 ∧ dD.slots = 4) (h3 : P.defs[P.pool]? = some (some dP)) (h4 : dP.body = poolB c1 c2 ∧ dP.par = 2 ∧ dP.slots = 5) (h5 : wide64 c2 = true) (h6 : (P.pool == P.draw) = false) (hl : law < M.fn.length) (n : Nat) :
    FnG prog w K mg base (CX prog w) (2 * n + 1) ((obK L K).fa law) ((obK L K).fd law) ((obK L K).ps law) (spF K M (run P n) law) := by
  have fX := fx_of X G c.d hln ha hp hf
  have dX : FxD M P K w mg := fxd_of X G c hts (by
    unfold factsB at hf
    simp only [Bool.and_eq_true] at hf
    exact hf.2.2.2.2.2.2.2.2.2.2.2.2.2.2)
  have hDS : ∀ f d, P.defs[f]? = some (some d) → ∃ S, dsOf L Xs f = some S := fun f d hd => by
    have q := allL_at (and2 hs).2 hd
    cases e : dsOf L Xs f with
    | some S => exact ⟨S, rfl⟩
    | none => rw [e] at q; cases q
  have hD := dfo_of (P := P) (base := base) (mg := mg) c.d hs TB nd
  rw [← htb] at hD
  obtain ⟨SD, hSD⟩ := hDS _ _ h1
  obtain ⟨SP, hSP⟩ := hDS _ _ h3
  exact (all_fns (g := ⟨prog, w, K, mg, base⟩) (M0 := M) (P := P) (O := obK L K) (DS := dsOf L Xs) (fx0 := fx) (fu := fu) hM fX dX hD hDS (fun m => xns_of c.d hx m)
    (fun f S d hS hd => by
      have q := allL_at hc hd
      rw [hS] at q
      exact q)
    (fun n Gd_ B => draw_fn hM fX dX hSD h1 h2.1 h2.2.1 h2.2.2 Gd_ B)
    (fun n Gd_ B => pool_fn (c1 := c1) (c2 := c2) hM fX dX hSP h3 h4.1 h4.2.1 h4.2.2 h5 h6 Gd_ B) n).1 n (Nat.le_refl n) law hl
end
/-! ### the law's end -/
/-- at the start: the tables, the script (if it is not written) -/
def stH (T : List Addr) (a : Addr) (o : Option HO) : Hp := fun b => if b ∈ T then some (.tbl #[]) else if b = a then o else none
theorem stH_tab {T : List Addr} {a b : Addr} {o : Option HO} (h : b ∈ T) : stH T a o b = some (.tbl #[]) := if_pos h
theorem stH_none {T : List Addr} {a b : Addr} {o : Option HO} (h1 : b ∉ T) (h2 : b = a → o = none) : stH T a o b = none := by
  unfold stH
  rw [if_neg h1]
  by_cases e : b = a
  · rw [if_pos e, h2 e]
  · rw [if_neg e]
section
variable {P : Program} {w : World} {K : PySem.W.Frag} {mg mb : Str → Option Value} {C0 : CXT} {k : Nat} {fa a : Addr} {cs : List (Addr × Addr)} {fd : FuncData} {x : Str} {sp : Sp} {s : Shared} {vs : List Value} {ns : List Int}
abbrev tabO : Obj := { cls := .none, data := .fields #[] }
abbrev lstO (vs : List Value) : Obj := { cls := .type "list", data := .seq vs.toArray }
theorem end_core {o : Option HO} (hK : K.In s.heap) (hG : s.heap.Ns mainGlobals mg) (hB : s.heap.Ns builtinsNs mb) (hBB : ∀ x : Str, x ≠ "__name__" → mb x = bootBuiltins x) (hL : s.heap.NoLimit) (hg : s.gens = #[])
    (hT : ∀ b ∈ cs.map (·.2), s.heap.get? b = some tabO) (nT : ∀ b ∈ cs.map (·.2), K.lookup b = none) (hC : ∀ p ∈ cs, PySem.W.CodeHd s.heap p.1 p.2)
    (hM : ∃ (bm : Addr) (ob : Obj), mg "__builtins__" = some (.ref bm) ∧ bm ≠ builtinsNs ∧ s.heap.get? bm = some ob ∧ ob.cls = .type "module" ∧ ob.dict = some builtinsNs ∧ ob.data = .plain)
    (hs : s.heap.get? a = some (lstO vs)) (hr : Room k callerA) (F : ∀ base : Heap, K.In base → base.Ns mainGlobals mg → (∀ p ∈ cs, TabB base mg p.1 p.2) → FnG P w K mg base C0 k fa fd [x] sp) (hbind : ∀ (s : Shared) (u : Value), BindsTo s fd ⟨[u], []⟩ [(x, u)])
    (hsp : ∀ H : Hp, (∀ p ∈ cs, H p.2 = some (.tbl #[])) → SqC K H a (ns.map V.int) → sp [.ref a] H (fun v _ => v = .bl true) fun _ _ _ => False) (hE : ∀ H e s', C0 [] H s (fun _ _ _ => False) e s' → False)
    (ho : (o = none ∧ ∃ z, K.lookup a = some z) ∨ (K.lookup a = none ∧ ∃ u ys, o = some (.frz u (.lst ys)))) (hok : HOk P w (stH (cs.map (·.2)) a o) s.heap) (hS : SqC K (stH (cs.map (·.2)) a o) a (ns.map V.int)) :
    codeAny (model P w) callerA (.call (.ref fa) ⟨[.ref a], []⟩) (fun r s' => r = .ok (.ret (.bool true)) ∧ OldK s.heap s'.heap ∧ s'.os = s.os ∧ AllBare s'.gens) s := by
  generalize hH : stH (cs.map (·.2)) a o = H at hok hS
  have tabs : ∀ p ∈ cs, H p.2 = some (.tbl #[]) := fun p hp => by rw [← hH]; exact stH_tab (List.mem_map_of_mem hp)
  have aT : a ∉ cs.map (·.2) := fun z => by
    have q := (hT a z).symm.trans hs
    have q2 : Data.fields #[] = Data.seq vs.toArray _ := congrArg Obj.data (Option.some.inj q)
    cases q2
  -- whoever is no empty table and no list is not tracked
  have free : ∀ {b : Addr} {u : Obj}, s.heap.get? b = some u → u.data ≠ .fields #[] → (∀ ys m, u.data ≠ .seq ys m) → H b = none := fun {b u} e n1 n2 => by
    rw [← hH]
    refine stH_none (fun z => ?_) fun z => ?_
    · rw [hT b z] at e
      exact n1 (by cases e; rfl)
    · rw [z, hs] at e
      cases e
      exact (n2 _ _ rfl).elim
  have seen : ∀ {b : Addr} {u : Obj}, s.heap.get? b = some u → H b = none → (hidT s.heap H).get? b = some u := fun e n => hidT_get e n
  have dic : ∀ {b : Addr} {m : Str → Option Value}, s.heap.Ns b m → (hidT s.heap H).Ns b m := fun {b m} ⟨u, es, q, e, d, r⟩ =>
    ⟨u, es, q, seen e (free e (by rw [d]; exact fun z => by cases z) (by rw [d]; exact fun _ _ z => by cases z)), d, r⟩
  have inK : K.In (hidT s.heap H) := fun b u e => seen (hK b u e) (by
    rw [← hH]
    refine stH_none (fun z => ?_) fun z => ?_
    · rw [nT b z] at e; cases e
    · rw [z] at e
      rcases ho with ⟨h1, _⟩ | ⟨h1, _⟩
      · exact h1
      · rw [h1] at e; cases e)
  have gm : ∀ {b : Addr} {u : Obj}, s.heap.get? b = some u → (∀ es q, u.data ≠ .dict es q) → b ≠ mainGlobals := fun {b u} e n z => by
    obtain ⟨v, es, q, e2, d, _⟩ := hG
    rw [z, e2] at e
    cases e
    exact n _ _ d
  have hTB : ∀ p ∈ cs, TabB (hidT s.heap H) mg p.1 p.2 := fun p hp => by
    have tp := hT p.2 (List.mem_map_of_mem hp)
    refine ⟨?_, ?_, fun z => gm tp (fun _ _ z => by cases z) z.symm⟩
    · obtain ⟨u, us, fl, tf, fs, tg, iF, tx, tt, e1, r1, r2, r3, rest⟩ := hC p hp
      refine ⟨u, us, fl, tf, fs, tg, iF, tx, tt, seen e1 (free e1 (fun z => ?_) fun _ _ z => ?_), r1, r2, r3, rest⟩
      · rw [r2] at z
        cases z
        simp at r3
      · rw [r2] at z; cases z
    · obtain ⟨bm, ob, b1, b2, b3, b4, b5, b6⟩ := hM
      refine ⟨bm, ob, b1, b2, gm b3 (fun _ _ z => by rw [b6] at z; cases z), fun z => ?_, seen b3 (free b3 (fun z => by rw [b6] at z; cases z) fun _ _ z => by rw [b6] at z; cases z), b4, b5, b6⟩
      rw [z, tp] at b3
      cases b3
      cases b6
  have md : L2.Mod K mg (hidT s.heap H) := ⟨inK, dic hG, ⟨mb, dic hB, hBB⟩, let ⟨mc, h1, h2⟩ := hL; ⟨mc, dic h1, h2⟩⟩
  have e0 : Env0 P w K mg (hidT s.heap H) callerA [] s H :=
    { frames := rfl
      mod := md
      bs := fun _ _ e => of_hidT e
      bsz := Nat.le_of_eq (hidT_size _ _)
      funs := trivial
      frf := fun _ hb => by cases hb
      hok := hok
      bare := .of_eq hg }
  refine codeAny_mono ((F _ inK (dic hG) hTB).run callerA [] s H ⟨[.ref a], []⟩ [.ref a] [.ref a] _ _ hr rfl e0 (hbind s (.ref a)) (.cons rfl .nil) (hsp H tabs hS)) fun r s' hq => ?_
  cases r with
  | error e => exact (hE H e s' hq).elim
  | ok fl =>
    cases fl with
    | ret u =>
      obtain ⟨v, H', e1, e2, un, ok', rv, e3⟩ := hq
      obtain rfl : v = .bl true := e3
      obtain rfl : u = Value.bool true := rv
      have same : ∀ b u, b ∉ cs.map (·.2) → s.heap.get? b = some u → s'.heap.get? b = some u := fun b u nb e => by
        by_cases ea : b = a ∧ o ≠ none
        · obtain ⟨rfl, on⟩ := ea
          rcases ho with ⟨h1, _⟩ | ⟨_, q, ys, h1⟩
          · exact absurd h1 on
          · have hb : H b = some (.frz q (.lst ys)) := by
              rw [← hH]
              unfold stH
              rw [if_neg nb, if_pos rfl, h1]
            have d1 := (hok b _ hb).1
            have d2 := (ok' b _ (un.frzs b q _ hb)).1
            rw [e] at d1
            cases d1
            exact d2
        · have hb : H b = none := by
            rw [← hH]
            exact stH_none nb fun z => Decidable.byContradiction fun n => ea ⟨z, n⟩
          exact un.keep b u e hb (fun z => by cases z) (by simp)
      have more : ∀ b ∈ cs.map (·.2), ∃ ys : Array Value, s'.heap.get? b = some { cls := .none, data := .fields ys } := fun b hb => by
        obtain ⟨p, hp, rfl⟩ := List.mem_map.mp hb
        obtain ⟨ys, z⟩ := un.tbls p.2 #[] (tabs p hp)
        exact ⟨_, ok' p.2 _ z⟩
      refine ⟨rfl, ⟨fun b u e => ?_, fun b u e => ?_⟩, e1, e2⟩
      · by_cases hb : b ∈ cs.map (·.2)
        · obtain ⟨ys, z⟩ := more b hb
          rw [hT b hb] at e
          cases e
          obtain ⟨p, hp, rfl⟩ := List.mem_map.mp hb
          exact .inr (.inl ⟨((hC p hp).tab (hT _ (List.mem_map_of_mem hp))).isCodeTable, rfl, #[], ys, rfl, by rw [Array.empty_append]; exact z⟩)
        · exact .inl (same b u hb e)
      · by_cases hb : b ∈ cs.map (·.2)
        · obtain ⟨ys, z⟩ := more b hb
          exact ⟨_, z⟩
        · exact ⟨u, same b u hb e⟩
    | _ => exact False.elim hq
theorem law_endG (hK : K.In s.heap) (hG : s.heap.Ns mainGlobals mg) (hB : s.heap.Ns builtinsNs mb) (hBB : ∀ x : Str, x ≠ "__name__" → mb x = bootBuiltins x) (hL : s.heap.NoLimit) (hg : s.gens = #[])
    (hT : ∀ b ∈ cs.map (·.2), s.heap.get? b = some tabO) (nT : ∀ b ∈ cs.map (·.2), K.lookup b = none) (hC : ∀ p ∈ cs, PySem.W.CodeHd s.heap p.1 p.2)
    (hM : ∃ (bm : Addr) (ob : Obj), mg "__builtins__" = some (.ref bm) ∧ bm ≠ builtinsNs ∧ s.heap.get? bm = some ob ∧ ob.cls = .type "module" ∧ ob.dict = some builtinsNs ∧ ob.data = .plain)
    (hs : s.heap.get? a = some (lstO vs)) (hi : IntsAre vs ns) (hl : ns.length ≤ sizeLine) (hr : Room k callerA) (F : ∀ base : Heap, K.In base → base.Ns mainGlobals mg → (∀ p ∈ cs, TabB base mg p.1 p.2) → FnG P w K mg base C0 k fa fd [x] sp) (hbind : ∀ (s : Shared) (u : Value), BindsTo s fd ⟨[u], []⟩ [(x, u)])
    (hsp : ∀ H : Hp, (∀ p ∈ cs, H p.2 = some (.tbl #[])) → SqC K H a (ns.map V.int) → sp [.ref a] H (fun v _ => v = .bl true) fun _ _ _ => False) (hE : ∀ H e s', C0 [] H s (fun _ _ _ => False) e s' → False) :
    codeAny (model P w) callerA (.call (.ref fa) ⟨[.ref a], []⟩) (fun r s' => r = .ok (.ret (.bool true)) ∧ OldK s.heap s'.heap ∧ s'.os = s.os ∧ AllBare s'.gens) s := by
  have rv := vals_ints hi
  have lv : vs.length = ns.length := hi.length
  have aT : a ∉ cs.map (·.2) := fun z => by
    have q := (hT a z).symm.trans hs
    have q2 : Data.fields #[] = Data.seq vs.toArray _ := congrArg Obj.data (Option.some.inj q)
    cases q2
  have tabOk : ∀ b u, b ∈ cs.map (·.2) → stH (cs.map (·.2)) a (none : Option HO) b = some u → u = .tbl #[] := fun b u hb z => by
    rw [stH_tab hb] at z
    cases z
    rfl
  cases hk : K.lookup a with
  | some z =>
    refine end_core (o := none) (ns := ns) hK hG hB hBB hL hg hT nT hC hM hs hr F hbind hsp hE (.inl ⟨rfl, z, hk⟩) (fun b u q => ?_) (.inr ?_)
    · by_cases hb : b ∈ cs.map (·.2)
      · rw [stH_tab hb] at q
        cases q
        exact hT b hb
      · rw [stH_none hb fun _ => rfl] at q
        cases q
    · have e := hK a z hk
      rw [hs] at e
      cases e
      exact ⟨_, vs.toArray, _, hk, rfl, rfl, rfl, by rw [List.size_toArray, lv]; exact hl, by simpa using rv⟩
  | none =>
    refine end_core (o := some (.frz (lstO vs) (.lst (ns.map V.int)))) (ns := ns) hK hG hB hBB hL hg hT nT hC hM hs hr F hbind hsp hE (.inr ⟨hk, _, _, rfl⟩) (fun b u q => ?_) (.inl ⟨lstO vs, ?_⟩)
    · by_cases hb : b ∈ cs.map (·.2)
      · rw [stH_tab hb] at q
        cases q
        exact hT b hb
      · by_cases ea : b = a
        · subst ea
          unfold stH at q
          rw [if_neg hb, if_pos rfl] at q
          cases q
          exact ⟨hs, by rw [List.length_map]; exact hl, vs, _, rv, hs⟩
        · rw [stH_none hb fun z => absurd z ea] at q
          cases q
    · unfold stH
      rw [if_neg aT, if_pos rfl]
end
end Rf


set_option Elab.async false
set_option linter.all false
set_option maxRecDepth 100000
set_option maxHeartbeats 2000000
/-! H4: a Hook that looks at what the module's names reach, layer by layer. -/
namespace Rf
open PySem PySem.Spec PyProof.Rows L2
def refsC (o : Obj) : List Addr := match o.data with
  | .seq its _ => its.toList.flatMap He.refV
  | .dict es _ => es.toList.flatMap fun e => He.refV e.val
  | .func fd => He.refV fd.code ++ He.refV fd.defaults
  | .cls cd => [cd.ns]
  | _ => []
def nextC (g : Addr → Option Obj) (as : List Addr) : List Addr := as.flatMap fun a => match g a with
  | some o => refsC o
  | none => []
/-- a list, item by item -/
def frLs {α : Type} : List Nat → (List Nat → α) → α
  | [], k => k []
  | a :: r, k => HandSHeadRun.frNat a fun a => frLs r fun r => k (a :: r)
theorem frLs_eq {α : Type} : ∀ (l : List Nat) (k : List Nat → α), frLs l k = k l
  | [], _ => rfl
  | a :: r, k => by
    unfold frLs
    rw [HandSHeadRun.frNat_eq, frLs_eq r]
def frKs {α : Type} : PySem.W.Frag → (PySem.W.Frag → α) → α
  | [], k => k []
  | (a, ⟨c, d, .dict es n, sl⟩) :: r, k => frKs r fun r => k ((a, ⟨c, d, .dict es n, sl⟩) :: r)
  | (a, ⟨c, d, .func fd, sl⟩) :: r, k => frKs r fun r => k ((a, ⟨c, d, .func fd, sl⟩) :: r)
  | (a, ⟨c, d, dt, sl⟩) :: r, k => frKs r fun r => k ((a, ⟨c, d, dt, sl⟩) :: r)
theorem frKs_eq {α : Type} : ∀ (l : PySem.W.Frag) (k : PySem.W.Frag → α), frKs l k = k l
  | [], _ => rfl
  | (a, ⟨c, d, dt, sl⟩) :: r, k => by
    cases dt <;> (unfold frKs; rw [frKs_eq r])
def layC (g : Addr → Option Obj) : Nat → List Addr → (List Addr → List Addr) → List Addr
  | 0, as, k => k as
  | n + 1, as, k => frLs (nextC g as) fun bs => layC g n bs fun r => k (as ++ r)
def collC (g : Addr → Option Obj) : List Addr := layC g 4 [mainGlobals] fun r => r
structure SaysY (fn : List He.DefD) (ts : List He.Tab) (tf : List He.Defn) (ex : PySem.W.Frag → Bool) (w : World) (h : Heap) (K : PySem.W.Frag) : Prop where
  t : He.SaysT [] fn ts w K
  more : ex K = true
  tabs : ∀ p ∈ tf, PySem.W.codeHdIn K (He.cT K p).1 (He.cT K p).2 = true ∧ K.lookup (He.cT K p).2 = none ∧ h.get? (He.cT K p).2 = some { cls := .none, data := .fields #[] }
def obsK (fn : List He.DefD) (ts : List He.Tab) (tf : List He.Defn) (ex : PySem.W.Frag → Bool) (g : Addr → Option Obj) (K : PySem.W.Frag) : He.AlX := (He.obsT [] fn ts K, ex K && He.tabsB g tf K)
def obsY (fn : List He.DefD) (ts : List He.Tab) (tf : List He.Defn) (ex : PySem.W.Frag → Bool) (g : Addr → Option Obj) : He.AlX := frLs (collC g) fun as => frKs (He.frT g as) fun K => obsK fn ts tf ex g K
theorem obsY_eq' (fn : List He.DefD) (ts : List He.Tab) (tf : List He.Defn) (ex : PySem.W.Frag → Bool) (g : Addr → Option Obj) : obsY fn ts tf ex g = obsK fn ts tf ex g (He.frT g (collC g)) := by
  unfold obsY
  rw [frLs_eq, frKs_eq]
theorem saysY_of {fn : List He.DefD} {ts : List He.Tab} {tf : List He.Defn} {ex : PySem.W.Frag → Bool} {w : World} {h : Heap} (e : obsY fn ts tf ex h.get? = He.valX fn ts w) : SaysY fn ts tf ex w h (He.frT h.get? (collC h.get?)) := by
  rw [obsY_eq'] at e
  generalize collC h.get? = as at e
  obtain ⟨e1, e2⟩ := Prod.mk.inj (show (He.obsT [] fn ts (He.frT h.get? as), ex (He.frT h.get? as) && He.tabsB h.get? tf (He.frT h.get? as)) = (He.valT fn ts w, true) from e)
  obtain ⟨h1, h2⟩ := and2 e2
  refine ⟨e1, h1, fun p hp => ?_⟩
  have q := List.all_eq_true.mp h2 p hp
  obtain ⟨q1, q2⟩ := and2 q
  split at q2
  · rename_i o ho
    exact ⟨q1, He.frT_none ho q2, by rw [ho, He.emptyTab_eq q2]⟩
  · cases q2
def hookY (fn : List He.DefD) (ts : List He.Tab) (tf : List He.Defn) (ex : PySem.W.Frag → Bool) : PySem.W.Hook :=
  { α := He.AlX
    obs := fun s => obsY fn ts tf ex s.heap.get?
    val := fun w => He.valX fn ts w
    says := fun w h => ∃ K : PySem.W.Frag, K.In h ∧ SaysY fn ts tf ex w h K
    of := fun _ _ e => ⟨_, He.frT_in, saysY_of e⟩
    keeps := fun _ _ _ ⟨K, i, c⟩ k => ⟨K, i.keeps k, c.t, c.more, fun p hp => ⟨(c.tabs p hp).1, (c.tabs p hp).2.1, k _ _ (c.tabs p hp).2.2⟩⟩ }
theorem obsY_at {fn : List He.DefD} {ts : List He.Tab} {tf : List He.Defn} {ex : PySem.W.Frag → Bool} (s : PySem.W.SharedT) : obsY fn ts tf ex (HandSHeadRun.getT s) = (hookY fn ts tf ex).obs s.abs := by
  have e : HandSHeadRun.getT s = s.abs.heap.get? := funext (HandSHeadRun.getT_eq s)
  rw [e]
  rfl
end Rf


set_option Elab.async false
set_option linter.all false
set_option maxRecDepth 100000
set_option maxHeartbeats 0
/-! G0: the law, in the small syntax. -/
namespace Lw
open Rf
abbrev f_figures_of : Nat := 0
abbrev f_within : Nat := 1
abbrev f_Banks___init__ : Nat := 2
abbrev f_Banks_with_boat : Nat := 3
abbrev f_Banks_loads : Nat := 4
abbrev f_Banks_lead : Nat := 5
abbrev f_Banks_steps : Nat := 6
abbrev f_Banks_first : Nat := 7
abbrev f_Banks_fewest : Nat := 8
abbrev f_Banks_least_cover : Nat := 9
abbrev f_Banks_least_boat : Nat := 10
abbrev f_banks_of : Nat := 11
abbrev f_InvalidNumber___init__ : Nat := 12
abbrev f_InvalidLine___init__ : Nat := 13
abbrev f_NotAParty___init__ : Nat := 14
abbrev f_NotAFerry___init__ : Nat := 15
abbrev f_InvalidThings___init__ : Nat := 16
abbrev f_InvalidQuarrels___init__ : Nat := 17
abbrev f_InvalidDeed___init__ : Nat := 18
abbrev f_Barred___init__ : Nat := 19
abbrev f_is_whole : Nat := 20
abbrev f_is_between : Nat := 21
abbrev f_is_string : Nat := 22
abbrev f_is_made_of : Nat := 23
abbrev f_is_name : Nat := 24
abbrev f_is_tuple_of : Nat := 25
abbrev f_is_row : Nat := 26
abbrev f_first_wrong : Nat := 27
abbrev f_words_of : Nat := 28
abbrev f_wrong_name : Nat := 29
abbrev f_is_one_of : Nat := 30
abbrev f_is_pair : Nat := 31
abbrev f_wrong_pair : Nat := 32
abbrev f_check_things : Nat := 33
abbrev f_check_quarrels : Nat := 34
abbrev f_Party___init__ : Nat := 35
abbrev f_Party___eq__ : Nat := 36
abbrev f_parts_of : Nat := 37
abbrev f_check_party : Nat := 38
abbrev f_is_thing : Nat := 39
abbrev f_is_lot : Nat := 40
abbrev f_lots_in : Nat := 41
abbrev f_rest_of : Nat := 42
abbrev f_is_seats : Nat := 43
abbrev f_check_seats : Nat := 44
abbrev f_check_boat : Nat := 45
abbrev f_is_quiet_by : Nat := 46
abbrev f_with_quarrels : Nat := 47
abbrev f_struck_by : Nat := 48
abbrev f_first_stand : Nat := 49
abbrev f_with_boat : Nat := 50
abbrev f_left_by : Nat := 51
abbrev f_is_calm_by : Nat := 52
abbrev f_behind_load : Nat := 53
abbrev f_lies_within : Nat := 54
abbrev f_loads_by : Nat := 55
abbrev f_least_boat_by : Nat := 56
abbrev f_has_form : Nat := 57
abbrev f_check_deed : Nat := 58
abbrev f_pair_of : Nat := 59
abbrev f_state_behind : Nat := 60
abbrev f_reason_by_itself : Nat := 61
abbrev f_reason_against : Nat := 62
abbrev f_check_barred : Nat := 63
abbrev f_steps_from : Nat := 64
abbrev f_distance_by : Nat := 65
abbrev f_left_from : Nat := 66
abbrev f_Ferry___init__ : Nat := 67
abbrev f_Ferry_do : Nat := 68
abbrev f_Ferry_undo : Nat := 69
abbrev f_Ferry_is_over : Nat := 70
abbrev f_Ferry_left : Nat := 71
abbrev f_Ferry___eq__ : Nat := 72
abbrev f_led_by : Nat := 73
abbrev f_check_ferry : Nat := 74
abbrev f_copy_of : Nat := 75
abbrev f_text_or_none : Nat := 76
abbrev f_deed_in : Nat := 77
abbrev f_said_of_deed : Nat := 78
abbrev f_said_of_undo : Nat := 79
abbrev f_said_of_word : Nat := 80
abbrev f_Console___init__ : Nat := 81
abbrev f_Console_say : Nat := 82
abbrev f__law_pool : Nat := 83
abbrev f__law_draw : Nat := 84
abbrev f__law_pick : Nat := 85
abbrev f__law_odd_line : Nat := 86
abbrev f__law_refused : Nat := 87
abbrev f__law_right : Nat := 88
abbrev f_law : Nat := 89
abbrev c_Banks : Nat := 0
abbrev c_BankError : Nat := 1
abbrev c_InvalidNumber : Nat := 2
abbrev c_InvalidLine : Nat := 3
abbrev c_NotAParty : Nat := 4
abbrev c_NotAFerry : Nat := 5
abbrev c_InvalidThings : Nat := 6
abbrev c_InvalidQuarrels : Nat := 7
abbrev c_InvalidDeed : Nat := 8
abbrev c_Barred : Nat := 9
abbrev c_NothingToUndo : Nat := 10
abbrev c_Party : Nat := 11
abbrev c_Ferry : Nat := 12
abbrev c_Console : Nat := 13
abbrev a_whole : Nat := 0
abbrev a_steps : Nat := 1
abbrev a_first : Nat := 2
abbrev a_many : Nat := 3
abbrev a_quiet : Nat := 4
abbrev a_sizes : Nat := 5
abbrev a_least_cover : Nat := 6
abbrev a_fewest : Nat := 7
abbrev a_things : Nat := 8
abbrev a_quarrels : Nat := 9
abbrev a_least_boat : Nat := 10
abbrev a_begun : Nat := 11
abbrev a_party : Nat := 12
abbrev a_seats : Nat := 13
abbrev a_stand : Nat := 14
abbrev a_deeds : Nat := 15
abbrev a_past : Nat := 16
abbrev a_do : Nat := 17
abbrev a_reason : Nat := 18
abbrev a_undo : Nat := 19
abbrev a_left : Nat := 20
abbrev a_is_over : Nat := 21
abbrev a_ferry : Nat := 22
abbrev a_given : Nat := 23
abbrev a_say : Nat := 24
abbrev a_bars : Nat := 25
abbrev a_with_boat : Nat := 26
abbrev a_loads : Nat := 27
abbrev a_lead : Nat := 28
abbrev a_index : Nat := 29
abbrev g_LAST_SIDE : Nat := 0
abbrev g_SMALL_LETTERS : Nat := 1
abbrev g_LONGEST_NAME : Nat := 2
abbrev g_MOST_THINGS : Nat := 3
abbrev g_MOST_SEATS : Nat := 4
abbrev g_LAST : Nat := 5
abbrev g_AWAY : Nat := 6
abbrev g_MANY : Nat := 7
abbrev g_LOUD : Nat := 8
abbrev g_HAD : Nat := 9
abbrev g_NONE_deeds : Nat := 10
abbrev g_LOST : Nat := 11
abbrev g_DONE : Nat := 12
abbrev g_NONE_consoles : Nat := 13
abbrev g_NOTHING : Nat := 14
abbrev l_0 : Nat := 0
abbrev l_1 : Nat := 1
abbrev l_2 : Nat := 2
abbrev l_3 : Nat := 3
def L_0 : LamR := ⟨2, (.and (.call f_is_name (.cons (.var 0) .nil)) (.or (.cmp .eq (.var 1) (.tup .nil)) (.cmp .lt (.idx (.var 1) (.un .neg (.lit (.int 1)))) (.var 0))))⟩
def L_1 : LamR := ⟨2, (.and (.call f_is_pair (.cons (.var 2) (.cons (.var 0) .nil))) (.or (.cmp .eq (.var 1) (.tup .nil)) (.cmp .lt (.idx (.var 1) (.un .neg (.lit (.int 1)))) (.var 0))))⟩
def L_2 : LamR := ⟨0, (.meth (.var 2) a_say (.cons (.var 7) .nil))⟩
def L_3 : LamR := ⟨0, (.mk c_Console (.cons (.var 7) .nil))⟩
def d_figures_of : DefR := ⟨1, 2, [], (.cons (.asg (.one (.nm 1)) (.lit (.int 0))) (.cons (.while (.cmp .gt (.var 0) (.lit (.int 0))) (.cons (.asg (.tup [(.nm 0), (.nm 1)]) (.tup (.cons (.bin .shr (.var 0) (.lit (.int 1))) (.cons (.bin .add (.var 1) (.bin .band (.var 0) (.lit (.int 1)))) .nil)))) .nil)) (.cons (.ret (.var 1)) .nil)))⟩
def d_Banks_first : DefR := ⟨1, 1, [], (.cons (.ret (.tup (.cons (.lit (.int 0)) (.cons (.attr (.var 0) a_whole) .nil)))) .nil)⟩
def d_Banks_fewest : DefR := ⟨2, 2, [], (.cons (.ret (.bmeth .get (.meth (.var 0) a_steps (.cons (.var 1) (.cons (.meth (.var 0) a_first .nil) .nil))) (.cons (.tup (.cons (.glob g_LAST_SIDE) (.cons (.lit (.int 0)) .nil))) .nil))) .nil)⟩
def d_Banks_least_cover : DefR := ⟨1, 2, [], (.cons (.ret (.bin .sub (.attr (.var 0) a_many) (.blt .max (.cons (.lc (.idx (.attr (.var 0) a_sizes) (.var 1)) [1] (.nm 1) (.rng1 (.bin .add (.attr (.var 0) a_whole) (.lit (.int 1)))) (.idx (.attr (.var 0) a_quiet) (.var 1))) .nil)))) .nil)⟩
def d_Banks_least_boat : DefR := ⟨1, 2, [], (.cons (.asg (.one (.nm 1)) (.meth (.var 0) a_least_cover .nil)) (.cons (.ite (.cmp .eq (.var 1) (.lit (.int 0))) (.cons (.ret (.lit (.int 1))) .nil) .nil) (.cons (.ret (.ite (.cmp .isnot (.meth (.var 0) a_fewest (.cons (.var 1) .nil)) (.lit .non)) (.var 1) (.bin .add (.var 1) (.lit (.int 1))))) .nil)))⟩
def d_is_whole : DefR := ⟨1, 1, [], (.cons (.ret (.and (.isa (.var 0) .int) (.not (.isa (.var 0) .bool)))) .nil)⟩
def d_is_between : DefR := ⟨3, 3, [], (.cons (.ret (.and (.call f_is_whole (.cons (.var 0) .nil)) (.chain .le .le (.var 1) (.var 0) (.var 2)))) .nil)⟩
def d_is_string : DefR := ⟨1, 1, [], (.cons (.ret (.isa (.var 0) .str)) .nil)⟩
def d_is_made_of : DefR := ⟨2, 3, [], (.cons (.ret (.and (.cmp .ne (.var 0) (.lit (.str []))) (.blt .all (.cons (.lc (.cmp .inn (.var 2) (.var 1)) [2] (.nm 2) (.seq (.var 0)) .yes) .nil)))) .nil)⟩
def d_is_name : DefR := ⟨1, 1, [], (.cons (.ret (.and (.call f_is_string (.cons (.var 0) .nil)) (.and (.cmp .le (.blt .len (.cons (.var 0) .nil)) (.glob g_LONGEST_NAME)) (.call f_is_made_of (.cons (.var 0) (.cons (.glob g_SMALL_LETTERS) .nil)))))) .nil)⟩
def d_is_tuple_of : DefR := ⟨2, 2, [], (.cons (.ret (.and (.isa (.var 0) .tuple) (.cmp .eq (.blt .len (.cons (.var 0) .nil)) (.var 1)))) .nil)⟩
def d_is_row : DefR := ⟨3, 3, [], (.cons (.ret (.and (.isa (.var 0) .tuple) (.chain .le .le (.var 1) (.blt .len (.cons (.var 0) .nil)) (.var 2)))) .nil)⟩
def d_first_wrong : DefR := ⟨2, 4, [], (.cons (.for (.tup [2, 3]) (.enum (.var 0)) (.cons (.ite (.not (.cloc 1 (.cons (.var 3) (.cons (.sl (.var 0) .nopart (.var 2)) .nil)))) (.cons (.ret (.var 2)) .nil) .nil) .nil)) (.cons (.ret (.lit .non)) .nil))⟩
def d_words_of : DefR := ⟨1, 2, [], (.cons (.asg (.one (.nm 1)) (.bmeth .split (.var 0) (.cons (.lit (.str [32])) .nil))) (.cons (.ret (.ite (.cmp .inn (.lit (.str [])) (.var 1)) (.lit .non) (.var 1))) .nil))⟩
def d_wrong_name : DefR := ⟨1, 1, [], (.cons (.ret (.calll f_first_wrong (.cons (.var 0) .nil) l_0)) .nil)⟩
def d_is_one_of : DefR := ⟨2, 2, [], (.cons (.ret (.and (.call f_is_string (.cons (.var 1) .nil)) (.cmp .inn (.var 1) (.var 0)))) .nil)⟩
def d_is_pair : DefR := ⟨2, 3, [], (.cons (.ite (.or (.not (.call f_is_tuple_of (.cons (.var 1) (.cons (.lit (.int 2)) .nil)))) (.not (.blt .all (.cons (.lc (.call f_is_one_of (.cons (.var 0) (.cons (.var 2) .nil))) [2] (.nm 2) (.seq (.var 1)) .yes) .nil)))) (.cons (.ret (.lit (.bl false))) .nil) .nil) (.cons (.ret (.cmp .lt (.idx (.var 1) (.lit (.int 0))) (.idx (.var 1) (.lit (.int 1))))) .nil))⟩
def d_wrong_pair : DefR := ⟨2, 2, [], (.cons (.ret (.calll f_first_wrong (.cons (.var 1) .nil) l_1)) .nil)⟩
def d_check_things : DefR := ⟨1, 2, [], (.cons (.ite (.not (.call f_is_row (.cons (.var 0) (.cons (.lit (.int 1)) (.cons (.glob g_MOST_THINGS) .nil))))) (.cons (.raise c_InvalidThings (.cons (.lit .non) .nil)) .nil) .nil) (.cons (.asg (.one (.nm 1)) (.call f_wrong_name (.cons (.var 0) .nil))) (.cons (.ite (.cmp .isnot (.var 1) (.lit .non)) (.cons (.raise c_InvalidThings (.cons (.var 1) .nil)) .nil) .nil) .nil)))⟩
def d_check_quarrels : DefR := ⟨2, 3, [], (.cons (.ite (.not (.isa (.var 1) .tuple)) (.cons (.raise c_InvalidQuarrels (.cons (.lit .non) .nil)) .nil) .nil) (.cons (.asg (.one (.nm 2)) (.call f_wrong_pair (.cons (.var 0) (.cons (.var 1) .nil)))) (.cons (.ite (.cmp .isnot (.var 2) (.lit .non)) (.cons (.raise c_InvalidQuarrels (.cons (.var 2) .nil)) .nil) .nil) .nil)))⟩
def d_Party___init__ : DefR := ⟨3, 3, [], (.cons (.expr (.call f_check_things (.cons (.var 1) .nil))) (.cons (.expr (.call f_check_quarrels (.cons (.var 1) (.cons (.var 2) .nil)))) (.cons (.asg (.one (.attr (.var 0) a_things)) (.var 1)) (.cons (.asg (.one (.attr (.var 0) a_quarrels)) (.var 2)) .nil))))⟩
def d_check_party : DefR := ⟨1, 1, [], (.cons (.ite (.not (.isa (.var 0) (.cls c_Party))) (.cons (.raise c_NotAParty (.cons (.var 0) .nil)) .nil) .nil) .nil)⟩
def d_is_thing : DefR := ⟨2, 2, [], (.cons (.ret (.call f_is_one_of (.cons (.attr (.var 0) a_things) (.cons (.var 1) .nil)))) .nil)⟩
def d_is_lot : DefR := ⟨2, 5, [], (.cons (.ite (.or (.not (.isa (.var 1) .tuple)) (.not (.blt .all (.cons (.lc (.call f_is_thing (.cons (.var 0) (.cons (.var 2) .nil))) [2] (.nm 2) (.seq (.var 1)) .yes) .nil)))) (.cons (.ret (.lit (.bl false))) .nil) .nil) (.cons (.ret (.blt .all (.cons (.lc (.cmp .lt (.var 3) (.var 4)) [3, 4] (.tup [3, 4]) (.zip (.var 1) (.sl (.var 1) (.lit (.int 1)) .nopart)) .yes) .nil))) .nil))⟩
def d_rest_of : DefR := ⟨2, 3, [], (.cons (.ret (.blt .tuple (.cons (.lc (.var 2) [2] (.nm 2) (.seq (.attr (.var 0) a_things)) (.cmp .notin (.var 2) (.var 1))) .nil))) .nil)⟩
def d_is_seats : DefR := ⟨1, 1, [], (.cons (.ret (.call f_is_between (.cons (.var 0) (.cons (.lit (.int 0)) (.cons (.glob g_MOST_SEATS) .nil))))) .nil)⟩
def d_check_seats : DefR := ⟨1, 1, [], (.cons (.ite (.not (.call f_is_seats (.cons (.var 0) .nil))) (.cons (.raise c_InvalidNumber (.cons (.var 0) .nil)) .nil) .nil) .nil)⟩
def d_check_boat : DefR := ⟨2, 2, [], (.cons (.expr (.call f_check_party (.cons (.var 0) .nil))) (.cons (.expr (.call f_check_seats (.cons (.var 1) .nil))) .nil))⟩
def d_is_quiet_by : DefR := ⟨2, 4, [], (.cons (.ret (.not (.blt .any (.cons (.lc (.and (.cmp .inn (.var 2) (.var 1)) (.cmp .inn (.var 3) (.var 1))) [2, 3] (.tup [2, 3]) (.seq (.attr (.var 0) a_quarrels)) .yes) .nil)))) .nil)⟩
def d_struck_by : DefR := ⟨2, 3, [], (.cons (.ret (.call f_with_quarrels (.cons (.var 0) (.cons (.lc (.var 2) [2] (.nm 2) (.seq (.attr (.var 0) a_quarrels)) (.cmp .notin (.var 2) (.var 1))) .nil)))) .nil)⟩
def d_first_stand : DefR := ⟨1, 1, [], (.cons (.ret (.tup (.cons (.lit (.int 0)) (.cons (.attr (.var 0) a_things) .nil)))) .nil)⟩
def d_with_boat : DefR := ⟨2, 4, [], (.cons (.asg (.tup [(.nm 2), (.nm 3)]) (.var 1)) (.cons (.ret (.ite (.cmp .eq (.var 2) (.lit (.int 0))) (.var 3) (.call f_rest_of (.cons (.var 0) (.cons (.var 3) .nil))))) .nil))⟩
def d_left_by : DefR := ⟨2, 4, [], (.cons (.asg (.tup [(.nm 2), (.nm 3)]) (.var 1)) (.cons (.ret (.ite (.cmp .eq (.var 2) (.lit (.int 0))) (.call f_rest_of (.cons (.var 0) (.cons (.var 3) .nil))) (.var 3))) .nil))⟩
def d_is_calm_by : DefR := ⟨2, 2, [], (.cons (.ret (.call f_is_quiet_by (.cons (.var 0) (.cons (.call f_left_by (.cons (.var 0) (.cons (.var 1) .nil))) .nil)))) .nil)⟩
def d_behind_load : DefR := ⟨3, 6, [], (.cons (.asg (.tup [(.nm 3), (.nm 4)]) (.var 1)) (.cons (.ite (.cmp .eq (.var 3) (.lit (.int 0))) (.cons (.ret (.tup (.cons (.lit (.int 1)) (.cons (.blt .tuple (.cons (.lc (.var 5) [5] (.nm 5) (.seq (.var 4)) (.cmp .notin (.var 5) (.var 2))) .nil)) .nil)))) .nil) .nil) (.cons (.ret (.tup (.cons (.lit (.int 0)) (.cons (.blt .tuple (.cons (.lc (.var 5) [5] (.nm 5) (.seq (.attr (.var 0) a_things)) (.or (.cmp .inn (.var 5) (.var 4)) (.cmp .inn (.var 5) (.var 2)))) .nil)) .nil)))) .nil)))⟩
def d_lies_within : DefR := ⟨2, 3, [], (.cons (.ret (.blt .all (.cons (.lc (.cmp .inn (.var 2) (.var 1)) [2] (.nm 2) (.seq (.var 0)) .yes) .nil))) .nil)⟩
def d_least_boat_by : DefR := ⟨1, 1, [], (.cons (.ret (.meth (.call f_banks_of (.cons (.var 0) .nil)) a_least_boat .nil)) .nil)⟩
def d_has_form : DefR := ⟨1, 1, [], (.cons (.ite (.or (.not (.isa (.var 0) .tuple)) (.or (.cmp .eq (.blt .len (.cons (.var 0) .nil)) (.lit (.int 0))) (.not (.call f_is_string (.cons (.idx (.var 0) (.lit (.int 0))) .nil))))) (.cons (.ret (.lit (.bl false))) .nil) .nil) (.cons (.ret (.and (.dknown 0 (.idx (.var 0) (.lit (.int 0)))) (.cmp .eq (.blt .len (.cons (.var 0) .nil)) (.dkget 0 (.idx (.var 0) (.lit (.int 0))))))) .nil))⟩
def d_check_deed : DefR := ⟨2, 2, [], (.cons (.ite (.not (.call f_has_form (.cons (.var 1) .nil))) (.cons (.raise c_InvalidDeed (.cons (.lit (.int 0)) .nil)) .nil) .nil) (.cons (.ite (.cmp .eq (.idx (.var 1) (.lit (.int 0))) (.lit (.str [99, 114, 111, 115, 115]))) (.cons (.ite (.not (.call f_is_lot (.cons (.var 0) (.cons (.idx (.var 1) (.lit (.int 1))) .nil)))) (.cons (.raise c_InvalidDeed (.cons (.lit (.int 1)) .nil)) .nil) .nil) (.cons .retn .nil)) .nil) (.cons (.ite (.not (.call f_is_thing (.cons (.var 0) (.cons (.idx (.var 1) (.lit (.int 1))) .nil)))) (.cons (.raise c_InvalidDeed (.cons (.lit (.int 1)) .nil)) .nil) .nil) (.cons (.ite (.or (.not (.call f_is_thing (.cons (.var 0) (.cons (.idx (.var 1) (.lit (.int 2))) .nil)))) (.cmp .eq (.idx (.var 1) (.lit (.int 1))) (.idx (.var 1) (.lit (.int 2))))) (.cons (.raise c_InvalidDeed (.cons (.lit (.int 2)) .nil)) .nil) .nil) .nil))))⟩
def d_pair_of : DefR := ⟨1, 1, [], (.cons (.ret (.tup (.cons (.blt .min (.cons (.sl (.var 0) (.lit (.int 1)) .nopart) .nil)) (.cons (.blt .max (.cons (.sl (.var 0) (.lit (.int 1)) .nopart) .nil)) .nil)))) .nil)⟩
def d_state_behind : DefR := ⟨3, 3, [], (.cons (.ite (.cmp .eq (.idx (.var 2) (.lit (.int 0))) (.lit (.str [99, 114, 111, 115, 115]))) (.cons (.ret (.tup (.cons (.var 0) (.cons (.call f_behind_load (.cons (.var 0) (.cons (.var 1) (.cons (.idx (.var 2) (.lit (.int 1))) .nil)))) .nil)))) .nil) .nil) (.cons (.ite (.cmp .eq (.idx (.var 2) (.lit (.int 0))) (.lit (.str [113, 117, 97, 114, 114, 101, 108]))) (.cons (.ret (.tup (.cons (.call f_with_quarrels (.cons (.var 0) (.cons (.stars (.attr (.var 0) a_quarrels) (.cons (.call f_pair_of (.cons (.var 2) .nil)) .nil)) .nil))) (.cons (.var 1) .nil)))) .nil) .nil) (.cons (.ret (.tup (.cons (.call f_struck_by (.cons (.var 0) (.cons (.tup (.cons (.call f_pair_of (.cons (.var 2) .nil)) .nil)) .nil))) (.cons (.var 1) .nil)))) .nil)))⟩
def d_reason_by_itself : DefR := ⟨4, 4, [], (.cons (.ite (.cmp .eq (.idx (.var 3) (.lit (.int 0))) (.lit (.str [99, 114, 111, 115, 115]))) (.cons (.ite (.not (.call f_lies_within (.cons (.idx (.var 3) (.lit (.int 1))) (.cons (.call f_with_boat (.cons (.var 0) (.cons (.var 2) .nil))) .nil)))) (.cons (.ret (.glob g_AWAY)) .nil) .nil) (.cons (.ret (.ite (.cmp .gt (.blt .len (.cons (.idx (.var 3) (.lit (.int 1))) .nil)) (.var 1)) (.glob g_MANY) (.lit .non))) .nil)) .nil) (.cons (.ite (.cmp .eq (.idx (.var 3) (.lit (.int 0))) (.lit (.str [113, 117, 97, 114, 114, 101, 108]))) (.cons (.ret (.ite (.cmp .inn (.call f_pair_of (.cons (.var 3) .nil)) (.attr (.var 0) a_quarrels)) (.glob g_HAD) (.lit .non))) .nil) .nil) (.cons (.ret (.ite (.cmp .notin (.call f_pair_of (.cons (.var 3) .nil)) (.attr (.var 0) a_quarrels)) (.glob g_NONE_deeds) (.lit .non))) .nil)))⟩
def d_reason_against : DefR := ⟨4, 7, [], (.cons (.asg (.one (.nm 4)) (.call f_reason_by_itself (.cons (.var 0) (.cons (.var 1) (.cons (.var 2) (.cons (.var 3) .nil)))))) (.cons (.ite (.cmp .isnot (.var 4) (.lit .non)) (.cons (.ret (.var 4)) .nil) .nil) (.cons (.asg (.tup [(.nm 5), (.nm 6)]) (.call f_state_behind (.cons (.var 0) (.cons (.var 2) (.cons (.var 3) .nil))))) (.cons (.ret (.ite (.call f_is_calm_by (.cons (.var 5) (.cons (.var 6) .nil))) (.lit .non) (.glob g_LOUD))) .nil))))⟩
def d_check_barred : DefR := ⟨4, 5, [], (.cons (.asg (.one (.nm 4)) (.call f_reason_against (.cons (.var 0) (.cons (.var 1) (.cons (.var 2) (.cons (.var 3) .nil)))))) (.cons (.ite (.cmp .isnot (.var 4) (.lit .non)) (.cons (.raise c_Barred (.cons (.var 4) .nil)) .nil) .nil) .nil))⟩
def d_distance_by : DefR := ⟨4, 4, [], (.cons (.ret (.bmeth .get (.call f_steps_from (.cons (.var 0) (.cons (.var 1) (.cons (.var 2) .nil)))) (.cons (.var 3) .nil))) .nil)⟩
def d_left_from : DefR := ⟨3, 3, [], (.cons (.ret (.call f_distance_by (.cons (.var 0) (.cons (.var 1) (.cons (.var 2) (.cons (.glob g_LAST) .nil)))))) .nil)⟩
def d_Ferry___init__ : DefR := ⟨3, 3, [], (.cons (.expr (.call f_check_boat (.cons (.var 1) (.cons (.var 2) .nil)))) (.cons (.asg (.one (.attr (.var 0) a_begun)) (.var 1)) (.cons (.asg (.one (.attr (.var 0) a_party)) (.var 1)) (.cons (.asg (.one (.attr (.var 0) a_seats)) (.var 2)) (.cons (.asg (.one (.attr (.var 0) a_stand)) (.call f_first_stand (.cons (.var 1) .nil))) (.cons (.asg (.one (.attr (.var 0) a_deeds)) (.tup .nil)) (.cons (.asg (.one (.attr (.var 0) a_past)) (.lst .nil)) .nil)))))))⟩
def d_Ferry_do : DefR := ⟨2, 2, [], (.cons (.expr (.call f_check_deed (.cons (.attr (.var 0) a_party) (.cons (.var 1) .nil)))) (.cons (.expr (.call f_check_barred (.cons (.attr (.var 0) a_party) (.cons (.attr (.var 0) a_seats) (.cons (.attr (.var 0) a_stand) (.cons (.var 1) .nil)))))) (.cons (.expr (.bmeth .append (.attr (.var 0) a_past) (.cons (.tup (.cons (.attr (.var 0) a_party) (.cons (.attr (.var 0) a_stand) .nil))) .nil))) (.cons (.asg (.tup [(.attr (.var 0) a_party), (.attr (.var 0) a_stand)]) (.call f_state_behind (.cons (.attr (.var 0) a_party) (.cons (.attr (.var 0) a_stand) (.cons (.var 1) .nil))))) (.cons (.asg (.one (.attr (.var 0) a_deeds)) (.bin .add (.attr (.var 0) a_deeds) (.tup (.cons (.var 1) .nil)))) .nil)))))⟩
def d_Ferry_undo : DefR := ⟨1, 1, [], (.cons (.ite (.cmp .eq (.attr (.var 0) a_past) (.lst .nil)) (.cons (.raise c_NothingToUndo .nil) .nil) .nil) (.cons (.asg (.tup [(.attr (.var 0) a_party), (.attr (.var 0) a_stand)]) (.bmeth .pop (.attr (.var 0) a_past) .nil)) (.cons (.asg (.one (.attr (.var 0) a_deeds)) (.sl (.attr (.var 0) a_deeds) .nopart (.un .neg (.lit (.int 1))))) .nil)))⟩
def d_Ferry_is_over : DefR := ⟨1, 1, [], (.cons (.ret (.cmp .eq (.attr (.var 0) a_stand) (.glob g_LAST))) .nil)⟩
def d_Ferry_left : DefR := ⟨1, 1, [], (.cons (.ret (.call f_left_from (.cons (.attr (.var 0) a_party) (.cons (.attr (.var 0) a_seats) (.cons (.attr (.var 0) a_stand) .nil))))) .nil)⟩
def d_check_ferry : DefR := ⟨1, 1, [], (.cons (.ite (.not (.isa (.var 0) (.cls c_Ferry))) (.cons (.raise c_NotAFerry (.cons (.var 0) .nil)) .nil) .nil) .nil)⟩
def d_copy_of : DefR := ⟨1, 3, [], (.cons (.asg (.one (.nm 1)) (.mk c_Ferry (.cons (.attr (.var 0) a_begun) (.cons (.attr (.var 0) a_seats) .nil)))) (.cons (.for (.nm 2) (.seq (.attr (.var 0) a_deeds)) (.cons (.expr (.meth (.var 1) a_do (.cons (.var 2) .nil))) .nil)) (.cons (.ret (.var 1)) .nil)))⟩
def d_text_or_none : DefR := ⟨1, 1, [], (.cons (.ret (.ite (.cmp .is (.var 0) (.lit .non)) (.glob g_NONE_consoles) (.blt .str (.cons (.var 0) .nil)))) .nil)⟩
def d_deed_in : DefR := ⟨1, 1, [], (.cons (.ite (.cmp .eq (.idx (.var 0) (.lit (.int 0))) (.lit (.str [99, 114, 111, 115, 115]))) (.cons (.ret (.tup (.cons (.lit (.str [99, 114, 111, 115, 115])) (.cons (.blt .tuple (.cons (.sl (.var 0) (.lit (.int 1)) .nopart) .nil)) .nil)))) .nil) .nil) (.cons (.ret (.ite (.cmp .inn (.idx (.var 0) (.lit (.int 0))) (.tup (.cons (.lit (.str [113, 117, 97, 114, 114, 101, 108])) (.cons (.lit (.str [115, 101, 116, 116, 108, 101])) .nil)))) (.blt .tuple (.cons (.var 0) .nil)) (.lit .non))) .nil))⟩
def d_said_of_deed : DefR := ⟨2, 3, [], (.cons (.try1 false (.meth (.var 0) a_do (.cons (.var 1) .nil)) [(c_InvalidDeed, none, (.glob g_LOST)), (c_Barred, some 2, (.exattr a_reason))]) (.cons (.ret (.glob g_DONE)) .nil))⟩
def d_said_of_undo : DefR := ⟨1, 1, [], (.cons (.try1 false (.meth (.var 0) a_undo .nil) [(c_NothingToUndo, none, (.glob g_NOTHING))]) (.cons (.ret (.glob g_DONE)) .nil))⟩
def d_said_of_word : DefR := ⟨2, 2, [], (.cons (.ite (.cmp .eq (.var 1) (.lit (.str [117, 110, 100, 111]))) (.cons (.ret (.call f_said_of_undo (.cons (.var 0) .nil))) .nil) .nil) (.cons (.ite (.cmp .eq (.var 1) (.lit (.str [104, 101, 114, 101]))) (.cons (.ret (.ite (.cmp .ne (.idx (.attr (.var 0) a_stand) (.lit (.int 1))) (.tup .nil)) (.bmeth .join (.lit (.str [32])) (.cons (.idx (.attr (.var 0) a_stand) (.lit (.int 1))) .nil)) (.glob g_NONE_consoles))) .nil) .nil) (.cons (.ite (.cmp .eq (.var 1) (.lit (.str [115, 105, 100, 101]))) (.cons (.ret (.blt .str (.cons (.idx (.attr (.var 0) a_stand) (.lit (.int 0))) .nil))) .nil) .nil) (.cons (.ite (.cmp .eq (.var 1) (.lit (.str [108, 101, 102, 116]))) (.cons (.ret (.call f_text_or_none (.cons (.meth (.var 0) a_left .nil) .nil))) .nil) .nil) (.cons (.ite (.cmp .eq (.var 1) (.lit (.str [98, 111, 97, 116]))) (.cons (.ret (.blt .str (.cons (.call f_least_boat_by (.cons (.attr (.var 0) a_party) .nil)) .nil))) .nil) .nil) (.cons (.ite (.cmp .eq (.var 1) (.lit (.str [111, 118, 101, 114]))) (.cons (.ret (.ite (.meth (.var 0) a_is_over .nil) (.lit (.str [121, 101, 115])) (.lit (.str [110, 111])))) .nil) .nil) (.cons (.ret (.lit .non)) .nil)))))))⟩
def d_Console___init__ : DefR := ⟨2, 2, [], (.cons (.expr (.call f_check_ferry (.cons (.var 1) .nil))) (.cons (.asg (.one (.attr (.var 0) a_ferry)) (.call f_copy_of (.cons (.var 1) .nil))) .nil))⟩
def d_Console_say : DefR := ⟨2, 5, [], (.cons (.ite (.not (.call f_is_string (.cons (.var 1) .nil))) (.cons (.raise c_InvalidLine (.cons (.var 1) .nil)) .nil) .nil) (.cons (.asg (.one (.nm 2)) (.call f_words_of (.cons (.var 1) .nil))) (.cons (.ite (.cmp .is (.var 2) (.lit .non)) (.cons (.ret (.glob g_LOST)) .nil) .nil) (.cons (.asg (.one (.nm 3)) (.call f_deed_in (.cons (.var 2) .nil))) (.cons (.ite (.cmp .isnot (.var 3) (.lit .non)) (.cons (.ret (.call f_said_of_deed (.cons (.attr (.var 0) a_ferry) (.cons (.var 3) .nil)))) .nil) .nil) (.cons (.asg (.one (.nm 4)) (.ite (.cmp .eq (.blt .len (.cons (.var 2) .nil)) (.lit (.int 1))) (.call f_said_of_word (.cons (.attr (.var 0) a_ferry) (.cons (.idx (.var 2) (.lit (.int 0))) .nil))) (.lit .non))) (.cons (.ret (.ite (.cmp .is (.var 4) (.lit .non)) (.glob g_LOST) (.var 4))) .nil)))))))⟩
def d__law_pool : DefR := ⟨2, 5, [], (.cons (.asg (.tup [(.nm 2), (.nm 3)]) (.tup (.cons (.ite (.cmp .lt (.var 1) (.blt .len (.cons (.var 0) .nil))) (.blt .int (.cons (.idx (.var 0) (.var 1)) .nil)) (.bin .add (.bin .mul (.lit (.int 70001)) (.var 1)) (.lit (.int 89)))) (.cons (.bin .add (.lit (.int 60089)) (.bin .mul (.lit (.int 5059)) (.var 1))) .nil)))) (.cons (.for (.nm 4) (.seq (.sl (.var 0) .nopart (.lit (.int 6)))) (.cons (.asg (.one (.nm 3)) (.bin .mod (.blt .int (.cons (.bin .add (.bin .add (.bin .mul (.var 3) (.lit (.int 48271))) (.bin .mod (.blt .int (.cons (.var 4) .nil)) (.lit (.int 2147482937)))) (.lit (.int 43))) .nil)) (.lit (.int 2147482937)))) .nil)) (.cons (.ret (.lst (.cons (.bin .mod (.blt .int (.cons (.bin .add (.var 3) (.bin .mul (.var 2) (.lit (.int 1033)))) .nil)) (.lit (.int 2147482937))) (.cons (.ite (.or (.cmp .lt (.var 2) (.lit (.int 0))) (.cmp .ge (.var 2) (.bin .pow (.lit (.int 10)) (.lit (.int 18))))) (.blt .abs (.cons (.var 2) .nil)) (.lit (.int 0))) (.cons (.lit (.int 0)) .nil))))) .nil)))⟩
def d__law_draw : DefR := ⟨2, 4, [], (.cons (.ite (.cmp .gt (.idx (.var 0) (.lit (.int 1))) (.lit (.int 0))) (.cons (.asg (.tup [(.idx (.var 0) (.lit (.int 1))), (.nm 2)]) (.blt .divmod (.cons (.idx (.var 0) (.lit (.int 1))) (.cons (.var 1) .nil)))) (.cons (.ret (.var 2)) .nil)) .nil) (.cons (.asg (.one (.idx (.var 0) (.lit (.int 2)))) (.bin .add (.idx (.var 0) (.lit (.int 2))) (.lit (.int 1)))) (.cons (.asg (.one (.nm 3)) (.blt .int (.cons (.idx (.var 0) (.lit (.int 0))) .nil))) (.cons (.asg (.one (.idx (.var 0) (.lit (.int 0)))) (.bin .mod (.blt .int (.cons (.bin .add (.bin .add (.bin .mul (.var 3) (.bin .add (.bin .mod (.var 3) (.lit (.int 20011))) (.lit (.int 30011)))) (.bin .mul (.lit (.int 70001)) (.idx (.var 0) (.lit (.int 2))))) (.lit (.int 9))) .nil)) (.lit (.int 2147482937)))) (.cons (.ret (.bin .mod (.blt .int (.cons (.bin .fdiv (.idx (.var 0) (.lit (.int 0))) (.lit (.int 128))) .nil)) (.var 1))) .nil)))))⟩
def d__law_pick : DefR := ⟨2, 2, [], (.cons (.ret (.idx (.var 1) (.call f__law_draw (.cons (.var 0) (.cons (.blt .len (.cons (.var 1) .nil)) .nil))))) .nil)⟩
def d__law_odd_line : DefR := ⟨1, 5, [], (.cons (.asg (.one (.nm 1)) (.lst (.cons (.lit (.str [99, 114, 111, 115, 115, 32, 99, 97, 116])) (.cons (.lit (.str [99, 114, 111, 115, 115])) (.cons (.lit (.str [113, 117, 97, 114, 114, 101, 108, 32, 99, 97, 116, 32, 100, 111, 103])) (.cons (.lit (.str [115, 101, 116, 116, 108, 101, 32, 99, 97, 116, 32, 100, 111, 103])) (.cons (.lit (.str [117, 110, 100, 111])) (.cons (.lit (.str [104, 101, 114, 101])) (.cons (.lit (.str [115, 105, 100, 101])) (.cons (.lit (.str [108, 101, 102, 116])) (.cons (.lit (.str [98, 111, 97, 116])) (.cons (.lit (.str [111, 118, 101, 114])) .nil)))))))))))) (.cons (.asg (.tup [(.nm 2), (.nm 3)]) (.tup (.cons (.call f__law_pick (.cons (.var 0) (.cons (.var 1) .nil))) (.cons (.call f__law_draw (.cons (.var 0) (.cons (.lit (.int 6)) .nil))) .nil)))) (.cons (.ite (.cmp .eq (.var 3) (.lit (.int 0))) (.cons (.ret (.bin .add (.var 2) (.call f__law_pick (.cons (.var 0) (.cons (.lst (.cons (.lit (.str [32])) (.cons (.lit (.str [32, 122, 111, 111])) (.cons (.lit (.str [32, 32])) (.cons (.lit (.str [9])) (.cons (.lit (.str [46])) (.cons (.lit (.str [32, 48])) (.cons (.lit (.str [45])) (.cons (.lit (.str [115])) .nil))))))))) .nil))))) .nil) .nil) (.cons (.ite (.cmp .eq (.var 3) (.lit (.int 1))) (.cons (.ret (.bin .add (.call f__law_pick (.cons (.var 0) (.cons (.lst (.cons (.lit (.str [32])) (.cons (.lit (.str [120])) (.cons (.lit (.str [45])) .nil)))) .nil))) (.var 2))) .nil) .nil) (.cons (.ite (.cmp .eq (.var 3) (.lit (.int 2))) (.cons (.ret (.ite (.cmp .inn (.lit (.str [32])) (.var 2)) (.bmeth .replace (.var 2) (.cons (.lit (.str [32])) (.cons (.lit (.str [32, 32])) .nil))) (.bin .add (.bin .add (.var 2) (.lit (.str [32, 32]))) (.var 2)))) .nil) .nil) (.cons (.ite (.cmp .eq (.var 3) (.lit (.int 3))) (.cons (.ret (.bin .add (.bmeth .upper (.sl (.var 2) .nopart (.lit (.int 1))) .nil) (.sl (.var 2) (.lit (.int 1)) .nopart))) .nil) .nil) (.cons (.ite (.and (.cmp .eq (.var 3) (.lit (.int 4))) (.cmp .inn (.lit (.str [32, 99, 97, 116])) (.var 2))) (.cons (.ret (.bmeth .replace (.var 2) (.cons (.lit (.str [32, 99, 97, 116])) (.cons (.call f__law_pick (.cons (.var 0) (.cons (.lit (.cl [.str [32, 122, 111, 111], .str [32, 67, 97, 116], .str [32, 99, 97], .str [32, 48], .str [32, 99, 97, 116, 115]])) .nil))) .nil)))) .nil) .nil) (.cons (.asg (.one (.nm 4)) (.lst (.cons (.lit (.str [])) (.cons (.lit (.str [32])) (.cons (.lit (.str [119, 104, 97, 116])) (.cons (.lit (.str [99, 114, 111, 115, 115, 32, 99, 97, 116, 32, 99, 97, 116])) (.cons (.lit (.str [99, 114, 111, 115, 115, 32, 122, 111, 111])) (.cons (.lit (.str [99, 114, 111, 115, 115, 32, 100, 111, 103, 32, 99, 97, 116, 32, 100, 111, 103])) (.cons (.lit (.str [113, 117, 97, 114, 114, 101, 108])) (.cons (.lit (.str [113, 117, 97, 114, 114, 101, 108, 32, 99, 97, 116])) (.cons (.lit (.str [115, 101, 116, 116, 108, 101, 32, 99, 97, 116])) .nil))))))))))) (.cons (.asg (.one (.nm 4)) (.bin .add (.var 4) (.lst (.cons (.lit (.str [113, 117, 97, 114, 114, 101, 108, 32, 99, 97, 116, 32, 100, 111, 103, 32, 104, 101, 110])) (.cons (.lit (.str [104, 101, 114, 101, 32, 49])) (.cons (.lit (.str [108, 101, 102, 116, 32, 49])) (.cons (.lit (.str [115, 105, 100, 101, 32, 99, 97, 116])) (.cons (.lit (.str [98, 111, 97, 116, 32, 49])) (.cons (.lit (.str [111, 118, 101, 114, 32, 48])) (.cons (.lit (.str [117, 110, 100, 111, 32, 49])) (.cons (.lit (.str [99, 114, 111, 115, 115, 32, 49])) .nil))))))))))) (.cons (.ret (.call f__law_pick (.cons (.var 0) (.cons (.bin .add (.var 4) (.lst (.cons (.lit (.str [113, 117, 97, 114, 114, 101, 108, 32, 99, 97, 116, 32, 99, 97, 116])) (.cons (.lit (.str [115, 101, 116, 116, 108, 101, 32, 104, 101, 110, 32, 104, 101, 110])) .nil)))) .nil)))) .nil))))))))))⟩
def d__law_refused : DefR := ⟨1, 2, [], (.cons (.try1 false (.cloc 0 .nil) [(c_InvalidLine, some 1, (.lst (.cons (.lit (.str [108, 105, 110, 101])) (.cons (.blt .repr (.cons (.exattr a_given) .nil)) (.cons (.exisa c_BankError) .nil))))), (c_NotAFerry, some 1, (.lst (.cons (.lit (.str [102, 101, 114, 114, 121])) (.cons (.blt .repr (.cons (.exattr a_given) .nil)) (.cons (.exisa c_BankError) .nil)))))]) (.cons (.ret (.lit .non)) .nil))⟩
def d__law_right : DefR := ⟨1, 8, [], (.cons (.asg (.one (.nm 1)) (.mk c_Ferry (.cons (.mk c_Party (.cons (.tup (.cons (.lit (.str [99, 97, 116])) (.cons (.lit (.str [100, 111, 103])) (.cons (.lit (.str [104, 101, 110])) .nil)))) (.cons (.tup (.cons (.tup (.cons (.lit (.str [99, 97, 116])) (.cons (.lit (.str [100, 111, 103])) .nil))) (.cons (.tup (.cons (.lit (.str [100, 111, 103])) (.cons (.lit (.str [104, 101, 110])) .nil))) .nil))) .nil))) (.cons (.bin .add (.lit (.int 1)) (.call f__law_draw (.cons (.var 0) (.cons (.lit (.int 3)) .nil)))) .nil)))) (.cons (.asg (.one (.nm 2)) (.mkk c_Console 0 (.cons (.var 1) .nil))) (.cons (.asg (.one (.nm 3)) (.meth (.var 2) a_say (.cons (.lit (.str [99, 114, 111, 115, 115, 32, 100, 111, 103])) .nil))) (.cons (.forw [6] (.nm 4) (.rng1 (.lit (.int 40))) (.cons (.asg (.one (.nm 5)) (.call f__law_odd_line (.cons (.var 0) .nil))) (.cons (.asg (.one (.nm 6)) (.lst (.cons (.meth (.var 2) a_say (.cons (.var 5) .nil)) (.cons (.meth (.var 2) a_say (.cons (.lit (.str [104, 101, 114, 101])) .nil)) (.cons (.meth (.var 2) a_say (.cons (.lit (.str [115, 105, 100, 101])) .nil)) .nil))))) (.cons (.ite (.cmp .ne (.blt .repr (.cons (.var 6) .nil)) (.blt .repr (.cons (.lst (.cons (.lit (.str [110, 111, 116, 32, 117, 110, 100, 101, 114, 115, 116, 111, 111, 100])) (.cons (.lit (.str [99, 97, 116, 32, 104, 101, 110])) (.cons (.lit (.str [49])) .nil)))) .nil))) (.cons (.ret (.lit (.bl false))) .nil) .nil) .nil)))) (.cons (.for (.nm 7) (.seq (.lst (.cons (.lit .non) (.cons (.lit (.int 5)) (.cons (.tup (.cons (.lit (.str [104, 101, 114, 101])) .nil)) (.cons (.lst (.cons (.lit (.str [104, 101, 114, 101])) .nil)) (.cons (.lit (.bl true)) (.cons .dnew .nil)))))))) (.cons (.ite (.cmp .ne (.calll f__law_refused .nil l_2) (.lst (.cons (.lit (.str [108, 105, 110, 101])) (.cons (.blt .repr (.cons (.var 7) .nil)) (.cons (.lit (.bl true)) .nil))))) (.cons (.ret (.lit (.bl false))) .nil) .nil) (.cons (.ite (.cmp .ne (.calll f__law_refused .nil l_3) (.lst (.cons (.lit (.str [102, 101, 114, 114, 121])) (.cons (.blt .repr (.cons (.var 7) .nil)) (.cons (.lit (.bl true)) .nil))))) (.cons (.ret (.lit (.bl false))) .nil) .nil) .nil))) (.cons (.ret (.and (.cmp .eq (.var 3) (.lit (.str [100, 111, 110, 101]))) (.and (.cmp .eq (.attr (.var 1) a_deeds) (.tup .nil)) (.cmp .eq (.methk (.var 2) a_say 1 (.cons (.lit (.str [117, 110, 100, 111])) .nil)) (.lit (.str [100, 111, 110, 101])))))) .nil))))))⟩
def d_law : DefR := ⟨1, 2, [], (.cons (.ret (.blt .all (.cons (.lc (.call f__law_right (.cons (.call f__law_pool (.cons (.var 0) (.cons (.var 1) .nil))) .nil)) [1] (.nm 1) (.rng1 (.blt .max (.cons (.lit (.int 2)) (.cons (.blt .min (.cons (.blt .len (.cons (.var 0) .nil)) (.cons (.lit (.int 3)) .nil))) .nil)))) .yes) .nil))) .nil)⟩
def prg : Prg where
  defs := [some d_figures_of, none, none, none, none, none, none, some d_Banks_first, some d_Banks_fewest, some d_Banks_least_cover, some d_Banks_least_boat, none, none, none, none, none, none, none, none, none, some d_is_whole, some d_is_between, some d_is_string, some d_is_made_of, some d_is_name, some d_is_tuple_of, some d_is_row, some d_first_wrong, some d_words_of, some d_wrong_name, some d_is_one_of, some d_is_pair, some d_wrong_pair, some d_check_things, some d_check_quarrels, some d_Party___init__, none, none, some d_check_party, some d_is_thing, some d_is_lot, none, some d_rest_of, some d_is_seats, some d_check_seats, some d_check_boat, some d_is_quiet_by, none, some d_struck_by, some d_first_stand, some d_with_boat, some d_left_by, some d_is_calm_by, some d_behind_load, some d_lies_within, none, some d_least_boat_by, some d_has_form, some d_check_deed, some d_pair_of, some d_state_behind, some d_reason_by_itself, some d_reason_against, some d_check_barred, none, some d_distance_by, some d_left_from, some d_Ferry___init__, some d_Ferry_do, some d_Ferry_undo, some d_Ferry_is_over, some d_Ferry_left, none, none, some d_check_ferry, some d_copy_of, some d_text_or_none, some d_deed_in, some d_said_of_deed, some d_said_of_undo, some d_said_of_word, some d_Console___init__, some d_Console_say, some d__law_pool, some d__law_draw, some d__law_pick, some d__law_odd_line, some d__law_refused, some d__law_right, some d_law]
  lams := [L_0, L_1, L_2, L_3]
  cls := [⟨[(a_with_boat, f_Banks_with_boat), (a_loads, f_Banks_loads), (a_lead, f_Banks_lead), (a_steps, f_Banks_steps), (a_first, f_Banks_first), (a_fewest, f_Banks_fewest), (a_least_cover, f_Banks_least_cover), (a_least_boat, f_Banks_least_boat)], some f_Banks___init__, none, [0], none, [a_many, a_whole, a_bars, a_sizes, a_quiet], none⟩,
    ⟨[], none, none, [1], some [], [], none⟩,
    ⟨[], none, none, [2, 1], some [a_given], [], some f_InvalidNumber___init__⟩,
    ⟨[], none, none, [3, 1], some [a_given], [], some f_InvalidLine___init__⟩,
    ⟨[], none, none, [4, 1], some [a_given], [], some f_NotAParty___init__⟩,
    ⟨[], none, none, [5, 1], some [a_given], [], some f_NotAFerry___init__⟩,
    ⟨[], none, none, [6, 1], some [a_index], [], some f_InvalidThings___init__⟩,
    ⟨[], none, none, [7, 1], some [a_index], [], some f_InvalidQuarrels___init__⟩,
    ⟨[], none, none, [8, 1], some [a_index], [], some f_InvalidDeed___init__⟩,
    ⟨[], none, none, [9, 1], some [a_reason], [], some f_Barred___init__⟩,
    ⟨[], none, none, [10, 1], some [], [], none⟩,
    ⟨[], some f_Party___init__, some f_Party___eq__, [11], none, [a_things, a_quarrels], none⟩,
    ⟨[(a_do, f_Ferry_do), (a_undo, f_Ferry_undo), (a_is_over, f_Ferry_is_over), (a_left, f_Ferry_left)], some f_Ferry___init__, some f_Ferry___eq__, [12], none, [a_begun, a_party, a_seats, a_stand, a_deeds, a_past], none⟩,
    ⟨[(a_say, f_Console_say)], some f_Console___init__, none, [13], none, [a_ferry], none⟩]
  globs := [(.int 1), (.str [97, 98, 99, 100, 101, 102, 103, 104, 105, 106, 107, 108, 109, 110, 111, 112, 113, 114, 115, 116, 117, 118, 119, 120, 121, 122]), (.int 8), (.int 7), (.int 7), (.tup [(.int 1), (.tup [])]), (.str [97, 119, 97, 121]), (.str [109, 97, 110, 121]), (.str [108, 111, 117, 100]), (.str [104, 97, 100]), (.str [110, 111, 110, 101]), (.str [110, 111, 116, 32, 117, 110, 100, 101, 114, 115, 116, 111, 111, 100]), (.str [100, 111, 110, 101]), (.str [110, 111, 110, 101]), (.str [110, 111, 116, 104, 105, 110, 103])]
  dks := [[([99, 114, 111, 115, 115], (.int 2)), ([113, 117, 97, 114, 114, 101, 108], (.int 3)), ([115, 101, 116, 116, 108, 101], (.int 3))]]
  kws := [⟨f_Console___init__, 1, [0], 1⟩, ⟨f_Console_say, 1, [0], 1⟩]
  draw := f__law_draw
  pool := f__law_pool
theorem D_figures_of : prg.defs[f_figures_of]? = some (some d_figures_of) := rfl
theorem D_Banks_first : prg.defs[f_Banks_first]? = some (some d_Banks_first) := rfl
theorem D_Banks_fewest : prg.defs[f_Banks_fewest]? = some (some d_Banks_fewest) := rfl
theorem D_Banks_least_cover : prg.defs[f_Banks_least_cover]? = some (some d_Banks_least_cover) := rfl
theorem D_Banks_least_boat : prg.defs[f_Banks_least_boat]? = some (some d_Banks_least_boat) := rfl
theorem D_is_whole : prg.defs[f_is_whole]? = some (some d_is_whole) := rfl
theorem D_is_between : prg.defs[f_is_between]? = some (some d_is_between) := rfl
theorem D_is_string : prg.defs[f_is_string]? = some (some d_is_string) := rfl
theorem D_is_made_of : prg.defs[f_is_made_of]? = some (some d_is_made_of) := rfl
theorem D_is_name : prg.defs[f_is_name]? = some (some d_is_name) := rfl
theorem D_is_tuple_of : prg.defs[f_is_tuple_of]? = some (some d_is_tuple_of) := rfl
theorem D_is_row : prg.defs[f_is_row]? = some (some d_is_row) := rfl
theorem D_first_wrong : prg.defs[f_first_wrong]? = some (some d_first_wrong) := rfl
theorem D_words_of : prg.defs[f_words_of]? = some (some d_words_of) := rfl
theorem D_wrong_name : prg.defs[f_wrong_name]? = some (some d_wrong_name) := rfl
theorem D_is_one_of : prg.defs[f_is_one_of]? = some (some d_is_one_of) := rfl
theorem D_is_pair : prg.defs[f_is_pair]? = some (some d_is_pair) := rfl
theorem D_wrong_pair : prg.defs[f_wrong_pair]? = some (some d_wrong_pair) := rfl
theorem D_check_things : prg.defs[f_check_things]? = some (some d_check_things) := rfl
theorem D_check_quarrels : prg.defs[f_check_quarrels]? = some (some d_check_quarrels) := rfl
theorem D_Party___init__ : prg.defs[f_Party___init__]? = some (some d_Party___init__) := rfl
theorem D_check_party : prg.defs[f_check_party]? = some (some d_check_party) := rfl
theorem D_is_thing : prg.defs[f_is_thing]? = some (some d_is_thing) := rfl
theorem D_is_lot : prg.defs[f_is_lot]? = some (some d_is_lot) := rfl
theorem D_rest_of : prg.defs[f_rest_of]? = some (some d_rest_of) := rfl
theorem D_is_seats : prg.defs[f_is_seats]? = some (some d_is_seats) := rfl
theorem D_check_seats : prg.defs[f_check_seats]? = some (some d_check_seats) := rfl
theorem D_check_boat : prg.defs[f_check_boat]? = some (some d_check_boat) := rfl
theorem D_is_quiet_by : prg.defs[f_is_quiet_by]? = some (some d_is_quiet_by) := rfl
theorem D_struck_by : prg.defs[f_struck_by]? = some (some d_struck_by) := rfl
theorem D_first_stand : prg.defs[f_first_stand]? = some (some d_first_stand) := rfl
theorem D_with_boat : prg.defs[f_with_boat]? = some (some d_with_boat) := rfl
theorem D_left_by : prg.defs[f_left_by]? = some (some d_left_by) := rfl
theorem D_is_calm_by : prg.defs[f_is_calm_by]? = some (some d_is_calm_by) := rfl
theorem D_behind_load : prg.defs[f_behind_load]? = some (some d_behind_load) := rfl
theorem D_lies_within : prg.defs[f_lies_within]? = some (some d_lies_within) := rfl
theorem D_least_boat_by : prg.defs[f_least_boat_by]? = some (some d_least_boat_by) := rfl
theorem D_has_form : prg.defs[f_has_form]? = some (some d_has_form) := rfl
theorem D_check_deed : prg.defs[f_check_deed]? = some (some d_check_deed) := rfl
theorem D_pair_of : prg.defs[f_pair_of]? = some (some d_pair_of) := rfl
theorem D_state_behind : prg.defs[f_state_behind]? = some (some d_state_behind) := rfl
theorem D_reason_by_itself : prg.defs[f_reason_by_itself]? = some (some d_reason_by_itself) := rfl
theorem D_reason_against : prg.defs[f_reason_against]? = some (some d_reason_against) := rfl
theorem D_check_barred : prg.defs[f_check_barred]? = some (some d_check_barred) := rfl
theorem D_distance_by : prg.defs[f_distance_by]? = some (some d_distance_by) := rfl
theorem D_left_from : prg.defs[f_left_from]? = some (some d_left_from) := rfl
theorem D_Ferry___init__ : prg.defs[f_Ferry___init__]? = some (some d_Ferry___init__) := rfl
theorem D_Ferry_do : prg.defs[f_Ferry_do]? = some (some d_Ferry_do) := rfl
theorem D_Ferry_undo : prg.defs[f_Ferry_undo]? = some (some d_Ferry_undo) := rfl
theorem D_Ferry_is_over : prg.defs[f_Ferry_is_over]? = some (some d_Ferry_is_over) := rfl
theorem D_Ferry_left : prg.defs[f_Ferry_left]? = some (some d_Ferry_left) := rfl
theorem D_check_ferry : prg.defs[f_check_ferry]? = some (some d_check_ferry) := rfl
theorem D_copy_of : prg.defs[f_copy_of]? = some (some d_copy_of) := rfl
theorem D_text_or_none : prg.defs[f_text_or_none]? = some (some d_text_or_none) := rfl
theorem D_deed_in : prg.defs[f_deed_in]? = some (some d_deed_in) := rfl
theorem D_said_of_deed : prg.defs[f_said_of_deed]? = some (some d_said_of_deed) := rfl
theorem D_said_of_undo : prg.defs[f_said_of_undo]? = some (some d_said_of_undo) := rfl
theorem D_said_of_word : prg.defs[f_said_of_word]? = some (some d_said_of_word) := rfl
theorem D_Console___init__ : prg.defs[f_Console___init__]? = some (some d_Console___init__) := rfl
theorem D_Console_say : prg.defs[f_Console_say]? = some (some d_Console_say) := rfl
theorem D__law_pool : prg.defs[f__law_pool]? = some (some d__law_pool) := rfl
theorem D__law_draw : prg.defs[f__law_draw]? = some (some d__law_draw) := rfl
theorem D__law_pick : prg.defs[f__law_pick]? = some (some d__law_pick) := rfl
theorem D__law_odd_line : prg.defs[f__law_odd_line]? = some (some d__law_odd_line) := rfl
theorem D__law_refused : prg.defs[f__law_refused]? = some (some d__law_refused) := rfl
theorem D__law_right : prg.defs[f__law_right]? = some (some d__law_right) := rfl
theorem D_law : prg.defs[f_law]? = some (some d_law) := rfl
theorem DL_0 : prg.lams[l_0]? = some L_0 := rfl
theorem DL_1 : prg.lams[l_1]? = some L_1 := rfl
theorem DL_2 : prg.lams[l_2]? = some L_2 := rfl
theorem DL_3 : prg.lams[l_3]? = some L_3 := rfl
end Lw


set_option Elab.async false
set_option linter.all false
set_option maxRecDepth 100000
set_option maxHeartbeats 0
/-! G1: the names, the checks. -/
namespace Lw
open Rf PySem PySem.Spec PyProof.Rows L2
abbrev z (x : String) : Str := Str.ofString x
abbrev pw : Program := PySem.Challenge.pw_quietbanks_k85_lines_not_understood
def top (i : Nat) : Stmt := pw.main.body.getD i (.Pass ⟨0, 0, 0, 0⟩)
def sub (i j : Nat) : Stmt := (C8.clsBody (top i)).getD j (.Pass ⟨0, 0, 0, 0⟩)
def mkD (at_ : Str × Option Str) (nm qual : Str) (s : Stmt) (dfl : List He.Dv) : He.DefD := ⟨at_, nm, qual, defArgs s, defBody s, defScope s, dfl, []⟩
def DL : List He.DefD := [
  mkD ((z "figures_of"), none) (z "figures_of") (z "figures_of") (top 3) [],
  mkD ((z "within"), none) (z "within") (z "within") (top 4) [],
  mkD ((z "Banks"), some (z "__init__")) (z "__init__") (z "Banks.__init__") (sub 5 0) [],
  mkD ((z "Banks"), some (z "with_boat")) (z "with_boat") (z "Banks.with_boat") (sub 5 1) [],
  mkD ((z "Banks"), some (z "loads")) (z "loads") (z "Banks.loads") (sub 5 2) [],
  mkD ((z "Banks"), some (z "lead")) (z "lead") (z "Banks.lead") (sub 5 3) [],
  mkD ((z "Banks"), some (z "steps")) (z "steps") (z "Banks.steps") (sub 5 4) [],
  mkD ((z "Banks"), some (z "first")) (z "first") (z "Banks.first") (sub 5 5) [],
  mkD ((z "Banks"), some (z "fewest")) (z "fewest") (z "Banks.fewest") (sub 5 6) [],
  mkD ((z "Banks"), some (z "least_cover")) (z "least_cover") (z "Banks.least_cover") (sub 5 7) [],
  mkD ((z "Banks"), some (z "least_boat")) (z "least_boat") (z "Banks.least_boat") (sub 5 8) [],
  mkD ((z "banks_of"), none) (z "banks_of") (z "banks_of") (top 6) [],
  mkD ((z "InvalidNumber"), some (z "__init__")) (z "__init__") (z "InvalidNumber.__init__") (sub 9 0) [],
  mkD ((z "InvalidLine"), some (z "__init__")) (z "__init__") (z "InvalidLine.__init__") (sub 10 0) [],
  mkD ((z "NotAParty"), some (z "__init__")) (z "__init__") (z "NotAParty.__init__") (sub 11 0) [],
  mkD ((z "NotAFerry"), some (z "__init__")) (z "__init__") (z "NotAFerry.__init__") (sub 12 0) [],
  mkD ((z "InvalidThings"), some (z "__init__")) (z "__init__") (z "InvalidThings.__init__") (sub 13 0) [],
  mkD ((z "InvalidQuarrels"), some (z "__init__")) (z "__init__") (z "InvalidQuarrels.__init__") (sub 14 0) [],
  mkD ((z "InvalidDeed"), some (z "__init__")) (z "__init__") (z "InvalidDeed.__init__") (sub 15 0) [],
  mkD ((z "Barred"), some (z "__init__")) (z "__init__") (z "Barred.__init__") (sub 16 0) [],
  mkD ((z "is_whole"), none) (z "is_whole") (z "is_whole") (top 21) [],
  mkD ((z "is_between"), none) (z "is_between") (z "is_between") (top 22) [],
  mkD ((z "is_string"), none) (z "is_string") (z "is_string") (top 23) [],
  mkD ((z "is_made_of"), none) (z "is_made_of") (z "is_made_of") (top 24) [],
  mkD ((z "is_name"), none) (z "is_name") (z "is_name") (top 25) [],
  mkD ((z "is_tuple_of"), none) (z "is_tuple_of") (z "is_tuple_of") (top 26) [],
  mkD ((z "is_row"), none) (z "is_row") (z "is_row") (top 27) [],
  mkD ((z "first_wrong"), none) (z "first_wrong") (z "first_wrong") (top 28) [],
  mkD ((z "words_of"), none) (z "words_of") (z "words_of") (top 29) [],
  mkD ((z "wrong_name"), none) (z "wrong_name") (z "wrong_name") (top 33) [],
  mkD ((z "is_one_of"), none) (z "is_one_of") (z "is_one_of") (top 34) [],
  mkD ((z "is_pair"), none) (z "is_pair") (z "is_pair") (top 35) [],
  mkD ((z "wrong_pair"), none) (z "wrong_pair") (z "wrong_pair") (top 36) [],
  mkD ((z "check_things"), none) (z "check_things") (z "check_things") (top 37) [],
  mkD ((z "check_quarrels"), none) (z "check_quarrels") (z "check_quarrels") (top 38) [],
  mkD ((z "Party"), some (z "__init__")) (z "__init__") (z "Party.__init__") (sub 39 0) [.adr (He.dflAt ((z "Party"), some (z "__init__")) 0)],
  mkD ((z "Party"), some (z "__eq__")) (z "__eq__") (z "Party.__eq__") (sub 39 1) [],
  mkD ((z "parts_of"), none) (z "parts_of") (z "parts_of") (top 40) [],
  mkD ((z "check_party"), none) (z "check_party") (z "check_party") (top 41) [],
  mkD ((z "is_thing"), none) (z "is_thing") (z "is_thing") (top 42) [],
  mkD ((z "is_lot"), none) (z "is_lot") (z "is_lot") (top 43) [],
  mkD ((z "lots_in"), none) (z "lots_in") (z "lots_in") (top 44) [],
  mkD ((z "rest_of"), none) (z "rest_of") (z "rest_of") (top 45) [],
  mkD ((z "is_seats"), none) (z "is_seats") (z "is_seats") (top 46) [],
  mkD ((z "check_seats"), none) (z "check_seats") (z "check_seats") (top 47) [],
  mkD ((z "check_boat"), none) (z "check_boat") (z "check_boat") (top 48) [],
  mkD ((z "is_quiet_by"), none) (z "is_quiet_by") (z "is_quiet_by") (top 49) [],
  mkD ((z "with_quarrels"), none) (z "with_quarrels") (z "with_quarrels") (top 50) [],
  mkD ((z "struck_by"), none) (z "struck_by") (z "struck_by") (top 51) [],
  mkD ((z "first_stand"), none) (z "first_stand") (z "first_stand") (top 54) [],
  mkD ((z "with_boat"), none) (z "with_boat") (z "with_boat") (top 55) [],
  mkD ((z "left_by"), none) (z "left_by") (z "left_by") (top 56) [],
  mkD ((z "is_calm_by"), none) (z "is_calm_by") (z "is_calm_by") (top 57) [],
  mkD ((z "behind_load"), none) (z "behind_load") (z "behind_load") (top 58) [],
  mkD ((z "lies_within"), none) (z "lies_within") (z "lies_within") (top 59) [],
  mkD ((z "loads_by"), none) (z "loads_by") (z "loads_by") (top 60) [],
  mkD ((z "least_boat_by"), none) (z "least_boat_by") (z "least_boat_by") (top 62) [],
  mkD ((z "has_form"), none) (z "has_form") (z "has_form") (top 70) [],
  mkD ((z "check_deed"), none) (z "check_deed") (z "check_deed") (top 71) [],
  mkD ((z "pair_of"), none) (z "pair_of") (z "pair_of") (top 72) [],
  mkD ((z "state_behind"), none) (z "state_behind") (z "state_behind") (top 73) [],
  mkD ((z "reason_by_itself"), none) (z "reason_by_itself") (z "reason_by_itself") (top 74) [],
  mkD ((z "reason_against"), none) (z "reason_against") (z "reason_against") (top 75) [],
  mkD ((z "check_barred"), none) (z "check_barred") (z "check_barred") (top 76) [],
  mkD ((z "steps_from"), none) (z "steps_from") (z "steps_from") (top 78) [],
  mkD ((z "distance_by"), none) (z "distance_by") (z "distance_by") (top 79) [],
  mkD ((z "left_from"), none) (z "left_from") (z "left_from") (top 80) [],
  mkD ((z "Ferry"), some (z "__init__")) (z "__init__") (z "Ferry.__init__") (sub 82 0) [],
  mkD ((z "Ferry"), some (z "do")) (z "do") (z "Ferry.do") (sub 82 1) [],
  mkD ((z "Ferry"), some (z "undo")) (z "undo") (z "Ferry.undo") (sub 82 2) [],
  mkD ((z "Ferry"), some (z "is_over")) (z "is_over") (z "Ferry.is_over") (sub 82 3) [],
  mkD ((z "Ferry"), some (z "left")) (z "left") (z "Ferry.left") (sub 82 4) [],
  mkD ((z "Ferry"), some (z "__eq__")) (z "__eq__") (z "Ferry.__eq__") (sub 82 5) [],
  mkD ((z "led_by"), none) (z "led_by") (z "led_by") (top 83) [],
  mkD ((z "check_ferry"), none) (z "check_ferry") (z "check_ferry") (top 84) [],
  mkD ((z "copy_of"), none) (z "copy_of") (z "copy_of") (top 85) [],
  mkD ((z "text_or_none"), none) (z "text_or_none") (z "text_or_none") (top 91) [],
  mkD ((z "deed_in"), none) (z "deed_in") (z "deed_in") (top 92) [],
  mkD ((z "said_of_deed"), none) (z "said_of_deed") (z "said_of_deed") (top 93) [],
  mkD ((z "said_of_undo"), none) (z "said_of_undo") (z "said_of_undo") (top 94) [],
  mkD ((z "said_of_word"), none) (z "said_of_word") (z "said_of_word") (top 95) [],
  mkD ((z "Console"), some (z "__init__")) (z "__init__") (z "Console.__init__") (sub 96 0) [],
  mkD ((z "Console"), some (z "say")) (z "say") (z "Console.say") (sub 96 1) [],
  mkD ((z "_law_pool"), none) (z "_law_pool") (z "_law_pool") (top 98) [],
  mkD ((z "_law_draw"), none) (z "_law_draw") (z "_law_draw") (top 99) [],
  mkD ((z "_law_pick"), none) (z "_law_pick") (z "_law_pick") (top 100) [],
  mkD ((z "_law_odd_line"), none) (z "_law_odd_line") (z "_law_odd_line") (top 101) [],
  mkD ((z "_law_refused"), none) (z "_law_refused") (z "_law_refused") (top 102) [],
  mkD ((z "_law_right"), none) (z "_law_right") (z "_law_right") (top 103) [],
  mkD ((z "law"), none) (z "law") (z "law") (top 104) []]
def XL : List (Option (List Str × List Nat × Bool)) := [
  (some ([(z "lot"), (z "found")], [], false) : XRow),
  (none : XRow),
  (none : XRow),
  (none : XRow),
  (none : XRow),
  (none : XRow),
  (none : XRow),
  (some ([(z "self")], [], false) : XRow),
  (some ([(z "self"), (z "seats")], [], false) : XRow),
  (some ([(z "self"), (z "lot")], [], false) : XRow),
  (some ([(z "self"), (z "cover")], [], false) : XRow),
  (none : XRow),
  (none : XRow),
  (none : XRow),
  (none : XRow),
  (none : XRow),
  (none : XRow),
  (none : XRow),
  (none : XRow),
  (none : XRow),
  (some ([(z "value")], [], false) : XRow),
  (some ([(z "value"), (z "least"), (z "most")], [], false) : XRow),
  (some ([(z "value")], [], false) : XRow),
  (some ([(z "text"), (z "signs"), (z "sign")], [], false) : XRow),
  (some ([(z "value")], [], false) : XRow),
  (some ([(z "value"), (z "many")], [], false) : XRow),
  (some ([(z "value"), (z "least"), (z "most")], [], false) : XRow),
  (some ([(z "value"), (z "is_right"), (z "index"), (z "each")], [1], false) : XRow),
  (some ([(z "line"), (z "words")], [], false) : XRow),
  (some ([(z "value")], [], true) : XRow),
  (some ([(z "things"), (z "value")], [], false) : XRow),
  (some ([(z "things"), (z "value"), (z "thing")], [], false) : XRow),
  (some ([(z "things"), (z "value")], [], true) : XRow),
  (some ([(z "things"), (z "wrong")], [], false) : XRow),
  (some ([(z "things"), (z "quarrels"), (z "wrong")], [], false) : XRow),
  (some ([(z "self"), (z "things"), (z "quarrels")], [], false) : XRow),
  (none : XRow),
  (none : XRow),
  (some ([(z "value")], [], false) : XRow),
  (some ([(z "party"), (z "value")], [], false) : XRow),
  (some ([(z "party"), (z "value"), (z "thing"), (z "one"), (z "other")], [], false) : XRow),
  (none : XRow),
  (some ([(z "party"), (z "lot"), (z "thing")], [], false) : XRow),
  (some ([(z "value")], [], false) : XRow),
  (some ([(z "value")], [], false) : XRow),
  (some ([(z "party"), (z "seats")], [], false) : XRow),
  (some ([(z "party"), (z "lot"), (z "one"), (z "other")], [], false) : XRow),
  (none : XRow),
  (some ([(z "party"), (z "quarrels"), (z "pair")], [], false) : XRow),
  (some ([(z "party")], [], false) : XRow),
  (some ([(z "party"), (z "stand"), (z "side"), (z "here")], [], false) : XRow),
  (some ([(z "party"), (z "stand"), (z "side"), (z "here")], [], false) : XRow),
  (some ([(z "party"), (z "stand")], [], false) : XRow),
  (some ([(z "party"), (z "stand"), (z "load"), (z "side"), (z "here"), (z "thing")], [], false) : XRow),
  (some ([(z "load"), (z "lot"), (z "thing")], [], false) : XRow),
  (none : XRow),
  (some ([(z "party")], [], false) : XRow),
  (some ([(z "value")], [], false) : XRow),
  (some ([(z "party"), (z "value")], [], false) : XRow),
  (some ([(z "deed")], [], false) : XRow),
  (some ([(z "party"), (z "stand"), (z "deed")], [], false) : XRow),
  (some ([(z "party"), (z "seats"), (z "stand"), (z "deed")], [], false) : XRow),
  (some ([(z "party"), (z "seats"), (z "stand"), (z "deed"), (z "reason"), (z "later"), (z "behind")], [], false) : XRow),
  (some ([(z "party"), (z "seats"), (z "stand"), (z "deed"), (z "reason")], [], false) : XRow),
  (none : XRow),
  (some ([(z "party"), (z "seats"), (z "stand"), (z "goal")], [], false) : XRow),
  (some ([(z "party"), (z "seats"), (z "stand")], [], false) : XRow),
  (some ([(z "self"), (z "party"), (z "seats")], [], false) : XRow),
  (some ([(z "self"), (z "deed")], [], false) : XRow),
  (some ([(z "self")], [], false) : XRow),
  (some ([(z "self")], [], false) : XRow),
  (some ([(z "self")], [], false) : XRow),
  (none : XRow),
  (none : XRow),
  (some ([(z "value")], [], false) : XRow),
  (some ([(z "ferry"), (z "found"), (z "deed")], [], false) : XRow),
  (some ([(z "value")], [], false) : XRow),
  (some ([(z "words")], [], false) : XRow),
  (some ([(z "ferry"), (z "deed"), (z "barred")], [], false) : XRow),
  (some ([(z "ferry")], [], false) : XRow),
  (some ([(z "ferry"), (z "word")], [], false) : XRow),
  (some ([(z "self"), (z "ferry")], [], false) : XRow),
  (some ([(z "self"), (z "line"), (z "words"), (z "deed"), (z "answer")], [], false) : XRow),
  (some ([(z "script"), (z "turn"), (z "own"), (z "stirred"), (z "cell")], [], false) : XRow),
  (some ([(z "pool"), (z "many"), (z "figure"), (z "held")], [], false) : XRow),
  (some ([(z "pool"), (z "some")], [], false) : XRow),
  (some ([(z "pool"), (z "good"), (z "line"), (z "way"), (z "some")], [], false) : XRow),
  (some ([(z "call"), (z "e")], [0], false) : XRow),
  (some ([(z "pool"), (z "ferry"), (z "console"), (z "told"), (z "turn"), (z "line"), (z "answers"), (z "thing")], [], true) : XRow),
  (some ([(z "script"), (z "turn")], [], false) : XRow)]
def mkrs : List Nat := [f_wrong_name, f_wrong_pair, f__law_right]
def nm : Nm where
  cls := [(z "Banks"), (z "BankError"), (z "InvalidNumber"), (z "InvalidLine"), (z "NotAParty"), (z "NotAFerry"), (z "InvalidThings"), (z "InvalidQuarrels"), (z "InvalidDeed"), (z "Barred"), (z "NothingToUndo"), (z "Party"), (z "Ferry"), (z "Console")]
  att := [(z "whole"), (z "steps"), (z "first"), (z "many"), (z "quiet"), (z "sizes"), (z "least_cover"), (z "fewest"), (z "things"), (z "quarrels"), (z "least_boat"), (z "begun"), (z "party"), (z "seats"), (z "stand"), (z "deeds"), (z "past"), (z "do"), (z "reason"), (z "undo"), (z "left"), (z "is_over"), (z "ferry"), (z "given"), (z "say"), (z "bars"), (z "with_boat"), (z "loads"), (z "lead"), (z "index")]
  fn := [(z "figures_of"), (z "within"), Str.empty, Str.empty, Str.empty, Str.empty, Str.empty, Str.empty, Str.empty, Str.empty, Str.empty, (z "banks_of"), Str.empty, Str.empty, Str.empty, Str.empty, Str.empty, Str.empty, Str.empty, Str.empty, (z "is_whole"), (z "is_between"), (z "is_string"), (z "is_made_of"), (z "is_name"), (z "is_tuple_of"), (z "is_row"), (z "first_wrong"), (z "words_of"), (z "wrong_name"), (z "is_one_of"), (z "is_pair"), (z "wrong_pair"), (z "check_things"), (z "check_quarrels"), Str.empty, Str.empty, (z "parts_of"), (z "check_party"), (z "is_thing"), (z "is_lot"), (z "lots_in"), (z "rest_of"), (z "is_seats"), (z "check_seats"), (z "check_boat"), (z "is_quiet_by"), (z "with_quarrels"), (z "struck_by"), (z "first_stand"), (z "with_boat"), (z "left_by"), (z "is_calm_by"), (z "behind_load"), (z "lies_within"), (z "loads_by"), (z "least_boat_by"), (z "has_form"), (z "check_deed"), (z "pair_of"), (z "state_behind"), (z "reason_by_itself"), (z "reason_against"), (z "check_barred"), (z "steps_from"), (z "distance_by"), (z "left_from"), Str.empty, Str.empty, Str.empty, Str.empty, Str.empty, Str.empty, (z "led_by"), (z "check_ferry"), (z "copy_of"), (z "text_or_none"), (z "deed_in"), (z "said_of_deed"), (z "said_of_undo"), (z "said_of_word"), Str.empty, Str.empty, (z "_law_pool"), (z "_law_draw"), (z "_law_pick"), (z "_law_odd_line"), (z "_law_refused"), (z "_law_right"), (z "law")]
  gl := [(z "LAST_SIDE"), (z "SMALL_LETTERS"), (z "LONGEST_NAME"), (z "MOST_THINGS"), (z "MOST_SEATS"), (z "LAST"), (z "AWAY"), (z "MANY"), (z "LOUD"), (z "HAD"), (z "NONE_deeds"), (z "LOST"), (z "DONE"), (z "NONE_consoles"), (z "NOTHING")]
  dk := [(z "SIZES")]
  kw := [[(z "ferry")], [(z "line")]]
  tb := fun K => tbOf DL mkrs K
def TS : List He.Tab := [(fun K => He.ga K (z "SIZES"), [(z "cross"), (z "quarrel"), (z "settle")])]
theorem ts_ok : ∀ (g : Nat) kvs, prg.dks[g]? = some kvs → ∃ t, TS[g]? = some t ∧ t.1 = fun K => He.ga K (nm.d g)
  | 0, _, _ => ⟨_, rfl, rfl⟩
  | n + 1, _, h => by simp [prg] at h
def pc1 : Int := 60089
def pc2 : Int := 5059
end Lw


set_option Elab.async false
set_option linter.all false
set_option maxRecDepth 100000
set_option maxHeartbeats 0
/-! G2: the head. -/
namespace Lw
open Rf PySem PySem.Spec PyProof.Rows L2
def lo0 : List PySem.Str := [z "LAST_SIDE", z "figures_of", z "within", z "Banks", z "banks_of", z "BankError", z "InvalidNumber", z "InvalidLine", z "NotAParty", z "NotAFerry", z "InvalidThings", z "InvalidQuarrels", z "InvalidDeed", z "Barred", z "NothingToUndo", z "SMALL_LETTERS", z "LONGEST_NAME", z "is_whole", z "is_between", z "is_string", z "is_made_of", z "is_name", z "is_tuple_of", z "is_row", z "first_wrong", z "words_of", z "MOST_THINGS", z "MOST_SEATS", z "wrong_name", z "is_one_of", z "is_pair", z "wrong_pair", z "check_things", z "check_quarrels", z "Party"]
def lo1 : List PySem.Str := [z "parts_of", z "check_party", z "is_thing", z "is_lot", z "lots_in", z "rest_of", z "is_seats", z "check_seats", z "check_boat", z "is_quiet_by", z "with_quarrels", z "struck_by", z "LAST", z "first_stand", z "with_boat", z "left_by", z "is_calm_by", z "behind_load", z "lies_within", z "loads_by", z "least_boat_by", z "SIZES", z "AWAY", z "MANY", z "LOUD", z "HAD", z "NONE_deeds", z "has_form", z "check_deed", z "pair_of", z "state_behind", z "reason_by_itself", z "reason_against", z "check_barred", z "steps_from"]
def lo2 : List PySem.Str := [z "distance_by", z "left_from", z "Ferry", z "led_by", z "check_ferry", z "copy_of", z "LOST", z "DONE", z "NONE_consoles", z "NOTHING", z "text_or_none", z "deed_in", z "said_of_deed", z "said_of_undo", z "said_of_word", z "Console", z "_law_pool", z "_law_draw", z "_law_pick", z "_law_odd_line", z "_law_refused", z "_law_right"]
def loose : List PySem.Str := lo0 ++ lo1 ++ lo2
abbrev R : PySem.W.OpenRow := PySem.W.OpenLaw.row PySem.Challenge.rw_quietbanks_k85_lines_not_understood
def ex (K : PySem.W.Frag) : Bool := factsB nm prg (obK DL K) K && decide ((mkrs.map (tbAt DL K)).Nodup)
def tf : List He.Defn := mkrs.map (atOf DL)
abbrev hk : PySem.W.Hook := hookY DL TS tf ex
def ob (s : PySem.W.SharedT) : He.AlX := obsY DL TS tf ex (HandSHeadRun.getT s)
theorem ob_eq (s : PySem.W.SharedT) : ob s = hk.obs s.abs := obsY_at s
abbrev vw : Program := PySem.W.view R.prog [0, 104]
theorem hrun0 (w : World) : HandSHeadRun.RunEqI R vw hk ob 30000 loose (w.withFollow "special-get-raises" false) := by
  unfold HandSHeadRun.RunEqI
  kernel_rfl
theorem hrun1 (w : World) : HandSHeadRun.RunEqI R vw hk ob 30000 loose (w.withFollow "special-get-raises" true) := by
  unfold HandSHeadRun.RunEqI
  kernel_rfl
theorem hrun (w : World) : HandSHeadRun.RunEqI R vw hk ob 30000 loose w := PySem.W.byRow2 "special-get-raises" (P := fun w => HandSHeadRun.RunEqI R vw hk ob 30000 loose w) hrun0 hrun1 w
end Lw


set_option Elab.async false
set_option linter.all false
set_option maxRecDepth 100000
set_option maxHeartbeats 4000000
/-! T1: the value itself that a def gives out. -/
namespace Rf
open PySem PySem.Spec PyProof.Rows L2 LamX
theorem run_ofR {CX : CXT} {P : Program} {w : World} {K : PySem.W.Frag} {mg : Str → Option Value} {base : Heap} {k : Nat} {f : Addr} {name qual : Str} {params : Arguments} {body : List Stmt} {scope : Scope} {dV kV doc pm cdv ct oc : Value} {an od : Option Addr}
    {osl : Array (Option Value)} {N ps : List Str} (lk : K.lookup f = some ⟨oc, od, .func (PySem.W.fnOf name qual params body scope dV kV doc pm an cdv ct), osl⟩) (hcd : PySem.W.codeIn K cdv qual = true) (S : FnScope N ps scope) (Z : Value → Prop)
    {A : Around} {outer : List Env} {s : Shared} {H : Hp} {args : Args} {us : List Value} {vs : List V} {Q : VK} {E : XK} (hr : Room (k + 1) A) (e0 : Env0 P w K mg base A outer s H) (hb : BindsTo s (PySem.W.fnOf name qual params body scope dV kV doc pm an cdv ct) args (ps.zip us)) (r : Vals vs us) (hl : vs.length = ps.length)
    (hbody : Room k (A.deeper (envOfC qual scope s.heap.objs.size f cdv)) → ∀ s1, Inv (cxOf CX P w K mg base N qual scope f cdv A outer s H E) [] (L2.start N vs) H s1 →
      wpAny (model (cxOf CX P w K mg base N qual scope f cdv A outer s H E).prog (cxOf CX P w K mg base N qual scope f cdv A outer s H E).w) (cxOf CX P w K mg base N qual scope f cdv A outer s H E).A (execs body (cxOf CX P w K mg base N qual scope f cdv A outer s H E).env)
        (fun fl s' => ∃ u v σ' H', fl = .ret u ∧ Inv (cxOf CX P w K mg base N qual scope f cdv A outer s H E) [] σ' H' s' ∧ RelV v u ∧ Q v H' ∧ Z u) (cxOf CX P w K mg base N qual scope f cdv A outer s H E).xe s1) :
    codeAny (model P w) A (.call (.ref f) args) (fun r s' => CR CX outer P w H s Q E r s' ∧ ∀ u, r = .ok (.ret u) → Z u) s := by
  have KX : K.In s.heap := e0.mod.kin.keeps fun b o e => (e0.bs b o e).1
  have lim : s.heap.NoLimit := e0.mod.nolimit.keeps fun b o e => (e0.bs b o e).1
  have hkind : ∀ y ∈ ps.zip us, scope.names.lookup y.1 = some .local ∨ (scope.names.lookup y.1 = some .cell ∧ ((cellsFrom (s.heap.objs.size + 1) scope.names []).lookup y.1).isSome = true) := fun ⟨n, v⟩ hy => by
    rcases S.par n (List.of_mem_zip hy).1 with q | q
    · exact .inl q
    · exact .inr ⟨q, PySem.W.cellsFrom_some _ _ _ (.inl q)⟩
  refine codeAny_call_function hr.depth (KX _ _ lk) rfl S.co S.gen rfl (PySem.W.codeRec_of KX hcd) (hb _ _ _ _ ?_)
  refine wpAny_newFunctionEnv_cells S.kind hkind fun env he s1 x => ?_
  subst he
  refine ⟨lim.keeps x.toInCall.keep, codeAny_func ?_⟩
  have I : Inv (cxOf CX P w K mg base N qual scope f cdv A outer s H E) [] (L2.start N vs) H s1 := inv_start S hr.hd e0 hl r x
  refine wpAny_mono (hbody (hr.deeper _) s1 I) (fun fl s' hs => ?_) fun e s' hs => wpAny_mono hs (fun _ _ h => ⟨h, fun u z => nomatch z⟩) fun _ _ h => ⟨h, fun u z => nomatch z⟩
  obtain ⟨u, v, σ', H', rfl, J, rv, q, z⟩ := hs
  exact ⟨⟨v, H', J.os, J.bare, J.base, J.hok, rv, q⟩, fun u' e => by cases e; exact z⟩
section
variable {g : Glob} {M0 : Nm} {P : Prg} {O : Ob} {DS : DSt}
theorem draw_nn {n : Nat} {ds : List D} {G : GG} {Pd : D → GG → Prop} {Ed : Nat → List (Nat × D) → GG → Prop} (w : (run P n (.fn P.draw) ds G).wp Pd Ed) : (run P n (.fn P.draw) ds G).wp (fun y G => (∃ i : Nat, y = .int i) ∧ Pd y G) Ed := by
  cases n with
  | zero => exact w.elim
  | succ n =>
    unfold run at w ⊢
    simp only [beq_self_eq_true, if_true] at w ⊢
    unfold drawF at w ⊢
    split at w
    · obtain ⟨h, w⟩ := wp_if w
      simp only [h, if_true]
      exact fun i hi => ⟨⟨i, rfl⟩, w i hi⟩
    · exact w.elim
/-- some[_law_draw(..)], the element itself -/
theorem pick_raw {n fxx : Nat} (hM : M0.fix = [] ∧ M0.capL = [] ∧ M0.capS = [] ∧ M0.cod = []) (fx : Fx M0 P O g.K g.mg) (dkx : FxD M0 P g.K g.w g.mg) (G0 : Gd g M0 P O DS n) (hx : SdX g M0 P O n (chkX M0.nt P DS fxx)) {f : Nat} {S : DefS} {d : DefR} (hS : DS f = some S) (hd : P.defs[f]? = some (some d)) (nd : (f == P.draw) = false) (np : (f == P.pool) = false)
    {x : Str} {idx : Expr} {p1 p2 p3 : Pos} {ps : PXs} (eb : S.body = [.Return (some (.Subscript (.Name x p1) idx p2)) p3]) (ed : d.body = .cons (.ret (.idx (.var 1) (.call P.draw ps))) .nil) (hix : chkX M0.nt P DS fxx S.sx (.call P.draw ps) idx = true) (hnm : nmB S.sx 1 x = true) (hns : notSlice idx = true)
    {A : Around} {outer : List Env} {s : Shared} {H : Hp} {args : Args} {us : List Value} {Q : VK} {E : XK} (hr : Room (2 * (n + 1) + 1) A) (hgd : A.guards = some []) (e0 : Env0 g.prog g.w g.K g.mg g.base A outer s H) (hb : BindsTo s (O.fd f) args ((O.ps f).zip us)) {v0 : V} {a : Addr} {o : Obj} {its : Array Value} {m : Nat} {ws : List V} (rv : Vals [v0, .ref a] us)
    (ha : H a = some (.frz o (.lst ws))) (oc : o.cls = .type "list") (od : o.data = .seq its m) {ι : List Addr} {G1 : GG} {d0 : D} {ds1 : List D} (R1 : Rep g.K M0 ι G1 H) (r0 : DR g.K H ι d0 v0) (r1 : DRs g.K H ι ds1 ws) (w : (run P (n + 1) (.fn f) [d0, .cl ds1] G1).wp (Kt g.K M0 ι H Q) (Kx g.K M0 ι H E)) :
    codeAny (model g.prog g.w) A (.call (.ref (O.fa f)) args) (fun r s' => CR (CX g.prog g.w) outer g.prog g.w H s Q E r s' ∧ ∀ u, r = .ok (.ret u) → u ∈ its.toList) s := by
  have D := G0.hD f S d hS hd
  have w : d.par = 2 ∧ (bodyF P (run P n) d [] [d0, .cl ds1] G1).wp (Kt g.K M0 ι H Q) (Kx g.K M0 ι H E) := by
    unfold run at w
    rw [nd, np] at w
    simp only [Bool.false_eq_true, if_false, hd] at w
    obtain ⟨h1, w⟩ := wp_if w
    exact ⟨by simpa using h1, trim_ok R1 w⟩
  obtain ⟨hpar, w⟩ := w
  obtain ⟨dvs, kws, hFD⟩ := D.fd
  obtain ⟨oc', od', dV, kV, doc, pm0, an, cdv, ct, osl, hfd, lk, hcd, _, _⟩ := hFD.ex
  have ecd : (O.fd f).code = cdv := by rw [hfd]
  have hl : [v0, V.ref a].length = S.ps.length := by rw [D.par, hpar]; rfl
  rw [D.ps] at hb
  rw [hfd] at lk hb
  refine run_ofR (CX := CX g.prog g.w) (k := 2 * n + 2) lk hcd D.sc (fun u => u ∈ its.toList) hr e0 hb rv hl fun hr' s1 I => ?_
  have cs : Cs (cxOf (CX g.prog g.w) g.prog g.w g.K g.mg g.base S.N S.qual S.scope (O.fa f) (O.fd f).code A outer s H E) M0 ⟨P, run P n, [], none⟩ O S.sx E (2 * n + 1) :=
    cs_of (C := ⟨P, run P n, [], none⟩) fx dkx (G0.fns n (Nat.le_refl _)) (G0.xns n) D (fun p hp => by rw [hM.1] at hp; cases hp) (fun _ => hM) (by rw [ecd]; exact hr') hgd (fun i lam L h => by cases h)
  rw [ecd] at cs
  have l0 : LR g.K M0 H ι (startL d.slots [d0, .cl ds1]) (L2.start S.N [v0, .ref a]) := by
    refine ⟨?_, fun p hp => (by rw [hM.1] at hp; cases hp), ⟨(by rw [hM.2.1, hM.2.2.1]; trivial), fun p hp => by rw [hM.2.2.2] at hp; cases hp⟩⟩
    unfold startL L2.start
    rw [← D.slots]
    exact LR0.start (ds := [d0, .cl ds1]) (vs := [v0, .ref a]) ⟨r0, ⟨a, ws, rfl, .inl ⟨o, ha⟩, r1⟩, trivial⟩ _
  have w : ((evX ⟨P, run P n, [], none⟩ (.call P.draw ps) (startL d.slots [d0, .cl ds1]) G1).bind fun y G => ofO (idxF (.cl ds1) y G) G).wp (Kt g.K M0 ι H Q) (Kx g.K M0 ι H E) := by
    unfold bodyF outR at w
    rw [ed] at w
    have e1 : (startL d.slots [d0, .cl ds1])[1]? = some (some (.cl ds1)) := rfl
    have w := Res.wp_bind.mp w
    simp only [evSs, evS, evX, varK, e1] at w ⊢
    exact Res.wp_bind.mp (Res.wp_bind.mp w)
  have hix := (hx _ M0 ⟨P, run P n, [], none⟩ S.sx E rfl ⟨rfl, rfl, rfl, rfl⟩ cs.toCd _ _ hix).1
  obtain ⟨n1, n2, n3, n4⟩ := cs.toCg.name hnm
  rw [eb]
  refine wpAny_execs_cons (wpAny_Return_some (Subscript_ (raw_name n1 n2 I (v := .ref a) rfl (fun v r => ?_) n3 n4)))
  have e : v = Value.ref a := r
  subst e
  have w2 : (evX ⟨P, run P n, [], none⟩ (.call P.draw ps) (startL d.slots [d0, .cl ds1]) G1).wp (fun y G => (∃ i : Nat, y = .int i) ∧ (ofO (idxF (.cl ds1) y G) G).wp (Kt g.K M0 ι H Q) (Kx g.K M0 ι H E)) (Kx g.K M0 ι H E) := by
    have w := Res.wp_bind.mp w
    simp only [evX] at w ⊢
    exact Res.wp_bind.mpr (Res.wp_mono (fun zs G h => draw_nn h) (fun _ _ _ h => h) (Res.wp_bind.mp w))
  refine thn (hix.run [] s1 _ H (fun y H1 => ∃ (i : Nat) (ι1 : List Addr) (G2 : GG) (dd : Rf.D), y = .int i ∧ Ext ι ι1 H H1 ∧ Rep g.K M0 ι1 G2 H1 ∧ ds1[i]? = some dd ∧ Kt g.K M0 ι1 H1 Q dd G2) I ⟨ι, _, G1, l0, R1, Res.wp_mono (fun y G2 h ι1 H1 v x1 R2 r2 => ?_) (fun _ _ _ h => h) w2⟩) fun v s2 ⟨y, H1, I1, ry, i, ι1, G2, dd, e1, x1, R2, hdd, q⟩ => ?_
  · obtain ⟨⟨i, rfl⟩, h⟩ := h
    obtain ⟨dd, hdd, h⟩ := wp_ofO h
    have hdd : atI ds1 i = some dd := hdd
    refine ⟨i, ι1, G2, dd, r2, x1, R2, ?_, Kt.go x1 h⟩
    unfold atI at hdd
    obtain ⟨j, hj, hdd⟩ := Option.bind_eq_some_iff.mp hdd
    obtain ⟨_, hj2, _, _⟩ := ixN_seq hj
    unfold ixN at hj
    have h0 : (0 : Int) ≤ (i : Int) := by omega
    rw [if_pos h0] at hj
    by_cases h1 : (i : Int) < (ds1.length : Int)
    · rw [if_pos h1] at hj
      obtain rfl : i = j := by simpa using hj
      exact hdd
    · rw [if_neg h1] at hj
      cases hj
  · subst e1
    obtain ⟨t, rfl⟩ := ry
    have na : a ∉ ι := fun z => by
      obtain ⟨ho, h1, h2⟩ := R1.mob z
      rw [ha] at h1
      cases h1
      exact h2
    have ha1 : H1 a = some (.frz o (.lst ws)) := x1.frame a _ ha na fun ps z => by cases z
    obtain ⟨hg, hz, its', m', hv, hg2⟩ := I1.hok a _ ha1
    have eo := hg.symm.trans hg2
    cases eo
    cases od
    have hlen : i < its'.length := by
      rw [← hv.length, ← r1.length]
      exact (List.getElem?_eq_some_iff.mp hdd).1
    obtain ⟨vv, hvv, rvv⟩ := (r1.ext R1 x1).get hdd
    obtain ⟨uu, huu, ruu⟩ := hv.get hvv
    have hsl : sizeLine < 2 ^ 62 := by rw [sizeLine_eq]; decide
    refine item_listR (k := (i : Int)) (x := uu) ⟨_, hg, rfl, _, rfl⟩ (by omega) ?_ ?_ ?_ (hs := ix_of hns _ _)
    · have : its'.length ≤ sizeLine := by rw [← hv.length]; exact hz
      omega
    · simpa using huu
    · exact ⟨uu, vv, _, H1, rfl, I1, ruu, q ι1 H1 vv (Ext.refl _ _) R2 rvv, by simpa using List.mem_of_getElem? huu⟩
end
end Rf


set_option Elab.async false
set_option linter.all false
set_option maxRecDepth 100000
set_option maxHeartbeats 4000000
/-! T2: text.replace, with the tokens known; what stands behind a token. -/
namespace Rf
open PySem PySem.Spec PyProof.Rows L2 LamX
def mkU : Nat → List (List Nat) → List Value
  | _, [] => []
  | t, z :: zs => .str ⟨z.toArray⟩ t :: mkU (t + 1) zs
def cstB : List (List Nat) → List Expr → Bool
  | [], [] => true
  | z :: zs, .Constant (.str x) _ _ :: es => (x.cps.toList == z) && cstB zs es
  | _, _ => false
theorem mkU_mem : ∀ {zs : List (List Nat)} {t : Nat} {u : Value}, u ∈ mkU t zs → ∃ (z : List Nat) (t' : Nat), u = .str ⟨z.toArray⟩ t' ∧ t ≤ t'
  | [], _, _, h => by cases h
  | z :: zs, t, u, h => by
    rcases List.mem_cons.mp h with e | h
    · exact ⟨z, t, e, Nat.le_refl _⟩
    · obtain ⟨z', t', e, q⟩ := mkU_mem h
      exact ⟨z', t', e, by omega⟩
theorem mkU_len : ∀ {zs : List (List Nat)} {t : Nat}, (mkU t zs).length = zs.length
  | [], _ => rfl
  | z :: zs, t => congrArg Nat.succ mkU_len
theorem mkU_vals : ∀ {zs : List (List Nat)} {t : Nat}, Vals (zs.map fun z => V.str ⟨z.toArray⟩) (mkU t zs)
  | [], _ => .nil
  | z :: zs, t => .cons ⟨t, rfl⟩ mkU_vals
theorem mkU_drs {K : PySem.W.Frag} {H : Hp} {ι : List Addr} : ∀ {zs : List (List Nat)}, DRs K H ι (zs.map .str) (zs.map fun z => V.str ⟨z.toArray⟩)
  | [] => trivial
  | z :: zs => ⟨rfl, mkU_drs⟩
theorem cst_star : ∀ {zs : List (List Nat)} {es : List Expr}, cstB zs es = true → es.all notStar = true
  | [], [], _ => rfl
  | z :: zs, e :: es, h => by
    unfold cstB at h
    split at h
    · cases ‹_ :: _ = []›
    · rename_i z' zs' x k p es' e1 e2
      cases e1
      cases e2
      rw [List.all_cons, cst_star (and2 h).2]
      rfl
    · cases h
  | [], _ :: _, h => by cases h
  | _ :: _, [], h => by cases h
theorem cst_raw {M : Model} {A : Around} {env : Env} {pos : Pos} {E : Value → Shared → Prop} : ∀ {zs : List (List Nat)} {es : List Expr}, cstB zs es = true → ∀ {s : Shared} {Q : List Value → Shared → Prop}, Q (mkU s.toks zs) { s with toks := s.toks + zs.length } → wpAny M A (spliced (backTo pos (starEach es env))) Q E s
  | [], [], _, s, Q, q => Calls.spliced_nil q
  | z :: zs, e :: es, h, s, Q, q => by
    unfold cstB at h
    split at h
    · cases ‹_ :: _ = []›
    · rename_i z' zs' x k p es' e1 e2
      cases e1
      cases e2
      obtain ⟨h1, h2⟩ := and2 h
      obtain rfl : x.cps.toList = z := by simpa using h1
      show wpAny _ _ (spliced ((false, eval (.Constant (.str x) k p) env) :: backTo pos (starEach es env))) _ _ s
      refine Calls.spliced_cons (Calls.Constant_str (cst_raw h2 ?_))
      have e : s.toks + 1 + zs.length = s.toks + (zs.length + 1) := by omega
      show Q (.str x s.toks :: mkU (s.toks + 1) zs) { s with toks := s.toks + 1 + zs.length }
      rw [e]
      exact q
    · cases h
  | [], _ :: _, h, _, _, _ => by cases h
  | _ :: _, [], h, _, _, _ => by cases h
theorem repl_eq {x z : List Nat} {y : Str} (hy : 1 ≤ y.cps.toList.length) : Txt.replace ⟨x.toArray⟩ y ⟨z.toArray⟩ = ⟨(StrLaws.replL y.cps.toList z x).toArray⟩ := by
  have q := StrLaws.replace_list (x := ⟨x.toArray⟩) (y := y) (z := ⟨z.toArray⟩) (by simpa [Str.length] using hy)
  have e : ∀ s : Str, (⟨s.cps.toList.toArray⟩ : Str) = s := fun s => rfl
  rw [← e (Txt.replace _ _ _), q]
theorem bm_repl {K : PySem.W.Frag} {M : Nm} {ι : List Addr} {H : Hp} {Q : VK} {E : XK} {x y : List Nat} {d : D} {G : GG} (w : (bmF .replace (.str x) [.str y, d] G).wp (Kt K M ι H Q) (Kx K M ι H E)) :
    ∃ z, d = .str z ∧ 1 ≤ y.length ∧ y ≠ z ∧ x.length + (x.length + 1) * z.length ≤ small ∧ Kt K M ι H Q (.str (StrLaws.replL y z x)) G := by
  cases d with
  | str z =>
    obtain ⟨h, w⟩ := wp_if w
    obtain ⟨h1, h⟩ := and2 h
    obtain ⟨h2, h3⟩ := and2 h
    exact ⟨z, rfl, of_decide_eq_true h1, of_decide_eq_true h2, of_decide_eq_true h3, w⟩
  | _ => exact w.elim
theorem str_ne {y z : Str} (h : y.cps.toList ≠ z.cps.toList) : (y == z) = false := by
  rw [beq_eq_false_iff_ne]
  intro e
  exact h (by rw [e])
section
variable {X : Cx} {M : Nm} {C : EC} {O : Ob} {sx : Sx} {E : XK} {k : Nat} {o : Expr} {a : PX}
/-- o.replace of written texts -/
theorem t_replC {y z : Str} {j k' : Nat} {c0 c1 apos pos : Pos} (ha : PE X o (tE X.K M E (evX C a))) (hb : baseB o = true) (hl : (apos.endLine == pos.line) = true) (hyz : (y == z) = false) :
    PET X (.Call (.Attribute o "replace" apos) [.Constant (.str y) j c0, .Constant (.str z) k' c1] [] pos) (tE X.K M E (evX C (.bmeth .replace a (.cons (.lit (.str y.cps.toList)) (.cons (.lit (.str z.cps.toList)) .nil))))) := by
  intro pins s σ H Q h0 I ⟨ι, L, G, l, R, w⟩
  refine CwR.pet_replC ha hyz rfl (base_of hb) hl pins s σ H Q h0 I ?_
  refine tE_bind (k := fun x G => bmK .replace (evXs C (.cons (.lit (.str y.cps.toList)) (.cons (.lit (.str z.cps.toList)) .nil)) L) x G) go_t l R w fun ι1 H1 v d G1 x1 l1 R1 r1 w1 => ?_
  obtain ⟨hr, w1⟩ := wp_if w1
  cases d with
  | str x =>
    obtain ⟨z', e1, h1, h2, h3, q⟩ := bm_repl (Res.wp_bind.mp w1)
    cases e1
    have hs : small ≤ 16777216 := by decide
    refine ⟨⟨x.toArray⟩, r1, ?_, ?_⟩
    · show x.toArray.size + (x.toArray.size + 1) * z.length ≤ 16777216
      have : z.length = z.cps.toList.length := by simp [Str.length]
      rw [this, List.size_toArray]
      omega
    · rw [show z = ⟨z.cps.toList.toArray⟩ from rfl, repl_eq h1]
      exact q ι1 H1 _ (Ext.refl _ _) R1 rfl
  | _ => cases hr
/-- behind a token -/
theorem tt_ite {c x y : Expr} {p1 p2 p3 : PX} {pos : Pos} (hc : PT X c (tB X.K M E (evX C p1))) (hx : PET X x (tE X.K M E (evX C p2))) (hy : PET X y (tE X.K M E (evX C p3))) : PET X (.IfExp c x y pos) (tE X.K M E (evX C (.ite p1 p2 p3))) := by
  intro pins s σ H Q h0 I ⟨ι, L, G, l, R, w⟩
  refine wpAny_IfExp (wpAny_mono (PySem.wpAny_toks (hc.run pins s σ H (fun t H1 => if t = true then tE X.K M E (evX C p2) σ H1 Q else tE X.K M E (evX C p3) σ H1 Q) I (tB_bind (k := fun x G => iteK x (evX C p2 L G) (evX C p3 L G)) go_t l R w (fun _ _ h => iteK_bad h) fun ι1 H1 t G1 x1 l1 R1 w1 => ?_))) (fun t s1 q => ?_) fun _ _ z => z.2)
  · cases t with
    | true => exact ⟨ι1, L, G1, l1, R1, w1⟩
    | false => exact ⟨ι1, L, G1, l1, R1, w1⟩
  · obtain ⟨hk, H1, I1, q1⟩ := q
    cases t with
    | true => exact hx pins s1 σ H1 Q (Nat.le_trans h0 hk) I1 q1
    | false => exact hy pins s1 σ H1 Q (Nat.le_trans h0 hk) I1 q1
theorem t_ret {e : Expr} {p : PX} {pos : Pos} (he : PET X e (tE X.K M E (evX C p))) : PST X (.Return (some e) pos) (tS X.K M E (evS C (.ret p))) := by
  intro pins s σ H Dn h0 I ⟨ι, L, G, l, R, w⟩
  exact CwR.pst_ret he pins s σ H Dn h0 I (tE_bind (k := fun d G => Res.ok (Out.rt d) G) go_o l R w fun ι1 H1 v d G1 x1 l1 R1 r1 w1 => (show Ko X.K M ι1 H1 Dn (.rt d) G1 from w1).here R1 v r1)
theorem t_nil : PSsT X [] (tS X.K M E (evSs C .nil)) := PSsT.of s_nil
theorem t_cons {s : Stmt} {ss : List Stmt} {p : PS} {r : PSs} (h1 : PST X s (tS X.K M E (evS C p))) (h2 : PSsT X ss (tS X.K M E (evSs C r))) : PSsT X (s :: ss) (tS X.K M E (evSs C (.cons p r))) := by
  intro pins s σ H Dn h0 I ⟨ι, L, G, l, R, w⟩
  exact psst_cons h1 h2 pins s σ H Dn h0 I ⟨ι, L, G, l, R, Res.wp_mono (fun o G1 w1 ι1 H1 x1 R1 => by
    cases o with
    | nx L1 => exact fun σ1 l1 => ⟨ι1, L1, G1, l1, R1, Res.wp_mono (fun _ _ h => go_o _ _ _ _ _ _ x1 h) (fun _ _ _ h => h.go x1) w1⟩
    | rt d => exact (show Ko X.K M ι H Dn (.rt d) G1 from w1) ι1 H1 x1 R1
    | bk L1 => exact (show Ko X.K M ι H Dn (.bk L1) G1 from w1) ι1 H1 x1 R1) (fun _ _ _ h => h) (Res.wp_bind.mp w)⟩
theorem t_if {c : Expr} {x y : List Stmt} {p : PX} {r1 r2 : PSs} {pos : Pos} (hc : PT X c (tB X.K M E (evX C p))) (ha : PSsT X x (tS X.K M E (evSs C r1))) (hb : PSsT X y (tS X.K M E (evSs C r2))) : PST X (.If c x y pos) (tS X.K M E (evS C (.ite p r1 r2))) := by
  intro pins s σ H Dn h0 I ⟨ι, L, G, l, R, w⟩
  exact CwR.pst_if hc ha hb pins s σ H Dn h0 I (tB_bind (k := fun x G => iteK x (evSs C r1 L G) (evSs C r2 L G)) go_o l R w (fun _ _ h => iteK_bad h) fun ι1 H1 t G1 x1 l1 R1 w1 => by
    cases t with
    | true => exact ⟨ι1, L, G1, l1, R1, w1⟩
    | false => exact ⟨ι1, L, G1, l1, R1, w1⟩)
/-- x = [text, ..]: behind it a token is out -/
theorem t_first (c : Cs X M C O sx E k) {i : Nat} {x : Str} {p1 cp lp pos : Pos} {z : Str} {j : Nat} {es : List Expr} {ps : PXs} {rest : List Stmt} {r : PSs} (hi : stB sx i x = true) (hs : swB sx.sc (.List (.Constant (.str z) j cp :: es) lp) (.Name x p1) = false) (hA : AJ X M E es (evXs C ps)) (h2 : PSsT X rest (tS X.K M E (evSs C r))) :
    L2.PSs X (.Assign [.Name x p1] (.List (.Constant (.str z) j cp :: es) lp) pos :: rest) (tS X.K M E (evSs C (.cons (.asg (.one (.nm i)) (.lst (.cons (.lit (.str z.cps.toList)) ps))) r))) := by
  have hsw : swapsWith (.List (.Constant (.str z) j cp :: es) lp) (some (.Name x p1)) pos.line X.env = pure false := by rw [← hs, ← c.sc]; exact swB_ok c.kd
  obtain ⟨a1, a2, a3⟩ := stor_of c.N c.sc c.fn hi
  refine ⟨fun pins s σ H Dn I ⟨ι, L, G, l, R, w⟩ => ?_⟩
  have w : ((evXs C ps L G).bind fun ds G => (newL (.str z.cps.toList :: ds) G).bind fun d G => evSs C r (L.set i (some d)) G).wp (Ko X.K M ι H Dn) (Kx X.K M ι H E) := by
    have w : ((evS C (.asg (.one (.nm i)) (.lst (.cons (.lit (.str z.cps.toList)) ps))) L G).bind fun o G => seqO (evSs C r) o G).wp (Ko X.K M ι H Dn) (Kx X.K M ι H E) := w
    have w := Res.wp_bind.mp w
    have w : ((evX C (.lst (.cons (.lit (.str z.cps.toList)) ps)) L G).bind fun d G => (asgT C (.one (.nm i)) d L G).bind fun L G => Res.ok (Out.nx L) G).wp _ _ := w
    have w := Res.wp_bind.mp w
    have w : ((evXs C (.cons (.lit (.str z.cps.toList)) ps) L G).bind fun ds G => newL ds G).wp _ _ := w
    have w := Res.wp_bind.mp w
    have w : ((evXs C ps L G).bind fun ds G => Res.ok (D.str z.cps.toList :: ds) G).wp _ _ := w
    have w := Res.wp_bind.mp w
    exact Res.wp_bind.mpr (Res.wp_mono (fun ds G h => Res.wp_bind.mpr h) (fun _ _ _ h => h) w)
  refine wpAny_execs_cons (wpAny_Assign_Name (wpAny_List_spliced ?_) hsw)
  show wpAny _ _ (spliced ((false, eval (.Constant (.str z) j cp) X.env) :: backTo lp (starEach es X.env))) _ _ s
  refine Calls.spliced_cons (Calls.Constant_str ?_)
  refine wpAny_mono (PySem.wpAny_toks_of (n := 1) (by show 1 ≤ s.toks + 1; omega) (hA.pa.run lp pins _ σ H (fun vs H1 => ∃ ι1 ds G1, Ext ι ι1 H H1 ∧ LR X.K M H1 ι1 L σ ∧ Rep X.K M ι1 G1 H1 ∧ DRs X.K H1 ι1 ds vs ∧ ((newL (.str z.cps.toList :: ds) G1).bind fun d G => evSs C r (L.set i (some d)) G).wp (Ko X.K M ι1 H1 Dn) (Kx X.K M ι1 H1 E)) (I.tok (s.toks + 1))
    (tEs_bind (k := fun ds G => (newL (.str z.cps.toList :: ds) G).bind fun d G => evSs C r (L.set i (some d)) G) (P := fun ι H o G => Ko X.K M ι H Dn o G) go_o l R w fun ι1 H1 vs ds G1 x1 l1 R1 r1 w1 => ⟨ι1, ds, G1, x1, l1, R1, r1, w1⟩))) (fun us s1 q => ?_) fun _ _ z => z.2
  obtain ⟨h1, vs, H1, I1, rv, ι1, ds, G1, x1, l1, R1, r1, w1⟩ := q
  have w1 := Res.wp_bind.mp w1
  obtain ⟨hz, w1⟩ := wp_if w1
  have hz : (D.str z.cps.toList :: ds).length ≤ small := of_decide_eq_true hz
  have hz2 : (Value.str z s.toks :: us).length ≤ sizeLine := by
    rw [List.length_cons, ← rv.length, ← r1.length]
    exact le_small hz
  have hf : H1 s1.heap.objs.size = none := I1.hok.fresh (Nat.le_refl _)
  have rv2 : Vals (V.str z :: vs) (Value.str z s.toks :: us) := .cons ⟨_, rfl⟩ rv
  have I2 : Inv X pins σ (upd H1 s1.heap.objs.size (.lst (V.str z :: vs))) { s1 with heap := s1.heap.push { cls := .type "list", data := .seq (Value.str z s.toks :: us).toArray } } :=
    I1.laid (t' := s1.toks) (fun b u e => Heap.get?_push_of_some _ e) (Nat.le_refl _) ⟨by rw [rv2.length]; exact hz2, _, 0, rv2, Heap.get?_push_size _ rfl⟩
  refine ⟨hz2, wpAny_mono (PySem.wpAny_toks (store_ok (v := .ref s1.heap.objs.size) (u := .ref s1.heap.objs.size) (Q := fun _ s2 => Inv X pins (σ.set i (some (.ref s1.heap.objs.size))) (upd H1 s1.heap.objs.size (.lst (V.str z :: vs))) s2) I2 c.nd a1 a2 rfl (fun _ I3 => I3) a3)) (fun _ s2 q => ?_) fun _ _ z => z.2⟩
  obtain ⟨hk, I3⟩ := q
  have hk : s1.toks ≤ s2.toks := hk
  have x2 : Ext ι1 (ι1 ++ [s1.heap.objs.size]) H1 (upd H1 s1.heap.objs.size (.lst (V.str z :: vs))) := Ext.newN ι1 hf
  have xx : Ext ι1 ι1 H1 (upd H1 s1.heap.objs.size (.lst (V.str z :: vs))) := Ext.new ι1 hf
  have R2 := R1.newN (o := .lst (D.str z.cps.toList :: ds)) (ho := .lst (V.str z :: vs)) hf ⟨V.str z :: vs, upd_same, (show DRs X.K _ _ (D.str z.cps.toList :: ds) (V.str z :: vs) from ⟨rfl, r1.ext R1 x2⟩)⟩
  refine h2 pins s2 _ _ Dn (by omega) I3 ⟨ι1 ++ [s1.heap.objs.size], L.set i (some (.ref G1.length)), G1 ++ [.lst (D.str z.cps.toList :: ds)], (l1.ext R1 x2).set i ⟨s1.heap.objs.size, by rw [← R1.len]; simp, rfl⟩ (fun p hp z => stB_fix hi (by rw [← z]; exact c.fixS p hp)), R2, ?_⟩
  exact Res.wp_mono (fun _ _ h => go_o _ _ _ _ _ _ x2 h) (fun _ _ _ h => h.go x2) w1
end
end Rf


set_option Elab.async false
set_option linter.all false
set_option maxRecDepth 100000
set_option maxHeartbeats 4000000
/-! T3: text.replace by what a def picks from written texts. -/
namespace Rf
open PySem PySem.Spec PyProof.Rows L2 LamX
/-- the def that picks -/
structure PkD (P : Prg) (T : Nt) (DS : DSt) (fxx f : Nat) (S : DefS) (d : DefR) : Prop where
  hS : DS f = some S
  hd : P.defs[f]? = some (some d)
  nd : (f == P.draw) = false
  np : (f == P.pool) = false
  par : d.par = 2
  bd : ∃ (x : Str) (idx : Expr) (p1 p2 p3 : Pos) (ps : PXs), S.body = [.Return (some (.Subscript (.Name x p1) idx p2)) p3] ∧ d.body = .cons (.ret (.idx (.var 1) (.call P.draw ps))) .nil ∧ chkX T P DS fxx S.sx (.call P.draw ps) idx = true ∧ nmB S.sx 1 x = true ∧ notSlice idx = true
section
variable {g : Glob} {M0 : Nm} {P : Prg} {O : Ob} {DS : DSt}
theorem t_replP {m fxx f : Nat} (hM : M0.fix = [] ∧ M0.capL = [] ∧ M0.capS = [] ∧ M0.cod = []) (fx : Fx M0 P O g.K g.mg) (dkx : FxD M0 P g.K g.w g.mg) (G0' : ∀ n, m = n + 1 → Gd g M0 P O DS n) (hx' : ∀ n, m = n + 1 → SdX g M0 P O n (chkX M0.nt P DS fxx)) {S : DefS} {d : DefR} (pk : PkD P M0.nt DS fxx f S d)
    {X : Cx} {M : Nm} {C : EC} {sx : Sx} {E : XK} (hg : gl X = g) (lv : Lv M0 P m M C) (c : Cd X M C O sx E (2 * m + 1)) {a pa : PX} {o ep : Expr} {y : Str} {zs : List (List Nat)} {gn : Str} {cs : List Expr} {j : Nat} {apos pos c0 q0 q1 q2 : Pos}
    (ha : PE X o (tE X.K M E (evX C a))) (hp : PE X ep (tE X.K M E (evX C pa))) (hps : notStar ep = true) (hbase : baseB o = true) (hl : (apos.endLine == pos.line) = true) (hcs : cstB zs cs = true) (hz : zs.length ≤ 63) (hF : f < M.fn.length) (hgn : gn = M.f f) (hne : M.f f ≠ Str.empty) (hgl : glB sx.sc gn = true) :
    PET X (.Call (.Attribute o "replace" apos) [.Constant (.str y) j c0, .Call (.Name gn q0) [ep, .List cs q1] [] q2] [] pos)
      (tE X.K M E (evX C (.bmeth .replace a (.cons (.lit (.str y.cps.toList)) (.cons (.call f (.cons pa (.cons (.lit (.cl (zs.map .str))) .nil))) .nil))))) := by
  obtain ⟨ht, htb, hP, hc⟩ := lv
  subst hP
  subst hg
  have ea : M.att = M0.att := congrArg Nt.att ht
  have ec : M.cls = M0.cls := congrArg Nt.cls ht
  obtain ⟨g1, g2, g3⟩ := c.gl hgl
  obtain ⟨b1, b2, b3⟩ := c.fx.fn f hF
  have mgf : X.mg gn = some (.ref (O.fa f)) := by rw [hgn]; exact b3 hne
  obtain ⟨x0, idx, p1, p2, p3, ps, eb, ed, hix, hnm, hns⟩ := pk.bd
  intro pins s σ H Q h0 I ⟨ι, L, G, l, R, w⟩
  have w : ((evX C a L G).bind fun x G => bmK .replace (evXs C (.cons (.lit (.str y.cps.toList)) (.cons (.call f (.cons pa (.cons (.lit (.cl (zs.map .str))) .nil))) .nil)) L) x G).wp (Kt X.K M ι H Q) (Kx X.K M ι H E) := w
  refine PySem.Call_method2 (base_of hbase) rfl hl (wpAny_mono (PySem.wpAny_toks (ha.run pins s σ H (fun v H1 => ∃ ι1 G1 x, LR X.K M H1 ι1 L σ ∧ Rep X.K M ι1 G1 H1 ∧ v = .str ⟨x.toArray⟩ ∧
    ((evX C pa L G1).bind fun d G => C.call (.fn f) [d, .cl (zs.map .str)] G).wp (fun d G => (bmF .replace (.str x) [.str y.cps.toList, d] G).wp (Kt X.K M ι1 H1 Q) (Kx X.K M ι1 H1 E)) (Kx X.K M ι1 H1 E)) I (tE_bind go_t l R w fun ι1 H1 v d G1 x1 l1 R1 r1 w1 => ?_))) (fun v s1 q => ?_) fun _ _ z => z.2)
  · obtain ⟨hr, w1⟩ := wp_if w1
    cases d with
    | str x =>
      refine ⟨ι1, G1, x, l1, R1, r1, ?_⟩
      have w1 := Res.wp_bind.mp w1
      have w1 : ((evXs C (.cons (.call f (.cons pa (.cons (.lit (.cl (zs.map .str))) .nil))) .nil) L G1).bind fun ds G => Res.ok (D.str y.cps.toList :: ds) G).wp _ _ := w1
      have w1 := Res.wp_bind.mp w1
      have w1 : ((evX C (.call f (.cons pa (.cons (.lit (.cl (zs.map .str))) .nil))) L G1).bind fun d G => Res.ok [d] G).wp _ _ := w1
      have w1 := Res.wp_bind.mp w1
      have w1 : ((evXs C (.cons pa (.cons (.lit (.cl (zs.map .str))) .nil)) L G1).bind fun ds G => C.call (.fn f) ds G).wp _ _ := w1
      have w1 := Res.wp_bind.mp w1
      have w1 : ((evX C pa L G1).bind fun d G => Res.ok [d, D.cl (zs.map .str)] G).wp _ _ := w1
      have w1 := Res.wp_bind.mp w1
      exact Res.wp_bind.mpr (Res.wp_mono (fun d G h => h) (fun _ _ _ h => h) w1)
    | _ => cases hr
  obtain ⟨hk, v', H1, I1, r1, ι1, G1, x, l1, R1, rfl, w1⟩ := q
  obtain ⟨tx, rfl⟩ := r1
  refine ⟨"str", _, PySem.F.plainAttrs_str, PySem.F.slot_str_replace, PySem.F.type_str_replace, typeIs_str _ _ _, (fun _ e => nomatch e), Calls.callWith_builtin rfl (Calls.evalArgs_plain (Calls.spliced_cons (Calls.Constant_str (Calls.spliced_cons ?_))))⟩
  have I1' := I1.tok (s1.toks + 1)
  refine wpAny_Call_Name_kw (ld_glob I1' g1 mgf ?_ g2)
  refine PySem.W.callWith_K (h₀ := X.base) I1'.ok.mod.kin b2 ?_ (star_of hps) rfl
  rw [star_of hps]
  show wpAny _ _ (spliced ((false, eval ep X.env) :: backTo q2 (starEach [.List cs q1] X.env))) _ _ _
  refine Calls.spliced_cons (wpAny_mono (PySem.wpAny_toks (hp.run pins _ σ H1 (fun v H2 => ∃ ι2 d G2, Ext ι1 ι2 H1 H2 ∧ Rep X.K M ι2 G2 H2 ∧ DR X.K H2 ι2 d v ∧ (C.call (.fn f) [d, .cl (zs.map .str)] G2).wp (fun d G => (bmF .replace (.str x) [.str y.cps.toList, d] G).wp (Kt X.K M ι2 H2 Q) (Kx X.K M ι2 H2 E)) (Kx X.K M ι2 H2 E)) I1'
    (tE_bind (P := fun ι H d G => (bmF .replace (.str x) [.str y.cps.toList, d] G).wp (Kt X.K M ι H Q) (Kx X.K M ι H E)) (fun _ _ _ _ _ _ x h => Res.wp_mono (fun _ _ h => Kt.go x h) (fun _ _ _ h => Kx.go x h) h) l1 R1 w1 fun ι2 H2 v d G2 x2 l2 R2 r2 w2 => ⟨ι2, d, G2, x2, R2, r2, w2⟩))) (fun up s2 q => ?_) fun _ _ z => z.2)
  obtain ⟨hk2, vp, H2, I2, rvp, ι2, dp, G2, x2, R2, rp, w2⟩ := q
  have hk2 : s1.toks + 1 ≤ s2.toks := hk2
  obtain ⟨n, rfl⟩ : ∃ n, m = n + 1 := by
    cases m with
    | zero => rw [hc] at w2; exact w2.elim
    | succ n => exact ⟨n, rfl⟩
  have G0 := G0' n rfl
  have hx := hx' n rfl
  have Df := G0.hD f S d pk.hS pk.hd
  show wpAny _ _ (spliced ((false, eval (.List cs q1) X.env) :: backTo q2 (starEach [] X.env))) _ _ _
  have hz3 : zs.length ≤ sizeLine := by rw [sizeLine_eq]; omega
  refine Calls.spliced_cons (wpAny_List_spliced (cst_raw hcs ⟨by rw [mkU_len]; exact hz3, Calls.spliced_nil ?_⟩))
  have hf : H2 s2.heap.objs.size = none := I2.hok.fresh (Nat.le_refl _)
  have I3 : Inv X pins σ (upd H2 s2.heap.objs.size (.frz { cls := .type "list", data := .seq (mkU s2.toks zs).toArray } (.lst (zs.map fun z => V.str ⟨z.toArray⟩)))) { s2 with heap := s2.heap.push { cls := .type "list", data := .seq (mkU s2.toks zs).toArray }, toks := s2.toks + zs.length } :=
    I2.laid (t' := s2.toks + zs.length) (fun b u e => Heap.get?_push_of_some _ e) (Nat.le_refl _) ⟨Heap.get?_push_size _ rfl, by rw [List.length_map]; exact hz3, _, 0, mkU_vals, Heap.get?_push_size _ rfl⟩
  have x3 : Ext ι2 ι2 H2 (upd H2 s2.heap.objs.size (.frz { cls := .type "list", data := .seq (mkU s2.toks zs).toArray } (.lst (zs.map fun z => V.str ⟨z.toArray⟩)))) := Ext.new ι2 hf
  have R3 := R2.new (ho := (.frz { cls := .type "list", data := .seq (mkU s2.toks zs).toArray } (.lst (zs.map fun z => V.str ⟨z.toArray⟩)))) hf
  have hps2 : S.ps.length = 2 := by rw [Df.par, pk.par]
  have hl2 : [up, Value.ref s2.heap.objs.size].length = (O.ps f).length := by rw [Df.ps, hps2]; rfl
  have bb := b1 _ [up, Value.ref s2.heap.objs.size] I3.kIn (by rw [List.append_nil]; exact hl2)
  rw [List.append_nil] at bb
  refine ⟨I3.kIn, wpAny_call (codeAny_mono (pick_raw (n := n) (Q := fun v H' => ∃ z : List Nat, v = .str ⟨z.toArray⟩ ∧ 1 ≤ y.cps.toList.length ∧ y.cps.toList ≠ z ∧ x.length + (x.length + 1) * z.length ≤ small ∧ Q (.str ⟨(StrLaws.replL y.cps.toList z x).toArray⟩) H') (E := E) hM fx dkx G0 hx pk.hS pk.hd pk.nd pk.np eb ed hix hnm hns
    (c.hr.mono (Nat.le_succ _)) c.gd I3.env0 bb (.cons rvp (.cons rfl .nil)) upd_same rfl rfl (R3.cast (M := M) (M' := M0) ea.symm ec.symm htb.symm) (rp.ext R2 x3) mkU_drs ?_) fun r s' hq => ?_)⟩
  · rw [← hc]
    refine wp_cast (M := M0) (M' := M) ea ec htb (Res.wp_mono (fun d G4 h ι4 H4 v x4 R4 r4 => ?_) (fun _ _ _ h => Kx.go x3 h) w2)
    obtain ⟨z, rfl, h1, h2, h3, q⟩ := bm_repl h
    exact ⟨z, r4, h1, h2, h3, q ι4 H4 _ (x3.trans x4) R4 rfl⟩
  · obtain ⟨hq, hu⟩ := hq
    cases r with
    | error e => exact c.px pins σ _ _ e s' I3 hq
    | ok fl =>
      cases fl with
      | next => exact False.elim hq
      | brk => exact False.elim hq
      | cont => exact False.elim hq
      | ret u =>
        obtain ⟨v, H4, I4, rv, z, rfl, h1, h2, h3, q⟩ := I3.after hq
        obtain ⟨z', t', e1, ht'⟩ := mkU_mem (by simpa using hu u rfl)
        obtain ⟨t, e2⟩ := rv
        rw [e1] at e2
        cases e2
        refine Calls.spliced_nil ?_
        have hs : small ≤ 16777216 := by decide
        subst e1
        refine PySem.SC.replace (by show s1.toks ≠ 0; omega) (by show t' ≠ 0; omega) (by show s1.toks ≠ t'; omega) ?_ ?_ fun t'' k => ⟨.str (Txt.replace ⟨x.toArray⟩ y ⟨z.toArray⟩), H4, I4.tok k, ⟨t'', rfl⟩, by rw [repl_eq h1]; exact q⟩
        · exact str_ne (by simpa using h2)
        · show x.toArray.size + (x.toArray.size + 1) * z.toArray.size ≤ 16777216
          simp only [List.size_toArray]
          omega
end
end Rf


set_option Elab.async false
set_option linter.all false
set_option maxRecDepth 100000
set_option maxHeartbeats 4000000
/-! T4: a def that replaces in texts, checked; all defs. -/
namespace Rf
open PySem PySem.Spec PyProof.Rows L2 LamX
def kR1 (rx : RX) (p : PX) (e : Expr) : Bool := match p, e with
  | .bmeth .replace a (.cons (.lit (.str y)) (.cons (.lit (.str z)) .nil)), .Call (.Attribute x m apos) [.Constant (.str y') _ _, .Constant (.str z') _ _] [] pos =>
    decide (m = "replace") && (rx a x && (baseB x && ((apos.endLine == pos.line) && (decide (y'.cps.toList = y) && (decide (z'.cps.toList = z) && !(y' == z'))))))
  | _, _ => false
def kR2 (T : Nt) (pk : Nat) (sx : Sx) (rx : RX) (p : PX) (e : Expr) : Bool := match p, e with
  | .bmeth .replace a (.cons (.lit (.str y)) (.cons (.call f (.cons pa (.cons (.lit (.cl zs)) .nil))) .nil)), .Call (.Attribute x m apos) [.Constant (.str y') _ _, .Call (.Name gn _) [ep, .List cs _] [] _] [] pos =>
    decide (m = "replace") && (rx a x && (baseB x && ((apos.endLine == pos.line) && (decide (y'.cps.toList = y) && (decide (f = pk) && (rx pa ep && (notStar ep && ((match strsOf zs with
      | some ws => cstB ws cs && decide (ws.length ≤ 63)
      | none => false) && (decide (f < T.fn.length) && (decide (gn = nameAt T.fn f) && (!decide (nameAt T.fn f = Str.empty) && glB sx.sc gn)))))))))))
  | _, _ => false
def kR0 (T : Nt) (pk : Nat) (sx : Sx) (rx : RX) (p : PX) (e : Expr) : Bool := rx p e || (kR1 rx p e || kR2 T pk sx rx p e)
def chkXT (T : Nt) (pk : Nat) (sx : Sx) (rx : RX) (p : PX) (e : Expr) : Bool := kR0 T pk sx rx p e || (match p, e with
  | .ite c a b, .IfExp t x y _ => rx c t && (kR0 T pk sx rx a x && kR0 T pk sx rx b y)
  | _, _ => false)
def chkST (T : Nt) (pk : Nat) (sx : Sx) (rx : RX) (rs : PS → Stmt → Bool) (p : PS) (s : Stmt) : Bool := rs p s || (match p, s with
  | .ret a, .Return (some e) _ => chkXT T pk sx rx a e
  | _, _ => false)
def chkST2 (T : Nt) (pk : Nat) (sx : Sx) (rx : RX) (rs : PS → Stmt → Bool) (p : PS) (s : Stmt) : Bool := rs p s || (match p, s with
  | .ite c a b, .If e x y _ => rx c e && (chkSs (chkST T pk sx rx rs) a x && chkSs (chkST T pk sx rx rs) b y)
  | _, _ => false)
def chkOdd (T : Nt) (pk : Nat) (sx : Sx) (rx : RX) (rs : PS → Stmt → Bool) (ps : PSs) (ss : List Stmt) : Bool := match ps, ss with
  | .cons (.asg (.one (.nm i)) (.lst (.cons (.lit (.str z)) ps))) r, .Assign [.Name x p1] (.List (.Constant (.str z') j cp :: es) lp) _ :: rest =>
    stB sx i x && (!(swB sx.sc (.List (.Constant (.str z') j cp :: es) lp) (.Name x p1)) && (decide (z'.cps.toList = z) && (chkAs rx ps es && chkSs (chkST2 T pk sx rx rs) r rest)))
  | _, _ => false
theorem strsOf_map : ∀ {zs : List D} {ws : List (List Nat)}, strsOf zs = some ws → zs = ws.map .str
  | [], ws, h => by cases h; rfl
  | .str b :: r, ws, h => by
    obtain ⟨cs, hc, rfl⟩ := Option.map_eq_some_iff.mp (show (strsOf r).map (b :: ·) = some ws from h)
    rw [strsOf_map hc]
    rfl
  | .non :: _, _, h | .bl _ :: _, _, h | .int _ :: _, _, h | .tup _ :: _, _, h | .cl _ :: _, _, h | .ref _ :: _, _, h => by cases h
section
variable {g : Glob} {M0 : Nm} {P : Prg} {O : Ob} {DS : DSt}
theorem tss_ok {X : Cx} {M : Nm} {C : EC} {E : XK} {rs : PS → Stmt → Bool} (hr : ∀ p s, rs p s = true → PST X s (tS X.K M E (evS C p))) : ∀ {ps : PSs} {ss : List Stmt}, chkSs rs ps ss = true → PSsT X ss (tS X.K M E (evSs C ps))
  | .nil, [], _ => t_nil
  | .cons p r, s :: ss, h => by
    obtain ⟨h1, h2⟩ := and2 (show (rs p s && chkSs rs r ss) = true from h)
    exact t_cons (hr p s h1) (tss_ok hr h2)
  | .nil, _ :: _, h => by cases h
  | .cons _ _, [], h => by cases h
theorem odd_ok {m fxx fu pk : Nat} (hM : M0.fix = [] ∧ M0.capL = [] ∧ M0.capS = [] ∧ M0.cod = []) (fx : Fx M0 P O g.K g.mg) (dkx : FxD M0 P g.K g.w g.mg) (G0 : ∀ n, m = n + 1 → Gd g M0 P O DS n) (hx : ∀ n, m = n + 1 → SdX g M0 P O n (chkX M0.nt P DS fxx)) {S : DefS} {d : DefR} (pkd : PkD P M0.nt DS fxx pk S d)
    {X : Cx} {M : Nm} {C : EC} {sx : Sx} {E : XK} (hxm : SdX g M0 P O m (chkX M0.nt P DS fxx)) (hg : gl X = g) (lv : Lv M0 P m M C) (c : Cs X M C O sx E (2 * m + 1)) {ps : PSs} {ss : List Stmt}
    (h : chkOdd M0.nt pk sx (chkX M0.nt P DS fxx sx) (chkS M0.nt P DS fxx fu sx) ps ss = true) : L2.PSs X ss (tS X.K M E (evSs C ps)) := by
  have hr : ∀ p e, chkX M0.nt P DS fxx sx p e = true → SX X M C E p e := hxm X M C sx E hg lv c.toCd
  have hs : ∀ p s, chkS M0.nt P DS fxx fu sx p s = true → SS X M C E p s := fun p s h => soundS hxm hg lv c h
  have ef : M.fn = M0.fn := congrArg Nt.fn lv.t
  have r0 : ∀ p e, kR0 M0.nt pk sx (chkX M0.nt P DS fxx sx) p e = true → PET X e (tE X.K M E (evX C p)) := fun p e h => by
    unfold kR0 at h
    rcases Bool.or_eq_true_iff.mp h with h | h
    · exact CwR.PET.of (hr p e h).1
    · rcases Bool.or_eq_true_iff.mp h with h | h
      · unfold kR1 at h
        split at h
        · obtain ⟨h1, h⟩ := and2 h
          obtain ⟨h2, h⟩ := and2 h
          obtain ⟨h3, h⟩ := and2 h
          obtain ⟨h4, h⟩ := and2 h
          obtain ⟨h5, h⟩ := and2 h
          obtain ⟨h6, h7⟩ := and2 h
          obtain rfl := of_decide_eq_true h1
          obtain rfl := of_decide_eq_true h5
          obtain rfl := of_decide_eq_true h6
          exact t_replC (hr _ _ h2).1 h3 h4 (by simpa using h7)
        · cases h
      · unfold kR2 at h
        split at h
        · obtain ⟨h1, h⟩ := and2 h
          obtain ⟨h2, h⟩ := and2 h
          obtain ⟨h3, h⟩ := and2 h
          obtain ⟨h4, h⟩ := and2 h
          obtain ⟨h5, h⟩ := and2 h
          obtain ⟨h6, h⟩ := and2 h
          obtain ⟨h7, h⟩ := and2 h
          obtain ⟨h8, h⟩ := and2 h
          obtain ⟨h9, h⟩ := and2 h
          obtain ⟨h10, h⟩ := and2 h
          obtain ⟨h11, h⟩ := and2 h
          obtain ⟨h12, h13⟩ := and2 h
          obtain rfl := of_decide_eq_true h1
          obtain rfl := of_decide_eq_true h5
          obtain rfl := of_decide_eq_true h6
          split at h9
          · rename_i ws hw
            obtain ⟨z1, z2⟩ := and2 h9
            rw [strsOf_map hw]
            have e1 : ∀ q, nameAt M0.nt.fn q = M.f q := fun q => by unfold Nm.f nameAt; rw [ef]; rfl
            exact t_replP hM fx dkx G0 hx pkd hg lv c.toCd (hr _ _ h2).1 (hr _ _ h7).1 h8 h3 h4 z1 (of_decide_eq_true z2) (by rw [ef]; exact of_decide_eq_true h10) ((of_decide_eq_true h11).trans (e1 _)) (by rw [← e1]; simpa using h12) h13
          · cases h9
        · cases h
  have r1 : ∀ p e, chkXT M0.nt pk sx (chkX M0.nt P DS fxx sx) p e = true → PET X e (tE X.K M E (evX C p)) := fun p e h => by
    unfold chkXT at h
    rcases Bool.or_eq_true_iff.mp h with h | h
    · exact r0 p e h
    · split at h
      · obtain ⟨h1, h⟩ := and2 h
        obtain ⟨h2, h3⟩ := and2 h
        exact tt_ite (hr _ _ h1).2 (r0 _ _ h2) (r0 _ _ h3)
      · cases h
  have r2 : ∀ p s, chkST M0.nt pk sx (chkX M0.nt P DS fxx sx) (chkS M0.nt P DS fxx fu sx) p s = true → PST X s (tS X.K M E (evS C p)) := fun p s h => by
    unfold chkST at h
    rcases Bool.or_eq_true_iff.mp h with h | h
    · exact PST.of (hs p s h)
    · split at h
      · exact t_ret (r1 _ _ h)
      · cases h
  have r3 : ∀ p s, chkST2 M0.nt pk sx (chkX M0.nt P DS fxx sx) (chkS M0.nt P DS fxx fu sx) p s = true → PST X s (tS X.K M E (evS C p)) := fun p s h => by
    unfold chkST2 at h
    rcases Bool.or_eq_true_iff.mp h with h | h
    · exact PST.of (hs p s h)
    · split at h
      · obtain ⟨h1, h⟩ := and2 h
        obtain ⟨h2, h3⟩ := and2 h
        exact t_if (hr _ _ h1).2 (tss_ok r2 h2) (tss_ok r2 h3)
      · cases h
  unfold chkOdd at h
  split at h
  · obtain ⟨h1, h⟩ := and2 h
    obtain ⟨h2, h⟩ := and2 h
    obtain ⟨h3, h⟩ := and2 h
    obtain ⟨h4, h5⟩ := and2 h
    obtain rfl := of_decide_eq_true h3
    exact t_first c h1 (by simpa using h2) (chkAs_ok hr h4) (tss_ok r3 h5)
  · cases h
theorem all_fnsB (hM : M0.fix = [] ∧ M0.capL = [] ∧ M0.capS = [] ∧ M0.cod = []) (fx : Fx M0 P O g.K g.mg) (dkx : FxD M0 P g.K g.w g.mg)
    (hD : ∀ f S d, DS f = some S → P.defs[f]? = some (some d) → DfO O g.K g.base g.mg (M0.tb g.K) f S d) (hDS : ∀ f d, P.defs[f]? = some (some d) → ∃ S, DS f = some S)
    (xns : ∀ m, Xns M0 P O (2 * m + 1) g.prog g.w g.K g.mg g.base) (hB : ∀ n, Gd g M0 P O DS n → (∀ m, m ≤ n → ∀ fu, SdX g M0 P O m (chkX M0.nt P DS fu)) → BdS g M0 P O DS n)
    (hDraw : ∀ n, Gd g M0 P O DS n → BdS g M0 P O DS n → FnG g.prog g.w g.K g.mg g.base (CX g.prog g.w) (2 * (n + 1) + 1) (O.fa P.draw) (O.fd P.draw) (O.ps P.draw) (spF g.K M0 (run P (n + 1)) P.draw))
    (hPool : ∀ n, Gd g M0 P O DS n → BdS g M0 P O DS n → FnG g.prog g.w g.K g.mg g.base (CX g.prog g.w) (2 * (n + 1) + 1) (O.fa P.pool) (O.fd P.pool) (O.ps P.pool) (spF g.K M0 (run P (n + 1)) P.pool)) :
    ∀ n, (∀ m, m ≤ n → Fns M0 O (run P m) (2 * m + 1) g.prog g.w g.K g.mg g.base) ∧ ∀ m, m ≤ n → ∀ fu, SdX g M0 P O m (chkX M0.nt P DS fu) := by
  have bad : ∀ {call : CallT} {f k : Nat}, (∀ ds G, call (.fn f) ds G = .bad) → FnG g.prog g.w g.K g.mg g.base (CX g.prog g.w) k (O.fa f) (O.fd f) (O.ps f) (spF g.K M0 call f) := fun {call f k} h =>
    ⟨fun vs H Q E ⟨ι, G, ds, R, r, w⟩ => by rw [h] at w; exact w.elim, fun A outer s H args us vs Q E _ _ _ _ _ ⟨ι, G, ds, R, r, w⟩ => by rw [h] at w; exact w.elim⟩
  intro n
  induction n with
  | zero =>
    have f0 : ∀ m, m ≤ 0 → Fns M0 O (run P m) (2 * m + 1) g.prog g.w g.K g.mg g.base := fun m hm f hf => by
      obtain rfl : m = 0 := by omega
      exact bad fun _ _ => rfl
    refine ⟨f0, fun m hm fu => ?_⟩
    obtain rfl : m = 0 := by omega
    exact soundX ⟨hD, f0, xns⟩ (fun m h => by omega) (fun j h => by omega) fu
  | succ n ih =>
    obtain ⟨i1, i2⟩ := ih
    have G : Gd g M0 P O DS n := ⟨hD, i1, xns⟩
    have B : ∀ m, m ≤ n → BdS g M0 P O DS m := fun m hm => hB m ⟨hD, fun j hj => i1 j (by omega), xns⟩ fun j hj => i2 j (by omega)
    have f1 : ∀ m, m ≤ n + 1 → Fns M0 O (run P m) (2 * m + 1) g.prog g.w g.K g.mg g.base := fun m hm => by
      by_cases h : m ≤ n
      · exact i1 m h
      · obtain rfl : m = n + 1 := by omega
        intro f hf
        by_cases e1 : f = P.draw
        · subst e1; exact hDraw n G (B n (Nat.le_refl _))
        · by_cases e2 : f = P.pool
          · subst e2; exact hPool n G (B n (Nat.le_refl _))
          · have n1 : (f == P.draw) = false := by simpa using e1
            have n2 : (f == P.pool) = false := by simpa using e2
            cases hd : P.defs[f]? with
            | none =>
              have hb : ∀ ds G, run P (n + 1) (.fn f) ds G = .bad := by
                intro ds G
                unfold run
                rw [n1, n2]
                simp [hd]
              exact bad hb
            | some o =>
              cases o with
              | none =>
                have hb : ∀ ds G, run P (n + 1) (.fn f) ds G = .bad := by
                  intro ds G
                  unfold run
                  rw [n1, n2]
                  simp [hd]
                exact bad hb
              | some d =>
                obtain ⟨S, hS⟩ := hDS f d hd
                exact fn_run hM fx dkx G (B n (Nat.le_refl _)) hS hd n1 n2
    refine ⟨f1, fun m hm fu => ?_⟩
    by_cases h : m ≤ n
    · exact i2 m h fu
    · obtain rfl : m = n + 1 := by omega
      exact soundX ⟨hD, f1, xns⟩ (fun m h => B m (by omega)) (fun j h fu => i2 j (by omega) fu) fu
end
/-- the def that picks, told by a Boolean -/
def pkB (P : Prg) (T : Nt) (DS : DSt) (fxx f : Nat) : Bool := match DS f, P.defs[f]? with
  | some S, some (some d) => (match S.body, d.body with
    | [.Return (some (.Subscript (.Name x _) idx _)) _], .cons (.ret (.idx (.var i) (.call dr ps))) .nil => decide (i = 1) && (decide (dr = P.draw) && (chkX T P DS fxx S.sx (.call dr ps) idx && (nmB S.sx 1 x && (notSlice idx && (decide (d.par = 2) && (!(f == P.draw) && !(f == P.pool)))))))
    | _, _ => false)
  | _, _ => false
theorem pk_of {P : Prg} {T : Nt} {DS : DSt} {fxx f : Nat} (h : pkB P T DS fxx f = true) : ∃ S d, PkD P T DS fxx f S d := by
  unfold pkB at h
  split at h
  · rename_i S d hS hd
    split at h
    · rename_i x p1 idx p2 p3 i dr ps eb ed
      obtain ⟨h1, h⟩ := and2 h
      obtain ⟨h2, h⟩ := and2 h
      obtain ⟨h3, h⟩ := and2 h
      obtain ⟨h4, h⟩ := and2 h
      obtain ⟨h5, h⟩ := and2 h
      obtain ⟨h6, h⟩ := and2 h
      obtain ⟨h7, h8⟩ := and2 h
      obtain rfl := of_decide_eq_true h1
      obtain rfl := of_decide_eq_true h2
      exact ⟨S, d, hS, hd, by simpa using h7, by simpa using h8, of_decide_eq_true h6, x, idx, _, _, _, ps, eb, ed, h3, h4, h5⟩
    · cases h
  · cases h
def chkBT (L : List He.DefD) (Xs : List XRow) (P : Prg) (T : Nt) (fx fu odd pk : Nat) : Bool := pkB P T (dsOf L Xs) fx pk && allL P.defs fun f o => match o, dsOf L Xs f with
  | some d, some S => if f == odd then chkOdd T pk S.sx (chkX T P (dsOf L Xs) fx S.sx) (chkS T P (dsOf L Xs) fx fu S.sx) d.body S.body else chkSs (chkS T P (dsOf L Xs) fx fu S.sx) d.body S.body
  | _, _ => true
section
variable {prog : Program} {w : World} {M : Nm} {P : Prg} {K : PySem.W.Frag} {h base : Heap} {mg : Str → Option Value} {fa : List He.Fa} {L : List He.DefD} {Xs : List XRow} {mks : List Nat}
/-- every def does what the evaluator says -/
theorem fns_ofT {ts : List He.Tab} {fx fu law odd pk : Nat} {c1 c2 : Int} {dD dP dL : DefR} (X : K.In base) (G : base.Ns mainGlobals mg) (c : He.SaysT fa L ts w K) (hf : factsB M P (obK L K) K = true) (hln : M.fn.length = L.length) (ha : M.att.Nodup) (hp : plnB L = true)
    (hts : ∀ g kvs, P.dks[g]? = some kvs → ∃ t, ts[g]? = some t ∧ t.1 = fun K => He.ga K (M.d g)) (hM : M.fix = [] ∧ M.capL = [] ∧ M.capS = [] ∧ M.cod = []) (htb : M.tb K = tbOf L mks K) (hs : statB L Xs mks P = true) (nd : (mks.map (tbAt L K)).Nodup) (hx : xiB M P L = true) (hc : chkBT L Xs P M.nt fx fu odd pk = true)
    (TB : ∀ p ∈ csOf L mks K, TabB base mg p.1 p.2) (h1 : P.defs[P.draw]? = some (some dD)) (h2 : dD.body = drawB ∧ dD.par = 2 ∧ dD.slots = 4) (h3 : P.defs[P.pool]? = some (some dP)) (h4 : dP.body = poolB c1 c2 ∧ dP.par = 2 ∧ dP.slots = 5) (h5 : wide64 c2 = true) (h6 : (P.pool == P.draw) = false) (hl : law < M.fn.length) (n : Nat) :
    FnG prog w K mg base (CX prog w) (2 * n + 1) ((obK L K).fa law) ((obK L K).fd law) ((obK L K).ps law) (spF K M (run P n) law) := by
  have fX := fx_of X G c.d hln ha hp hf
  have dX : FxD M P K w mg := fxd_of X G c hts (by
    unfold factsB at hf
    simp only [Bool.and_eq_true] at hf
    exact hf.2.2.2.2.2.2.2.2.2.2.2.2.2.2)
  have hDS : ∀ f d, P.defs[f]? = some (some d) → ∃ S, dsOf L Xs f = some S := fun f d hd => by
    have q := allL_at (and2 hs).2 hd
    cases e : dsOf L Xs f with
    | some S => exact ⟨S, rfl⟩
    | none => rw [e] at q; cases q
  have hD := dfo_of (P := P) (base := base) (mg := mg) c.d hs TB nd
  rw [← htb] at hD
  obtain ⟨SD, hSD⟩ := hDS _ _ h1
  obtain ⟨SP, hSP⟩ := hDS _ _ h3
  obtain ⟨hpk, hc⟩ := and2 hc
  obtain ⟨SK, dK, pkd⟩ := pk_of hpk
  exact (all_fnsB (g := ⟨prog, w, K, mg, base⟩) (M0 := M) (P := P) (O := obK L K) (DS := dsOf L Xs) hM fX dX hD hDS (fun m => xns_of c.d hx m)
    (fun n Gd_ hX f S d hS hd X' M' C' E' hg lv cs => by
      have q := allL_at hc hd
      rw [hS] at q
      have q : (if f == odd then chkOdd M.nt pk S.sx (chkX M.nt P (dsOf L Xs) fx S.sx) (chkS M.nt P (dsOf L Xs) fx fu S.sx) d.body S.body else chkSs (chkS M.nt P (dsOf L Xs) fx fu S.sx) d.body S.body) = true := q
      split at q
      · exact odd_ok hM fX dX (fun j hj => ⟨Gd_.hD, fun m hm => Gd_.fns m (by omega), Gd_.xns⟩) (fun j hj => hX j (by omega) fx) pkd (hX n (Nat.le_refl _) fx) hg lv cs q
      · exact chkSs_ok (fun p s h => soundS (hX n (Nat.le_refl _) fx) hg lv cs h) q)
    (fun n Gd_ B => draw_fn hM fX dX hSD h1 h2.1 h2.2.1 h2.2.2 Gd_ B)
    (fun n Gd_ B => pool_fn (c1 := c1) (c2 := c2) hM fX dX hSP h3 h4.1 h4.2.1 h4.2.2 h5 h6 Gd_ B) n).1 n (Nat.le_refl n) law hl
end
end Rf


set_option Elab.async false
set_option linter.all false
set_option maxRecDepth 100000
/-! EV: general facts of the evaluator. -/
namespace Rf
/-- a run's promise, closed so that nobody unfolds it -/
structure OkW {α : Type} (r : Res α) (P : α → GG → Prop) : Prop where
  wp : r.wp P (fun _ _ _ => False)
def allD {α : Type} (f : α → GG → Bool) : Res α → Bool
  | .ok d G => f d G
  | .exn _ _ _ => false
  | .bad => false
  | .ask n k => (List.range n).all fun i => allD f (k i)
theorem allD_wp {α : Type} {f : α → GG → Bool} : ∀ {r : Res α}, allD f r = true → r.wp (fun d G => f d G = true) (fun _ _ _ => False)
  | .ok d G, h => h
  | .exn _ _ _, h => by cases h
  | .bad, h => by cases h
  | .ask n k, h => fun i hi => allD_wp (List.all_eq_true.mp h i (List.mem_range.mpr hi))
theorem Res.assoc {α β γ : Type} (r : Res α) (f : α → GG → Res β) (g : β → GG → Res γ) : (r.bind f).bind g = r.bind fun a G => (f a G).bind g := by
  induction r with
  | ok a G => rfl
  | exn c fs G => rfl
  | bad => rfl
  | ask n k ih => exact congrArg (Res.ask n) (funext fun i => ih i)
theorem evSs_nil (C : EC) (L : LL) (G : GG) : evSs C .nil L G = .ok (.nx L) G := by simp only [evSs]
theorem evSs_cons (C : EC) (s : PS) (r : PSs) (L : LL) (G : GG) : evSs C (.cons s r) L G = (evS C s L G).bind fun o G => seqO (evSs C r) o G := by simp only [evSs]
def PSs.app : PSs → PSs → PSs
  | .nil, q => q
  | .cons s r, q => .cons s (r.app q)
theorem evSs_app (C : EC) : ∀ (r q : PSs) (L : LL) (G : GG), evSs C (r.app q) L G = (evSs C r L G).bind fun o G => seqO (evSs C q) o G
  | .nil, q, L, G => by rw [evSs_nil]; rfl
  | .cons s r, q, L, G => by
    show evSs C (.cons s (r.app q)) L G = _
    rw [evSs_cons, evSs_cons, Res.assoc]
    congr 1
    funext o G'
    cases o with
    | nx L' => exact evSs_app C r q L' G'
    | rt d => rfl
    | bk L' => rfl
theorem evS_forw {C : EC} {w : List Nat} {t : TN} {it : IT} {b : PSs} {L : LL} {G : GG} {iv : IV} (h : evI C it L G = .ok iv G) : evS C (.forw w t it b) L G = forW (evSs C b) t iv.src w G.length iv.items L G := by
  simp only [evS, h]
  rfl
theorem run_fn {P : Prg} {n f : Nat} {ds : List D} {G : GG} {d : DefR} (nd : (f == P.draw) = false) (np : (f == P.pool) = false) (hd : P.defs[f]? = some (some d)) (hl : (d.par == ds.length) = true) :
    run P (n + 1) (.fn f) ds G = trim G (outR (evSs ⟨P, run P n, [], none⟩ d.body (startL d.slots ds) G)) := by
  conv => lhs; unfold run
  rw [nd, np, hd]
  simp only [Bool.false_eq_true, if_false, hl, if_true]
  rfl
theorem run_draw {P : Prg} {n : Nat} {ds : List D} {G : GG} : run P (n + 1) (.fn P.draw) ds G = drawF ds G := by
  conv => lhs; unfold run
  simp
theorem run_pool {P : Prg} {n : Nat} {ds : List D} {G : GG} (np : (P.pool == P.draw) = false) : run P (n + 1) (.fn P.pool) ds G = poolF ds G := by
  conv => lhs; unfold run
  simp [np]
theorem trim_back {G : GG} : ∀ {r : Res D}, r.wp (fun d G' => d = .bl true ∧ headB G G' = true) (fun _ _ _ => False) → (trim G r).wp (fun d G' => d = .bl true ∧ G' = G) (fun _ _ _ => False)
  | .ok d G', ⟨e, h⟩ => by
    subst e
    unfold trim
    rw [show (D.low G.length (.bl true) && headB G G') = true from by rw [h]; rfl]
    exact ⟨rfl, rfl⟩
  | .exn _ _ _, h => h.elim
  | .bad, h => h.elim
  | .ask n k, h => fun i hi => trim_back (h i hi)
/-- what a body gives out -/
theorem outR_wp {r : Res Out} {P : D → GG → Prop} (h : r.wp (fun o G => match o with
    | .rt d => P d G
    | .nx _ => P .non G
    | .bk _ => False) (fun _ _ _ => False)) : (outR r).wp P (fun _ _ _ => False) :=
  Res.wp_bind.mpr (Res.wp_mono (fun o G h => by cases o <;> exact h) (fun _ _ _ h => h) h)
theorem forW_cons {f : LL → GG → Res Out} {t : TN} {w : List Nat} {n : Nat} {d : D} {ds : List D} {L L' : LL} {G : GG} {P : Out → GG → Prop} {E : Nat → List (Nat × D) → GG → Prop} (hb : bindN t d L = some L')
    (h : (f L' G).wp (fun o G' => match o with
      | .nx L'' => (forW f t [] w n ds (trimL w n L'' G').1 (trimL w n L'' G').2).wp P E
      | .bk L'' => P (.nx L'') G'
      | .rt d => P (.rt d) G') E) : (forW f t [] w n (d :: ds) L G).wp P E := by
  unfold forW
  rw [show srcOk [] G = true from rfl, hb]
  simp only [if_true]
  exact Res.wp_bind.mpr (Res.wp_mono (fun o G h => by cases o <;> exact h) (fun _ _ _ h => h) h)
theorem forW_nil {f : LL → GG → Res Out} {t : TN} {w : List Nat} {n : Nat} {L : LL} {G : GG} : forW f t [] w n [] L G = .ok (.nx L) G := by
  unfold forW
  rw [show srcOk [] G = true from rfl]
  rfl
theorem ints_of (ns : List Int) : intsOf (ns.map D.int) = some ns := by
  induction ns with
  | nil => rfl
  | cons n r ih =>
    show (intsOf (r.map D.int)).map (n :: ·) = some (n :: r)
    rw [ih]
    rfl
end Rf


namespace Lw
open Rf PySem PySem.Spec PyProof.Rows L2
theorem st_chk : chkBT DL XL prg nm.nt 60 60 f__law_odd_line f__law_pick = true := by decide +kernel
theorem st_stat : statB DL XL mkrs prg = true := by decide +kernel
theorem st_xi : xiB nm prg DL = true := by decide +kernel
theorem st_pl : plnB DL = true := by decide +kernel
end Lw


set_option Elab.async false
set_option linter.all false
set_option maxRecDepth 100000
set_option maxHeartbeats 0
/-! P1: the law in the small syntax, plain. -/
namespace Lw
open Rf
def sPre : PSs := match d__law_right.body with
  | .cons a (.cons b (.cons c _)) => .cons a (.cons b (.cons c .nil))
  | _ => .nil
def sBody : PSs := match d__law_right.body with
  | .cons _ (.cons _ (.cons _ (.cons (.forw _ _ _ b) _))) => b
  | _ => .nil
def sPost : PSs := match d__law_right.body with
  | .cons _ (.cons _ (.cons _ (.cons _ r))) => r
  | _ => .nil
def cx : EC := ⟨prg, run prg 18, [], none⟩
/-- the ferry, the console's own one -/
def stG (t : Nat) (s : Int) : GG := List.replicate (t + 1) .pool ++ [.ins 11 [(8, .tup [.str [99, 97, 116], .str [100, 111, 103], .str [104, 101, 110]]), (9, .tup [.tup [.str [99, 97, 116], .str [100, 111, 103]], .tup [.str [100, 111, 103], .str [104, 101, 110]]])],
    .ins 12 [(11, .ref (t + 1)), (12, .ref (t + 1)), (13, .int s), (14, .tup [.int 0, .tup [.str [99, 97, 116], .str [100, 111, 103], .str [104, 101, 110]]]), (15, .tup []), (16, .ref (t + 3))],
    .lst [], .ins 13 [(22, .ref (t + 5))],
    .ins 12 [(11, .ref (t + 1)), (12, .ref (t + 1)), (13, .int s), (14, .tup [.int 1, .tup [.str [99, 97, 116], .str [104, 101, 110]]]), (15, .tup [.tup [.str [99, 114, 111, 115, 115], .tup [.str [100, 111, 103]]]]), (16, .ref (t + 6))],
    .lst [.tup [.ref (t + 1), .tup [.int 0, .tup [.str [99, 97, 116], .str [100, 111, 103], .str [104, 101, 110]]]]],
    .lst [.str [99, 114, 111, 115, 115], .str [100, 111, 103]]]
def stL (t : Nat) (a b : Option D) : LL := [some (.ref t), some (.ref (t + 2)), some (.ref (t + 4)), some (.str [100, 111, 110, 101]), a, b, none, none]
def eqG : GG → GG → Bool
  | [], [] => true
  | a :: r, b :: s => O.beq a b && eqG r s
  | _, _ => false
theorem eqG_ok : ∀ {a b : GG}, eqG a b = true → a = b
  | [], [], _ => rfl
  | a :: r, b :: s, h => by
    obtain ⟨h1, h2⟩ := Bool.and_eq_true_iff.mp (show (O.beq a b && eqG r s) = true from h)
    rw [O.beq_ok h1, eqG_ok h2]
  | [], _ :: _, h => by cases h
  | _ :: _, [], h => by cases h
def eqV (a : Option D) (b : D) : Bool := match a with
  | some d => D.beq d b
  | none => false
theorem eqV_ok {a : Option D} {b : D} (h : eqV a b = true) : a = some b := by
  cases a with
  | none => cases h
  | some d => rw [D.beq_ok (show D.beq d b = true from h)]
def isN (a : Option D) : Bool := match a with
  | some _ => false
  | none => true
theorem isN_ok {a : Option D} (h : isN a = true) : a = none := by
  cases a with
  | none => rfl
  | some d => cases h
/-- the slots as they stand, but for two -/
def chkL (t : Nat) (L : LL) : Bool := match L with
  | [x0, x1, x2, x3, _, _, x6, x7] => eqV x0 (.ref t) && (eqV x1 (.ref (t + 2)) && (eqV x2 (.ref (t + 4)) && (eqV x3 (.str [100, 111, 110, 101]) && (isN x6 && isN x7))))
  | _ => false
theorem chkL_ok {t : Nat} {L : LL} (h : chkL t L = true) : ∃ a b, L = stL t a b := by
  unfold chkL at h
  split at h
  · rename_i x0 x1 x2 x3 a b x6 x7
    obtain ⟨h0, h⟩ := and2 h
    obtain ⟨h1, h⟩ := and2 h
    obtain ⟨h2, h⟩ := and2 h
    obtain ⟨h3, h⟩ := and2 h
    obtain ⟨h6, h7⟩ := and2 h
    refine ⟨a, b, ?_⟩
    rw [eqV_ok h0, eqV_ok h1, eqV_ok h2, eqV_ok h3, isN_ok h6, isN_ok h7]
    rfl
  · cases h
def chkPre (t : Nat) : Out → GG → Bool
  | .nx L, G => chkL t L && (eqG G (stG t 1) || (eqG G (stG t 2) || eqG G (stG t 3)))
  | _, _ => false
def chkBody (t : Nat) (s : Int) : Out → GG → Bool
  | .nx L, G => chkL t (trimL [6] (t + 8) L G).1 && eqG (trimL [6] (t + 8) L G).2 (stG t s)
  | _, _ => false
def chkPost (t : Nat) : Out → GG → Bool
  | .rt d, G => D.beq d (.bl true) && headB (List.replicate (t + 1) .pool) G
  | _, _ => false
theorem pre0 : allD (chkPre 0) (evSs cx sPre (startL 8 [.ref 0]) (List.replicate 1 .pool)) = true := by decide +kernel
theorem pre1 : allD (chkPre 1) (evSs cx sPre (startL 8 [.ref 1]) (List.replicate 2 .pool)) = true := by decide +kernel
theorem pre2 : allD (chkPre 2) (evSs cx sPre (startL 8 [.ref 2]) (List.replicate 3 .pool)) = true := by decide +kernel
end Lw


set_option Elab.async false
set_option linter.all false
set_option maxRecDepth 100000
set_option maxHeartbeats 0
/-! P2: the turns. -/
namespace Lw
open Rf PySem
theorem body01 (k : Int) (b : Option D) : allD (chkBody 0 1) (evSs cx sBody (stL 0 (some (.int k)) b) (stG 0 1)) = true := by kernel_rfl
theorem post01 (a b : Option D) : allD (chkPost 0) (evSs cx sPost (stL 0 a b) (stG 0 1)) = true := by kernel_rfl
theorem body02 (k : Int) (b : Option D) : allD (chkBody 0 2) (evSs cx sBody (stL 0 (some (.int k)) b) (stG 0 2)) = true := by kernel_rfl
theorem post02 (a b : Option D) : allD (chkPost 0) (evSs cx sPost (stL 0 a b) (stG 0 2)) = true := by kernel_rfl
theorem body03 (k : Int) (b : Option D) : allD (chkBody 0 3) (evSs cx sBody (stL 0 (some (.int k)) b) (stG 0 3)) = true := by kernel_rfl
theorem post03 (a b : Option D) : allD (chkPost 0) (evSs cx sPost (stL 0 a b) (stG 0 3)) = true := by kernel_rfl
theorem body11 (k : Int) (b : Option D) : allD (chkBody 1 1) (evSs cx sBody (stL 1 (some (.int k)) b) (stG 1 1)) = true := by kernel_rfl
theorem post11 (a b : Option D) : allD (chkPost 1) (evSs cx sPost (stL 1 a b) (stG 1 1)) = true := by kernel_rfl
theorem body12 (k : Int) (b : Option D) : allD (chkBody 1 2) (evSs cx sBody (stL 1 (some (.int k)) b) (stG 1 2)) = true := by kernel_rfl
theorem post12 (a b : Option D) : allD (chkPost 1) (evSs cx sPost (stL 1 a b) (stG 1 2)) = true := by kernel_rfl
theorem body13 (k : Int) (b : Option D) : allD (chkBody 1 3) (evSs cx sBody (stL 1 (some (.int k)) b) (stG 1 3)) = true := by kernel_rfl
theorem post13 (a b : Option D) : allD (chkPost 1) (evSs cx sPost (stL 1 a b) (stG 1 3)) = true := by kernel_rfl
theorem body21 (k : Int) (b : Option D) : allD (chkBody 2 1) (evSs cx sBody (stL 2 (some (.int k)) b) (stG 2 1)) = true := by kernel_rfl
theorem post21 (a b : Option D) : allD (chkPost 2) (evSs cx sPost (stL 2 a b) (stG 2 1)) = true := by kernel_rfl
theorem body22 (k : Int) (b : Option D) : allD (chkBody 2 2) (evSs cx sBody (stL 2 (some (.int k)) b) (stG 2 2)) = true := by kernel_rfl
theorem post22 (a b : Option D) : allD (chkPost 2) (evSs cx sPost (stL 2 a b) (stG 2 2)) = true := by kernel_rfl
theorem body23 (k : Int) (b : Option D) : allD (chkBody 2 3) (evSs cx sBody (stL 2 (some (.int k)) b) (stG 2 3)) = true := by kernel_rfl
theorem post23 (a b : Option D) : allD (chkPost 2) (evSs cx sPost (stL 2 a b) (stG 2 3)) = true := by kernel_rfl
end Lw


set_option Elab.async false
set_option linter.all false
set_option maxRecDepth 100000
set_option maxHeartbeats 0
/-! P3: the law. -/
namespace Lw
open Rf PySem
/-- the turns, all of them -/
theorem turns_gen {f : LL → GG → Res Out} {t : Nat} {s : Int} (hb : ∀ (k : Int) (b : Option D), allD (chkBody t s) (f (stL t (some (.int k)) b) (stG t s)) = true) : ∀ (m : Nat) (lo : Int) (a b : Option D),
    (forW f (.nm 4) [] [6] (t + 8) (rngD lo m) (stL t a b) (stG t s)).wp (fun o G => ∃ a b, o = .nx (stL t a b) ∧ G = stG t s) (fun _ _ _ => False)
  | 0, lo, a, b => by
    rw [show rngD lo 0 = [] from rfl, forW_nil]
    exact ⟨a, b, rfl, rfl⟩
  | m + 1, lo, a, b => by
    rw [show rngD lo (m + 1) = .int lo :: rngD (lo + 1) m from rfl]
    refine forW_cons (L' := stL t (some (.int lo)) b) rfl (Res.wp_mono (fun o G h => ?_) (fun _ _ _ h => h) (allD_wp (hb lo b)))
    cases o with
    | nx L =>
      obtain ⟨h1, h2⟩ := and2 (show (chkL t (trimL [6] (t + 8) L G).1 && eqG (trimL [6] (t + 8) L G).2 (stG t s)) = true from h)
      obtain ⟨a', b', e1⟩ := chkL_ok h1
      have e2 := eqG_ok h2
      simp only [e1, e2]
      exact turns_gen hb m (lo + 1) a' b'
    | rt d => cases h
    | bk L => cases h
theorem G_len {t : Nat} {s : Int} : (stG t s).length = t + 8 := by
  unfold stG
  rw [List.length_append, List.length_replicate]
  rfl
theorem right_body_gen {C : EC} {qPre qBody qPost body : PSs} {t : Nat} (hcut : body = qPre.app (.cons (.forw [6] (.nm 4) (.rng1 (.lit (.int 40))) qBody) qPost)) (pre : allD (chkPre t) (evSs C qPre (startL 8 [.ref t]) (List.replicate (t + 1) .pool)) = true)
    (hb : ∀ s : Int, (s = 1 ∨ s = 2 ∨ s = 3) → ∀ (k : Int) (b : Option D), allD (chkBody t s) (evSs C qBody (stL t (some (.int k)) b) (stG t s)) = true) (hp : ∀ s : Int, (s = 1 ∨ s = 2 ∨ s = 3) → ∀ a b : Option D, allD (chkPost t) (evSs C qPost (stL t a b) (stG t s)) = true) :
    (evSs C body (startL 8 [.ref t]) (List.replicate (t + 1) .pool)).wp (fun o G => chkPost t o G = true) (fun _ _ _ => False) := by
  have it_ok : ∀ L G, evI C (.rng1 (.lit (.int 40))) L G = .ok ⟨rngD 0 40, []⟩ G := fun L G => by
    simp only [evI, evX]
    rfl
  have rest : ∀ s : Int, (s = 1 ∨ s = 2 ∨ s = 3) → ∀ a b, (evSs C (.cons (.forw [6] (.nm 4) (.rng1 (.lit (.int 40))) qBody) qPost) (stL t a b) (stG t s)).wp (fun o G => chkPost t o G = true) (fun _ _ _ => False) := fun s hs a b => by
    rw [evSs_cons, evS_forw (it_ok _ _), G_len]
    refine Res.wp_bind.mpr (Res.wp_mono (fun o G h => ?_) (fun _ _ _ h => h) (turns_gen (hb s hs) 40 0 a b))
    obtain ⟨a', b', rfl, rfl⟩ := h
    exact allD_wp (hp s hs a' b')
  rw [hcut, evSs_app]
  refine Res.wp_bind.mpr (Res.wp_mono (fun o G h => ?_) (fun _ _ _ h => h) (allD_wp pre))
  cases o with
  | nx L =>
    obtain ⟨h1, h2⟩ := and2 (show (chkL t L && (eqG G (stG t 1) || (eqG G (stG t 2) || eqG G (stG t 3)))) = true from h)
    obtain ⟨a, b, rfl⟩ := chkL_ok h1
    obtain ⟨s, hs, e⟩ : ∃ s : Int, (s = 1 ∨ s = 2 ∨ s = 3) ∧ eqG G (stG t s) = true := by
      rcases Bool.or_eq_true_iff.mp h2 with q | q
      · exact ⟨1, .inl rfl, q⟩
      · rcases Bool.or_eq_true_iff.mp q with q | q
        · exact ⟨2, .inr (.inl rfl), q⟩
        · exact ⟨3, .inr (.inr rfl), q⟩
    rw [eqG_ok e]
    exact rest s hs a b
  | rt d => cases h
  | bk L => cases h
theorem right_run_gen {P : Prg} {n f t : Nat} {d : DefR} (nd : (f == P.draw) = false) (np : (f == P.pool) = false) (hd : P.defs[f]? = some (some d)) (hl : d.par = 1) (hs : d.slots = 8) (h : (evSs ⟨P, run P n, [], none⟩ d.body (startL 8 [.ref t]) (List.replicate (t + 1) .pool)).wp (fun o G => chkPost t o G = true) (fun _ _ _ => False)) :
    (run P (n + 1) (.fn f) [.ref t] (List.replicate (t + 1) .pool)).wp (fun d G => d = .bl true ∧ G = List.replicate (t + 1) .pool) (fun _ _ _ => False) := by
  rw [run_fn nd np hd (by rw [hl]; rfl), hs]
  refine trim_back (outR_wp (Res.wp_mono (fun o G h => ?_) (fun _ _ _ h => h) h))
  cases o with
  | rt d =>
    obtain ⟨h1, h2⟩ := and2 (show (D.beq d (.bl true) && headB (List.replicate (t + 1) .pool) G) = true from h)
    exact ⟨D.beq_ok h1, h2⟩
  | nx L => cases h
  | bk L => cases h
/-- one turn of the law: a pool, then all that is asked -/
def oneT (C : EC) (fr fp : Nat) : LL → GG → Res (Option D) := fun L G => (evX C .yes L G).bind fun x G => condK (evX C (.call fr (.cons (.call fp (.cons (.var 0) (.cons (.var 1) .nil))) .nil)) L) x G
theorem one_gen {P : Prg} {n fr t : Nat} (np : (P.pool == P.draw) = false) (ns : List Int) (hn : ns.length ≤ 63) (ht : t = 0 ∨ t = 1 ∨ t = 2) (hr : (run P (n + 1) (.fn fr) [.ref t] (List.replicate (t + 1) .pool)).wp (fun d G => d = .bl true ∧ G = List.replicate (t + 1) .pool) (fun _ _ _ => False)) :
    (oneT ⟨P, run P (n + 1), [], none⟩ fr P.pool [some (.cl (ns.map .int)), some (.int t)] (List.replicate t .pool)).wp (fun o G => o = some (.bl true) ∧ G = List.replicate (t + 1) .pool) (fun _ _ _ => False) := by
  have hp : run P (n + 1) (.fn P.pool) [.cl (ns.map .int), .int t] (List.replicate t .pool) = .ok (.ref t) (List.replicate (t + 1) .pool) := by
    rw [run_pool np]
    unfold poolF
    simp only [ints_of]
    have h1 : decide ((0 : Int) ≤ (t : Int)) = true := decide_eq_true (by omega)
    have h2 : decide ((t : Int) < 100) = true := decide_eq_true (by omega)
    have h3 : decide ((ns.map D.int).length ≤ 63) = true := decide_eq_true (by simpa using hn)
    simp only [h1, h2, h3, Bool.and_self, if_true, List.length_replicate]
    rw [List.replicate_succ']
  have e : oneT ⟨P, run P (n + 1), [], none⟩ fr P.pool [some (.cl (ns.map .int)), some (.int t)] (List.replicate t .pool) = (run P (n + 1) (.fn fr) [.ref t] (List.replicate (t + 1) .pool)).bind fun d G => .ok (some d) G := by
    unfold oneT
    simp only [evX, evXs, varK, List.getElem?_cons_zero, List.getElem?_cons_succ, Res.bind, hp, condK]
  rw [e]
  exact Res.wp_bind.mpr (Res.wp_mono (fun d G h => ⟨by rw [h.1], h.2⟩) (fun _ _ _ h => h) hr)
end Lw


set_option Elab.async false
set_option linter.all false
set_option maxRecDepth 100000
set_option maxHeartbeats 0
/-! P4: the law from its one turn. -/
namespace Lw
open Rf PySem
def itX : IT := (.rng1 (.blt .max (.cons (.lit (.int 2)) (.cons (.blt .min (.cons (.blt .len (.cons (.var 0) .nil)) (.cons (.lit (.int 3)) .nil))) .nil))))
def lawB (elt : PX) (it : IT) : PSs := .cons (.ret (.blt .all (.cons (.lc elt [1] (.nm 1) it .yes) .nil))) .nil
def callX (fr fp : Nat) : PX := .call fr (.cons (.call fp (.cons (.var 0) (.cons (.var 1) .nil))) .nil)
def stepT (C : EC) (elt : PX) : LL → GG → Res (Option D) := fun L G => (evX C .yes L G).bind fun x G => condK (evX C elt L) x G
theorem noX_wp {α : Type} {P : α → GG → Prop} {E : Nat → List (Nat × D) → GG → Prop} : ∀ {r : Res α}, r.wp P (fun _ _ _ => False) → r.noX.wp P E
  | .ok a G, h => h
  | .exn _ _ _, h => h.elim
  | .bad, h => h.elim
  | .ask n k, h => fun i hi => noX_wp (h i hi)
theorem lc_all {f : LL → GG → Res (Option D)} {s : D} (hf : ∀ t : Nat, t = 0 ∨ t = 1 ∨ t = 2 → (f [some s, some (.int t)] (List.replicate t .pool)).wp (fun o G => o = some (.bl true) ∧ G = List.replicate (t + 1) .pool) (fun _ _ _ => False)) :
    ∀ (k t : Nat), t + k ≤ 3 → (lcL f (.nm 1) [] [some s, none] (rngD t k) (List.replicate t (.bl true)) (List.replicate t .pool)).wp (fun ds G => ds = List.replicate (t + k) (.bl true)) (fun _ _ _ => False)
  | 0, t, h => by
    show (lcL f (.nm 1) [] [some s, none] [] _ _).wp _ _
    unfold lcL
    rw [show srcOk [] (List.replicate t O.pool) = true from rfl]
    exact rfl
  | k + 1, t, h => by
    show (lcL f (.nm 1) [] [some s, none] (.int t :: rngD (t + 1) k) _ _).wp _ _
    unfold lcL
    rw [show srcOk [] (List.replicate t O.pool) = true from rfl]
    simp only [if_true, bindN]
    show ((f [some s, some (.int t)] (List.replicate t .pool)).noX.bind _).wp _ _
    refine Res.wp_bind.mpr (noX_wp (Res.wp_mono (fun o G q => ?_) (fun _ _ _ h => h) (hf t (by omega))))
    obtain ⟨rfl, rfl⟩ := q
    have hs : decide ((List.replicate t (D.bl true)).length < small) = true := by
      rw [List.length_replicate]
      exact decide_eq_true (by unfold small; omega)
    simp only [hs, if_true]
    rw [← List.replicate_succ', show t + (k + 1) = (t + 1) + k by omega, show ((t : Int) + 1) = ((t + 1 : Nat) : Int) by omega]
    exact lc_all hf k (t + 1) (by omega)
theorem ok_bind {α β : Type} (a : α) (G : GG) (k : α → GG → Res β) : (Res.ok a G).bind k = k a G := rfl
theorem bools_of : ∀ k : Nat, boolsOf (List.replicate k (D.bl true)) = some (List.replicate k true)
  | 0 => rfl
  | k + 1 => by
    show (boolsOf (List.replicate k (D.bl true))).map (true :: ·) = _
    rw [bools_of k]
    rfl
theorem rng1_small {m : Nat} (h : m ≤ 3) {G : GG} : rng1K (.int (m : Int)) G = .ok ⟨rngD 0 m, []⟩ G := by
  unfold rng1K
  have h1 : decide (-(2 ^ 62) ≤ (m : Int)) = true := decide_eq_true (by omega)
  have h2 : decide ((m : Int) ≤ (small : Int)) = true := decide_eq_true (by unfold small; omega)
  simp only [h1, h2, Bool.and_self, if_true, Int.toNat_natCast]
inductive ItOk (C : EC) (it : IT) (s : D) : Prop
  | mk (m : Nat) (hm : m ≤ 3) (hit : evI C it [some s, none] [] = .ok ⟨rngD 0 m, []⟩ [])
theorem it_ok (C : EC) (ns : List Int) : ItOk C itX (.cl (ns.map .int)) := by
  by_cases h : 3 < ns.length
  · refine .mk 3 (by omega) ?_
    have h1 : (3 : Int) < (ns.length : Int) := by omega
    unfold itX
    simp only [evI, evX, evXs, varK, List.getElem?_cons_zero, Res.bind, bfF, seqOf, List.length_map, h1, if_true]
    exact rng1_small (m := 3) (by omega)
  · have h1 : ¬ (3 : Int) < (ns.length : Int) := by omega
    by_cases h2 : 2 < ns.length
    · refine .mk 3 (by omega) ?_
      have h3 : ((ns.length : Nat) : Int) > 2 := by omega
      have e : ns.length = 3 := by omega
      unfold itX
      simp only [evI, evX, evXs, varK, List.getElem?_cons_zero, Res.bind, bfF, seqOf, List.length_map, h1, if_false, h3, if_true]
      rw [e]
      exact rng1_small (m := 3) (by omega)
    · refine .mk 2 (by omega) ?_
      have h3 : ¬ ((ns.length : Nat) : Int) > 2 := by omega
      unfold itX
      simp only [evI, evX, evXs, varK, List.getElem?_cons_zero, Res.bind, bfF, seqOf, List.length_map, h1, if_false, h3]
      exact rng1_small (m := 2) (by omega)
theorem lc_gen {C : EC} {elt : PX} {it : IT} {s : D} {m : Nat} (hm : m ≤ 3) (hit : evI C it [some s, none] [] = .ok ⟨rngD 0 m, []⟩ [])
    (hf : ∀ t : Nat, t = 0 ∨ t = 1 ∨ t = 2 → (stepT C elt [some s, some (.int t)] (List.replicate t .pool)).wp (fun o G => o = some (.bl true) ∧ G = List.replicate (t + 1) .pool) (fun _ _ _ => False)) :
    (evX C (.lc elt [1] (.nm 1) it .yes) [some s, none] []).wp (fun d G => ∃ G0, d = .ref G0.length ∧ G = G0 ++ [.lst (List.replicate m (.bl true))]) (fun _ _ _ => False) := by
  have lc := lc_all (f := stepT C elt) hf m 0 (by omega)
  conv => arg 1; unfold evX
  rw [hit, ok_bind]
  refine Res.wp_bind.mpr (Res.wp_mono (fun ds G h => ?_) (fun _ _ _ h => h) lc)
  have h : ds = List.replicate (0 + m) (.bl true) := h
  rw [Nat.zero_add] at h
  exact ⟨G, rfl, by rw [h]⟩
theorem law_gen {C : EC} {x : PX} {s : D} {m : Nat} (step : (evX C x [some s, none] []).wp (fun d G => ∃ G0, d = .ref G0.length ∧ G = G0 ++ [.lst (List.replicate m (.bl true))]) (fun _ _ _ => False)) :
    (evSs C (.cons (.ret (.blt .all (.cons x .nil))) .nil) [some s, none] []).wp (fun o G => o = .rt (.bl true)) (fun _ _ _ => False) := by
  rw [evSs_cons]
  refine Res.wp_bind.mpr ?_
  conv => arg 1; unfold evS
  refine Res.wp_bind.mpr ?_
  conv => arg 1; unfold evX
  refine Res.wp_bind.mpr ?_
  conv => arg 1; unfold evXs
  refine Res.wp_bind.mpr (Res.wp_mono (fun d G h => ?_) (fun _ _ _ h => h) step)
  obtain ⟨G0, rfl, rfl⟩ := h
  have e1 : lstOf (G0 ++ [.lst (List.replicate m (.bl true))]) (.ref G0.length) = some (List.replicate m (.bl true)) := by
    simp [lstOf, getL]
  have e2 : bfF .all [.ref G0.length] (G0 ++ [.lst (List.replicate m (.bl true))]) = .ok (.bl true) (G0 ++ [.lst (List.replicate m (.bl true))]) := by
    simp only [bfF, e1]
    show (match boolsOf (List.replicate m (D.bl true)) with
      | some bs => _
      | none => _) = _
    rw [bools_of]
    simp
  simp only [evXs, Res.bind]
  show (bfF .all [.ref G0.length] (G0 ++ [.lst (List.replicate m (.bl true))])).wp _ _
  rw [e2]
  exact rfl
theorem trim_wp {G : GG} {P : D → Prop} : ∀ {r : Res D}, r.wp (fun d _ => P d) (fun _ _ _ => False) → (trim G r).wp (fun d _ => P d) (fun _ _ _ => False)
  | .ok d G', h => by
    unfold trim
    split <;> exact h
  | .exn _ _ _, h => h.elim
  | .bad, h => h.elim
  | .ask n k, h => fun i hi => trim_wp (h i hi)
theorem run_one {P : Prg} {n f : Nat} {d : DefR} {s : D} (nd : (f == P.draw) = false) (np : (f == P.pool) = false) (hd : P.defs[f]? = some (some d)) (hl : d.par = 1) (hs : d.slots = 2) (h : OkW (evSs ⟨P, run P n, [], none⟩ d.body [some s, none] []) (fun o G => o = .rt (.bl true))) :
    OkW (run P (n + 1) (.fn f) [s] []) (fun d _ => d = .bl true) := by
  refine ⟨?_⟩
  rw [run_fn nd np hd (by rw [hl]; rfl), hs]
  refine trim_wp (outR_wp (Res.wp_mono (fun o G h => ?_) (fun _ _ _ h => h) h.wp))
  subst h
  rfl
theorem body_one {P : Prg} {n fr : Nat} {it : IT} {ns : List Int} (hn : ns.length ≤ 63) (np' : (P.pool == P.draw) = false) (hi : ItOk ⟨P, run P (n + 1), [], none⟩ it (.cl (ns.map .int)))
    (hr : ∀ t : Nat, t = 0 ∨ t = 1 ∨ t = 2 → OkW (run P (n + 1) (.fn fr) [.ref t] (List.replicate (t + 1) .pool)) (fun d G => d = .bl true ∧ G = List.replicate (t + 1) .pool)) :
    OkW (evSs ⟨P, run P (n + 1), [], none⟩ (lawB (callX fr P.pool) it) [some (.cl (ns.map .int)), none] []) (fun o G => o = .rt (.bl true)) := by
  cases hi with
  | mk m hm hit => exact ⟨law_gen (lc_gen hm hit fun t ht => one_gen (fr := fr) np' ns hn ht (hr t ht).wp)⟩
theorem law_run {P : Prg} {n f fr : Nat} {d : DefR} {it : IT} {ns : List Int} (hn : ns.length ≤ 63) (np' : (P.pool == P.draw) = false) (nd : (f == P.draw) = false) (np : (f == P.pool) = false) (hd : P.defs[f]? = some (some d)) (hl : d.par = 1) (hs : d.slots = 2) (hb : d.body = lawB (callX fr P.pool) it)
    (hi : ItOk ⟨P, run P (n + 1), [], none⟩ it (.cl (ns.map .int))) (hr : ∀ t : Nat, t = 0 ∨ t = 1 ∨ t = 2 → OkW (run P (n + 1) (.fn fr) [.ref t] (List.replicate (t + 1) .pool)) (fun d G => d = .bl true ∧ G = List.replicate (t + 1) .pool)) :
    OkW (run P (n + 2) (.fn f) [.cl (ns.map .int)] []) (fun d _ => d = .bl true) :=
  run_one nd np hd hl hs (by rw [hb]; exact body_one hn np' hi hr)
theorem right_run {P : Prg} {n f t : Nat} {d : DefR} (nd : (f == P.draw) = false) (np : (f == P.pool) = false) (hd : P.defs[f]? = some (some d)) (hl : d.par = 1) (hs : d.slots = 8) (h : OkW (evSs ⟨P, run P n, [], none⟩ d.body (startL 8 [.ref t]) (List.replicate (t + 1) .pool)) (fun o G => chkPost t o G = true)) :
    OkW (run P (n + 1) (.fn f) [.ref t] (List.replicate (t + 1) .pool)) (fun d G => d = .bl true ∧ G = List.replicate (t + 1) .pool) := ⟨right_run_gen nd np hd hl hs h.wp⟩
theorem right_body {C : EC} {qPre qBody qPost body : PSs} {t : Nat} (hcut : body = qPre.app (.cons (.forw [6] (.nm 4) (.rng1 (.lit (.int 40))) qBody) qPost)) (pre : allD (chkPre t) (evSs C qPre (startL 8 [.ref t]) (List.replicate (t + 1) .pool)) = true)
    (hb : ∀ s : Int, (s = 1 ∨ s = 2 ∨ s = 3) → ∀ (k : Int) (b : Option D), allD (chkBody t s) (evSs C qBody (stL t (some (.int k)) b) (stG t s)) = true) (hp : ∀ s : Int, (s = 1 ∨ s = 2 ∨ s = 3) → ∀ a b : Option D, allD (chkPost t) (evSs C qPost (stL t a b) (stG t s)) = true) :
    OkW (evSs C body (startL 8 [.ref t]) (List.replicate (t + 1) .pool)) (fun o G => chkPost t o G = true) := ⟨right_body_gen hcut pre hb hp⟩
end Lw


set_option Elab.async false
set_option linter.all false
set_option maxRecDepth 100000
set_option maxHeartbeats 0
/-! P5: the law holds of the small syntax. -/
namespace Lw
open Rf PySem
theorem cut : d__law_right.body = sPre.app (.cons (.forw [6] (.nm 4) (.rng1 (.lit (.int 40))) sBody) sPost) := rfl
theorem pre_ok {t : Nat} (ht : t = 0 ∨ t = 1 ∨ t = 2) : allD (chkPre t) (evSs cx sPre (startL 8 [.ref t]) (List.replicate (t + 1) .pool)) = true := by
  rcases ht with rfl | rfl | rfl
  · exact pre0
  · exact pre1
  · exact pre2
theorem body_ok {t : Nat} (ht : t = 0 ∨ t = 1 ∨ t = 2) (s : Int) (hs : s = 1 ∨ s = 2 ∨ s = 3) (k : Int) (b : Option D) : allD (chkBody t s) (evSs cx sBody (stL t (some (.int k)) b) (stG t s)) = true := by
  rcases ht with rfl | rfl | rfl <;> rcases hs with rfl | rfl | rfl
  · exact body01 k b
  · exact body02 k b
  · exact body03 k b
  · exact body11 k b
  · exact body12 k b
  · exact body13 k b
  · exact body21 k b
  · exact body22 k b
  · exact body23 k b
theorem post_ok {t : Nat} (ht : t = 0 ∨ t = 1 ∨ t = 2) (s : Int) (hs : s = 1 ∨ s = 2 ∨ s = 3) (a b : Option D) : allD (chkPost t) (evSs cx sPost (stL t a b) (stG t s)) = true := by
  rcases ht with rfl | rfl | rfl <;> rcases hs with rfl | rfl | rfl
  · exact post01 a b
  · exact post02 a b
  · exact post03 a b
  · exact post11 a b
  · exact post12 a b
  · exact post13 a b
  · exact post21 a b
  · exact post22 a b
  · exact post23 a b
theorem body_right {t : Nat} (ht : t = 0 ∨ t = 1 ∨ t = 2) : OkW (evSs cx d__law_right.body (startL 8 [.ref t]) (List.replicate (t + 1) .pool)) (fun o G => chkPost t o G = true) := by
  have h1 := pre_ok ht
  have h2 := body_ok ht
  have h3 := post_ok ht
  have h4 := cut
  generalize d__law_right.body = B at h4 ⊢
  generalize sPre = A at h1 h4
  generalize sBody = Bo at h2 h4
  generalize sPost = Po at h3 h4
  generalize cx = C at h1 h2 h3 ⊢
  exact right_body h4 h1 h2 h3
theorem right_ok (t : Nat) (ht : t = 0 ∨ t = 1 ∨ t = 2) : OkW (run prg (18 + 1) (.fn f__law_right) [.ref t] (List.replicate (t + 1) .pool)) (fun d G => d = .bl true ∧ G = List.replicate (t + 1) .pool) :=
  right_run (P := prg) (n := 18) (f := f__law_right) (d := d__law_right) rfl rfl D__law_right rfl rfl (body_right ht)
def deep : Nat := 20
theorem deep_ok : deep ≤ 50 := by decide
theorem law_ok (ns : List Int) (hn : ns.length ≤ 63) : OkW (run prg deep (.fn f_law) [.cl (ns.map .int)] []) (fun d _ => d = .bl true) :=
  law_run (P := prg) (n := 18) (f := f_law) (fr := f__law_right) (d := d_law) (it := itX) hn rfl rfl rfl D_law rfl rfl rfl (it_ok _ ns) right_ok
end Lw


set_option Elab.async false
set_option linter.all false
set_option maxRecDepth 100000
set_option maxHeartbeats 0
/-! G3: the law's walk from the evaluator's run. -/
namespace Lw
open Rf PySem PySem.Spec PyProof.Rows L2 LamX
theorem lw_tb (K : PySem.W.Frag) : nm.tb K = tbOf DL mkrs K := rfl
theorem lw_walk (n : Nat) (hn : n ≤ 50) (hlaw : ∀ ns : List Int, ns.length ≤ 63 → OkW (Rf.run prg n (.fn f_law) [.cl (ns.map .int)] []) (fun d _ => d = .bl true)) :
    PySem.W.WalkO vw loose (PySem.W.XL vw []) hk.says R.toRowW (HandSHeadRun.topDef R.prog 104) [] (fun f vs => PySem.call f vs) := by
  refine Att.attach_callB (l := PySem.Challenge.rw_quietbanks_k85_lines_not_understood) (n := 63) rfl (by kernel_rfl) fun w s₀ s₁ mg mb fa o pm cd doc a vs ns G Y ho hd hcd hmg hobj hints hlen hbits hg => ?_
  obtain ⟨K, KX, S⟩ := Y
  have hmore := S.more
  unfold ex at hmore
  obtain ⟨hf, hnd⟩ := and2 hmore
  have ml : ∀ b ∈ (csOf DL mkrs K).map (·.2), ∃ p ∈ tf, b = (He.cT K p).2 := fun b hb => by
    obtain ⟨p, hp, rfl⟩ := List.mem_map.mp hb
    obtain ⟨f, hf, rfl⟩ := List.mem_map.mp hp
    exact ⟨atOf DL f, List.mem_map_of_mem hf, rfl⟩
  have efa : (obK DL K).fa f_law = fa := by
    have q1 : mg ("law" : Str) = some (.ref fa) := hmg
    have q2 := (fx_of (P := prg) (M := nm) KX G.T.g S.t.d (by decide +kernel) (by decide +kernel) st_pl hf).fn f_law (by decide +kernel)
    have q3 := q2.2.2 (by decide +kernel)
    have q4 : mg ("law" : Str) = some (.ref ((obK DL K).fa f_law)) := q3
    rw [q1] at q4
    cases q4
    rfl
  rw [← efa]
  refine law_endG (K := K) (C0 := CX PySem.Challenge.pw_quietbanks_k85_lines_not_understood w) (k := 2 * n + 1) (cs := csOf DL mkrs K) (fd := (obK DL K).fd f_law) (x := "script") (sp := spF K nm (Rf.run prg n) f_law) KX G.T.g G.T.b G.T.builtins G.T.nolimit hg
    (fun b hb => by
      obtain ⟨p, hp, rfl⟩ := ml b hb
      exact (S.tabs p hp).2.2)
    (fun b hb => by
      obtain ⟨p, hp, rfl⟩ := ml b hb
      exact (S.tabs p hp).2.1)
    (fun p hp => by
      obtain ⟨f, hf, rfl⟩ := List.mem_map.mp hp
      exact PySem.W.codeHd_of_K KX ((S.tabs (atOf DL f) (List.mem_map_of_mem hf)).1))
    G.T.bmain hobj hints (Nat.le_trans hlen (by decide)) ⟨rfl, (by show 1 + claimMargin + 3 * (2 * n + 1) + 5 < recursionLimit; have : claimMargin + 400 ≤ recursionLimit := (by decide +kernel); omega), (by show 4 + 16 * (2 * n + 1) + 200 < cLine; have : 2500 ≤ cLine := (by decide +kernel); omega)⟩
    (fun base hK2 hG2 hTB => ?_) (fun s u => ?_) (fun H hH hS => ?_) (fun H e s' h => ?_)
  · have F := fns_ofT (odd := f__law_odd_line) (pk := f__law_pick) (prog := PySem.Challenge.pw_quietbanks_k85_lines_not_understood) (w := w) (M := nm) (P := prg) (mks := mkrs) (Xs := XL) (c1 := pc1) (c2 := pc2) (dD := d__law_draw) (dP := d__law_pool) (dL := d_law) (law := f_law) hK2 hG2 S.t hf (by decide +kernel) (by decide +kernel) st_pl (fun g kvs hg => ?_) ⟨rfl, rfl, rfl, rfl⟩ (lw_tb K) st_stat (of_decide_eq_true hnd) st_xi st_chk hTB rfl ⟨rfl, rfl, rfl⟩ rfl ⟨rfl, rfl, rfl⟩ (by decide +kernel) (by decide +kernel) (by decide +kernel) n
    · exact F
    · exact ts_ok g kvs hg
  · obtain ⟨d, hd⟩ : ∃ d, DL[f_law]? = some d := ⟨_, rfl⟩
    have F := funD_at S.t.d hd
    cases hd
    exact F.bindsA (ps := ["script"]) (fun kV doc pm an cdv ct us hl => bind_plain (show plainB (defArgs (top 104)) ["script"] = true by decide +kernel) (by decide +kernel) rfl hl) s [u] rfl
  · refine ⟨[], [], [.cl (ns.map .int)], ⟨rfl, List.nodup_nil, fun i b o h => (by cases h), fun p hp => ?_⟩, ⟨⟨a, ns.map V.int, rfl, hS, ?_⟩, trivial⟩, Res.wp_mono (fun d G' h ι' H' v x R r => ?_) (fun _ _ _ h => h.elim) (hlaw ns hlen).wp⟩
    · have hp : p ∈ tbOf DL mkrs K := hp
      obtain ⟨f, hf, rfl⟩ := List.mem_map.mp hp
      exact TabS.nil (hH _ (List.mem_map_of_mem (f := fun f => He.cT K (atOf DL f)) hf))
    · clear hlaw hlen hbits hints hS
      induction ns with
      | nil => trivial
      | cons i r ih => exact ⟨rfl, ih⟩
    · subst h
      exact r
  · obtain ⟨_, _, _, _, _, _, _, _, _, _, _, _, z⟩ := h
    exact z
end Lw


set_option Elab.async false
set_option linter.all false
set_option maxRecDepth 100000
set_option maxHeartbeats 0
open PySem PySem.W PySem.Calls PyProof.Rows
theorem PySem.Challenge.cw_quietbanks_k85_lines_not_understood_holds : PySem.Challenge.rw_quietbanks_k85_lines_not_understood.Holds := by
  w_on; o_law
  refine HandSHeadRun.head_imp (r := OpenLaw.row PySem.Challenge.rw_quietbanks_k85_lines_not_understood) (q := Lw.vw) (H := Lw.hk) (ob := Lw.ob) (M := 30000) (loose := Lw.loose) (d := HandSHeadRun.topDef Lw.R.prog 104) (kwd := []) Lw.ob_eq  Lw.hrun (by kernel_rfl) (by kernel_rfl) (by kernel_rfl)
    (by rfl) (by first | assumption | decide +kernel) (by decide +kernel) ⟨rfl, rfl, rfl, rfl, rfl, by decide +kernel⟩ ?hw ?hc
  case hw => w_witness2
  case hc => exact Lw.lw_walk Lw.deep Lw.deep_ok Lw.law_ok


